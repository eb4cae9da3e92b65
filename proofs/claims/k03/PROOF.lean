import PyProof.Rows.All
import Wide.All
import OpenK.AllK
import Wide.FinOn
import PyProof.EqAt
import PyProof.EqKinds
import PyProof.TupleCall
import HandS.ForMost
import HandS.Exc
import HandS.TryOnly
import HandS.ExcOwn
import HandS.WordsExc
import HandS.IsInst
import HandS.ExcIs
import HandS.Evl
import HandS.HotCalls
import HandS.Deep
import HandS.Style
import HandS.Rev
import KE.RegKIsAll
import HandS.Walk
import PyProof.StrOps2
import PySem.Challenge.RW_backmarks_k03_deeds_written
set_option Elab.async false
set_option linter.all false
set_option maxRecDepth 100000
set_option maxHeartbeats 4000000
/-! ## Common words: a def as it stands, what it promises, an error class, things that are whole numbers or not -/
namespace BM
open PySem PySem.Spec PyProof.Rows L2

/-- the def named x of the module's top -/
def Def (K : PySem.W.Frag) (mg : Str → Option Value) (x qual : Str) (st : Stmt) (ps : List Str) : Prop :=
  ∃ (f : Addr) (fd : FuncData), mg x = some (.ref f) ∧ Fun K x qual st f fd ∧ Binds K fd ps []
/-- it keeps its promise -/
def OkF (P : Program) (w : World) (K : PySem.W.Frag) (mg : Str → Option Value) (base : Heap) (x : Str) (k : Nat) (ps : List Str) (sp : Sp) : Prop :=
  ∃ (f : Addr) (fd : FuncData), mg x = some (.ref f) ∧ PySem.W.keepIn K (.ref f) = true ∧ Binds K fd ps [] ∧ FnOk P w K mg base (L2.CX P w) k f fd ps sp
/-- a class of the program's own errors, without a body of its own -/
structure XC (K : PySem.W.Frag) (mg : Str → Option Value) (n : Str) (C : Addr) : Prop where
  g : mg n = some (.ref C)
  x : PySem.W.excIn K C [.type "ValueError", .type "Exception", .type "BaseException", .type "object"] "ValueError.__new__" = true
  k : PySem.W.keepIn K (.ref C) = true
  b : PySem.W.subIn K (.ref C) (.type "BaseException") = some true
  t : PySem.W.typeIn K (.ref C) = some (.type "type")
section
variable {P : Program} {w : World} {K : PySem.W.Frag} {mg : Str → Option Value} {base : Heap}
theorem okf {x qual : Str} {st : Stmt} {N ps : List Str} {k : Nat} {sp : Sp} (D : Def K mg x qual st ps) (S : FnScope N ps (defScope st)) (len : ∀ vs H Q E, sp vs H Q E → vs.length = ps.length)
    (hbody : ∀ (f : Addr) (cdv : Value) (A : Around) (outer : List Env) (s : Shared) (H : Hp) (vs : List V) (Q : VK) (E : XK), Room k (A.deeper (envOfC qual (defScope st) s.heap.objs.size f cdv)) → sp vs H Q E →
      ∃ t, PSs (cxOf (L2.CX P w) P w K mg base N qual (defScope st) f cdv A outer s H E) (defBody st) t ∧ t { nx := fun _ H' => Q .non H', rt := Q } (start N vs) H) : OkF P w K mg base x (k + 1) ps sp := by
  obtain ⟨f, fd, hm, F, hb⟩ := D
  exact ⟨f, fd, hm, F.kp, hb, F.okX S len (fun cdv A outer s H vs Q E hr h => hbody f cdv A outer s H vs Q E hr h)⟩
theorem OkF.mono {x : Str} {j k : Nat} {ps : List Str} {sp : Sp} (F : OkF P w K mg base x j ps sp) (h : j ≤ k) : OkF P w K mg base x k ps sp := by
  obtain ⟨f, fd, hm, hk, hb, G⟩ := F
  exact ⟨f, fd, hm, hk, hb, G.mono h⟩
end
/-- a method, an __init__ of the class at C -/
def DefM (K : PySem.W.Frag) (C : Addr) (m qual : Str) (st : Stmt) (ps : List Str) : Prop := ∃ (f : Addr) (fd : FuncData), Meth K C m f ∧ Fun K m qual st f fd ∧ Binds K fd ps []
def DefI (K : PySem.W.Frag) (C : Addr) (m qual : Str) (st : Stmt) (ps : List Str) : Prop := ∃ (f : Addr) (fd : FuncData), Mk K C f ∧ Fun K m qual st f fd ∧ Binds K fd ps []
def OkM (P : Program) (w : World) (K : PySem.W.Frag) (mg : Str → Option Value) (base : Heap) (C : Addr) (m : Str) (k : Nat) (ps : List Str) (sp : Sp) : Prop :=
  ∃ (f : Addr) (fd : FuncData), Meth K C m f ∧ Binds K fd ps [] ∧ FnOk P w K mg base (L2.CX P w) k f fd ps sp
def OkI (P : Program) (w : World) (K : PySem.W.Frag) (mg : Str → Option Value) (base : Heap) (C : Addr) (m : Str) (k : Nat) (ps : List Str) (sp : Sp) : Prop :=
  ∃ (f : Addr) (fd : FuncData), Mk K C f ∧ Binds K fd ps [] ∧ FnOk P w K mg base (L2.CX P w) k f fd ps sp
section
variable {P : Program} {w : World} {K : PySem.W.Frag} {mg : Str → Option Value} {base : Heap}
theorem okm {C : Addr} {m qual : Str} {st : Stmt} {N ps : List Str} {k : Nat} {sp : Sp} (D : DefM K C m qual st ps) (S : FnScope N ps (defScope st)) (len : ∀ vs H Q E, sp vs H Q E → vs.length = ps.length)
    (hbody : ∀ (f : Addr) (cdv : Value) (A : Around) (outer : List Env) (s : Shared) (H : Hp) (vs : List V) (Q : VK) (E : XK), Room k (A.deeper (envOfC qual (defScope st) s.heap.objs.size f cdv)) → sp vs H Q E →
      ∃ t, PSs (cxOf (L2.CX P w) P w K mg base N qual (defScope st) f cdv A outer s H E) (defBody st) t ∧ t { nx := fun _ H' => Q .non H', rt := Q } (start N vs) H) : OkM P w K mg base C m (k + 1) ps sp := by
  obtain ⟨f, fd, hm, F, hb⟩ := D
  exact ⟨f, fd, hm, hb, F.okX S len (fun cdv A outer s H vs Q E hr h => hbody f cdv A outer s H vs Q E hr h)⟩
theorem oki {C : Addr} {m qual : Str} {st : Stmt} {N ps : List Str} {k : Nat} {sp : Sp} (D : DefI K C m qual st ps) (S : FnScope N ps (defScope st)) (len : ∀ vs H Q E, sp vs H Q E → vs.length = ps.length)
    (hbody : ∀ (f : Addr) (cdv : Value) (A : Around) (outer : List Env) (s : Shared) (H : Hp) (vs : List V) (Q : VK) (E : XK), Room k (A.deeper (envOfC qual (defScope st) s.heap.objs.size f cdv)) → sp vs H Q E →
      ∃ t, PSs (cxOf (L2.CX P w) P w K mg base N qual (defScope st) f cdv A outer s H E) (defBody st) t ∧ t { nx := fun _ H' => Q .non H', rt := Q } (start N vs) H) : OkI P w K mg base C m (k + 1) ps sp := by
  obtain ⟨f, fd, hm, F, hb⟩ := D
  exact ⟨f, fd, hm, hb, F.okX S len (fun cdv A outer s H vs Q E hr h => hbody f cdv A outer s H vs Q E hr h)⟩
end
/-- a thing, and the whole number that it is (no truth value is one) -/
inductive Thg (K : PySem.W.Frag) (H : Hp) : V → Option Int → Prop where
  | int (i : Int) : Thg K H (.int i) (some i)
  | bl (b : Bool) : Thg K H (.bl b) none
  | oth {x : V} {t : Value} (ty : TyX K H x t) (ni : PySem.W.kitOne K t (.type "int") = some false) : Thg K H x none
theorem Thg.non {K : PySem.W.Frag} {H : Hp} : Thg K H .non none := .oth (.base .non) (kit_ty (by decide +kernel))
theorem Thg.str {K : PySem.W.Frag} {H : Hp} (x : Str) : Thg K H (.str x) none := .oth (.base (.str x)) (kit_ty (by decide +kernel))
theorem Thg.lst {K : PySem.W.Frag} {H : Hp} {a : Addr} {xs : List V} (e : H a = some (.lst xs)) : Thg K H (.ref a) none := .oth (.base (.lst e)) (kit_ty (by decide +kernel))
theorem Thg.tup {K : PySem.W.Frag} {H : Hp} {a : Addr} {xs : List V} (e : H a = some (.tup xs)) : Thg K H (.ref a) none := .oth (.base (.tup e)) (kit_ty (by decide +kernel))
theorem Thg.dK {K : PySem.W.Frag} {H : Hp} {a : Addr} {xs : List (Key × V)} (e : H a = some (.dK xs)) : Thg K H (.ref a) none := .oth (.base (.dK e)) (kit_ty (by decide +kernel))
theorem tyOf_same {K : PySem.W.Frag} {H H' : Hp} {x : V} {t : Value} (e : Same H H') (h : TyOf K H x t) : TyOf K H' x t := by
  cases h with
  | non => exact .non
  | bl b => exact .bl b
  | int i => exact .int i
  | str z => exact .str z
  | flt z => exact .flt z
  | lst q => exact .lst (e _ _ q)
  | frz q => exact .frz (e _ _ q)
  | tup q => exact .tup (e _ _ q)
  | dK q => exact .dK (e _ _ q)
  | dT q => exact .dT (e _ _ q)
  | ins q cl ha hn htk hm => exact .ins (e _ _ q) cl ha hn htk hm
theorem tyX_same {K : PySem.W.Frag} {H H' : Hp} {x : V} {t : Value} (e : Same H H') (h : TyX K H x t) : TyX K H' x t := by
  cases h with
  | base b => exact .base (tyOf_same e b)
  | byt b => exact .byt b
  | set q => exact .set (e _ _ q)
  | kList q c => exact .kList q c
  | kTuple q c => exact .kTuple q c
  | kDict q c => exact .kDict q c
  | fTuple q => exact .fTuple (e _ _ q)
  | fDict q => exact .fDict (e _ _ q)
theorem Thg.same {K : PySem.W.Frag} {H H' : Hp} {x : V} {o : Option Int} (e : Same H H') (h : Thg K H x o) : Thg K H' x o := by
  cases h with
  | int i => exact .int i
  | bl b => exact .bl b
  | oth ty ni => exact .oth (tyX_same e ty) ni
theorem pick {α : Type} {P : α → Prop} {xs : List α} (h : ∀ x ∈ xs, P x) {j : Nat} (hj : j < xs.length) : ∃ x, xs[j]? = some x ∧ P x := ⟨xs[j], List.getElem?_eq_getElem hj, h _ (List.getElem_mem hj)⟩
def among (o : Option Int) (lo hi : Int) : Bool := match o with
  | some i => decide (lo ≤ i) && decide (i ≤ hi)
  | none => false
def whole (o : Option Int) : Bool := o.isSome
/-- a new list, a new tuple: what stood stands, and it is there -/
def RetL (H : Hp) (xs : List V) (Q : VK) : Prop := ∀ p H', H p = none → Same H H' → H' p = some (.lst xs) → Q (.ref p) H'
def RetT (H : Hp) (xs : List V) (Q : VK) : Prop := ∀ p H', H p = none → Same H H' → H' p = some (.tup xs) → Q (.ref p) H'
theorem Same.new {H : Hp} {p : Addr} {o : HO} (h : H p = none) : Same H (upd H p o) := fun a u e => by
  rw [upd_ne (ne_of_none e h)]
  exact e
theorem new_at {H : Hp} {p : Addr} {o : HO} (_ : H p = none) : upd H p o p = some o := upd_same
theorem Same.mut {H H' : Hp} {p : Addr} {o : HO} (e : Same H H') (h : H p = none) : Same H (upd H' p o) := fun a u ha => by
  rw [upd_ne (ne_of_none ha h)]
  exact e a u ha
theorem get_map {α β : Type} {f : α → β} {xs : List α} {i : Nat} {y : β} (h : (xs.map f)[i]? = some y) : ∃ x, xs[i]? = some x ∧ y = f x := by
  rw [List.getElem?_map] at h
  cases e : xs[i]? with
  | none =>
    rw [e] at h
    cases h
  | some x =>
    rw [e] at h
    exact ⟨x, rfl, (Option.some.inj h).symm⟩
theorem take_succ {α : Type} {l : List α} {i : Nat} {x : α} (h : l[i]? = some x) : l.take (i + 1) = l.take i ++ [x] := by
  rw [List.take_add_one, h] <;> rfl
theorem at_map {xs : List Int} {z : Int} {j : Nat} {v : Int} (e : z = (j : Int)) (h : xs[j]? = some v) : atI (xs.map V.int) z = some (V.int v) := by
  rw [e]
  refine atI_nat ?_
  rw [List.getElem?_map, h] <;> rfl
theorem sz5 {n : Nat} (h : n ≤ 100000) : n ≤ sizeLine := Nat.le_trans h (by decide)
theorem sz5' {n : Nat} (h : n < 100000) : n < sizeLine := Nat.lt_of_lt_of_le h (by decide)
theorem cx0_no {P : Program} {w : World} {H : Hp} {s : Shared} {e : Value} {s' : Shared} (h : L2.CX P w [] H s (fun _ _ _ => False) e s') : False := by
  obtain ⟨_, _, _, _, _, _, _, _, _, _, _, _, z⟩ := h
  exact z.elim
/-- the law's: a list of at most 63 whole numbers is handed in, True comes out -/
def sp_law (K : PySem.W.Frag) : Sp := fun vs H Q _ => ∃ (a : Addr) (ns : List Int), vs = [.ref a] ∧ SqL K H a (ns.map V.int) ∧ ns.length ≤ 63 ∧ ∀ H', Q (.bl true) H'
theorem law_true {K : PySem.W.Frag} {H : Hp} {a : Addr} {ns : List Int} (hS : SqL K H a (ns.map V.int)) (hl : ns.length ≤ 63) : sp_law K [.ref a] H (fun v _ => v = .bl true) (fun _ _ _ => False) := ⟨a, ns, rfl, hS, hl, fun _ => rfl⟩
/-- a remainder as a natural number -/
theorem rem_nat {z m : Int} (hm : 0 < m) : ∃ s : Nat, (s : Int) < m ∧ z % m = (s : Int) := by
  have h1 := Int.emod_nonneg z (show m ≠ 0 by omega)
  have h2 := Int.emod_lt_of_pos z hm
  exact ⟨(z % m).toNat, by omega, by omega⟩
end BM

/-! ## Data that is compared -/
namespace BM
open PySem PySem.Spec PyProof.Rows L2
def Sh (n : Nat) (d : PyData) : Prop := d.canLay0 = true ∧ d.depth ≤ n
theorem canAll : ∀ {ds : List PyData}, (∀ d ∈ ds, d.canLay0 = true) → PyData.canLayAll0 ds = true
  | [], _ => rfl
  | d :: r, h => by
    have h1 := h d List.mem_cons_self
    have h2 := canAll (ds := r) fun e he => h e (List.mem_cons_of_mem _ he)
    simp [PyData.canLayAll0, h1, h2]
theorem depAll {n : Nat} : ∀ {ds : List PyData}, (∀ d ∈ ds, d.depth ≤ n) → PyData.depthAll ds ≤ n
  | [], _ => by
    show 0 ≤ n
    omega
  | d :: r, h => by
    have h1 := h d List.mem_cons_self
    have h2 := depAll (ds := r) fun e he => h e (List.mem_cons_of_mem _ he)
    show max d.depth (PyData.depthAll r) ≤ n
    omega
theorem Sh.non {n : Nat} : Sh n .none := ⟨rfl, Nat.zero_le _⟩
theorem Sh.bl {n : Nat} (b : Bool) : Sh n (.bool b) := ⟨rfl, Nat.zero_le _⟩
theorem Sh.int {n : Nat} (i : Int) : Sh n (.int i) := ⟨rfl, Nat.zero_le _⟩
theorem Sh.str {n : Nat} {x : Str} (h : (PyData.str x).canLay0 = true) : Sh n (.str x) := ⟨h, Nat.zero_le _⟩
theorem Sh.lst {n : Nat} {ds : List PyData} (h : ∀ d ∈ ds, Sh n d) : Sh (n + 1) (.list ds) :=
  ⟨canAll fun d hd => (h d hd).1, by
    have := depAll fun d hd => (h d hd).2
    show PyData.depthAll ds + 1 ≤ n + 1
    omega⟩
theorem Sh.tup {n : Nat} {ds : List PyData} (h : ∀ d ∈ ds, Sh n d) : Sh (n + 1) (.tuple ds) :=
  ⟨canAll fun d hd => (h d hd).1, by
    have := depAll fun d hd => (h d hd).2
    show PyData.depthAll ds + 1 ≤ n + 1
    omega⟩
theorem Sh.shaped {n : Nat} {d : PyData} (h : Sh n d) (hn : n ≤ 64) : SeqAt.shaped d = true := by
  unfold SeqAt.shaped
  rw [h.1, Bool.true_and]
  exact decide_eq_true (Nat.le_trans h.2 hn)
theorem Sh.refl {n : Nat} {d : PyData} (h : Sh n d) : PyData.eqv d d = true := SeqAt.eqv_refl d h.1
theorem sh_ints {n : Nat} (ns : List Int) : Sh (n + 1) (.list (ns.map PyData.int)) := .lst fun d hd => by
  obtain ⟨i, _, rfl⟩ := List.mem_map.mp hd
  exact .int i
/-- values paired with data, by place -/
theorem dp_all {K : PySem.W.Frag} {H : Hp} : ∀ {vs : List V} {ds : List PyData}, vs.length = ds.length → (∀ (i : Nat) (v : V) (d : PyData), vs[i]? = some v → ds[i]? = some d → Dp K H v d) → DpAll K H vs ds
  | [], [], _, _ => .nil
  | [], _ :: _, h, _ => by simp at h
  | _ :: _, [], h, _ => by simp at h
  | v :: vs, d :: ds, h, k => .cons (k 0 v d rfl rfl) (dp_all (by simpa using h) fun i w e hw he => k (i + 1) w e hw he)
theorem dp_ints {K : PySem.W.Frag} {H : Hp} : ∀ ns : List Int, DpAll K H (ns.map V.int) (ns.map PyData.int)
  | [] => .nil
  | i :: r => .cons (.int i) (dp_ints r)
theorem atI_end {α : Type} {xs : List α} {v : α} (h : xs[xs.length - 1]? = some v) : atI xs (-1) = some v := by
  obtain ⟨hl, e⟩ := List.getElem?_eq_some_iff.mp h
  unfold atI ixN
  rw [if_neg (by decide), if_pos (by omega)]
  have e1 : ((-1 : Int) + (xs.length : Int)).toNat = xs.length - 1 := by omega
  rw [e1]
  exact h
def rListOf (K : PySem.W.Frag) : List V → Hp → VK → Prop := fun xs H Q => ∃ p ys, xs = [.ref p] ∧ (SqL K H p ys ∨ SqT K H p ys) ∧ ∀ l, H l = none → Q (.ref l) (upd H l (.lst ys))
end BM

/-! ## A def that is called with the caught error, in the suite that holds it: nothing leaves it -/
namespace BM
open PySem PySem.Spec PyProof.Rows L2
abbrev SpE := Addr → Value → Option Addr → List V → Hp → VK → Prop
structure FnE (P : Program) (w : World) (K : PySem.W.Frag) (mg : Str → Option Value) (base : Heap) (k : Nat) (f : Addr) (fd : FuncData) (ps : List Str) (sp : SpE) : Prop where
  len : ∀ a c d vs H Q, sp a c d vs H Q → vs.length = ps.length
  go : ∀ (A : Around) (outer : List Env) (s : Shared) (H : Hp) (args : Args) (us : List Value) (vs : List V) (Q : VK) (p : Addr × Obj) (c : Value) (d : Option Addr), Zc c d p.2 → (∃ ws, p.2.data = .fields ws) →
    L2H.RoomH k A → L2H.PinOk outer H s p → Env0 P w K mg base A outer s H → BindsTo s fd args (ps.zip us) → Vals vs us → sp p.1 c d vs H Q → codeAny (model P w) A (.call (.ref f) args) (CR CX0 outer P w H s Q E0) s
theorem cells_ok {scope : Scope} {n : Nat} {ps : List Str} {us : List Value} (par : ∀ x ∈ ps, scope.names.lookup x = some .local ∨ scope.names.lookup x = some .cell) :
    ∀ y ∈ ps.zip us, scope.names.lookup y.1 = some .local ∨ (scope.names.lookup y.1 = some .cell ∧ ((cellsFrom n scope.names []).lookup y.1).isSome = true) := by
  intro y hy
  obtain ⟨x, v⟩ := y
  have hx := par x (List.of_mem_zip hy).1
  cases hx with
  | inl q => exact Or.inl q
  | inr q => exact Or.inr ⟨q, PySem.W.cellsFrom_some _ _ _ (Or.inl q)⟩
theorem fn_ofE {P : Program} {w : World} {K : PySem.W.Frag} {mg : Str → Option Value} {base : Heap} {k : Nat} {x qual : Str} {st : Stmt} {f : Addr} {fd : FuncData} {N ps : List Str} {sp : SpE}
    (F : Fun K x qual st f fd) (S : FnScope N ps (defScope st)) (len : ∀ a c d vs H Q, sp a c d vs H Q → vs.length = ps.length)
    (body : ∀ (cdv : Value) (A : Around) (outer : List Env) (s : Shared) (H : Hp) (vs : List V) (Q : VK) (p : Addr × Obj) (c : Value) (d : Option Addr), Zc c d p.2 → (∃ ws, p.2.data = .fields ws) →
      L2H.RoomH k (A.deeper (envOfC qual (defScope st) s.heap.objs.size f cdv)) → sp p.1 c d vs H Q →
      ∃ t, PSs (L2H.cxH CX0 P w K mg base N qual (defScope st) f cdv A outer s H E0 p) (defBody st) t ∧ t { nx := fun _ H' => Q .non H', rt := Q } (L2.start N vs) H) :
    FnE P w K mg base (k + 1) f fd ps sp := by
  obtain ⟨oc, od, kV, doc, pm, an, cdv, ct, osl, e0, lk, hcd⟩ := F.ex
  subst e0
  refine ⟨len, ?_⟩
  intro A outer s H args us vs Q p c d hz hf hr hpin ev hb r hsp
  have hl := len _ _ _ _ _ _ hsp
  have kin : K.In s.heap := ev.mod.kin.keeps (fun b o q => (ev.bs b o q).1)
  have nol : s.heap.NoLimit := ev.mod.nolimit.keeps (fun b o q => (ev.bs b o q).1)
  refine codeAny_call_function hr.depth (kin _ _ lk) rfl S.co S.gen rfl
    (PySem.W.codeRec_of kin hcd) (hb _ _ _ _ ?_)
  refine wpAny_newFunctionEnv_cells S.kind (cells_ok S.par)
    fun env he t1 y => ?_
  cases he
  refine ⟨nol.keeps y.toInCall.keep, codeAny_func ?_⟩
  obtain ⟨t, ht, hq⟩ := body cdv A outer s H vs Q p c d hz hf (hr.deeper _) hsp
  have I := L2H.inv_startH (CX := CX0) (E := E0) S hpin ev hl r y
  refine wpAny_mono (ht.run [] t1 _ H _ I hq) (fun fl s' hs => ?_) (fun _ _ z => z)
  match fl, hs with
  | .ret u, hs =>
    obtain ⟨v, σ', H', J, rv, q⟩ := hs
    exact ⟨v, H', J.os, J.bare, J.base, J.hok, rv, q⟩
  | .next, hs =>
    obtain ⟨σ', H', J, q⟩ := hs
    exact ⟨V.non, H', J.os, J.bare, J.base, J.hok, rfl, q⟩
  | .brk, hs =>
    obtain ⟨_, _, _, q⟩ := hs
    exact q.elim
  | .cont, hs =>
    obtain ⟨_, _, _, q⟩ := hs
    exact q.elim
section
variable {X : Cx}
/-- the call, from the suite -/
theorem pe_hotE {k : Nat} {f a : Addr} {fd : FuncData} {ps : List Str} {sp : SpE} {x : Str} {q pos : Pos} {e : Expr} {es : List Expr} {t : TA} {oe : Obj} {c : Value} {d : Option Addr} {pn : List (Addr × Obj)}
    (F : FnE X.prog X.w X.K X.mg X.base k f fd ps sp) (hr : Room k X.A) (hz : Zc c d oe) (hf : ∃ ws, oe.data = .fields ws) (hg : Gl X x) (hm : X.mg x = some (.ref f)) (hk : PySem.W.keepIn X.K (.ref f) = true) (hb : Binds X.K fd ps [])
    (ha : PA (X.suite a ((a, oe) :: pn)) (e :: es) t) (hdb : (x == ("__debug__" : Str)) = false := by decide) (he : starEach (e :: es) X.env = (false, eval e X.env) :: starEach es X.env := by rfl) (hpl : (backTo pos (starEach es X.env)).any (·.1) = false := by rfl) :
    PE (X.suite a ((a, oe) :: pn)) (.Call (.Name x q) (e :: es) [] pos) (fun σ H Q => t σ H fun vs H1 => sp a c d vs H1 Q) := by
  refine ⟨fun pins s σ H Q I h => ?_⟩
  refine wpAny_Call_Name_kw (ld_glob I hg hm ?_ hdb)
  refine PySem.W.callWith_K (h₀ := X.base) I.ok.mod.kin hk (thn (ha.run pos pins s σ H _ I h) ?_) he hpl
  intro us s1 ⟨vs, H1, I1, r, hs⟩
  refine ⟨I1.kIn, ?_⟩
  have hl : us.length = ps.length := by
    rw [← r.length]
    exact F.len _ _ _ _ _ _ hs
  have b := hb s1 us I1.kIn (by rw [List.append_nil]; exact hl)
  rw [List.append_nil] at b
  have P1 := I1.pin (a, oe) (List.mem_append_left _ List.mem_cons_self)
  have hpin : L2H.PinOk X.stack H1 s1 (a, oe) := ⟨P1.1, P1.2.1, fun z => (List.mem_cons.mp (I1.stkSub a z)).elim P1.2.2.1 P1.2.2.2.1, P1.2.2.2.2⟩
  have hr' : L2H.RoomH k (X.suite a ((a, oe) :: pn)).A := ⟨hr.dp, hr.un⟩
  refine wpAny_call (codeAny_mono (F.go _ X.stack s1 H1 ⟨us, []⟩ us vs Q (a, oe) c d hz hf hr' hpin I1.env0 b r hs) ?_)
  intro res s' hq
  match res, hq with
  | .error e, hq => exact hq.elim
  | .ok (.ret u), hq => exact I1.after hq
  | .ok .next, hq => exact hq.elim
  | .ok .brk, hq => exact hq.elim
  | .ok .cont, hq => exact hq.elim
/-- isinstance(e, C), e the pinned error -/
def rIsP (K : PySem.W.Frag) (a : Addr) (cls : Value) (d : Option Addr) : List V → Hp → VK → Prop := fun xs H Q => ∃ (D : Addr) (c : V) (cv : Value) (b : Bool), cls = .ref D ∧ d = none ∧ ExcC K D ∧ xs = [.ref a, c] ∧ (∀ u, RelV c u → u = cv) ∧ PySem.W.kitOne K (.ref D) cv = some b ∧ Q (.bl b) H
theorem call_isP {p : Addr × Obj} {cls : Value} {d : Option Addr} (hp : p ∈ X.pn) (hz : Zc cls d p.2) (hf : ∃ ws, p.2.data = .fields ws) : CallR X (.builtin "isinstance") (rIsP X.K p.1 cls d) := by
  intro pins s σ H xs us Q I r h
  obtain ⟨D, c, cv, b, rfl, rfl, C, rfl, hcv, e, q⟩ := h
  match us, r with
  | [_, u2], .cons rx (.cons rt .nil) =>
    cases rx
    have ec : u2 = cv := hcv _ rt
    cases ec
    obtain ⟨hget, _⟩ := I.pin p (List.mem_append.mpr (Or.inl hp))
    obtain ⟨ws, hv⟩ := hf
    have J : PySem.W.InstAt s.heap p.1 p.2 D none := by
      obtain ⟨pa, ⟨oc, od, oda, osl⟩⟩ := p
      obtain ⟨g1, g2⟩ := hz
      dsimp only at g1 g2 hv
      cases g1
      cases g2
      cases hv
      exact ⟨hget, rfl, rfl, trivial⟩
    refine PySem.W.kia_one (PySem.W.handS_kitx_exc C.hg C.hk C.hs C.hd C.ha C.hn C.ht C.hm) I.kIn J e (fun z => nomatch z) ?_
    intro tk
    exact ⟨.bl b, H, I.kept (t' := tk) (fun _ _ z => z), rfl, q⟩
theorem countP_vals {y : V} : ∀ {ys : List V} {us : List Value}, Vals ys us → ys.all flatV = true → us.countP (eqU y) = ys.countP fun z => eqV z y
  | _, _, .nil, _ => rfl
  | z :: zs, u :: us, .cons r t, f => by
    rw [List.all_cons, Bool.and_eq_true] at f
    rw [List.countP_cons, List.countP_cons, countP_vals t f.2, eqU_of r f.1]
/-- xs.count(y), flat things -/
theorem mt_countV : MtR X "list.count" (fun x xs H Q => ∃ (p : Addr) (ys : List V) (y : V), x = .ref p ∧ xs = [y] ∧ SqL X.K H p ys ∧ flatV y = true ∧ ys.all flatV = true ∧ Q (.int ((ys.countP fun z => eqV z y : Nat) : Int)) H) := by
  intro pins s σ H x xs v us Q I rx rxs h
  obtain ⟨a, ys, y, rfl, rfl, hs, fy, fys, q⟩ := h
  cases rx
  match us, rxs with
  | [uy], .cons ry .nil =>
    obtain ⟨its, rv, ⟨⟨cls, dd, data, sl⟩, n, ho, hc, hdn, hd⟩, hlen⟩ := I.list hs
    cases hc
    cases hd
    refine call_meets PySem.F.slot_list_count ⟨_, ho, rfl⟩ PySem.F.entry_list_count (PySem.F.args_list_count_2 _ _)
      (SeqAt.list_countAt a its.toArray n dd sl uy (eqU y)) ⟨ho, fun u' hu' => mem_eqAt ry fy rv fys u' (by simpa using hu'), ?_⟩
    have ec := countP_vals (y := y) rv fys
    refine ⟨.int ((ys.countP fun z => eqV z y : Nat) : Int), H, I.tok _, ⟨s.toks, ?_⟩, q⟩
    show Value.int ((its.toArray.toList.countP (eqU y) : Nat) : Int) s.toks = _
    rw [← ec]
end
/-! ### the law's own classes of errors -/
def words8 : List Str := ["count", "rule", "deed", "full", "twice", "notkept", "atend", "notwanted"]
/-- the class D is the i-th of the eight -/
structure Kind (K : PySem.W.Frag) (c : Nat → Addr) (D : Addr) (i : Nat) : Prop where
  lt : i < 8
  is : ∀ j, j < 8 → PySem.W.kitOne K (.ref D) (.ref (c j)) = some (decide (j = i))
  ve : PySem.W.kitOne K (.ref D) (.type "ValueError") = some true
  ex : ExcC K D
/-- what the law is told of an error -/
def sp_class (K : PySem.W.Frag) (c : Nat → Addr) : SpE := fun a cls d vs H Q => vs = [.ref a] ∧ ∃ (D : Addr) (i : Nat), cls = .ref D ∧ d = none ∧ Kind K c D i ∧ RetT H [.str "refused", .str (words8.getD i "")] Q
theorem eight {P : Nat → Prop} {i : Nat} (h : i < 8) (h0 : P 0) (h1 : P 1) (h2 : P 2) (h3 : P 3) (h4 : P 4) (h5 : P 5) (h6 : P 6) (h7 : P 7) : P i := by
  match i, h with
  | 0, _ => exact h0
  | 1, _ => exact h1
  | 2, _ => exact h2
  | 3, _ => exact h3
  | 4, _ => exact h4
  | 5, _ => exact h5
  | 6, _ => exact h6
  | 7, _ => exact h7
end BM

/-! ## The tables, in plain Lean -/
namespace BM
open PySem PySem.Spec PyProof.Rows L2
def choStep (m : Nat) (f t : Nat) : Nat := f * (m - t) / (t + 1)
def choN (m c : Nat) : Nat := (List.range c).foldl (choStep m) 1
def waysN (r t : Nat) : Nat := choN (r + t) r
def oftGo (s r : Nat) : Nat → Nat → Nat
  | 0, t => t
  | n + 1, t => if waysN r t ≤ s then oftGo s r n (t + 1) else t
/-- how often -/
def oftN (s r : Nat) : Nat := oftGo s r 101 0
def costN (s r : Nat) : Int := if oftN s r = 0 then 0 else (oftN s r : Int) * ((s : Int) + 1) - (waysN (r + 1) (oftN s r - 1) : Int)
theorem choN_succ (m c : Nat) : choN m (c + 1) = choStep m (choN m c) c := by
  unfold choN
  rw [List.range_succ, List.foldl_append] <;> rfl
theorem ways_far : ∀ r, r < 14 → 1 ≤ r → 100 < waysN r 101 := by decide +kernel
theorem oftGo_le {s r : Nat} : ∀ n t, oftGo s r n t ≤ n + t
  | 0, t => by
    show t ≤ 0 + t
    omega
  | n + 1, t => by
    have h := oftGo_le (s := s) (r := r) n (t + 1)
    show (if waysN r t ≤ s then oftGo s r n (t + 1) else t) ≤ n + 1 + t
    split <;> omega
theorem oftN_le (s r : Nat) : oftN s r ≤ 101 := oftGo_le 101 0
theorem oft_yes {s r n t : Nat} (h : waysN r t ≤ s) : oftGo s r (n + 1) t = oftGo s r n (t + 1) := if_pos h
theorem oft_no {s r n t : Nat} (h : ¬ waysN r t ≤ s) : oftGo s r n t = t := by
  cases n with
  | zero => rfl
  | succ n => exact if_neg h
def goodC (o1 o2 : Option Int) : Bool := among o1 0 100 && among o2 1 12
/-- the best of the marks met so far -/
def bestStep (above found : List Int) (many : Nat) (b : Option Int) (j : Nat) : Option Int :=
  let w := ((j : Int) + 1) + above.getD (many - (j + 1)) 0 + found.getD j 0
  match b with
  | none => some w
  | some v => if w < v then some w else some v
def bestN (above found : List Int) (many : Nat) (j : Nat) : Option Int := (List.range j).foldl (bestStep above found many) none
def nextN (above : List Int) : Nat → List Int
  | 0 => [0]
  | n + 1 => nextN above n ++ [(bestN above (nextN above n) (n + 1) (n + 1)).getD 0]
theorem nextN_len (above : List Int) : ∀ n, (nextN above n).length = n + 1
  | 0 => rfl
  | n + 1 => by
    show (nextN above n ++ [_]).length = n + 1 + 1
    rw [List.length_append, nextN_len above n] <;> rfl
theorem bestN_succ (above found : List Int) (many j : Nat) : bestN above found many (j + 1) = bestStep above found many (bestN above found many j) j := by
  unfold bestN
  rw [List.range_succ, List.foldl_append] <;> rfl
theorem bestStep_some (above found : List Int) (many : Nat) (b : Option Int) (j : Nat) : ∃ v, bestStep above found many b j = some v := by
  unfold bestStep
  cases b with
  | none => exact ⟨_, rfl⟩
  | some v =>
    dsimp only
    split
    · exact ⟨_, rfl⟩
    · exact ⟨_, rfl⟩
def lineOne (n : Nat) : List Int := (List.range (n + 1)).map fun (m : Nat) => ((m : Int) * ((m : Int) + 1)) / 2
def tableN (n : Nat) : Nat → List (List Int)
  | 0 => [lineOne n]
  | r + 1 => tableN n r ++ [nextN ((tableN n r).getLastD []) n]
def oV : Option Int → V
  | none => .non
  | some i => .int i
theorem tableN_len (n : Nat) : ∀ r, (tableN n r).length = r + 1
  | 0 => rfl
  | r + 1 => by
    show (tableN n r ++ [_]).length = r + 1 + 1
    rw [List.length_append, tableN_len n r] <;> rfl
end BM
namespace BM
open PySem PySem.Spec PyProof.Rows L2
def lineK (n : Nat) : Nat → List Int
  | 0 => lineOne n
  | k + 1 => nextN (lineK n k) n
theorem lineK_len (n : Nat) : ∀ k, (lineK n k).length = n + 1
  | 0 => by
    show (lineOne n).length = n + 1
    unfold lineOne
    rw [List.length_map, List.length_range]
  | k + 1 => nextN_len _ n
/-- the rows stand at these places -/
structure Rows (H : Hp) (as : List Addr) (r : Nat) (f : Nat → List Int) : Prop where
  len : as.length = r
  at' : ∀ i a, as[i]? = some a → H a = some (.lst ((f i).map V.int))
def RetRows (H : Hp) (r : Nat) (f : Nat → List Int) (Q : VK) : Prop :=
  ∀ p as H', H p = none → (∀ a ∈ as, H a = none) → Same H H' → H' p = some (.lst (as.map V.ref)) → Rows H' as r f → Q (.ref p) H'
theorem lineOne_take (m : Nat) : (((List.range m).map fun (m : Nat) => ((m : Int) * ((m : Int) + 1)) / 2).map V.int) ++ [V.int (((m : Int) * ((m : Int) + 1)) / 2)] = ((List.range (m + 1)).map fun (m : Nat) => ((m : Int) * ((m : Int) + 1)) / 2).map V.int := by
  rw [List.range_succ, List.map_append, List.map_append] <;> rfl
end BM

/-! ## The least cost: as a greatest of straight lines -/
namespace BM
theorem ways_zero : ∀ r, r < 15 → waysN r 0 = 1 := by decide +kernel
theorem ways_nil : ∀ t, t < 104 → waysN 0 t = 1 := by decide +kernel
theorem pascal' : ((List.range 13).all fun r => (List.range 103).all fun t => waysN (r + 1) (t + 1) == waysN (r + 1) t + waysN r (t + 1)) = true := by decide +kernel
theorem pascal {r t : Nat} (hr : r < 13) (ht : t < 103) : waysN (r + 1) (t + 1) = waysN (r + 1) t + waysN r (t + 1) :=
  eq_of_beq (List.all_eq_true.mp (List.all_eq_true.mp pascal' r (List.mem_range.mpr hr)) t (List.mem_range.mpr ht))
theorem ways_pos : ∀ r t, r < 14 → t < 104 → 1 ≤ waysN r t
  | 0, t, _, ht => by rw [ways_nil t ht]; omega
  | r + 1, 0, hr, _ => by rw [ways_zero (r + 1) (by omega)]; omega
  | r + 1, t + 1, hr, ht => by
    have h := ways_pos (r + 1) t hr (by omega)
    rw [pascal (by omega) (by omega)]
    omega
theorem ways_up {r t : Nat} (hr : r < 13) (ht : t < 103) : waysN (r + 1) t < waysN (r + 1) (t + 1) := by
  have h := ways_pos r (t + 1) (by omega) (by omega)
  rw [pascal hr ht]
  omega
theorem ways_mono {r t : Nat} (h1 : 1 ≤ r) (hr : r < 14) : ∀ d, t + d < 104 → waysN r t + d ≤ waysN r (t + d)
  | 0, _ => Nat.le_refl _
  | d + 1, h => by
    have i := ways_mono (t := t) h1 hr d (by omega)
    obtain ⟨q, rfl⟩ : ∃ q, r = q + 1 := ⟨r - 1, by omega⟩
    have u := ways_up (r := q) (t := t + d) (by omega) (by omega)
    show waysN (q + 1) t + (d + 1) ≤ waysN (q + 1) (t + d + 1)
    omega
theorem ways_lt {r a b : Nat} (h1 : 1 ≤ r) (hr : r < 14) (hb : b < 104) (h : a ≤ b) : waysN r a + (b - a) ≤ waysN r b := by
  have := ways_mono (t := a) h1 hr (b - a) (by omega)
  have e : a + (b - a) = b := by omega
  rw [e] at this
  exact this
theorem ways_ge {r t : Nat} (h1 : 1 ≤ r) (hr : r < 14) (ht : t < 104) : t + 1 ≤ waysN r t := by
  have := ways_lt (a := 0) (b := t) h1 hr ht (Nat.zero_le _)
  rw [ways_zero r (by omega)] at this
  omega
theorem oftGo_spec {s r : Nat} : ∀ n t, (∀ u, u < t → waysN r u ≤ s) → (s < waysN r (n + t)) → (∀ u, u < oftGo s r n t → waysN r u ≤ s) ∧ s < waysN r (oftGo s r n t)
  | 0, t, h, hs => by
    rw [Nat.zero_add] at hs
    exact ⟨h, hs⟩
  | n + 1, t, h, hs => by
    by_cases c : waysN r t ≤ s
    · rw [oft_yes c]
      refine oftGo_spec n (t + 1) (fun u hu => ?_) (by rw [show n + (t + 1) = n + 1 + t by omega]; exact hs)
      by_cases e : u = t
      · rw [e]
        exact c
      · exact h u (by omega)
    · rw [oft_no c]
      exact ⟨h, by omega⟩
theorem oft_spec {s r : Nat} (hs : s ≤ 101) (h1 : 1 ≤ r) (hr : r < 14) : (∀ u, u < oftN s r → waysN r u ≤ s) ∧ s < waysN r (oftN s r) := by
  refine oftGo_spec 101 0 (fun u hu => by omega) ?_
  show s < waysN r 101
  have := ways_ge (t := 101) h1 hr (by omega)
  omega
theorem oft_le {s r : Nat} (hs : s ≤ 101) (h1 : 1 ≤ r) (hr : r < 14) : oftN s r ≤ s := by
  have h := (oft_spec hs h1 hr).1
  by_cases c : oftN s r ≤ s
  · exact c
  · have q := h s (by omega)
    have := ways_ge (t := s) h1 hr (by omega)
    omega
def phi (r s t : Nat) : Int := if t = 0 then 0 else (t : Int) * ((s : Int) + 1) - (waysN (r + 1) (t - 1) : Int)
theorem cost_phi (s r : Nat) : costN s r = phi r s (oftN s r) := rfl
theorem phi_step {r s t : Nat} (hr : r < 13) (ht : t < 103) : phi r s (t + 1) = phi r s t + ((s : Int) + 1) - (waysN r t : Int) := by
  cases t with
  | zero =>
    show (if (0 + 1 : Nat) = 0 then (0 : Int) else ((0 + 1 : Nat) : Int) * ((s : Int) + 1) - (waysN (r + 1) 0 : Int)) = 0 + ((s : Int) + 1) - (waysN r 0 : Int)
    rw [if_neg (by omega), ways_zero (r + 1) (by omega), ways_zero r (by omega)]
    omega
  | succ t =>
    have p := pascal (r := r) (t := t) hr (by omega)
    show (if (t + 1 + 1 : Nat) = 0 then (0 : Int) else ((t + 1 + 1 : Nat) : Int) * ((s : Int) + 1) - (waysN (r + 1) (t + 1) : Int)) = (if (t + 1 : Nat) = 0 then (0 : Int) else ((t + 1 : Nat) : Int) * ((s : Int) + 1) - (waysN (r + 1) t : Int)) + ((s : Int) + 1) - (waysN r (t + 1) : Int)
    rw [if_neg (by omega), if_neg (by omega), p]
    have e : ((t + 1 + 1 : Nat) : Int) * ((s : Int) + 1) = ((t + 1 : Nat) : Int) * ((s : Int) + 1) + ((s : Int) + 1) := by
      rw [Int.natCast_add (t + 1) 1, Int.add_mul]
      show _ + (1 : Int) * _ = _
      rw [Int.one_mul]
    rw [e, Int.natCast_add]
    omega
/-- the least cost is the greatest of the lines -/
theorem phi_le {r s t : Nat} (hs : s ≤ 101) (h1 : 1 ≤ r) (hr : r < 13) (ht : t ≤ 103) : phi r s t ≤ costN s r := by
  obtain ⟨a, b⟩ := oft_spec (s := s) (r := r) hs h1 (by omega)
  have o := oft_le (s := s) (r := r) hs h1 (by omega)
  rw [cost_phi]
  have up : ∀ d, d ≤ oftN s r → phi r s (oftN s r - d) ≤ phi r s (oftN s r) := by
    intro d
    induction d with
    | zero => intro _; exact Int.le_refl _
    | succ d ih =>
      intro hd
      have i := ih (by omega)
      have st := phi_step (r := r) (s := s) (t := oftN s r - (d + 1)) (by omega) (by omega)
      have w := a (oftN s r - (d + 1)) (by omega)
      have e : oftN s r - (d + 1) + 1 = oftN s r - d := by omega
      rw [e] at st
      omega
  have down : ∀ d, oftN s r + d ≤ 103 → phi r s (oftN s r + d) ≤ phi r s (oftN s r) := by
    intro d
    induction d with
    | zero => intro _; exact Int.le_refl _
    | succ d ih =>
      intro hd
      have i := ih (by omega)
      have st := phi_step (r := r) (s := s) (t := oftN s r + d) (by omega) (by omega)
      have w := ways_lt (r := r) (a := oftN s r) (b := oftN s r + d) h1 (by omega) (by omega) (by omega)
      rw [show oftN s r + (d + 1) = oftN s r + d + 1 by omega]
      omega
  by_cases c : t ≤ oftN s r
  · have := up (oftN s r - t) (by omega)
    rw [show oftN s r - (oftN s r - t) = t by omega] at this
    exact this
  · have := down (t - oftN s r) (by omega)
    rw [show oftN s r + (t - oftN s r) = t by omega] at this
    exact this
theorem cost_nonneg {s r : Nat} (hs : s ≤ 101) (h1 : 1 ≤ r) (hr : r < 13) : 0 ≤ costN s r := phi_le (t := 0) hs h1 hr (by omega)
/-- no mark does better -/
theorem cost_mark {s r m : Nat} (hs : s ≤ 101) (h1 : 1 ≤ r) (hr : r < 12) (hm : 1 ≤ m) (hms : m ≤ s) : costN s (r + 1) ≤ (m : Int) + costN (s - m) r + costN (m - 1) (r + 1) := by
  rw [cost_phi s (r + 1)]
  have o := oft_le (s := s) (r := r + 1) hs (by omega) (by omega)
  cases e : oftN s (r + 1) with
  | zero =>
    have a := cost_nonneg (s := s - m) (r := r) (by omega) h1 (by omega)
    have b := cost_nonneg (s := m - 1) (r := r + 1) (by omega) (by omega) (by omega)
    show (0 : Int) ≤ _
    omega
  | succ t =>
    rw [e] at o
    have a := phi_le (s := s - m) (r := r) (t := t + 1) (by omega) h1 (by omega) (by omega)
    have b := phi_le (s := m - 1) (r := r + 1) (t := t) (by omega) (by omega) (by omega) (by omega)
    have e1 : phi (r + 1) s (t + 1) = ((t + 1 : Nat) : Int) * ((s : Int) + 1) - (waysN (r + 1 + 1) t : Int) := by
      show (if (t + 1 : Nat) = 0 then (0 : Int) else _) = _
      rw [if_neg (by omega)] <;> rfl
    have e2 : phi r (s - m) (t + 1) = ((t + 1 : Nat) : Int) * (((s - m : Nat) : Int) + 1) - (waysN (r + 1) t : Int) := by
      show (if (t + 1 : Nat) = 0 then (0 : Int) else _) = _
      rw [if_neg (by omega)] <;> rfl
    have q1 : ((t + 1 : Nat) : Int) * (((s - m : Nat) : Int) + 1) + ((t + 1 : Nat) : Int) * (m : Int) = ((t + 1 : Nat) : Int) * ((s : Int) + 1) := by
      rw [← Int.mul_add]
      congr 1
      omega
    have e3 : phi (r + 1) (m - 1) t = (t : Int) * (m : Int) - (if t = 0 then 0 else (waysN (r + 1 + 1) (t - 1) : Int)) := by
      show (if t = 0 then (0 : Int) else (t : Int) * (((m - 1 : Nat) : Int) + 1) - _) = _
      by_cases c : t = 0
      · rw [if_pos c, if_pos c, c]
        show (0 : Int) = 0 * (m : Int) - 0
        rw [Int.zero_mul] <;> rfl
      · rw [if_neg c, if_neg c, show (((m - 1 : Nat) : Int) + 1) = (m : Int) by omega]
    have q2 : ((t + 1 : Nat) : Int) * (m : Int) = (t : Int) * (m : Int) + (m : Int) := by
      rw [Int.natCast_add t 1, Int.add_mul]
      show _ + (1 : Int) * _ = _
      rw [Int.one_mul]
    have p : (waysN (r + 1 + 1) t : Int) = (if t = 0 then 0 else (waysN (r + 1 + 1) (t - 1) : Int)) + (waysN (r + 1) t : Int) := by
      cases t with
      | zero =>
        rw [if_pos rfl, ways_zero (r + 1 + 1) (by omega), ways_zero (r + 1) (by omega)] <;> rfl
      | succ t =>
        rw [if_neg (by omega), pascal (r := r + 1) (t := t) (by omega) (by omega), Int.natCast_add] <;> rfl
    omega
/-- one room more never costs more -/
theorem cost_room {s r : Nat} (hs : s ≤ 101) (h1 : 1 ≤ r) (hr : r < 12) : costN s (r + 1) ≤ costN s r := by
  rw [cost_phi s (r + 1)]
  have o := oft_le (s := s) (r := r + 1) hs (by omega) (by omega)
  refine Int.le_trans ?_ (phi_le (t := oftN s (r + 1)) hs h1 (by omega) (by omega))
  unfold phi
  by_cases c : oftN s (r + 1) = 0
  · rw [if_pos c, if_pos c]
    exact Int.le_refl _
  · rw [if_neg c, if_neg c]
    have : waysN (r + 1) (oftN s (r + 1) - 1) ≤ waysN (r + 1 + 1) (oftN s (r + 1) - 1) := by
      have hu : oftN s (r + 1) - 1 < 103 := by omega
      generalize oftN s (r + 1) - 1 = u at hu ⊢
      cases u with
      | zero => rw [ways_zero (r + 1) (by omega), ways_zero (r + 1 + 1) (by omega)]; omega
      | succ t =>
        rw [pascal (r := r + 1) (t := t) (by omega) (by omega)]
        omega
    omega
end BM

/-! ## The table's lines tell the least cost -/
namespace BM
def markN (s r : Nat) : Nat := min (waysN r (oftN s r - 1)) (s + 1 - waysN (r - 1) (oftN s r - 1))
def markOk (s r : Nat) : Bool := s == 0 || (decide (1 ≤ markN s (r + 1)) && decide (markN s (r + 1) ≤ s) && decide (costN s (r + 1) = (markN s (r + 1) : Int) + costN (s - markN s (r + 1)) r + costN (markN s (r + 1) - 1) (r + 1)))
theorem markOk1 : ((List.range 101).all fun s => (List.range 2).all fun r => markOk s (r + 1)) = true := by decide +kernel
theorem markOk2 : ((List.range 101).all fun s => (List.range 4).all fun r => markOk s (r + 3)) = true := by decide +kernel
theorem markOk3 : ((List.range 101).all fun s => (List.range 5).all fun r => markOk s (r + 7)) = true := by decide +kernel
theorem mark_ok {s r : Nat} (hs : s ≤ 100) (h0 : 1 ≤ s) (h1 : 1 ≤ r) (hr : r < 12) : 1 ≤ markN s (r + 1) ∧ markN s (r + 1) ≤ s ∧ costN s (r + 1) = (markN s (r + 1) : Int) + costN (s - markN s (r + 1)) r + costN (markN s (r + 1) - 1) (r + 1) := by
  have h : markOk s r = true := by
    by_cases c : r < 3
    · have := List.all_eq_true.mp (List.all_eq_true.mp markOk1 s (List.mem_range.mpr (by omega))) (r - 1) (List.mem_range.mpr (by omega))
      rw [show r - 1 + 1 = r by omega] at this
      exact this
    · by_cases c2 : r < 7
      · have := List.all_eq_true.mp (List.all_eq_true.mp markOk2 s (List.mem_range.mpr (by omega))) (r - 3) (List.mem_range.mpr (by omega))
        rw [show r - 3 + 3 = r by omega] at this
        exact this
      · have := List.all_eq_true.mp (List.all_eq_true.mp markOk3 s (List.mem_range.mpr (by omega))) (r - 7) (List.mem_range.mpr (by omega))
        rw [show r - 7 + 7 = r by omega] at this
        exact this
  unfold markOk at h
  rw [Bool.or_eq_true] at h
  rcases h with h | h
  · have := eq_of_beq h
    omega
  · simp only [Bool.and_eq_true, decide_eq_true_eq] at h
    exact ⟨h.1.1, h.1.2, h.2⟩
theorem one_ok : ((List.range 101).all fun s => decide (costN s 1 = ((s : Int) * ((s : Int) + 1)) / 2)) = true := by decide +kernel
theorem cost_one {s : Nat} (hs : s ≤ 100) : costN s 1 = ((s : Int) * ((s : Int) + 1)) / 2 :=
  of_decide_eq_true (List.all_eq_true.mp one_ok s (List.mem_range.mpr (by omega)))
theorem best_min {above found : List Int} {many : Nat} {w : Nat → Int} (hw : ∀ j, j < many → ((j : Int) + 1) + above.getD (many - (j + 1)) 0 + found.getD j 0 = w j) :
    ∀ j, j ≤ many → (bestN above found many j = none ∧ j = 0) ∨ ∃ v, bestN above found many j = some v ∧ (∃ i, i < j ∧ v = w i) ∧ ∀ i, i < j → v ≤ w i
  | 0, _ => .inl ⟨rfl, rfl⟩
  | j + 1, h => by
    have e := bestN_succ above found many j
    have ew := hw j (by omega)
    have st : ∀ b, bestStep above found many b j = match b with | none => some (w j) | some v => if w j < v then some (w j) else some v := by
      intro b
      unfold bestStep
      rw [ew]
    rw [st] at e
    rcases best_min hw j (by omega) with ⟨h0, rfl⟩ | ⟨v, hv, ⟨i, hi, hvi⟩, hm⟩
    · rw [h0] at e
      refine .inr ⟨w 0, e, ⟨0, by omega, rfl⟩, fun i hi => ?_⟩
      rw [show i = 0 by omega]
      exact Int.le_refl _
    · rw [hv] at e
      by_cases c : w j < v
      · have e' : bestN above found many (j + 1) = some (w j) := e.trans (if_pos c)
        refine .inr ⟨w j, e', ⟨j, by omega, rfl⟩, fun i' hi' => ?_⟩
        by_cases q : i' = j
        · rw [q]
          exact Int.le_refl _
        · have := hm i' (by omega)
          omega
      · have e' : bestN above found many (j + 1) = some v := e.trans (if_neg c)
        refine .inr ⟨v, e', ⟨i, by omega, hvi⟩, fun i' hi' => ?_⟩
        by_cases q : i' = j
        · rw [q]
          omega
        · exact hm i' (by omega)
def lineC (n r : Nat) : List Int := (List.range (n + 1)).map fun m => costN m r
theorem lineC_get {n r j : Nat} (h : j ≤ n) : (lineC n r).getD j 0 = costN j r := by
  unfold lineC
  rw [List.getD_eq_getElem?_getD, List.getElem?_map, List.getElem?_range (by omega)] <;> rfl
theorem next_line {n r : Nat} (h1 : 1 ≤ r) (hr : r < 12) : ∀ k, k ≤ n → n ≤ 100 → nextN (lineC n r) k = lineC k (r + 1)
  | 0, _, _ => by
    show [(0 : Int)] = [costN 0 (r + 1)]
    have o := oft_le (s := 0) (r := r + 1) (by omega) (by omega) (by omega)
    have e : costN 0 (r + 1) = 0 := by
      unfold costN
      rw [if_pos (by omega)]
    rw [e]
  | k + 1, hk, hn => by
    have ih := next_line h1 hr k (by omega) hn
    have e : lineC (k + 1) (r + 1) = lineC k (r + 1) ++ [costN (k + 1) (r + 1)] := by
      unfold lineC
      rw [List.range_succ (n := k + 1), List.map_append] <;> rfl
    show nextN (lineC n r) k ++ [(bestN (lineC n r) (nextN (lineC n r) k) (k + 1) (k + 1)).getD 0] = _
    rw [ih, e]
    have hw : ∀ j, j < k + 1 → ((j : Int) + 1) + (lineC n r).getD (k + 1 - (j + 1)) 0 + (lineC k (r + 1)).getD j 0 = ((j : Int) + 1) + costN (k + 1 - (j + 1)) r + costN j (r + 1) := fun j hj => by
      rw [lineC_get (by omega), lineC_get (by omega)]
    rcases best_min hw (k + 1) (Nat.le_refl _) with ⟨_, h0⟩ | ⟨v, hv, ⟨i, hi, hvi⟩, hm⟩
    · omega
    · rw [hv]
      obtain ⟨m1, m2, m3⟩ := mark_ok (s := k + 1) (r := r) (by omega) (by omega) h1 hr
      have a := hm (markN (k + 1) (r + 1) - 1) (by omega)
      have b := cost_mark (s := k + 1) (r := r) (m := i + 1) (by omega) h1 hr (by omega) (by omega)
      rw [show markN (k + 1) (r + 1) - 1 + 1 = markN (k + 1) (r + 1) by omega] at a
      rw [show i + 1 - 1 = i by omega] at b
      have ev : v = costN (k + 1) (r + 1) := by omega
      rw [ev] <;> rfl
theorem lineK_eq {n : Nat} (hn : n ≤ 100) : ∀ k, k < 12 → lineK n k = lineC n (k + 1)
  | 0, _ => by
    show lineOne n = lineC n 1
    unfold lineOne lineC
    refine List.map_congr_left fun m hm => ?_
    exact (cost_one (by have := List.mem_range.mp hm; omega)).symm
  | k + 1, hk => by
    show nextN (lineK n k) n = lineC n (k + 1 + 1)
    rw [lineK_eq hn k (by omega)]
    exact next_line (by omega) (by omega) n (Nat.le_refl _) hn
end BM

/-! ## Deeds and plans, in plain Lean -/
namespace BM
inductive Deed where
  | keep | meet | take (p : Nat) | drop (p : Nat) | go (n : Nat)
  deriving DecidableEq
def aPre (start steps : Nat) : Nat → List Deed
  | 0 => []
  | i + 1 => aPre start steps i ++ [.go (steps - i), .meet, .take start]
def againN (start steps : Nat) : List Deed := aPre start steps steps ++ [.meet]
def fromN : Nat → Nat → Nat → Nat → List Deed
  | 0, _, _, _ => []
  | k + 1, start, steps, room => if steps = 0 ∨ room = 1 then againN start steps else
      ([.go (markN steps room), .keep] ++ fromN k (start + markN steps room) (steps - markN steps room) (room - 1) ++ [.drop (start + markN steps room), .take start]) ++ fromN k start (markN steps room - 1) room
def planN (steps room : Nat) : List Deed := if steps = 0 then [.meet] else [.keep] ++ fromN 101 0 steps room
def costD1 : Deed → Nat
  | .go n => n
  | _ => 0
def costD (ds : List Deed) : Nat := (ds.map costD1).sum
def mostStep (s : Int × Int) : Deed → Int × Int
  | .keep => (s.1 + 1, max s.2 (s.1 + 1))
  | .drop _ => (s.1 - 1, max s.2 (s.1 - 1))
  | _ => (s.1, max s.2 s.1)
def mostD (ds : List Deed) : Int := (ds.foldl mostStep (0, 0)).2
/-- a hand with its kept places -/
structure WSt where
  pl : Nat
  mks : List Nat
  wa : Int
  co : Nat
  mo : Nat
  deriving DecidableEq
def stepW (n R : Nat) (s : WSt) : Deed → Option WSt
  | .keep => if s.pl ∉ s.mks ∧ s.mks.length < R then some { s with mks := s.mks ++ [s.pl], mo := max s.mo (s.mks.length + 1) } else none
  | .meet => if (s.pl : Int) = s.wa then some { s with wa := s.wa - 1 } else none
  | .go m => if 0 < m ∧ s.pl + m ≤ n then some { s with pl := s.pl + m, co := s.co + m } else none
  | .take p => if p ∈ s.mks then some { s with pl := p } else none
  | .drop p => if p ∈ s.mks then some { s with mks := s.mks.filter (· ≠ p) } else none
def runW (n R : Nat) : List Deed → WSt → Option WSt
  | [], s => some s
  | d :: ds, s => (stepW n R s d).bind (runW n R ds)
theorem ite_some {α : Type} {c : Prop} [Decidable c] {x u : α} (h : (if c then some x else none) = some u) : c ∧ x = u := by
  by_cases q : c
  · rw [if_pos q] at h
    exact ⟨q, Option.some.inj h⟩
  · rw [if_neg q] at h
    cases h
theorem runW_append (n R : Nat) : ∀ (ds es : List Deed) (s : WSt), runW n R (ds ++ es) s = (runW n R ds s).bind (runW n R es)
  | [], _, _ => rfl
  | d :: ds, es, s => by
    show (stepW n R s d).bind (runW n R (ds ++ es)) = ((stepW n R s d).bind (runW n R ds)).bind (runW n R es)
    cases stepW n R s d with
    | none => rfl
    | some t => exact runW_append n R ds es t
theorem costD_append (ds es : List Deed) : costD (ds ++ es) = costD ds + costD es := by
  unfold costD
  rw [List.map_append, List.sum_append]
theorem runW_cost {n R : Nat} : ∀ {ds : List Deed} {s t : WSt}, runW n R ds s = some t → t.co = s.co + costD ds
  | [], s, t, h => by
    have e : s = t := Option.some.inj h
    rw [e]
    show t.co = t.co + 0
    omega
  | d :: ds, s, t, h => by
    have h : (stepW n R s d).bind (runW n R ds) = some t := h
    cases e : stepW n R s d with
    | none => rw [e] at h; cases h
    | some u =>
      rw [e] at h
      have ih := runW_cost (s := u) h
      have e2 : u.co = s.co + costD1 d := by
        cases d with
        | keep => obtain ⟨_, rfl⟩ := ite_some (α := WSt) e; rfl
        | meet => obtain ⟨_, rfl⟩ := ite_some (α := WSt) e; rfl
        | go m => obtain ⟨_, rfl⟩ := ite_some (α := WSt) e; rfl
        | take p => obtain ⟨_, rfl⟩ := ite_some (α := WSt) e; rfl
        | drop p => obtain ⟨_, rfl⟩ := ite_some (α := WSt) e; rfl
      have e3 : costD (d :: ds) = costD1 d + costD ds := by
        unfold costD
        rw [List.map_cons, List.sum_cons]
      omega
theorem filter_len_drop {p : Nat} : ∀ {l : List Nat}, l.Nodup → p ∈ l → (l.filter (· ≠ p)).length + 1 = l.length
  | [], _, h => by cases h
  | x :: r, hn, h => by
    obtain ⟨h1, h2⟩ := List.nodup_cons.mp hn
    by_cases e : x = p
    · subst e
      have q : r.filter (· ≠ x) = r := List.filter_eq_self.mpr fun y hy => decide_eq_true fun z => h1 (z ▸ hy)
      rw [List.filter_cons, if_neg (by simp), q] <;> rfl
    · have hm : p ∈ r := by
        rcases List.mem_cons.mp h with z | z
        · exact absurd z.symm e
        · exact z
      have ih := filter_len_drop h2 hm
      rw [List.filter_cons, if_pos (decide_eq_true e), List.length_cons, List.length_cons]
      omega
theorem nodup_snoc {l : List Nat} {x : Nat} (h : l.Nodup) (hx : x ∉ l) : (l ++ [x]).Nodup := by
  rw [List.nodup_append]
  refine ⟨h, by simp, ?_⟩
  intro a ha b hb
  rw [List.mem_singleton.mp hb]
  rintro rfl
  exact hx ha
/-- the count of the kept ones goes along -/
theorem runW_most {n R : Nat} : ∀ {ds : List Deed} {s t : WSt} {m : Int × Int}, runW n R ds s = some t → s.mks.Nodup → m.1 = (s.mks.length : Int) → m.2 = (s.mo : Int) → s.mks.length ≤ s.mo → (ds.foldl mostStep m).2 = (t.mo : Int)
  | [], s, t, m, h, _, _, h2, _ => by
    have e : s = t := Option.some.inj h
    rw [← e]
    exact h2
  | d :: ds, s, t, m, h, hn, h1, h2, h3 => by
    have h : (stepW n R s d).bind (runW n R ds) = some t := h
    cases e : stepW n R s d with
    | none => rw [e] at h; cases h
    | some u =>
      rw [e] at h
      have key : u.mks.Nodup ∧ (mostStep m d).1 = (u.mks.length : Int) ∧ (mostStep m d).2 = (u.mo : Int) ∧ u.mks.length ≤ u.mo := by
        cases d with
        | keep =>
          obtain ⟨c, rfl⟩ := ite_some (α := WSt) e
          refine ⟨nodup_snoc hn c.1, ?_, ?_, ?_⟩
          · show m.1 + 1 = ((s.mks ++ [s.pl]).length : Int)
            rw [List.length_append, h1] <;> rfl
          · show max m.2 (m.1 + 1) = ((max s.mo (s.mks.length + 1) : Nat) : Int)
            omega
          · show (s.mks ++ [s.pl]).length ≤ max s.mo (s.mks.length + 1)
            rw [List.length_append]
            show s.mks.length + 1 ≤ _
            omega
        | meet =>
          obtain ⟨c, rfl⟩ := ite_some (α := WSt) e
          refine ⟨hn, h1, ?_, h3⟩
          show max m.2 m.1 = (s.mo : Int)
          omega
        | go k =>
          obtain ⟨c, rfl⟩ := ite_some (α := WSt) e
          refine ⟨hn, h1, ?_, h3⟩
          show max m.2 m.1 = (s.mo : Int)
          omega
        | take p =>
          obtain ⟨c, rfl⟩ := ite_some (α := WSt) e
          refine ⟨hn, h1, ?_, h3⟩
          show max m.2 m.1 = (s.mo : Int)
          omega
        | drop p =>
          obtain ⟨c, rfl⟩ := ite_some (α := WSt) e
          have fl := filter_len_drop hn c
          refine ⟨hn.filter _, ?_, ?_, ?_⟩
          · show m.1 - 1 = ((s.mks.filter (· ≠ p)).length : Int)
            omega
          · show max m.2 (m.1 - 1) = (s.mo : Int)
            omega
          · show (s.mks.filter (· ≠ p)).length ≤ s.mo
            omega
      exact runW_most (s := u) (m := mostStep m d) h key.1 key.2.1 key.2.2.1 key.2.2.2
theorem filter_last {M : List Nat} {x : Nat} (hx : x ∉ M) : (M ++ [x]).filter (· ≠ x) = M := by
  rw [List.filter_append, List.filter_cons, if_neg (by simp), List.filter_nil, List.append_nil]
  exact List.filter_eq_self.mpr fun y hy => decide_eq_true fun z => hx (z ▸ hy)
theorem again_run {n R start : Nat} {M : List Nat} {mo : Nat} (hM : start ∈ M) : ∀ steps i co, i ≤ steps → start + steps ≤ n →
    ∃ c, runW n R (aPre start steps i) { pl := start, mks := M, wa := ((start + steps : Nat) : Int), co := co, mo := mo } = some { pl := start, mks := M, wa := ((start + steps : Nat) : Int) - (i : Int), co := c, mo := mo }
  | steps, 0, co, _, _ => ⟨co, by show some _ = some _; simp⟩
  | steps, i + 1, co, hi, hn => by
    obtain ⟨c, ih⟩ := again_run hM steps i co (by omega) hn
    refine ⟨c + (steps - i), ?_⟩
    show runW n R (aPre start steps i ++ [.go (steps - i), .meet, .take start]) _ = _
    rw [runW_append, ih]
    show ((stepW n R _ (.go (steps - i))).bind fun s => (stepW n R s .meet).bind fun s => (stepW n R s (.take start)).bind fun s => some s) = _
    have e1 : stepW n R { pl := start, mks := M, wa := ((start + steps : Nat) : Int) - (i : Int), co := c, mo := mo } (.go (steps - i)) = some { pl := start + (steps - i), mks := M, wa := ((start + steps : Nat) : Int) - (i : Int), co := c + (steps - i), mo := mo } := by
      show (if 0 < steps - i ∧ start + (steps - i) ≤ n then _ else _) = _
      rw [if_pos ⟨by omega, by omega⟩]
    have e2 : stepW n R { pl := start + (steps - i), mks := M, wa := ((start + steps : Nat) : Int) - (i : Int), co := c + (steps - i), mo := mo } .meet = some { pl := start + (steps - i), mks := M, wa := ((start + steps : Nat) : Int) - (i : Int) - 1, co := c + (steps - i), mo := mo } := by
      show (if ((start + (steps - i) : Nat) : Int) = ((start + steps : Nat) : Int) - (i : Int) then _ else _) = _
      rw [if_pos (by omega)]
    have e3 : stepW n R { pl := start + (steps - i), mks := M, wa := ((start + steps : Nat) : Int) - (i : Int) - 1, co := c + (steps - i), mo := mo } (.take start) = some { pl := start, mks := M, wa := ((start + steps : Nat) : Int) - (i : Int) - 1, co := c + (steps - i), mo := mo } := if_pos hM
    rw [e1]
    show ((stepW n R _ .meet).bind _) = _
    rw [e2]
    show ((stepW n R _ (.take start)).bind _) = _
    rw [e3]
    show some _ = some _
    congr 2
    omega
theorem aPre_cost (start steps : Nat) : ∀ i, i ≤ steps → (2 * costD (aPre start steps i) : Nat) + i * i = i * (2 * steps + 1)
  | 0, _ => by
    show 2 * 0 + 0 * 0 = 0 * (2 * steps + 1)
    simp
  | i + 1, h => by
    have ih := aPre_cost start steps i (by omega)
    have e : costD (aPre start steps (i + 1)) = costD (aPre start steps i) + (steps - i) := by
      show costD (aPre start steps i ++ [.go (steps - i), .meet, .take start]) = _
      rw [costD_append]
      show _ + ((steps - i) + (0 + (0 + 0))) = _
      omega
    rw [e]
    have q1 : (i + 1) * (i + 1) = i * i + 2 * i + 1 := by
      rw [Nat.add_mul, Nat.mul_add, Nat.one_mul, Nat.mul_one]
      omega
    have q2 : (i + 1) * (2 * steps + 1) = i * (2 * steps + 1) + 2 * steps + 1 := by
      rw [Nat.add_mul, Nat.one_mul]
      omega
    omega
theorem again_cost {start steps : Nat} (hs : steps ≤ 100) : (costD (againN start steps) : Int) = costN steps 1 := by
  rw [cost_one hs]
  unfold againN
  have h := aPre_cost start steps steps (Nat.le_refl _)
  rw [costD_append]
  have e : costD [Deed.meet] = 0 := rfl
  rw [e]
  have q : steps * (2 * steps + 1) = 2 * (steps * steps) + steps := by
    rw [Nat.mul_add, Nat.mul_one, Nat.mul_left_comm]
  have q2 : (steps : Int) * ((steps : Int) + 1) = ((steps * steps + steps : Nat) : Int) := by
    rw [Int.mul_add, Int.mul_one, Int.natCast_add, Int.natCast_mul]
  rw [q2]
  omega
/-- the plan's deeds from a kept place on: all from the end down to it are met, and what was kept is kept -/
theorem from_run {n R : Nat} : ∀ k start steps room (M : List Nat) (co mo : Nat), steps < k → 1 ≤ room → room ≤ 12 → steps ≤ 100 → start + steps ≤ n → start ∈ M → (∀ x ∈ M, x ≤ start) → M.length + room ≤ R + 1 →
    ∃ c m, runW n R (fromN k start steps room) { pl := start, mks := M, wa := ((start + steps : Nat) : Int), co := co, mo := mo } = some { pl := start, mks := M, wa := (start : Int) - 1, co := c, mo := m }
  | 0, _, steps, _, _, _, _, h, _, _, _, _, _, _, _ => by omega
  | k + 1, start, steps, room, M, co, mo, hk, h1, h2, h3, h4, hM, hU, hR => by
    by_cases c : steps = 0 ∨ room = 1
    · obtain ⟨c', e⟩ := again_run (n := n) (R := R) (mo := mo) hM steps steps co (Nat.le_refl _) h4
      refine ⟨c', mo, ?_⟩
      show runW n R (if steps = 0 ∨ room = 1 then againN start steps else _) _ = _
      rw [if_pos c]
      unfold againN
      rw [runW_append, e]
      show (stepW n R _ .meet).bind (fun s => some s) = _
      have e2 : stepW n R { pl := start, mks := M, wa := ((start + steps : Nat) : Int) - (steps : Int), co := c', mo := mo } .meet = some { pl := start, mks := M, wa := ((start + steps : Nat) : Int) - (steps : Int) - 1, co := c', mo := mo } := by
        show (if ((start : Nat) : Int) = ((start + steps : Nat) : Int) - (steps : Int) then _ else _) = _
        rw [if_pos (by omega)]
      rw [e2]
      show some _ = some _
      congr 2
      omega
    · obtain ⟨m1, m2, _⟩ := mark_ok (s := steps) (r := room - 1) h3 (by omega) (by omega) (by omega)
      rw [show room - 1 + 1 = room by omega] at m1 m2
      have hx : start + markN steps room ∉ M := fun z => by
        have := hU _ z
        omega
      show ∃ c m, runW n R (if steps = 0 ∨ room = 1 then againN start steps else _) _ = _
      rw [if_neg c]
      obtain ⟨c1, q1, e1⟩ := from_run (n := n) (R := R) k (start + markN steps room) (steps - markN steps room) (room - 1) (M ++ [start + markN steps room]) (co + markN steps room) (max mo (M.length + 1)) (by omega) (by omega) (by omega) (by omega) (by omega) (by simp) (fun x hx => by
        rcases List.mem_append.mp hx with z | z
        · have := hU x z
          omega
        · rw [List.mem_singleton.mp z]
          exact Nat.le_refl _) (by rw [List.length_append]; show M.length + 1 + (room - 1) ≤ R + 1; omega)
      obtain ⟨c2, q2, e2⟩ := from_run (n := n) (R := R) k start (markN steps room - 1) room M c1 q1 (by omega) h1 h2 (by omega) (by omega) hM hU hR
      refine ⟨c2, q2, ?_⟩
      rw [List.append_assoc, List.append_assoc, runW_append]
      have s1 : runW n R [.go (markN steps room), .keep] { pl := start, mks := M, wa := ((start + steps : Nat) : Int), co := co, mo := mo } = some { pl := start + markN steps room, mks := M ++ [start + markN steps room], wa := ((start + steps : Nat) : Int), co := co + markN steps room, mo := max mo (M.length + 1) } := by
        show (stepW n R _ (.go (markN steps room))).bind (fun s => (stepW n R s .keep).bind fun s => some s) = _
        have a1 : stepW n R { pl := start, mks := M, wa := ((start + steps : Nat) : Int), co := co, mo := mo } (.go (markN steps room)) = some { pl := start + markN steps room, mks := M, wa := ((start + steps : Nat) : Int), co := co + markN steps room, mo := mo } := if_pos ⟨by omega, by show start + markN steps room ≤ n; omega⟩
        have a2 : stepW n R { pl := start + markN steps room, mks := M, wa := ((start + steps : Nat) : Int), co := co + markN steps room, mo := mo } .keep = some { pl := start + markN steps room, mks := M ++ [start + markN steps room], wa := ((start + steps : Nat) : Int), co := co + markN steps room, mo := max mo (M.length + 1) } := if_pos ⟨hx, by show M.length < R; omega⟩
        rw [a1]
        show (stepW n R _ .keep).bind _ = _
        rw [a2] <;> rfl
      rw [s1]
      show runW n R (fromN k (start + markN steps room) (steps - markN steps room) (room - 1) ++ ([.drop (start + markN steps room), .take start] ++ fromN k start (markN steps room - 1) room)) _ = _
      rw [runW_append]
      rw [show ((start + markN steps room + (steps - markN steps room) : Nat) : Int) = ((start + steps : Nat) : Int) by omega] at e1
      rw [e1]
      show runW n R ([.drop (start + markN steps room), .take start] ++ fromN k start (markN steps room - 1) room) _ = _
      rw [runW_append]
      have s2 : runW n R [.drop (start + markN steps room), .take start] { pl := start + markN steps room, mks := M ++ [start + markN steps room], wa := ((start + markN steps room : Nat) : Int) - 1, co := c1, mo := q1 } = some { pl := start, mks := M, wa := ((start + markN steps room : Nat) : Int) - 1, co := c1, mo := q1 } := by
        show (stepW n R _ (.drop (start + markN steps room))).bind (fun s => (stepW n R s (.take start)).bind fun s => some s) = _
        have a1 : stepW n R { pl := start + markN steps room, mks := M ++ [start + markN steps room], wa := ((start + markN steps room : Nat) : Int) - 1, co := c1, mo := q1 } (.drop (start + markN steps room)) = some { pl := start + markN steps room, mks := M, wa := ((start + markN steps room : Nat) : Int) - 1, co := c1, mo := q1 } := by
          show (if _ then _ else _) = _
          rw [if_pos (by simp), filter_last hx]
        have a2 : stepW n R { pl := start + markN steps room, mks := M, wa := ((start + markN steps room : Nat) : Int) - 1, co := c1, mo := q1 } (.take start) = some { pl := start, mks := M, wa := ((start + markN steps room : Nat) : Int) - 1, co := c1, mo := q1 } := if_pos hM
        rw [a1]
        show (stepW n R _ (.take start)).bind _ = _
        rw [a2] <;> rfl
      rw [s2]
      show runW n R (fromN k start (markN steps room - 1) room) _ = _
      rw [show ((start + markN steps room : Nat) : Int) - 1 = ((start + (markN steps room - 1) : Nat) : Int) by omega]
      exact e2
theorem from_cost : ∀ k start steps room, steps < k → 1 ≤ room → room ≤ 12 → steps ≤ 100 → (costD (fromN k start steps room) : Int) = costN steps room
  | 0, _, steps, _, h, _, _, _ => by omega
  | k + 1, start, steps, room, hk, h1, h2, h3 => by
    show (costD (if steps = 0 ∨ room = 1 then againN start steps else _) : Int) = _
    by_cases c : steps = 0 ∨ room = 1
    · rw [if_pos c, again_cost h3]
      rcases c with c | c
      · have z : ∀ r, 1 ≤ r → r ≤ 12 → costN 0 r = 0 := fun r q1 q2 => by
          have o := oft_le (s := 0) (r := r) (by omega) q1 (by omega)
          unfold costN
          rw [if_pos (by omega)]
        rw [c, z 1 (by omega) (by omega), z room h1 h2]
      · rw [c]
    · rw [if_neg c]
      obtain ⟨m1, m2, m3⟩ := mark_ok (s := steps) (r := room - 1) h3 (by omega) (by omega) (by omega)
      rw [show room - 1 + 1 = room by omega] at m1 m2 m3
      have i1 := from_cost k (start + markN steps room) (steps - markN steps room) (room - 1) (by omega) (by omega) (by omega) (by omega)
      have i2 := from_cost k start (markN steps room - 1) room (by omega) h1 h2 (by omega)
      rw [costD_append, costD_append, costD_append]
      have a : costD [Deed.go (markN steps room), Deed.keep] = markN steps room := rfl
      have b : costD [Deed.drop (start + markN steps room), Deed.take start] = 0 := rfl
      rw [a, b, m3, Int.natCast_add, Int.natCast_add, Int.natCast_add, i1, i2]
      omega
def wst0 (n : Nat) : WSt := { pl := 0, mks := [], wa := (n : Int), co := 0, mo := 0 }
/-- the plan meets all, at the least cost -/
theorem plan_run {s r : Nat} (hs : s ≤ 100) (h1 : 1 ≤ r) (h2 : r ≤ 12) : ∃ t, runW s r (planN s r) (wst0 s) = some t ∧ t.wa = -1 ∧ (t.co : Int) = costN s r ∧ t.pl = 0 := by
  unfold planN
  by_cases c : s = 0
  · rw [if_pos c]
    have o := oft_le (s := 0) (r := r) (by omega) h1 (by omega)
    have z : costN 0 r = 0 := by
      unfold costN
      rw [if_pos (by omega)]
    rw [c, z]
    exact ⟨{ pl := 0, mks := [], wa := -1, co := 0, mo := 0 }, rfl, rfl, rfl, rfl⟩
  · rw [if_neg c, runW_append]
    have a : runW s r [.keep] (wst0 s) = some { pl := 0, mks := [0], wa := (s : Int), co := 0, mo := 1 } := by
      show (stepW s r (wst0 s) .keep).bind (fun s => some s) = _
      have : stepW s r (wst0 s) .keep = some { pl := 0, mks := [0], wa := (s : Int), co := 0, mo := 1 } := if_pos ⟨by simp [wst0], by show 0 < r; omega⟩
      rw [this] <;> rfl
    obtain ⟨c', m, e⟩ := from_run (n := s) (R := r) 101 0 s r [0] 0 1 (by omega) h1 h2 hs (by omega) (by simp) (fun x hx => by rw [List.mem_singleton.mp hx]; exact Nat.le_refl _) (by show 1 + r ≤ r + 1; omega)
    rw [Nat.zero_add] at e
    refine ⟨_, by rw [a]; exact e, rfl, ?_, rfl⟩
    have q := runW_cost e
    have fc := from_cost 101 0 s r (by omega) h1 h2 hs
    show (c' : Int) = _
    have q' : c' = 0 + costD (fromN 101 0 s r) := q
    rw [q', Nat.zero_add]
    exact fc
end BM

/-! ## Deeds as they stand in memory -/
namespace BM
open PySem PySem.Spec PyProof.Rows L2
def Deed.word : Deed → Str
  | .keep => "keep"
  | .meet => "meet"
  | .take _ => "take"
  | .drop _ => "drop"
  | .go _ => "go"
def Deed.vs : Deed → List V
  | .keep => [.str "keep"]
  | .meet => [.str "meet"]
  | .take p => [.str "take", .int (p : Int)]
  | .drop p => [.str "drop", .int (p : Int)]
  | .go n => [.str "go", .int (n : Int)]
theorem Deed.at0 (d : Deed) : atI d.vs 0 = some (.str d.word) := by cases d <;> rfl
def DS (H : Hp) (ps : List (Addr × Deed)) : Prop := ∀ q ∈ ps, H q.1 = some (.tup q.2.vs)
def refs (ps : List (Addr × Deed)) : List V := ps.map fun q => V.ref q.1
theorem DS.same {H H' : Hp} {ps : List (Addr × Deed)} (e : Same H H') (h : DS H ps) : DS H' ps := fun q hq => e _ _ (h q hq)
theorem DS.append {H : Hp} {ps qs : List (Addr × Deed)} (h : DS H ps) (h' : DS H qs) : DS H (ps ++ qs) := fun q hq => (List.mem_append.mp hq).elim (h q) (h' q)
theorem refs_append (ps qs : List (Addr × Deed)) : refs (ps ++ qs) = refs ps ++ refs qs := List.map_append
theorem refs_len (ps : List (Addr × Deed)) : (refs ps).length = ps.length := List.length_map ..
/-- a new list of deeds is told -/
def RetD (H : Hp) (ds : List Deed) (Q : VK) : Prop := ∀ (p : Addr) (H' : Hp) (ps : List (Addr × Deed)), H p = none → Same H H' → ps.map (·.2) = ds → H' p = some (.lst (refs ps)) → DS H' ps → Q (.ref p) H'
theorem len_of {ps : List (Addr × Deed)} {ds : List Deed} (h : ps.map (·.2) = ds) : ps.length = ds.length := by rw [← h, List.length_map]
theorem aPre_len (start steps : Nat) : ∀ i, (aPre start steps i).length = 3 * i
  | 0 => rfl
  | i + 1 => by
    show (aPre start steps i ++ _).length = _
    rw [List.length_append, aPre_len start steps i]
    show 3 * i + 3 = _
    omega
theorem again_len (start steps : Nat) : (againN start steps).length = 3 * steps + 1 := by
  unfold againN
  rw [List.length_append, aPre_len] <;> rfl
theorem from_len : ∀ k a steps room, steps < k → 1 ≤ room → room ≤ 12 → steps ≤ 100 → (fromN k a steps room).length ≤ 5 * steps + 1
  | 0, _, steps, _, h, _, _, _ => by omega
  | k + 1, a, steps, room, hk, h1, h2, h3 => by
    show (if steps = 0 ∨ room = 1 then againN a steps else _).length ≤ _
    by_cases c : steps = 0 ∨ room = 1
    · rw [if_pos c, again_len]
      omega
    · rw [if_neg c]
      obtain ⟨m1, m2, _⟩ := mark_ok (s := steps) (r := room - 1) h3 (by omega) (by omega) (by omega)
      rw [show room - 1 + 1 = room by omega] at m1 m2
      have i1 := from_len k (a + markN steps room) (steps - markN steps room) (room - 1) (by omega) (by omega) (by omega) (by omega)
      have i2 := from_len k a (markN steps room - 1) room (by omega) h1 h2 (by omega)
      simp only [List.length_append, List.length_cons, List.length_nil]
      omega
theorem plan_len {s r : Nat} (hs : s ≤ 100) (h1 : 1 ≤ r) (h2 : r ≤ 12) : (planN s r).length ≤ 600 := by
  unfold planN
  by_cases c : s = 0
  · rw [if_pos c]
    show 1 ≤ 600
    omega
  · rw [if_neg c, List.length_append]
    have := from_len 101 0 s r (by omega) h1 h2 hs
    show 1 + _ ≤ 600
    omega
def goes : List Deed → List Int
  | [] => []
  | .go n :: ds => (n : Int) :: goes ds
  | _ :: ds => goes ds
theorem goes_snoc : ∀ (ds : List Deed) (d : Deed), goes (ds ++ [d]) = goes ds ++ (match d with | .go n => [(n : Int)] | _ => [])
  | [], d => by cases d <;> rfl
  | e :: ds, d => by
    have ih := goes_snoc ds d
    cases e with
    | go n =>
      show (n : Int) :: goes (ds ++ [d]) = (n : Int) :: goes ds ++ _
      rw [ih] <;> rfl
    | keep => exact ih
    | meet => exact ih
    | take _ => exact ih
    | drop _ => exact ih
theorem goes_sum : ∀ ds : List Deed, (goes ds).sum = (costD ds : Int)
  | [] => rfl
  | e :: ds => by
    have ih := goes_sum ds
    have c : costD (e :: ds) = costD1 e + costD ds := by
      unfold costD
      rw [List.map_cons, List.sum_cons]
    rw [c]
    cases e with
    | go n =>
      show ((n : Int) :: goes ds).sum = ((n + costD ds : Nat) : Int)
      rw [List.sum_cons, ih, Int.natCast_add]
    | keep => show (goes ds).sum = ((0 + costD ds : Nat) : Int); rw [Nat.zero_add]; exact ih
    | meet => show (goes ds).sum = ((0 + costD ds : Nat) : Int); rw [Nat.zero_add]; exact ih
    | take _ => show (goes ds).sum = ((0 + costD ds : Nat) : Int); rw [Nat.zero_add]; exact ih
    | drop _ => show (goes ds).sum = ((0 + costD ds : Nat) : Int); rw [Nat.zero_add]; exact ih
theorem goes_len : ∀ ds : List Deed, (goes ds).length ≤ ds.length
  | [] => Nat.le_refl _
  | e :: ds => by
    have ih := goes_len ds
    cases e with
    | go n => exact Nat.succ_le_succ ih
    | keep => exact Nat.le_succ_of_le ih
    | meet => exact Nat.le_succ_of_le ih
    | take _ => exact Nat.le_succ_of_le ih
    | drop _ => exact Nat.le_succ_of_le ih
theorem max_if (a b : Int) : (if b > a then b else a) = max a b := by
  by_cases h : b > a
  · rw [if_pos h]; omega
  · rw [if_neg h]; omega
end BM

/-! ## Rules and things, as they stand in memory -/
namespace BM
open PySem PySem.Spec PyProof.Rows L2
inductive Rule where
  | add (k : Nat) | times (k : Nat) | square | half
def Rule.word : Rule → Str
  | .add _ => "add"
  | .times _ => "times"
  | .square => "square"
  | .half => "half"
def Rule.vs : Rule → List V
  | .add k => [.str "add", .int (k : Int)]
  | .times k => [.str "times", .int (k : Int)]
  | .square => [.str "square"]
  | .half => [.str "half"]
def Rule.ok : Rule → Prop
  | .add k => k < 999983
  | .times k => k < 999983
  | _ => True
theorem Rule.at0 (r : Rule) : atI r.vs 0 = some (.str r.word) := by cases r <;> rfl
def forthN : Rule → Nat → Nat
  | .add k, s => (s + k) % 999983
  | .times k, s => s * k % 999983
  | .square, s => s * s % 999983
  | .half, s => s / 2
theorem forthN_lt (r : Rule) {s : Nat} (h : s < 999983) : forthN r s < 999983 := by
  cases r with
  | add k => exact Nat.mod_lt _ (by decide)
  | times k => exact Nat.mod_lt _ (by decide)
  | square => exact Nat.mod_lt _ (by decide)
  | half =>
    show s / 2 < 999983
    omega
/-- a thing, and whether it is a rule -/
inductive RuleTh (K : PySem.W.Frag) (H : Hp) : V → Bool → Prop where
  | ntup {x : V} {t : Value} (ty : TyX K H x t) (ni : PySem.W.kitOne K t (.type "tuple") = some false) : RuleTh K H x false
  | nil {q : Addr} (h : H q = some (.tup [])) : RuleTh K H (.ref q) false
  | nstr {q : Addr} {v : V} {r : List V} {t : Value} (h : H q = some (.tup (v :: r))) (ty : TyX K H v t) (ni : PySem.W.kitOne K t (.type "str") = some false) : RuleTh K H (.ref q) false
  | two {q : Addr} {w : Str} {r : List V} (h : H q = some (.tup (.str w :: r))) (hw : w = "add" ∨ w = "times") (hl : r.length ≠ 1) : RuleTh K H (.ref q) false
  | num {q : Addr} {w : Str} {v : V} {o : Option Int} (h : H q = some (.tup [.str w, v])) (hw : w = "add" ∨ w = "times") (th : Thg K H v o) : RuleTh K H (.ref q) (among o 0 999982)
  | one {q : Addr} {w : Str} {r : List V} {b : Bool} (h : H q = some (.tup (.str w :: r))) (h1 : w ≠ "add") (h2 : w ≠ "times") (hb : b = (decide (r = []) && (decide (w = "square") || decide (w = "half")))) : RuleTh K H (.ref q) b
theorem RuleTh.same {K : PySem.W.Frag} {H H' : Hp} {x : V} {b : Bool} (e : Same H H') (h : RuleTh K H x b) : RuleTh K H' x b := by
  cases h with
  | ntup ty ni => exact .ntup (tyX_same e ty) ni
  | nil h => exact .nil (e _ _ h)
  | nstr h ty ni => exact .nstr (e _ _ h) (tyX_same e ty) ni
  | two h hw hl => exact .two (e _ _ h) hw hl
  | num h hw th => exact .num (e _ _ h) hw (th.same e)
  | one h h1 h2 hb => exact .one (e _ _ h) h1 h2 hb
theorem Rule.th {K : PySem.W.Frag} {H : Hp} {q : Addr} (r : Rule) (ok : r.ok) (h : H q = some (.tup r.vs)) : RuleTh K H (.ref q) true := by
  cases r with
  | add k =>
    have e : among (some (k : Int)) 0 999982 = true := by
      have h : k < 999983 := ok
      show (decide ((0 : Int) ≤ (k : Int)) && decide ((k : Int) ≤ 999982)) = true
      simp only [Bool.and_eq_true, decide_eq_true_eq]
      omega
    rw [← e]
    exact .num h (.inl rfl) (.int _)
  | times k =>
    have e : among (some (k : Int)) 0 999982 = true := by
      have h : k < 999983 := ok
      show (decide ((0 : Int) ≤ (k : Int)) && decide ((k : Int) ≤ 999982)) = true
      simp only [Bool.and_eq_true, decide_eq_true_eq]
      omega
    rw [← e]
    exact .num h (.inr rfl) (.int _)
  | square => exact .one h (by decide +kernel) (by decide +kernel) (by decide +kernel)
  | half => exact .one h (by decide +kernel) (by decide +kernel) (by decide +kernel)
/-- a new rule is told -/
def RetR (H : Hp) (Q : VK) : Prop := ∀ (r : Rule) (p : Addr) (H' : Hp), r.ok → H p = none → Same H H' → H' p = some (.tup r.vs) → Q (.ref p) H'
end BM

/-! ## Walkers: what they are between two deeds -/
namespace BM
open PySem PySem.Spec PyProof.Rows L2
def lastN (s : Nat) (rs : List Rule) : Nat := rs.foldl (fun s r => forthN r s) s
theorem lastN_lt {rs : List Rule} : ∀ {s : Nat}, s < 999983 → lastN s rs < 999983 := by
  induction rs with
  | nil => intro s h; exact h
  | cons r rs ih => intro s h; exact ih (forthN_lt r h)
theorem lastN_snoc (s : Nat) (rs : List Rule) (r : Rule) : lastN s (rs ++ [r]) = forthN r (lastN s rs) := by
  unfold lastN
  rw [List.foldl_append] <;> rfl
theorem lastN_append (s : Nat) (rs qs : List Rule) : lastN s (rs ++ qs) = lastN (lastN s rs) qs := by
  unfold lastN
  rw [List.foldl_append]
structure WK where
  pl : Nat
  st : Nat
  dn : Nat
  wa : Option Nat
  mks : List (Nat × Nat)
  sn : List Nat
def waI : Option Nat → Int
  | none => -1
  | some n => (n : Int)
def oW : Option Nat → V
  | none => .non
  | some n => .int (n : Int)
def stOf (ms : List (Nat × Nat)) (p : Nat) : Option Nat := (ms.find? fun q => q.1 == p).map (·.2)
/-- what a deed does; which class refuses it (by its number among the eight) -/
def stepK (rs : List Rule) (R : Nat) (w : WK) : Deed → Except Nat WK
  | .keep => if (stOf w.mks w.pl).isSome = true then .error 4 else if w.mks.length = R then .error 3 else .ok { w with mks := w.mks ++ [(w.pl, w.st)] }
  | .meet => if some w.pl = w.wa then .ok { w with sn := w.sn ++ [w.st], wa := if w.pl = 0 then none else some (w.pl - 1) } else .error 7
  | .go m => if w.pl + m > rs.length then .error 6 else .ok { w with pl := w.pl + m, st := lastN w.st ((rs.drop w.pl).take m), dn := w.dn + m }
  | .take p => match stOf w.mks p with | none => .error 5 | some s => .ok { w with pl := p, st := s }
  | .drop p => match stOf w.mks p with | none => .error 5 | some _ => .ok { w with mks := w.mks.filter fun q => q.1 != p }
def wk0 (f n : Nat) : WK := { pl := 0, st := f, dn := 0, wa := some n, mks := [], sn := [] }
/-- places and states within their bounds -/
structure WK.Ok (n : Nat) (w : WK) : Prop where
  pl : w.pl ≤ n
  st : w.st < 999983
  mo : ∀ q ∈ w.mks, q.1 ≤ n ∧ q.2 < 999983
  nd : (w.mks.map (·.1)).Nodup
  wa : ∀ m, w.wa = some m → m ≤ n
theorem stOf_mem {ms : List (Nat × Nat)} {p s : Nat} (h : stOf ms p = some s) : (p, s) ∈ ms := by
  unfold stOf at h
  cases e : ms.find? fun q => q.1 == p with
  | none => rw [e] at h; cases h
  | some q =>
    rw [e] at h
    have e1 : q.2 = s := Option.some.inj h
    have e2 : q.1 = p := by simpa using List.find?_some e
    rw [← e1, ← e2]
    exact List.mem_of_find?_eq_some e
theorem stOf_none {ms : List (Nat × Nat)} {p : Nat} (h : stOf ms p = none) : p ∉ ms.map (·.1) := by
  unfold stOf at h
  cases e : ms.find? fun q => q.1 == p with
  | none =>
    intro m
    obtain ⟨q, hq, rfl⟩ := List.mem_map.mp m
    have := List.find?_eq_none.mp e q hq
    simp at this
  | some q => rw [e] at h; cases h
theorem WK.Ok.step {rs : List Rule} {R : Nat} {w v : WK} {d : Deed} (o : w.Ok rs.length) (h : stepK rs R w d = .ok v) : v.Ok rs.length := by
  cases d with
  | keep =>
    have h : (if (stOf w.mks w.pl).isSome = true then Except.error 4 else if w.mks.length = R then .error 3 else .ok { w with mks := w.mks ++ [(w.pl, w.st)] }) = Except.ok v := h
    by_cases c : (stOf w.mks w.pl).isSome = true
    · rw [if_pos c] at h; cases h
    · rw [if_neg c] at h
      by_cases c2 : w.mks.length = R
      · rw [if_pos c2] at h; cases h
      · rw [if_neg c2] at h
        cases h
        have hn : stOf w.mks w.pl = none := by
          cases e : stOf w.mks w.pl with
          | none => rfl
          | some _ => rw [e] at c; exact absurd rfl c
        refine ⟨o.pl, o.st, fun q hq => ?_, ?_, o.wa⟩
        · rcases List.mem_append.mp hq with z | z
          · exact o.mo q z
          · rw [List.mem_singleton.mp z]
            exact ⟨o.pl, o.st⟩
        · show ((w.mks ++ [(w.pl, w.st)]).map (·.1)).Nodup
          rw [List.map_append, List.nodup_append]
          refine ⟨o.nd, by simp, ?_⟩
          intro a ha b hb
          have hb' : b = w.pl := by simpa using hb
          rw [hb']
          rintro rfl
          exact stOf_none hn ha
  | meet =>
    have h : (if some w.pl = w.wa then Except.ok { w with sn := w.sn ++ [w.st], wa := if w.pl = 0 then none else some (w.pl - 1) } else .error 7) = Except.ok v := h
    by_cases c : some w.pl = w.wa
    · rw [if_pos c] at h
      cases h
      refine ⟨o.pl, o.st, o.mo, o.nd, fun m hm => ?_⟩
      have hm : (if w.pl = 0 then none else some (w.pl - 1)) = some m := hm
      by_cases z : w.pl = 0
      · rw [if_pos z] at hm; cases hm
      · rw [if_neg z] at hm
        have := Option.some.inj hm
        have := o.pl
        omega
    · rw [if_neg c] at h; cases h
  | go m =>
    have h : (if w.pl + m > rs.length then Except.error 6 else .ok { w with pl := w.pl + m, st := lastN w.st ((rs.drop w.pl).take m), dn := w.dn + m }) = Except.ok v := h
    by_cases c : w.pl + m > rs.length
    · rw [if_pos c] at h; cases h
    · rw [if_neg c] at h
      cases h
      exact ⟨by show w.pl + m ≤ rs.length; omega, lastN_lt o.st, o.mo, o.nd, o.wa⟩
  | take p =>
    have h : (match stOf w.mks p with | none => Except.error 5 | some s => .ok { w with pl := p, st := s }) = Except.ok v := h
    cases e : stOf w.mks p with
    | none => rw [e] at h; cases h
    | some s =>
      rw [e] at h
      cases h
      have := o.mo _ (stOf_mem e)
      exact ⟨this.1, this.2, o.mo, o.nd, o.wa⟩
  | drop p =>
    have h : (match stOf w.mks p with | none => Except.error 5 | some _ => .ok { w with mks := w.mks.filter fun q => q.1 != p }) = Except.ok v := h
    cases e : stOf w.mks p with
    | none => rw [e] at h; cases h
    | some s =>
      rw [e] at h
      cases h
      refine ⟨o.pl, o.st, fun q hq => o.mo q (List.mem_filter.mp hq).1, ?_, o.wa⟩
      exact o.nd.sublist (List.Sublist.map _ List.filter_sublist)
/-! ### in memory -/
def mkK (ms : List (Nat × Nat)) : List (Key × V) := ms.map fun (q : Nat × Nat) => ((Sum.inl (q.1 : Int) : Key), V.int (q.2 : Int))
theorem mkK_len (ms : List (Nat × Nat)) : (mkK ms).length = ms.length := List.length_map ..
theorem mkK_val : ∀ (ms : List (Nat × Nat)) (p : Nat), valV (mkK ms) (Sum.inl (p : Int) : Key) = (stOf ms p).map fun s => V.int (s : Int)
  | [], _ => rfl
  | q :: ms, p => by
    have ih := mkK_val ms p
    by_cases e : q.1 = p
    · have e1 : stOf (q :: ms) p = some q.2 := by
        unfold stOf
        rw [List.find?_cons, e, beq_self_eq_true] <;> rfl
      rw [e1]
      exact valV_pos (p := ((Sum.inl (q.1 : Int) : Key), V.int (q.2 : Int))) (by show (Sum.inl (q.1 : Int) : Key) = Sum.inl (p : Int); rw [e])
    · have e1 : stOf (q :: ms) p = stOf ms p := by
        unfold stOf
        rw [List.find?_cons, beq_false_of_ne e]
      rw [e1, ← ih]
      exact valV_neg (p := ((Sum.inl (q.1 : Int) : Key), V.int (q.2 : Int))) (fun z : (Sum.inl (q.1 : Int) : Key) = Sum.inl (p : Int) => e (by have := Sum.inl.inj z; omega))
theorem mkK_put {ms : List (Nat × Nat)} {p s : Nat} (h : stOf ms p = none) : putK (mkK ms) (Sum.inl (p : Int) : Key) (.int (s : Int)) = mkK (ms ++ [(p, s)]) := by
  rw [putK_new _ (by rw [mkK_val, h] <;> rfl)]
  unfold mkK
  rw [List.map_append] <;> rfl
theorem mkK_drop (p : Nat) : ∀ ms : List (Nat × Nat), dropK (mkK ms) (Sum.inl (p : Int) : Key) = mkK (ms.filter fun q => q.1 != p)
  | [] => rfl
  | q :: ms => by
    have ih := mkK_drop p ms
    show dropK (((Sum.inl (q.1 : Int) : Key), V.int (q.2 : Int)) :: mkK ms) _ = _
    by_cases e : q.1 = p
    · rw [dropK_pos (by show (Sum.inl (q.1 : Int) : Key) = Sum.inl (p : Int); rw [e]), ih, List.filter_cons, if_neg (by rw [e]; simp)]
    · rw [dropK_neg (fun z : (Sum.inl (q.1 : Int) : Key) = Sum.inl (p : Int) => e (by have := Sum.inl.inj z; omega)), ih, List.filter_cons, if_pos (by simpa using e)] <;> rfl
def refsR (rs : List (Addr × Rule)) : List V := rs.map fun q => V.ref q.1
def RS (H : Hp) (rs : List (Addr × Rule)) : Prop := ∀ q ∈ rs, H q.1 = some (.tup q.2.vs) ∧ q.2.ok
theorem RS.same {H H' : Hp} {rs : List (Addr × Rule)} (e : Same H H') (h : RS H rs) : RS H' rs := fun q hq => ⟨e _ _ (h q hq).1, (h q hq).2⟩
theorem refsR_len (rs : List (Addr × Rule)) : (refsR rs).length = rs.length := List.length_map ..
def wF (rl : Addr) (room pl st dn : Int) (wa : V) (mk sn : Addr) : List (Str × V) :=
  [("rules", .ref rl), ("room", .int room), ("place", .int pl), ("state", .int st), ("done", .int dn), ("wanted", wa), ("marks", .ref mk), ("seen", .ref sn)]
section
variable (rl : Addr) (room pl st dn x : Int) (wa v : V) (mk sn : Addr)
theorem wF_rules : (wF rl room pl st dn wa mk sn).lookup ("rules" : Str) = some (V.ref rl) := by kernel_rfl
theorem wF_room : (wF rl room pl st dn wa mk sn).lookup ("room" : Str) = some (V.int room) := by kernel_rfl
theorem wF_place : (wF rl room pl st dn wa mk sn).lookup ("place" : Str) = some (V.int pl) := by kernel_rfl
theorem wF_state : (wF rl room pl st dn wa mk sn).lookup ("state" : Str) = some (V.int st) := by kernel_rfl
theorem wF_done : (wF rl room pl st dn wa mk sn).lookup ("done" : Str) = some (V.int dn) := by kernel_rfl
theorem wF_wanted : (wF rl room pl st dn wa mk sn).lookup ("wanted" : Str) = some wa := by kernel_rfl
theorem wF_marks : (wF rl room pl st dn wa mk sn).lookup ("marks" : Str) = some (V.ref mk) := by kernel_rfl
theorem wF_seen : (wF rl room pl st dn wa mk sn).lookup ("seen" : Str) = some (V.ref sn) := by kernel_rfl
theorem wF_do : (wF rl room pl st dn wa mk sn).lookup ("do" : Str) = none := by kernel_rfl
theorem wF_keep : (wF rl room pl st dn wa mk sn).lookup ("keep" : Str) = none := by kernel_rfl
theorem wF_go : (wF rl room pl st dn wa mk sn).lookup ("go" : Str) = none := by kernel_rfl
theorem wF_meet : (wF rl room pl st dn wa mk sn).lookup ("meet" : Str) = none := by kernel_rfl
theorem wF_kept : (wF rl room pl st dn wa mk sn).lookup ("kept" : Str) = none := by kernel_rfl
theorem wF_met : (wF rl room pl st dn wa mk sn).lookup ("met" : Str) = none := by kernel_rfl
theorem wF_len : (wF rl room pl st dn wa mk sn).length < 1000 := by show 8 < 1000; decide
theorem wF_sp : putF "place" (.int x) (wF rl room pl st dn wa mk sn) = wF rl room x st dn wa mk sn := by kernel_rfl
theorem wF_ss : putF "state" (.int x) (wF rl room pl st dn wa mk sn) = wF rl room pl x dn wa mk sn := by kernel_rfl
theorem wF_sd : putF "done" (.int x) (wF rl room pl st dn wa mk sn) = wF rl room pl st x wa mk sn := by kernel_rfl
theorem wF_sw : putF "wanted" v (wF rl room pl st dn wa mk sn) = wF rl room pl st dn v mk sn := by kernel_rfl
theorem wF_made : putF "seen" (.ref sn) (putF "marks" (.ref mk) (putF "wanted" wa (putF "done" (.int dn) (putF "state" (.int st) (putF "place" (.int pl) (putF "room" (.int room) (putF "rules" (.ref rl) []))))))) = wF rl room pl st dn wa mk sn := by kernel_rfl
end
theorem pe_fldK {X : Cx} {K : PySem.W.Frag} {e : Expr} {te : TE} {f : Str} {pos : Pos} (hK : X.K = K) (he : PE X e te) (hb : attributeBase e f X.env (eval e X.env) = eval e X.env) : PE X (.Attribute e f pos) (tFld K te f) := by
  subst hK
  exact pe_fld he hb
/-- what the top has written of the class -/
structure OCW (K : PySem.W.Frag) (mg : Str → Option Value) (C : Addr) : Prop where
  cl : Cls K C
  mgC : mg "Walker" = some (.ref C)
  nru : NoAttr K C "rules"
  nro : NoAttr K C "room"
  npl : NoAttr K C "place"
  nst : NoAttr K C "state"
  ndn : NoAttr K C "done"
  nwa : NoAttr K C "wanted"
  nma : NoAttr K C "marks"
  nse : NoAttr K C "seen"
/-- a thing, and whether it is a list of rules -/
inductive ListTh (K : PySem.W.Frag) (H : Hp) : V → Bool → Prop where
  | nlist {x : V} {t : Value} (ty : TyX K H x t) (ni : PySem.W.kitOne K t (.type "list") = some false) : ListTh K H x false
  | big {p : Addr} {xs : List V} (h : H p = some (.lst xs)) (hl : 100 < xs.length) : ListTh K H (.ref p) false
  | all {p : Addr} {xs : List V} {bs : List Bool} (h : H p = some (.lst xs)) (hl : xs.length ≤ 100) (hb : bs.length = xs.length) (ht : ∀ (i : Nat) (x : V) (b : Bool), xs[i]? = some x → bs[i]? = some b → RuleTh K H x b) : ListTh K H (.ref p) (bs.all id)
theorem ListTh.good {K : PySem.W.Frag} {H : Hp} {p : Addr} {rs : List (Addr × Rule)} (h : H p = some (.lst (refsR rs))) (hR : RS H rs) (hl : rs.length ≤ 100) : ListTh K H (.ref p) true := by
  have e : (List.replicate rs.length true).all id = true := List.all_eq_true.mpr fun b hb => by rw [(List.mem_replicate.mp hb).2] <;> rfl
  rw [← e]
  refine .all h (by rw [refsR_len]; exact hl) (by rw [List.length_replicate, refsR_len]) fun i x b hx hb => ?_
  obtain ⟨q, hq, rfl⟩ := get_map hx
  have eb : b = true := (List.mem_replicate.mp (List.mem_of_getElem? hb)).2
  rw [eb]
  have := hR q (List.mem_of_getElem? hq)
  exact q.2.th this.2 this.1
/-- a thing, and whether it is a deed -/
inductive DeedTh (K : PySem.W.Frag) (H : Hp) : V → Bool → Prop where
  | ntup {x : V} {t : Value} (ty : TyX K H x t) (ni : PySem.W.kitOne K t (.type "tuple") = some false) : DeedTh K H x false
  | nil {q : Addr} (h : H q = some (.tup [])) : DeedTh K H (.ref q) false
  | nstr {q : Addr} {v : V} {r : List V} {t : Value} (h : H q = some (.tup (v :: r))) (ty : TyX K H v t) (ni : PySem.W.kitOne K t (.type "str") = some false) : DeedTh K H (.ref q) false
  | one {q : Addr} {w : Str} {r : List V} {b : Bool} (h : H q = some (.tup (.str w :: r))) (hw : w = "keep" ∨ w = "meet") (hb : b = decide (r = [])) : DeedTh K H (.ref q) b
  | two {q : Addr} {w : Str} {r : List V} (h : H q = some (.tup (.str w :: r))) (h1 : w ≠ "keep") (h2 : w ≠ "meet") (hl : r.length ≠ 1) : DeedTh K H (.ref q) false
  | num {q : Addr} {w : Str} {v : V} {o : Option Int} {b : Bool} (h : H q = some (.tup [.str w, v])) (h1 : w ≠ "keep") (h2 : w ≠ "meet") (th : Thg K H v o)
      (hb : b = if w = "go" then among o 1 100 else (decide (w = "take") || decide (w = "drop")) && among o 0 100) : DeedTh K H (.ref q) b
theorem DeedTh.same {K : PySem.W.Frag} {H H' : Hp} {x : V} {b : Bool} (e : Same H H') (h : DeedTh K H x b) : DeedTh K H' x b := by
  cases h with
  | ntup ty ni => exact .ntup (tyX_same e ty) ni
  | nil h => exact .nil (e _ _ h)
  | nstr h ty ni => exact .nstr (e _ _ h) (tyX_same e ty) ni
  | one h hw hb => exact .one (e _ _ h) hw hb
  | two h h1 h2 hl => exact .two (e _ _ h) h1 h2 hl
  | num h h1 h2 th hb => exact .num (e _ _ h) h1 h2 (th.same e) hb
def Deed.ok : Deed → Prop
  | .go n => 1 ≤ n ∧ n ≤ 100
  | .take p => p ≤ 100
  | .drop p => p ≤ 100
  | _ => True
theorem among_of {n : Nat} {lo hi : Int} (h1 : lo ≤ (n : Int)) (h2 : (n : Int) ≤ hi) : among (some (n : Int)) lo hi = true := by
  show (decide (lo ≤ (n : Int)) && decide ((n : Int) ≤ hi)) = true
  rw [decide_eq_true h1, decide_eq_true h2] <;> rfl
theorem Deed.th {K : PySem.W.Frag} {H : Hp} {q : Addr} (d : Deed) (ok : d.ok) (h : H q = some (.tup d.vs)) : DeedTh K H (.ref q) true := by
  cases d with
  | keep => exact .one h (.inl rfl) rfl
  | meet => exact .one h (.inr rfl) rfl
  | go n =>
    refine .num h (by decide +kernel) (by decide +kernel) (.int _) ?_
    have ok : 1 ≤ n ∧ n ≤ 100 := ok
    rw [if_pos rfl, among_of (by omega) (by omega)]
  | take p =>
    refine .num h (by decide +kernel) (by decide +kernel) (.int _) ?_
    have ok : p ≤ 100 := ok
    rw [if_neg (by decide +kernel), among_of (by omega) (by omega)]
    decide +kernel
  | drop p =>
    refine .num h (by decide +kernel) (by decide +kernel) (.int _) ?_
    have ok : p ≤ 100 := ok
    rw [if_neg (by decide +kernel), among_of (by omega) (by omega)]
    decide +kernel
/-- where a walker lies -/
structure WA where
  x : Addr
  dx : Addr
  rl : Addr
  md : Addr
  sn : Addr
/-- a walker stands there -/
structure WAt (C : Addr) (H : Hp) (A : WA) (rs : List (Addr × Rule)) (R : Nat) (w : WK) : Prop where
  ob : H A.x = some (.ins C A.dx (wF A.rl (R : Int) (w.pl : Int) (w.st : Int) (w.dn : Int) (oW w.wa) A.md A.sn))
  ru : H A.rl = some (.lst (refsR rs))
  ma : H A.md = some (.dK (mkK w.mks))
  se : H A.sn = some (.lst (w.sn.map fun (s : Nat) => V.int (s : Int)))
  n1 : A.rl ≠ A.sn
/-- all but the walker's own stands -/
def But (A : WA) (H H' : Hp) : Prop := ∀ b o, H b = some o → b ≠ A.x → b ≠ A.md → b ≠ A.sn → H' b = some o
theorem But.refl (A : WA) (H : Hp) : But A H H := fun _ _ h _ _ _ => h
theorem But.trans {A : WA} {H H1 H2 : Hp} (a : But A H H1) (b : But A H1 H2) : But A H H2 := fun c o h n1 n2 n3 => b c o (a c o h n1 n2 n3) n1 n2 n3
theorem But.same {A : WA} {H H1 H2 : Hp} (a : But A H H1) (b : Same H1 H2) : But A H H2 := fun c o h n1 n2 n3 => b c o (a c o h n1 n2 n3)
theorem Same.but {A : WA} {H H1 : Hp} (a : Same H H1) : But A H H1 := fun c o h _ _ _ => a c o h
theorem But.upd_x {A : WA} {H : Hp} {o : HO} : But A H (upd H A.x o) := fun c u h n1 _ _ => by rw [upd_ne n1]; exact h
theorem But.upd_mk {A : WA} {H : Hp} {o : HO} : But A H (upd H A.md o) := fun c u h _ n1 _ => by rw [upd_ne n1]; exact h
theorem But.upd_sn {A : WA} {H : Hp} {o : HO} : But A H (upd H A.sn o) := fun c u h _ _ n1 => by rw [upd_ne n1]; exact h
section
variable {C : Addr} {H : Hp} {A : WA} {rs : List (Addr × Rule)} {R : Nat} {w : WK}
theorem WAt.xr (W : WAt C H A rs R w) : A.x ≠ A.rl := ne_of W.ob W.ru (by intro z; cases z)
theorem WAt.xm (W : WAt C H A rs R w) : A.x ≠ A.md := ne_of W.ob W.ma (by intro z; cases z)
theorem WAt.xs (W : WAt C H A rs R w) : A.x ≠ A.sn := ne_of W.ob W.se (by intro z; cases z)
theorem WAt.rm (W : WAt C H A rs R w) : A.rl ≠ A.md := ne_of W.ru W.ma (by intro z; cases z)
theorem WAt.ms (W : WAt C H A rs R w) : A.md ≠ A.sn := ne_of W.ma W.se (by intro z; cases z)
theorem WAt.same {H' : Hp} (W : WAt C H A rs R w) (e : Same H H') : WAt C H' A rs R w := ⟨e _ _ W.ob, e _ _ W.ru, e _ _ W.ma, e _ _ W.se, W.n1⟩
/-- a deed's promise -/
def StepP (K : PySem.W.Frag) (C : Addr) (c8 : Nat → Addr) (H : Hp) (A : WA) (rs : List (Addr × Rule)) (R : Nat) (w : WK) (d : Deed) (Q : VK) (E : XK) : Prop :=
  WAt C H A rs R w ∧ RS H rs ∧ w.Ok rs.length ∧ rs.length ≤ 100 ∧ w.mks.length ≤ 1000 ∧ w.sn.length ≤ 10000 ∧
  (∀ v, stepK (rs.map (·.2)) R w d = .ok v → ∀ H', But A H H' → WAt C H' A rs R v → Q .non H') ∧ ∀ i, stepK (rs.map (·.2)) R w d = .error i → E (.ref (c8 i)) none H
theorem RS.but {H' : Hp} (W : WAt C H A rs R w) (b : But A H H') {qs : List (Addr × Rule)} (h : RS H qs) : RS H' qs := fun q hq => by
  have e := (h q hq).1
  exact ⟨b _ _ e (ne_of e W.ob (by intro z; cases z)) (ne_of e W.ma (by intro z; cases z)) (ne_of e W.se (by intro z; cases z)), (h q hq).2⟩
end
end BM

/-! ## Deeds as data -/
namespace BM
open PySem PySem.Spec PyProof.Rows L2
def Deed.pd : Deed → PyData
  | .keep => .tuple [.str "keep"]
  | .meet => .tuple [.str "meet"]
  | .take p => .tuple [.str "take", .int (p : Int)]
  | .drop p => .tuple [.str "drop", .int (p : Int)]
  | .go n => .tuple [.str "go", .int (n : Int)]
theorem Deed.sh (d : Deed) : Sh 1 d.pd := by
  have w : ∀ s : Str, (PyData.str s).canLay0 = true → Sh 1 (.tuple [.str s]) := fun s h => .tup fun d hd => by
    rw [List.mem_singleton.mp hd]
    exact .str h
  have w2 : ∀ (s : Str) (i : Int), (PyData.str s).canLay0 = true → Sh 1 (.tuple [.str s, .int i]) := fun s i h => .tup fun d hd => by
    rcases List.mem_cons.mp hd with e | hd
    · rw [e]; exact .str h
    · rw [List.mem_singleton.mp hd]; exact .int i
  cases d with
  | keep => exact w _ (by decide +kernel)
  | meet => exact w _ (by decide +kernel)
  | take p => exact w2 _ _ (by decide +kernel)
  | drop p => exact w2 _ _ (by decide +kernel)
  | go n => exact w2 _ _ (by decide +kernel)
theorem Deed.dp {K : PySem.W.Frag} {H : Hp} {a : Addr} (d : Deed) (h : H a = some (.tup d.vs)) : Dp K H (.ref a) d.pd := by
  cases d with
  | keep => exact .tup (SqT.of h) (.cons (.str _) .nil)
  | meet => exact .tup (SqT.of h) (.cons (.str _) .nil)
  | take p => exact .tup (SqT.of h) (.cons (.str _) (.cons (.int _) .nil))
  | drop p => exact .tup (SqT.of h) (.cons (.str _) (.cons (.int _) .nil))
  | go n => exact .tup (SqT.of h) (.cons (.str _) (.cons (.int _) .nil))
theorem deeds_dp {K : PySem.W.Frag} {H : Hp} : ∀ {ps : List (Addr × Deed)}, DS H ps → DpAll K H (refs ps) (ps.map fun q => q.2.pd)
  | [], _ => .nil
  | q :: ps, h => .cons (q.2.dp (h q List.mem_cons_self)) (deeds_dp fun x hx => h x (List.mem_cons_of_mem _ hx))
theorem deeds_sh (ps : List (Addr × Deed)) : Sh 2 (.list (ps.map fun q => q.2.pd)) := .lst fun d hd => by
  obtain ⟨q, _, rfl⟩ := List.mem_map.mp hd
  exact q.2.sh
def Rule.pd : Rule → PyData
  | .add k => .tuple [.str "add", .int (k : Int)]
  | .times k => .tuple [.str "times", .int (k : Int)]
  | .square => .tuple [.str "square"]
  | .half => .tuple [.str "half"]
theorem Rule.sh (d : Rule) : Sh 1 d.pd := by
  have w : ∀ s : Str, (PyData.str s).canLay0 = true → Sh 1 (.tuple [.str s]) := fun s h => .tup fun d hd => by
    rw [List.mem_singleton.mp hd]
    exact .str h
  have w2 : ∀ (s : Str) (i : Int), (PyData.str s).canLay0 = true → Sh 1 (.tuple [.str s, .int i]) := fun s i h => .tup fun d hd => by
    rcases List.mem_cons.mp hd with e | hd
    · rw [e]; exact .str h
    · rw [List.mem_singleton.mp hd]; exact .int i
  cases d with
  | square => exact w _ (by decide +kernel)
  | half => exact w _ (by decide +kernel)
  | add p => exact w2 _ _ (by decide +kernel)
  | times p => exact w2 _ _ (by decide +kernel)
theorem Rule.dp {K : PySem.W.Frag} {H : Hp} {a : Addr} (d : Rule) (h : H a = some (.tup d.vs)) : Dp K H (.ref a) d.pd := by
  cases d with
  | square => exact .tup (SqT.of h) (.cons (.str _) .nil)
  | half => exact .tup (SqT.of h) (.cons (.str _) .nil)
  | add p => exact .tup (SqT.of h) (.cons (.str _) (.cons (.int _) .nil))
  | times p => exact .tup (SqT.of h) (.cons (.str _) (.cons (.int _) .nil))
theorem rules_dp {K : PySem.W.Frag} {H : Hp} : ∀ {ps : List (Addr × Rule)}, RS H ps → DpAll K H (refsR ps) (ps.map fun q => q.2.pd)
  | [], _ => .nil
  | q :: ps, h => .cons (q.2.dp (h q List.mem_cons_self).1) (rules_dp fun x hx => h x (List.mem_cons_of_mem _ hx))
theorem rules_sh (ps : List (Addr × Rule)) : Sh 2 (.list (ps.map fun q => q.2.pd)) := .lst fun d hd => by
  obtain ⟨q, _, rfl⟩ := List.mem_map.mp hd
  exact q.2.sh
theorem dp_nats {K : PySem.W.Frag} {H : Hp} : ∀ ns : List Nat, DpAll K H (ns.map fun (s : Nat) => V.int (s : Int)) (ns.map fun (s : Nat) => PyData.int (s : Int))
  | [] => .nil
  | i :: r => .cons (.int i) (dp_nats r)
theorem sh_nats {n : Nat} (ns : List Nat) : Sh (n + 1) (.list (ns.map fun (s : Nat) => PyData.int (s : Int))) := .lst fun d hd => by
  obtain ⟨i, _, rfl⟩ := List.mem_map.mp hd
  exact .int i
end BM

/-! ## Deeds as they are written, by lists of signs -/
namespace BM
open PySem PySem.Spec PyProof.Rows L2
def isDig (c : Nat) : Bool := decide (48 ≤ c) && decide (c ≤ 57)
def numQ (l : List Nat) : Option Nat := if l = [] ∨ 3 < l.length ∨ (l.head? = some 48 ∧ 1 < l.length) then none else if l.all isDig = true then some (NumText.digitsVal l) else none
def wK : List Nat := [107, 101, 101, 112]
def wM : List Nat := [109, 101, 101, 116]
def wT : List Nat := [116, 97, 107, 101]
def wD : List Nat := [100, 114, 111, 112]
def wG : List Nat := [103, 111]
def deedNum (w : List Nat) (n : Nat) : Option Deed := if w = wG then (if 1 ≤ n ∧ n ≤ 100 then some (.go n) else none) else if w = wT then (if n ≤ 100 then some (.take n) else none) else if w = wD then (if n ≤ 100 then some (.drop n) else none) else none
/-- the deed that a text writes -/
def deedL (l : List Nat) : Option Deed := match TL.par [32] [] l with
  | none => if l = wK then some .keep else if l = wM then some .meet else none
  | some (w, r) => match numQ r with
    | none => none
    | some n => deedNum w n
theorem numQ_num : ∀ n, n < 101 → numQ (TL.numL n) = some n := by decide +kernel
theorem dig_of {c : Nat} (h : isDig c = true) : 48 ≤ c ∧ c ≤ 57 := by
  unfold isDig at h
  simpa using h
theorem numQ_back {r : List Nat} {n : Nat} (h : numQ r = some n) : r = TL.numL n := by
  unfold numQ at h
  by_cases c : r = [] ∨ 3 < r.length ∨ (r.head? = some 48 ∧ 1 < r.length)
  · rw [if_pos c] at h; cases h
  rw [if_neg c] at h
  by_cases d : r.all isDig = true
  case neg => rw [if_neg d] at h; cases h
  rw [if_pos d] at h
  have e : NumText.digitsVal r = n := Option.some.inj h
  match r, c, d, e with
  | [], c, _, _ => exact absurd (.inl rfl) c
  | [a], _, d, e =>
    have da := dig_of (c := a) (by simpa using d)
    have e : 0 * 10 + (a - 48) = n := e
    rw [TL.numL_lt (by omega), ← e]
    congr 1
    omega
  | [a, b], c, d, e =>
    have d' : isDig a = true ∧ isDig b = true := by simpa using d
    have da := dig_of d'.1
    have db := dig_of d'.2
    have e : (0 * 10 + (a - 48)) * 10 + (b - 48) = n := e
    have na : a ≠ 48 := fun z => c (.inr (.inr ⟨by rw [z] <;> rfl, by show 1 < 2; decide⟩))
    rw [TL.numL_step (by omega), TL.numL_lt (by omega)]
    have e1 : 48 + n / 10 = a := by omega
    have e2 : 48 + n % 10 = b := by omega
    rw [e1, e2] <;> rfl
  | [a, b, x], c, d, e =>
    have d' : isDig a = true ∧ isDig b = true ∧ isDig x = true := by simpa using d
    have da := dig_of d'.1
    have db := dig_of d'.2.1
    have dx := dig_of d'.2.2
    have e : ((0 * 10 + (a - 48)) * 10 + (b - 48)) * 10 + (x - 48) = n := e
    have na : a ≠ 48 := fun z => c (.inr (.inr ⟨by rw [z] <;> rfl, by show 1 < 3; decide⟩))
    rw [TL.numL_step (by omega), TL.numL_step (by omega), TL.numL_lt (by omega)]
    have e1 : 48 + n / 10 / 10 = a := by omega
    have e2 : 48 + n / 10 % 10 = b := by omega
    have e3 : 48 + n % 10 = x := by omega
    rw [e1, e2, e3] <;> rfl
  | a :: b :: x :: y :: l, c, _, _ => exact absurd (.inr (.inl (by show 3 < l.length + 1 + 1 + 1 + 1; omega))) c
theorem numQ_blank {r : List Nat} (h : 32 ∈ r) : numQ r = none := by
  cases e : numQ r with
  | none => rfl
  | some n =>
    rw [numQ_back e] at h
    exact absurd h (TL.numL_free (.inl (by decide)))
theorem pre32 (c : Nat) (r : List Nat) : TL.pre [32] (c :: r) = (c == 32) := by
  show ([c] == [32]) = _
  rw [Bool.eq_iff_iff]
  simp
theorem spl_par : ∀ (l acc : List Nat), TL.spl [32] 0 acc l = (match TL.par [32] acc l with | none => [acc ++ l] | some (w, r) => w :: TL.spl [32] 0 [] r)
  | [], acc => by
    rw [TL.spl_nil, List.append_nil] <;> rfl
  | c :: r, acc => by
    by_cases h : c = 32
    · have p : TL.pre [32] (c :: r) = true := by rw [pre32, h] <;> rfl
      rw [TL.spl_hit p, TL.par_hit p] <;> rfl
    · have p : TL.pre [32] (c :: r) = false := by rw [pre32]; exact beq_false_of_ne h
      rw [TL.spl_miss p, TL.par_miss p, spl_par r (acc ++ [c])]
      cases TL.par [32] (acc ++ [c]) r with
      | none =>
        show [acc ++ [c] ++ r] = [acc ++ c :: r]
        rw [List.append_assoc] <;> rfl
      | some z => rfl
theorem spl_some (l acc : List Nat) : ∃ w ws, TL.spl [32] 0 acc l = w :: ws := by
  rw [spl_par]
  cases TL.par [32] acc l with
  | none => exact ⟨_, _, rfl⟩
  | some z => exact ⟨_, _, rfl⟩
theorem par_mem : ∀ (l acc : List Nat) {w r : List Nat}, TL.par [32] acc l = some (w, r) → 32 ∈ l
  | [], _, _, _, h => by cases h
  | c :: r, acc, _, _, h => by
    by_cases e : c = 32
    · rw [e]; exact List.mem_cons_self
    · have p : TL.pre [32] (c :: r) = false := by rw [pre32]; exact beq_false_of_ne e
      rw [TL.par_miss p] at h
      exact List.mem_cons_of_mem _ (par_mem r _ h)
theorem par_len : ∀ (l acc : List Nat) {w r : List Nat}, TL.par [32] acc l = some (w, r) → w.length + r.length ≤ acc.length + l.length
  | [], _, _, _, h => by cases h
  | c :: l, acc, w, r, h => by
    by_cases e : c = 32
    · have p : TL.pre [32] (c :: l) = true := by rw [pre32, e] <;> rfl
      rw [TL.par_hit p] at h
      have h := Option.some.inj h
      have e1 : acc = w := congrArg Prod.fst h
      have e2 : l = r := congrArg Prod.snd h
      rw [e1, e2, List.length_cons]
      omega
    · have p : TL.pre [32] (c :: l) = false := by rw [pre32]; exact beq_false_of_ne e
      rw [TL.par_miss p] at h
      have := par_len l _ h
      rw [List.length_append, List.length_singleton] at this
      rw [List.length_cons]
      omega
/-- what the parts of a text tell -/
theorem deed_one {l w : List Nat} (h : TL.spl [32] 0 [] l = [w]) : deedL l = if w = wK then some .keep else if w = wM then some .meet else none := by
  rw [spl_par] at h
  unfold deedL
  cases e : TL.par [32] [] l with
  | none =>
    rw [e] at h
    have h : [[] ++ l] = [w] := h
    rw [← (List.cons.inj h).1] <;> rfl
  | some z =>
    rw [e] at h
    have h : z.1 :: TL.spl [32] 0 [] z.2 = [w] := h
    obtain ⟨a, b, q⟩ := spl_some z.2 []
    rw [q] at h
    cases h
theorem deed_two {l w r : List Nat} (h : TL.spl [32] 0 [] l = [w, r]) : deedL l = match numQ r with | none => none | some n => deedNum w n := by
  rw [spl_par] at h
  unfold deedL
  cases e : TL.par [32] [] l with
  | none =>
    rw [e] at h
    cases h
  | some z =>
    obtain ⟨w', r'⟩ := z
    rw [e] at h
    have h : w' :: TL.spl [32] 0 [] r' = [w, r] := h
    rw [(List.cons.inj h).1]
    have h2 := (List.cons.inj h).2
    rw [spl_par] at h2
    cases e2 : TL.par [32] [] r' with
    | none =>
      rw [e2] at h2
      have h2 : [[] ++ r'] = [r] := h2
      have h3 : r' = r := (List.cons.inj h2).1
      rw [h3]
    | some z2 =>
      rw [e2] at h2
      have h2 : z2.1 :: TL.spl [32] 0 [] z2.2 = [r] := h2
      obtain ⟨a, b, q⟩ := spl_some z2.2 []
      rw [q] at h2
      cases h2
theorem deed_more {l : List Nat} (h1 : (TL.spl [32] 0 [] l).length ≠ 1) (h2 : (TL.spl [32] 0 [] l).length ≠ 2) : deedL l = none := by
  rw [spl_par] at h1 h2
  unfold deedL
  cases e : TL.par [32] [] l with
  | none =>
    rw [e] at h1
    exact absurd rfl h1
  | some z =>
    obtain ⟨w', r'⟩ := z
    rw [e] at h2
    have h2 : (w' :: TL.spl [32] 0 [] r').length ≠ 2 := h2
    rw [spl_par] at h2
    show (match numQ r' with | none => none | some n => deedNum w' n) = none
    cases e2 : TL.par [32] [] r' with
    | none =>
      rw [e2] at h2
      exact absurd rfl h2
    | some z2 => rw [numQ_blank (par_mem r' [] e2)]
theorem spl_len : ∀ (n : Nat) (l acc : List Nat), l.length ≤ n → ∀ p ∈ TL.spl [32] 0 acc l, p.length ≤ acc.length + l.length
  | n, [], acc, _, p, hp => by
    rw [TL.spl_nil] at hp
    rw [List.mem_singleton.mp hp]
    exact Nat.le_add_right _ _
  | 0, c :: l, _, h, _, _ => by simp at h
  | n + 1, c :: l, acc, h, p, hp => by
    have h' : l.length ≤ n := by simpa using h
    by_cases e : c = 32
    · have q : TL.pre [32] (c :: l) = true := by rw [pre32, e] <;> rfl
      rw [TL.spl_hit q] at hp
      rcases List.mem_cons.mp hp with rfl | hp
      · omega
      · have := spl_len n l [] h' p hp
        rw [List.length_cons]
        simp only [List.length_nil] at this
        omega
    · have q : TL.pre [32] (c :: l) = false := by rw [pre32]; exact beq_false_of_ne e
      rw [TL.spl_miss q] at hp
      have := spl_len n l (acc ++ [c]) h' p hp
      rw [List.length_append, List.length_singleton] at this
      rw [List.length_cons]
      omega
theorem str_iff (z w : Str) : decide (V.str z = V.str w) = decide (TL.tl z = TL.tl w) := decide_eq_decide.mpr ⟨fun h => by rw [V.str.inj h], fun h => by rw [TL.ext_tl h]⟩
theorem digits_all {l : List Nat} (h : l.all isDig = true) : NumText.AllDigits l := fun c hc => dig_of (List.all_eq_true.mp h c hc)
end BM

/-! ## Texts in memory -/
namespace BM
open PySem PySem.Spec PyProof.Rows L2
theorem slen (x y : Str) : (x ++ y).length = x.length + y.length := by
  rw [TL.len_tl, TL.tl_append, List.length_append, ← TL.len_tl, ← TL.len_tl]
/-- a written text several times -/
theorem op_repS {X : Cx} : OpR X (binaryOp .Mult) (fun x y H Q => ∃ (a : Str) (n : Int), x = .str a ∧ y = .int n ∧ 2 ≤ n ∧ n ≤ 100000 ∧ a.length = 1 ∧ (⟨(List.replicate n.toNat a.cps).foldl (· ++ ·) #[]⟩ : Str).length ≤ 5000 ∧ Q (.str ⟨(List.replicate n.toNat a.cps).foldl (· ++ ·) #[]⟩) H) := by
  intro pins s σ H x y v u Q I rx ry h
  obtain ⟨a, n, rfl, rfl, h1, h2, hl, hz, q⟩ := h
  obtain ⟨t, rfl⟩ := rx
  obtain ⟨t', rfl⟩ := ry
  have n1 : ¬ n < 1 := by omega
  have n2 : ¬ (n == 1 || a.length == 0) = true := by
    rw [Bool.or_eq_true, not_or]
    exact ⟨by simp; omega, by rw [hl]; decide⟩
  refine PySem.P.mul_str (by simp; omega) (fun _ _ => ?_) (fun _ _ => ?_) ?_
  · rw [hl]
    have : (1 : Int) ≤ (2 ^ 63 - 1) / n := by
      refine Int.le_ediv_of_mul_le (by omega) ?_
      omega
    show ¬ ((1 : Nat) : Int) > _
    omega
  · rw [hl, Nat.one_mul]
    unfold PySem.Builtin.Str.tooLong
    have : ¬ sizeLine < n.toNat := by
      have : sizeLine = 16777216 := sizeLine_eq
      omega
    simpa using this
  · rw [if_neg n1, if_neg n2]
    exact ⟨sz5 (by omega), .str ⟨(List.replicate n.toNat a.cps).foldl (· ++ ·) #[]⟩, H, I.tok _, ⟨_, rfl⟩, q⟩
theorem num_len {n : Int} (h1 : -1 ≤ n) (h2 : n ≤ 103) : (Str.ofString (toString n)).length ≤ 4 := by
  have g : ∀ k : Nat, k < 105 → (Str.ofString (toString ((k : Int) - 1))).length ≤ 4 := by decide +kernel
  have := g (n + 1).toNat (by omega)
  rwa [show (((n + 1).toNat : Int) - 1) = n by omega] at this
/-- a deed as it is drawn: its word, its number -/
structure Raw where
  w : Str
  n : Option Int
def Raw.vs (d : Raw) : List V := match d.n with
  | none => [.str d.w]
  | some i => [.str d.w, .int i]
def Raw.ok (d : Raw) : Prop := match d.n with
  | none => d.w = "keep" ∨ d.w = "meet"
  | some i => (d.w = "take" ∨ d.w = "drop" ∨ d.w = "go") ∧ -1 ≤ i ∧ i ≤ 103
def Raw.good (d : Raw) : Bool := match d.n with
  | none => true
  | some i => decide ((if d.w = "go" then (1 : Int) else 0) ≤ i) && decide (i ≤ 100)
def Raw.text (d : Raw) : Str := match d.n with
  | none => d.w
  | some i => d.w ++ " " ++ Str.ofString (toString i)
theorem Raw.len {d : Raw} (h : d.ok) : d.text.length ≤ 12 := by
  obtain ⟨w, n⟩ := d
  cases n with
  | none =>
    have h : w = "keep" ∨ w = "meet" := h
    rcases h with rfl | rfl
    · show Str.length (Str.ofString "keep") ≤ 12; decide +kernel
    · show Str.length (Str.ofString "meet") ≤ 12; decide +kernel
  | some i =>
    have h : (w = "take" ∨ w = "drop" ∨ w = "go") ∧ -1 ≤ i ∧ i ≤ 103 := h
    show (w ++ " " ++ Str.ofString (toString i)).length ≤ 12
    have l := num_len h.2.1 h.2.2
    have b : Str.length (Str.ofString " ") = 1 := by decide +kernel
    rw [slen, slen]
    have : w.length ≤ 4 := by
      rcases h.1 with rfl | rfl | rfl
      · show Str.length (Str.ofString "take") ≤ 4; decide +kernel
      · show Str.length (Str.ofString "drop") ≤ 4; decide +kernel
      · show Str.length (Str.ofString "go") ≤ 4; decide +kernel
    omega
theorem Raw.th {K : PySem.W.Frag} {H : Hp} {q : Addr} {d : Raw} (ok : d.ok) (h : H q = some (.tup d.vs)) : DeedTh K H (.ref q) d.good := by
  obtain ⟨w, n⟩ := d
  cases n with
  | none => exact .one h ok rfl
  | some i =>
    have ok : (w = "take" ∨ w = "drop" ∨ w = "go") ∧ -1 ≤ i ∧ i ≤ 103 := ok
    have h : H q = some (.tup [.str w, .int i]) := h
    rcases ok.1 with rfl | rfl | rfl
    · refine .num h (by decide +kernel) (by decide +kernel) (.int _) ?_
      rw [if_neg (by decide +kernel)]
      show (decide ((if (Str.ofString "take") = "go" then (1 : Int) else 0) ≤ i) && decide (i ≤ 100)) = _
      rw [if_neg (by decide +kernel)]
      rw [show (decide ((Str.ofString "take") = (Str.ofString "take")) || decide ((Str.ofString "take") = (Str.ofString "drop"))) = true by decide +kernel, Bool.true_and] <;> rfl
    · refine .num h (by decide +kernel) (by decide +kernel) (.int _) ?_
      rw [if_neg (by decide +kernel)]
      show (decide ((if (Str.ofString "drop") = "go" then (1 : Int) else 0) ≤ i) && decide (i ≤ 100)) = _
      rw [if_neg (by decide +kernel)]
      rw [show (decide ((Str.ofString "drop") = (Str.ofString "take")) || decide ((Str.ofString "drop") = (Str.ofString "drop"))) = true by decide +kernel, Bool.true_and] <;> rfl
    · refine .num h (by decide +kernel) (by decide +kernel) (.int _) ?_
      rw [if_pos rfl]
      show (decide ((if (Str.ofString "go") = "go" then (1 : Int) else 0) ≤ i) && decide (i ≤ 100)) = _
      rw [if_pos rfl] <;> rfl
/-- what a text writes, for a promise -/
theorem tl_blank : TL.tl (Str.ofString " ") = [32] := by decide +kernel
theorem tl_keep : TL.tl (Str.ofString "keep") = wK := by decide +kernel
theorem tl_meet : TL.tl (Str.ofString "meet") = wM := by decide +kernel
theorem tl_take : TL.tl (Str.ofString "take") = wT := by decide +kernel
theorem tl_drop : TL.tl (Str.ofString "drop") = wD := by decide +kernel
theorem tl_go : TL.tl (Str.ofString "go") = wG := by decide +kernel
theorem str_of {z : Str} {w : String} {l : List Nat} (e : TL.tl (Str.ofString w) = l) (h : TL.tl z = l) : z = Str.ofString w := TL.ext_tl (h.trans e.symm)
end BM

namespace BM
open PySem PySem.Spec PyProof.Rows L2
def top (i : Nat) : Stmt := PySem.Challenge.pw_backmarks_k03_deeds_written.main.body.getD i (.Pass ⟨0, 0, 0, 0⟩)
abbrev s_is_among : Stmt := top 12
abbrev s_is_deed : Stmt := top 14
abbrev s_line_of : Stmt := top 15
abbrev s_number_of : Stmt := top 16
abbrev s_deed_of : Stmt := top 17
abbrev s_l_cell_at : Stmt := top 19
abbrev s_l_number : Stmt := top 20
abbrev s_l_whole : Stmt := top 21
abbrev s_l_class : Stmt := top 22
abbrev s_l_deed : Stmt := top 23
abbrev s_l_good : Stmt := top 24
abbrev s_l_read : Stmt := top 25
abbrev s_l_told : Stmt := top 26
abbrev s_l_spoilt : Stmt := top 27
abbrev s_law : Stmt := top 28
/-- what the top has left -/
structure Txt (K : PySem.W.Frag) (mg : Str → Option Value) : Type where
  aBadDeed : Addr
  aBadCount : Addr
  aBadRule : Addr
  aFull : Addr
  aTwice : Addr
  aNotKept : Addr
  aAtEnd : Addr
  aNotWanted : Addr
  aMarkError : Addr
  d_is_among : Def K mg "is_among" "is_among" s_is_among ["thing", "low", "high"]
  d_is_deed : Def K mg "is_deed" "is_deed" s_is_deed ["thing"]
  d_line_of : Def K mg "line_of" "line_of" s_line_of ["deed"]
  d_number_of : Def K mg "number_of" "number_of" s_number_of ["word"]
  d_deed_of : Def K mg "deed_of" "deed_of" s_deed_of ["line"]
  d_l_cell_at : Def K mg "_law_cell_at" "_law_cell_at" s_l_cell_at ["_law_script", "_law_k"]
  d_l_number : Def K mg "_law_number" "_law_number" s_l_number ["_law_script", "_law_k"]
  d_l_whole : Def K mg "_law_whole" "_law_whole" s_l_whole ["_law_found"]
  d_l_class : Def K mg "_law_class" "_law_class" s_l_class ["_law_e"]
  d_l_deed : Def K mg "_law_deed" "_law_deed" s_l_deed ["_law_cell"]
  d_l_good : Def K mg "_law_good" "_law_good" s_l_good ["_law_deed_here"]
  d_l_read : Def K mg "_law_read" "_law_read" s_l_read ["_law_line"]
  d_l_told : Def K mg "_law_told" "_law_told" s_l_told ["_law_line"]
  d_l_spoilt : Def K mg "_law_spoilt" "_law_spoilt" s_l_spoilt ["_law_line", "_law_cell"]
  d_law : Def K mg "law" "law" s_law ["_law_script"]
  c_MOST_STEPS : ∃ t, mg "MOST_STEPS" = some (.int 100 t)
  n_isinstance : mg "isinstance" = none
  n_bool : mg "bool" = none
  n_int : mg "int" = none
  n_str : mg "str" = none
  n_len : mg "len" = none
  n_tuple : mg "tuple" = none
  n_ValueError : mg "ValueError" = none
  n_range : mg "range" = none
  x_BadDeed : XC K mg "BadDeed" aBadDeed
  x_BadCount : XC K mg "BadCount" aBadCount
  x_BadRule : XC K mg "BadRule" aBadRule
  x_Full : XC K mg "Full" aFull
  x_Twice : XC K mg "Twice" aTwice
  x_NotKept : XC K mg "NotKept" aNotKept
  x_AtEnd : XC K mg "AtEnd" aAtEnd
  x_NotWanted : XC K mg "NotWanted" aNotWanted
  x_MarkError : XC K mg "MarkError" aMarkError
  q_BadDeed : Kind K (fun j => [aBadCount, aBadRule, aBadDeed, aFull, aTwice, aNotKept, aAtEnd, aNotWanted].getD j 0) aBadDeed 2
  e_BadDeed : PySem.W.exmOne K (.ref aBadDeed) (.ref aMarkError) = some true
def Txt.c8 {K : PySem.W.Frag} {mg : Str → Option Value} (T : Txt K mg) : Nat → Addr := fun j => [T.aBadCount, T.aBadRule, T.aBadDeed, T.aFull, T.aTwice, T.aNotKept, T.aAtEnd, T.aNotWanted].getD j 0
theorem sc_is_among : FnScope ["thing", "low", "high"] ["thing", "low", "high"] (defScope s_is_among) := ⟨rfl, rfl, rfl, by decide +kernel, rfl, by decide +kernel, by decide +kernel⟩
theorem sc_is_deed : FnScope ["thing"] ["thing"] (defScope s_is_deed) := ⟨rfl, rfl, rfl, by decide +kernel, rfl, by decide +kernel, by decide +kernel⟩
theorem sc_line_of : FnScope ["deed"] ["deed"] (defScope s_line_of) := ⟨rfl, rfl, rfl, by decide +kernel, rfl, by decide +kernel, by decide +kernel⟩
theorem sc_number_of : FnScope ["word", "sign"] ["word"] (defScope s_number_of) := ⟨rfl, rfl, rfl, by decide +kernel, rfl, by decide +kernel, by decide +kernel⟩
theorem sc_deed_of : FnScope ["line", "word", "blank", "rest", "deed"] ["line"] (defScope s_deed_of) := ⟨rfl, rfl, rfl, by decide +kernel, rfl, by decide +kernel, by decide +kernel⟩
theorem sc_l_cell_at : FnScope ["_law_script", "_law_k"] ["_law_script", "_law_k"] (defScope s_l_cell_at) := ⟨rfl, rfl, rfl, by decide +kernel, rfl, by decide +kernel, by decide +kernel⟩
theorem sc_l_number : FnScope ["_law_script", "_law_k", "_law_base"] ["_law_script", "_law_k"] (defScope s_l_number) := ⟨rfl, rfl, rfl, by decide +kernel, rfl, by decide +kernel, by decide +kernel⟩
theorem sc_l_whole : FnScope ["_law_found"] ["_law_found"] (defScope s_l_whole) := ⟨rfl, rfl, rfl, by decide +kernel, rfl, by decide +kernel, by decide +kernel⟩
theorem sc_l_class : FnScope ["_law_e", "_law_kinds", "_law_words"] ["_law_e"] (defScope s_l_class) := ⟨rfl, rfl, rfl, by decide +kernel, rfl, by decide +kernel, by decide +kernel⟩
theorem sc_l_deed : FnScope ["_law_cell", "_law_word"] ["_law_cell"] (defScope s_l_deed) := ⟨rfl, rfl, rfl, by decide +kernel, rfl, by decide +kernel, by decide +kernel⟩
theorem sc_l_good : FnScope ["_law_deed_here", "_law_low"] ["_law_deed_here"] (defScope s_l_good) := ⟨rfl, rfl, rfl, by decide +kernel, rfl, by decide +kernel, by decide +kernel⟩
theorem sc_l_read : FnScope ["_law_line", "_law_parts", "_law_number_here"] ["_law_line"] (defScope s_l_read) := ⟨rfl, rfl, rfl, by decide +kernel, rfl, by decide +kernel, by decide +kernel⟩
theorem sc_l_told : FnScope ["_law_line", "_law_e"] ["_law_line"] (defScope s_l_told) := ⟨rfl, rfl, rfl, by decide +kernel, rfl, by decide +kernel, by decide +kernel⟩
theorem sc_l_spoilt : FnScope ["_law_line", "_law_cell", "_law_some", "_law_at", "_law_sign", "_law_parts", "_law_odd", "_law_last"] ["_law_line", "_law_cell"] (defScope s_l_spoilt) := ⟨rfl, rfl, rfl, by decide +kernel, rfl, by decide +kernel, by decide +kernel⟩
theorem sc_law : FnScope ["_law_script", "_law_deed_here", "_law_good_here", "_law_told_here", "_law_text", "_law_half", "_law_blank", "_law_line", "_law_due", "_law_found", "_law_odd"] ["_law_script"] (defScope s_law) := ⟨rfl, rfl, rfl, by decide +kernel, rfl, by decide +kernel, by decide +kernel⟩
section
variable {P : Program} {w : World} {K : PySem.W.Frag} {mg : Str → Option Value} {base : Heap}
-- @@ is_among
/-- is_among(thing, low, high) -/
def sp_is_among (K : PySem.W.Frag) : Sp := fun vs H Q _ => ∃ (x : V) (lo hi : Int) (o : Option Int), vs = [x, .int lo, .int hi] ∧ Thg K H x o ∧ Q (.bl (among o lo hi)) H
theorem ok_is_among (T : Txt K mg) : OkF P w K mg base "is_among" 1 ["thing", "low", "high"] (sp_is_among K) := by
  refine okf T.d_is_among sc_is_among (fun vs H Q E h => ?_) (fun f cdv A outer s H vs Q E hr h => ?_)
  · obtain ⟨x, lo, hi, o, rfl, th, k⟩ := h
    rfl
  · obtain ⟨x, lo, hi, o, rfl, th, k⟩ := h
    refine ⟨_, (pss_one (ps_ret (pe_and (pe_callB call_isi (by rfl) T.n_isinstance (by decide +kernel) (pa_cons (pv 0) (pa_cons (pe_bltn (v := .ty "int") (by rfl) T.n_int (by decide +kernel) rfl) pa_nil))) (pe_and (pe_not (pe_callB call_isi (by rfl) T.n_isinstance (by decide +kernel) (pa_cons (pv 0) (pa_cons (pe_bltn (v := .ty "bool") (by rfl) T.n_bool (by decide +kernel) rfl) pa_nil)))) (pe_one (pe_chain op_le op_le (pv 1) (pv 0) (pv 2))))))), ?_⟩
    refine ⟨_, rfl, ?_⟩
    cases th with
    | int i =>
      refine ⟨_, _, _, _, true, rfl, .ty "int", .base (.int i), kit_ty (by decide +kernel), true, rfl, iteT ?_⟩
      refine ⟨_, rfl, _, _, _, _, false, rfl, .ty "bool", .base (.int i), kit_ty (by decide +kernel), false, rfl, true, rfl, iteT ?_⟩
      refine ⟨_, rfl, _, rfl, _, _, rfl, rfl, _, rfl, ?_⟩
      refine ite2 (fun c => ?_) (fun c => ?_)
      · refine ⟨_, rfl, _, _, rfl, rfl, ?_⟩
        have e : among (some i) lo hi = decide (i ≤ hi) := by
          show (decide (lo ≤ i) && decide (i ≤ hi)) = decide (i ≤ hi)
          rw [c, Bool.true_and]
        rw [e] at k
        exact k
      · have e : among (some i) lo hi = false := by
          show (decide (lo ≤ i) && decide (i ≤ hi)) = false
          rw [Bool.eq_false_iff.mpr c, Bool.false_and]
        rw [e] at k
        exact k
    | bl b =>
      refine ⟨_, _, _, _, true, rfl, .ty "int", .base (.bl b), kit_ty (by decide +kernel), true, rfl, iteT ?_⟩
      refine ⟨_, rfl, _, _, _, _, true, rfl, .ty "bool", .base (.bl b), kit_ty (by decide +kernel), true, rfl, false, rfl, iteF ?_⟩
      exact k
    | oth ty ni =>
      refine ⟨_, _, _, _, false, rfl, .ty "int", ty, ni, false, rfl, iteF ?_⟩
      exact k
-- @@ is_deed
def sp_is_deed (K : PySem.W.Frag) : Sp := fun vs H Q _ => ∃ (x : V) (b : Bool), vs = [x] ∧ DeedTh K H x b ∧ Q (.bl b) H
theorem str_eqD (w v : Str) : decide (V.str w = V.str v) = decide (w = v) := decide_eq_decide.mpr ⟨V.str.inj, fun e => by rw [e]⟩
theorem len_ne0D {v : V} {r : List V} : decide (V.int ((v :: r).length : Int) = V.int 0) = false := decide_eq_false (fun z => by have := V.int.inj z; rw [List.length_cons] at this; omega)
def DTail (K : PySem.W.Frag) (H : Hp) (w : Str) (r : List V) (b : Bool) : Prop :=
  ((w = "keep" ∨ w = "meet") ∧ b = decide (r = [])) ∨ (w ≠ "keep" ∧ w ≠ "meet" ∧ r.length ≠ 1 ∧ b = false) ∨ (∃ v o, w ≠ "keep" ∧ w ≠ "meet" ∧ r = [v] ∧ Thg K H v o ∧ b = if w = "go" then among o 1 100 else (decide (w = "take") || decide (w = "drop")) && among o 0 100)
theorem ok_is_deed (T : Txt K mg) : OkF P w K mg base "is_deed" 2 ["thing"] (sp_is_deed K) := by
  obtain ⟨f_is_among, fd_is_among, m_is_among, k_is_among, b_is_among, G_is_among⟩ := ok_is_among (P := P) (w := w) (base := base) T
  refine okf T.d_is_deed sc_is_deed (fun vs H Q E h => ?_) (fun f cdv A outer s H vs Q E hr h => ?_)
  · obtain ⟨x, b, rfl, th, k⟩ := h
    rfl
  · obtain ⟨x, b, rfl, th, k⟩ := h
    refine ⟨_, (Evl.pss_cut (ps_if (PW.pt (pw_or (pt_not (pt_val (pe_callB call_isi (by rfl) T.n_isinstance (by decide +kernel) (pa_cons (pv 0) (pa_cons (pe_bltn (v := .ty "tuple") (by rfl) T.n_tuple (by decide +kernel) rfl) pa_nil))))) (pw_or (pt_cmpR op_eq (pe_callB call_len_seq (by rfl) T.n_len PySem.boot_len (pa_cons (pv 0) pa_nil)) pe_int (nomark _)) (pw_or1 (pt_not (pt_val (pe_callB call_isi (by rfl) T.n_isinstance (by decide +kernel) (pa_cons (pe_ix ix_tup (pv 0) pe_int (fun _ _ => rfl)) (pa_cons (pe_bltn (v := .ty "str") (by rfl) T.n_str (by decide +kernel) rfl) pa_nil)))))))))
        (pss_one (ps_ret pe_bl))
        pss_nil)
        (Evl.pss_cut (ps_if (PW.pt (pw_or (pt_cmpR op_eq (pe_ix ix_tup (pv 0) pe_int (fun _ _ => rfl)) pe_str (nomark _)) (pw_or1 (pt_cmpR op_eq (pe_ix ix_tup (pv 0) pe_int (fun _ _ => rfl)) pe_str (nomark _)))))
        (pss_one (ps_ret (pe_cmpR op_eq (pe_callB call_len_seq (by rfl) T.n_len PySem.boot_len (pa_cons (pv 0) pa_nil)) pe_int (nomark _))))
        pss_nil)
        (pss_cons (ps_if (pt_cmpR op_ne (pe_callB call_len_seq (by rfl) T.n_len PySem.boot_len (pa_cons (pv 0) pa_nil)) pe_int (nomark _))
        (pss_one (ps_ret pe_bl))
        pss_nil)
        (pss_cons (ps_if (pt_cmpR op_eq (pe_ix ix_tup (pv 0) pe_int (fun _ _ => rfl)) pe_str (nomark _))
        (pss_one (ps_ret (pe_call G_is_among (hr.mono (by decide)) (by rfl) m_is_among k_is_among b_is_among .nil passL (pa_cons (pe_ix ix_tup (pv 0) pe_int (fun _ _ => rfl)) (pa_cons pe_int (pa_cons (pe_glob (v := .int 100) (by rfl) T.c_MOST_STEPS.choose_spec ⟨_, rfl⟩) pa_nil))))))
        pss_nil)
        (pss_one (ps_ret (pe_and (pe_or (pe_cmpR op_eq (pe_ix ix_tup (pv 0) pe_int (fun _ _ => rfl)) pe_str (nomark _)) (pe_one (pe_cmpR op_eq (pe_ix ix_tup (pv 0) pe_int (fun _ _ => rfl)) pe_str (nomark _)))) (pe_one (pe_call G_is_among (hr.mono (by decide)) (by rfl) m_is_among k_is_among b_is_among .nil passL (pa_cons (pe_ix ix_tup (pv 0) pe_int (fun _ _ => rfl)) (pa_cons pe_int (pa_cons (pe_glob (v := .int 100) (by rfl) T.c_MOST_STEPS.choose_spec ⟨_, rfl⟩) pa_nil)))))))))))), ?_⟩
    refine ⟨fun σ H' => H' = H ∧ σ = [some x] ∧ ∃ q w r, x = .ref q ∧ H q = some (.tup (.str w :: r)) ∧ DTail K H w r b, ?_, ?_⟩
    · have body : ∀ q w r, H q = some (.tup (.str w :: r)) → DTail K H w r b → x = .ref q → (tIfS (tOr (tNot (tB (tCB (rIsi K) (tCons (tVar 0) (tCons (tC (.ty "tuple")) tNil))))) (tOr (tTest (tOp rEq (tCB (fun xs H Q => ∃ p ys, xs = [V.ref p] ∧ (SqL K H p ys ∨ SqT K H p ys) ∧ Q (V.int ys.length) H) (tCons (tVar 0) tNil)) (tC (.int 0)))) (tNot (tB (tCB (rIsi K) (tCons (tOp (rIxT K) (tVar 0) (tC (.int 0))) (tCons (tC (.ty "str")) tNil))))))) (tRet (tC (.bl false))) tNext)
          { nx := fun σ H' => H' = H ∧ σ = [some x] ∧ ∃ q w r, x = .ref q ∧ H q = some (.tup (.str w :: r)) ∧ DTail K H w r b, rt := Q } [some x] H := fun q w r hq tl hx => by
        refine ⟨_, rfl, x, _, _, _, true, rfl, .ty "tuple", by rw [hx]; exact .base (.tup hq), kit_ty (by decide +kernel), true, rfl, iteF ?_⟩
        refine ⟨_, rfl, q, _, by rw [hx], .inr (SqT.of hq), rfl, _, rfl, ?_⟩
        rw [len_ne0D]
        refine iteF ?_
        exact ⟨_, rfl, q, _, _, .str w, hx, rfl, SqT.of hq, atI_nat (j := 0) rfl, .str w, _, _, _, true, rfl, .ty "str", .base (.str _), kit_ty (by decide +kernel), true, rfl, iteF ⟨rfl, rfl, q, w, r, hx, hq, tl⟩⟩
      cases th with
      | ntup ty ni =>
        exact ⟨_, rfl, x, _, _, _, false, rfl, .ty "tuple", ty, ni, false, rfl, iteT k⟩
      | @nil q hq =>
        refine ⟨_, rfl, .ref q, _, _, _, true, rfl, .ty "tuple", .base (.tup hq), kit_ty (by decide +kernel), true, rfl, iteF ?_⟩
        exact ⟨_, rfl, q, _, rfl, .inr (SqT.of hq), rfl, _, rfl, iteT k⟩
      | @nstr q v r t hq ty ni =>
        refine ⟨_, rfl, .ref q, _, _, _, true, rfl, .ty "tuple", .base (.tup hq), kit_ty (by decide +kernel), true, rfl, iteF ?_⟩
        refine ⟨_, rfl, q, _, rfl, .inr (SqT.of hq), rfl, _, rfl, ?_⟩
        rw [len_ne0D]
        refine iteF ?_
        exact ⟨_, rfl, q, _, _, v, rfl, rfl, SqT.of hq, atI_nat (j := 0) rfl, v, _, _, _, false, rfl, .ty "str", ty, ni, false, rfl, iteT k⟩
      | @one q w r _ hq hw hb => exact body q w r hq (.inl ⟨hw, hb⟩) rfl
      | @two q w r hq h1 h2 hl => exact body q w r hq (.inr (.inl ⟨h1, h2, hl, rfl⟩)) rfl
      | @num q w v o _ hq h1 h2 th hb => exact body q w [v] hq (.inr (.inr ⟨v, o, h1, h2, rfl, th, hb⟩)) rfl
    rintro σ H' ⟨rfl, rfl, q, w, r, rfl, hq, tl⟩
    have lenq : ∀ n : Nat, decide (V.int ((V.str w :: r).length : Int) = V.int (n : Int)) = decide (r.length + 1 = n) := fun n => decide_eq_decide.mpr ⟨fun z => by
      have := V.int.inj z
      rw [List.length_cons] at this
      omega, fun z => by rw [List.length_cons, z]⟩
    refine ⟨fun σ H1 => H1 = H' ∧ σ = [some (.ref q)] ∧ w ≠ "keep" ∧ w ≠ "meet", ?_, ?_⟩
    · have go : (w = "keep" ∨ w = "meet") → Q (.bl (decide (V.int ((V.str w :: r).length : Int) = V.int 1))) H' := fun hw => by
        rcases tl with ⟨_, hb⟩ | ⟨h1, h2, _⟩ | ⟨v, o, h1, h2, _⟩
        · rw [show (decide (V.int ((V.str w :: r).length : Int) = V.int 1)) = decide (r = []) from (lenq 1).trans (decide_eq_decide.mpr ⟨fun z => List.length_eq_zero_iff.mp (by omega), fun z => by rw [z] <;> rfl⟩), ← hb]
          exact k
        · exact absurd hw (fun z => z.elim h1 h2)
        · exact absurd hw (fun z => z.elim h1 h2)
      refine ⟨_, rfl, q, _, _, .str w, rfl, rfl, SqT.of hq, atI_nat (j := 0) rfl, rfl, _, rfl, ?_⟩
      rw [str_eqD]
      refine ite2 (fun c => ?_) (fun c => ?_)
      · exact iteT ⟨_, rfl, q, _, rfl, .inr (SqT.of hq), rfl, go (.inl (of_decide_eq_true c))⟩
      · refine ⟨_, rfl, q, _, _, .str w, rfl, rfl, SqT.of hq, atI_nat (j := 0) rfl, rfl, _, rfl, ?_⟩
        rw [str_eqD]
        refine ite2 (fun c2 => ?_) (fun c2 => ?_)
        · exact ⟨_, rfl, q, _, rfl, .inr (SqT.of hq), rfl, go (.inr (of_decide_eq_true c2))⟩
        · exact ⟨rfl, rfl, fun z => c (decide_eq_true z), fun z => c2 (decide_eq_true z)⟩
    rintro σ H1 ⟨rfl, rfl, h1, h2⟩
    refine ⟨_, rfl, q, _, rfl, .inr (SqT.of hq), rfl, _, rfl, ?_⟩
    rw [show (decide (V.int ((V.str w :: r).length : Int) = V.int 2)) = decide (r.length + 1 = 2) from lenq 2]
    rcases tl with ⟨hw, _⟩ | ⟨_, _, hl, hb⟩ | ⟨v, o, _, _, rfl, th, hb⟩
    · exact absurd hw (fun z => z.elim h1 h2)
    · rw [decide_eq_false (show ¬ (r.length + 1 = 2) by omega)]
      rw [hb] at k
      exact iteT k
    · refine iteF ?_
      refine ⟨_, rfl, q, _, _, .str w, rfl, rfl, SqT.of hq, atI_nat (j := 0) rfl, rfl, _, rfl, ?_⟩
      rw [str_eqD]
      by_cases cg : w = "go"
      · rw [decide_eq_true cg]
        rw [if_pos cg] at hb
        rw [hb] at k
        exact iteT ⟨_, rfl, q, _, _, v, rfl, rfl, SqT.of hq, atI_nat (j := 1) rfl, v, 1, 100, o, rfl, th, k⟩
      · rw [decide_eq_false cg]
        rw [if_neg cg] at hb
        rw [hb] at k
        refine iteF ?_
        have last : ∀ c : Bool, c = (decide (w = "take") || decide (w = "drop")) → (if c = true then (tCall (sp_is_among K) [] E0 (tCons (tOp (rIxT K) (tVar 0) (tC (.int 1))) (tCons (tC (.int 0)) (tCons (tC (.int 100)) tNil)))) [some (.ref q)] H1 (fun v H2 => Q v H2) else Q (.bl false) H1) := fun c hc => by
          rw [← hc] at k
          cases c with
          | true =>
            rw [Bool.true_and] at k
            exact iteT ⟨_, rfl, q, _, _, v, rfl, rfl, SqT.of hq, atI_nat (j := 1) rfl, v, 0, 100, o, rfl, th, k⟩
          | false =>
            rw [Bool.false_and] at k
            exact iteF k
        refine ⟨_, rfl, q, _, _, .str w, rfl, rfl, SqT.of hq, atI_nat (j := 0) rfl, rfl, _, rfl, ?_⟩
        rw [str_eqD]
        refine ite2 (fun c => ?_) (fun c => ?_)
        · exact ⟨true, rfl, last true (by rw [c, Bool.true_or])⟩
        · refine ⟨_, rfl, q, _, _, .str w, rfl, rfl, SqT.of hq, atI_nat (j := 0) rfl, rfl, ?_⟩
          rw [str_eqD]
          exact ⟨_, rfl, last _ (by rw [Bool.eq_false_iff.mpr c, Bool.false_or])⟩
-- @@ line_of
def sp_line_of (K : PySem.W.Frag) : Sp := fun vs H Q _ => ∃ (q : Addr) (d : Raw), vs = [.ref q] ∧ H q = some (.tup d.vs) ∧ d.ok ∧ Q (.str d.text) H
theorem log_small {n : Int} (h1 : -1 ≤ n) (h2 : n ≤ 103) : n.natAbs.log2 < 1920 := by
  have h : n.natAbs < 2 ^ 1920 := Nat.lt_of_lt_of_le (show n.natAbs < 2 ^ 8 by omega) (Nat.pow_le_pow_right (by decide) (by decide))
  by_cases z : n.natAbs = 0
  · rw [z]
    decide
  · exact (Nat.log2_lt z).mpr h
theorem ok_line_of (T : Txt K mg) : OkF P w K mg base "line_of" 1 ["deed"] (sp_line_of K) := by
  refine okf T.d_line_of sc_line_of (fun vs H Q E h => ?_) (fun f cdv A outer s H vs Q E hr h => ?_)
  · obtain ⟨q, d, rfl, hq, ok, k⟩ := h
    rfl
  · obtain ⟨q, d, rfl, hq, ok, k⟩ := h
    refine ⟨_, (pss_cons (ps_if (pt_cmpR op_eq (pe_callB call_len_seq (by rfl) T.n_len PySem.boot_len (pa_cons (pv 0) pa_nil)) pe_int (nomark _))
        (pss_one (ps_ret (pe_ix ix_tup (pv 0) pe_int (fun _ _ => rfl))))
        pss_nil)
        (pss_one (ps_ret (pe_op op_add_str (pe_op op_add_str (pe_ix ix_tup (pv 0) pe_int (fun _ _ => rfl)) pe_str) (pe_callTy (T := "str") call_str_int (by rfl) T.n_str (by decide +kernel) (pa_cons (pe_ix ix_tup (pv 0) pe_int (fun _ _ => rfl)) pa_nil)))))), ?_⟩
    obtain ⟨w', n⟩ := d
    cases n with
    | none =>
      have hq : H q = some (.tup [.str w']) := hq
      exact ⟨_, rfl, q, _, rfl, .inr (SqT.of hq), rfl, _, rfl, iteT ⟨_, rfl, q, _, _, .str w', rfl, rfl, SqT.of hq, rfl, k⟩⟩
    | some n =>
      have hq : H q = some (.tup [.str w', .int n]) := hq
      have ok : (w' = "take" ∨ w' = "drop" ∨ w' = "go") ∧ -1 ≤ n ∧ n ≤ 103 := ok
      have ln := num_len ok.2.1 ok.2.2
      have b1 : Str.length (Str.ofString " ") = 1 := by decide +kernel
      have lt := Raw.len (d := ⟨w', some n⟩) ok
      have lt : (w' ++ Str.ofString " " ++ Str.ofString (toString n)).length ≤ 12 := lt
      rw [slen, slen] at lt
      refine ⟨_, rfl, q, _, rfl, .inr (SqT.of hq), rfl, _, rfl, iteF ?_⟩
      exact ⟨_, rfl, q, _, _, .str w', rfl, rfl, SqT.of hq, rfl, _, _, rfl, rfl, sz5 (by omega), _, rfl, q, _, _, .int n, rfl, rfl, SqT.of hq, rfl, n, rfl, log_small ok.2.1 ok.2.2, _, _, rfl, rfl, sz5 (by rw [slen]; omega), k⟩
-- @@ number_of
def sp_number_of (K : PySem.W.Frag) : Sp := fun vs H Q _ => ∃ z : Str, vs = [.str z] ∧ z.length ≤ 5000 ∧ Q (oW (numQ (TL.tl z))) H
theorem gt_len (n m : Nat) : decide ((n : Int) > (m : Int)) = decide (m < n) := decide_eq_decide.mpr ⟨fun h => by omega, fun h => by omega⟩
theorem digit_in (c : Nat) : decide (c ∈ (Str.ofString "0123456789").cps.toList) = isDig c := by
  rw [show (Str.ofString "0123456789").cps.toList = [48, 49, 50, 51, 52, 53, 54, 55, 56, 57] by decide +kernel]
  unfold isDig
  rw [Bool.eq_iff_iff]
  simp only [decide_eq_true_eq, Bool.and_eq_true, List.mem_cons, List.not_mem_nil, or_false]
  omega
theorem take_all {l : List Nat} {i c : Nat} (h : (l.take i).all isDig = true) (hc : l[i]? = some c) (hd : isDig c = true) : (l.take (i + 1)).all isDig = true := by
  rw [take_succ hc, List.all_append, h, Bool.true_and, List.all_cons, hd] <;> rfl
theorem ok_number_of (T : Txt K mg) : OkF P w K mg base "number_of" 1 ["word"] (sp_number_of K) := by
  refine okf T.d_number_of sc_number_of (fun vs H Q E h => ?_) (fun f cdv A outer s H vs Q E hr h => ?_)
  · obtain ⟨z, rfl, hz, k⟩ := h
    rfl
  · obtain ⟨z, rfl, hz, k⟩ := h
    refine ⟨_, (Evl.pss_cut (ps_if (PW.pt (pw_or (pt_cmpR op_eq (pv 0) pe_str (nomark _)) (pw_or (pt_cmpR op_gt (pe_callB call_len_str (by rfl) T.n_len PySem.boot_len (pa_cons (pv 0) pa_nil)) pe_int (nomark _)) (pw_or1 (PW.pt (pw_and (pt_cmpR op_eq (pe_ix ix_str (pv 0) pe_int (fun _ _ => rfl)) pe_str (nomark _)) (pw_and1 (pt_cmpR op_gt (pe_callB call_len_str (by rfl) T.n_len PySem.boot_len (pa_cons (pv 0) pa_nil)) pe_int (nomark _)))))))))
        (pss_one (ps_ret pe_non))
        pss_nil)
        (pss_cons (ps_for (passes_of rfl) rfl (pi_str (pv 0)) (pg_name (i := 1) sc_number_of.nd rfl (Or.inl rfl))
        (pss_one (ps_if (pt_cmpR op_notIn_sign (pv 1) pe_str rfl)
        (pss_one (ps_ret pe_non))
        pss_nil)))
        (pss_one (ps_ret (pe_callTy (T := "int") call_int_str (by rfl) T.n_int (by decide +kernel) (pa_cons (pv 0) pa_nil)))))), ?_⟩
    have hl := TL.len_tl z
    refine ⟨fun σ H' => H' = H ∧ σ = [some (.str z), none] ∧ ¬ (TL.tl z = [] ∨ 3 < (TL.tl z).length ∨ ((TL.tl z).head? = some 48 ∧ 1 < (TL.tl z).length)), ?_, ?_⟩
    · have bad : (TL.tl z = [] ∨ 3 < (TL.tl z).length ∨ ((TL.tl z).head? = some 48 ∧ 1 < (TL.tl z).length)) → Q .non H := fun c => by
        have e : numQ (TL.tl z) = none := by
          unfold numQ
          rw [if_pos c]
        rw [e] at k
        exact k
      refine ⟨_, rfl, rfl, _, rfl, ?_⟩
      rw [str_iff, show TL.tl (Str.ofString "") = [] from rfl]
      refine ite2 (fun c => iteT (bad (.inl (of_decide_eq_true c)))) (fun c1 => ?_)
      have c1 : ¬ TL.tl z = [] := fun e => c1 (decide_eq_true e)
      refine ⟨_, rfl, z, rfl, sz5 (by omega), _, _, rfl, rfl, _, rfl, ?_⟩
      rw [show decide ((z.length : Int) > 3) = decide (3 < z.length) from gt_len z.length 3]
      refine ite2 (fun c => iteT (bad (.inr (.inl (by have := of_decide_eq_true c; omega))))) (fun c2 => ?_)
      have c2 : ¬ 3 < z.length := fun e => c2 (decide_eq_true e)
      obtain ⟨c, r, e⟩ : ∃ c r, TL.tl z = c :: r := by
        cases h : TL.tl z with
        | nil => exact absurd h c1
        | cons c r => exact ⟨c, r, rfl⟩
      refine ⟨_, rfl, z, _, c, rfl, rfl, sz5 (by omega), atI_nat (j := 0) (by show (TL.tl z)[0]? = some c; rw [e] <;> rfl), rfl, _, rfl, ?_⟩
      rw [str_iff, show TL.tl (Str.ofString "0") = [48] by decide +kernel, show TL.tl ⟨#[c]⟩ = [c] from rfl]
      refine ite2 (fun c3 => ?_) (fun c3 => ?_)
      · have c3 : c = 48 := (List.cons.inj (of_decide_eq_true c3)).1
        refine ⟨_, rfl, z, rfl, sz5 (by omega), _, _, rfl, rfl, _, rfl, ?_⟩
        rw [show decide ((z.length : Int) > 1) = decide (1 < z.length) from gt_len z.length 1]
        refine ite2 (fun c4 => bad (.inr (.inr ⟨by rw [e, c3] <;> rfl, by have := of_decide_eq_true c4; omega⟩))) (fun c4 => ⟨rfl, rfl, ?_⟩)
        have c4 : ¬ 1 < z.length := fun e => c4 (decide_eq_true e)
        rintro (q | q | q)
        · exact c1 q
        · omega
        · omega
      · have c3 : ¬ c = 48 := fun q => c3 (decide_eq_true (by rw [q]))
        refine iteF ⟨rfl, rfl, ?_⟩
        rintro (q | q | q)
        · exact c1 q
        · omega
        · rw [e] at q
          exact c3 (Option.some.inj q.1)
    rintro σ H' ⟨rfl, rfl, ng⟩
    have sz : z.cps.size = (TL.tl z).length := by simp [TL.tl]
    have at_ : ∀ i : Nat, z.cps[i]? = (TL.tl z)[i]? := fun i => by simp [TL.tl]
    refine ⟨_, rfl, z, rfl, ?_⟩
    refine for_it walk_str (fun i σ H1 => H1 = H' ∧ ∃ u, σ = [some (.str z), u] ∧ ((TL.tl z).take i).all isDig = true) ⟨rfl, none, rfl, rfl⟩ (fun _ _ _ _ _ => trivial) ?_ ?_
    · rintro i x σ H1 H2 hi ⟨rfl, u, rfl, hall⟩ ⟨rfl, c, hc, rfl⟩
      rw [at_] at hc
      refine ⟨_, rfl, c, _, rfl, rfl, _, rfl, ?_⟩
      rw [digit_in]
      cases hd : isDig c with
      | false =>
        refine iteT ?_
        have e : numQ (TL.tl z) = none := by
          unfold numQ
          rw [if_neg ng, if_neg (fun q => ?_)]
          have := List.all_eq_true.mp q c (List.mem_of_getElem? hc)
          rw [hd] at this
          cases this
        rw [e] at k
        exact k
      | true => exact iteF ⟨rfl, _, rfl, take_all hall hc hd⟩
    · rintro σ H1 ⟨rfl, u, rfl, hall⟩
      rw [sz, List.take_length] at hall
      have ne : TL.tl z ≠ [] := fun q => ng (.inl q)
      have l3 : ¬ 3 < (TL.tl z).length := fun q => ng (.inr (.inl q))
      have e : numQ (TL.tl z) = some (NumText.digitsVal (TL.tl z)) := by
        unfold numQ
        rw [if_neg ng, if_pos hall]
      rw [e] at k
      exact ⟨_, rfl, z, _, rfl, intText_digits (digits_all hall) ne (by omega), by omega, k⟩
-- @@ deed_of
def sp_deed_of (K : PySem.W.Frag) (C : Addr) : Sp := fun vs H Q E => ∃ z : Str, vs = [.str z] ∧ z.length ≤ 5000 ∧ (∀ d, deedL (TL.tl z) = some d → RetT H d.vs Q) ∧ (deedL (TL.tl z) = none → ∀ H', Same H H' → E (.ref C) none H')
theorem deedNum_ok {w : List Nat} {n : Nat} {d : Deed} (h : deedNum w n = some d) : d.ok ∧ ((w = wG ∧ d = .go n) ∨ (w = wT ∧ d = .take n) ∨ (w = wD ∧ d = .drop n)) := by
  unfold deedNum at h
  split at h
  · rename_i e
    split at h
    · rename_i b
      cases h
      exact ⟨b, .inl ⟨e, rfl⟩⟩
    · cases h
  · split at h
    · rename_i e
      split at h
      · rename_i b
        cases h
        exact ⟨b, .inr (.inl ⟨e, rfl⟩)⟩
      · cases h
    · split at h
      · rename_i e
        split at h
        · rename_i b
          cases h
          exact ⟨b, .inr (.inr ⟨e, rfl⟩)⟩
        · cases h
      · cases h
/-- what is made of a word and a number stands as a deed, or as none -/
theorem deed_th1 {K : PySem.W.Frag} {H : Hp} {t : Addr} {z : Str} (h : H t = some (.tup [.str z])) (hp : TL.par [32] [] (TL.tl z) = none) : DeedTh K H (.ref t) (deedL (TL.tl z)).isSome ∧ ∀ d, deedL (TL.tl z) = some d → d.vs = [.str z] := by
  have e : deedL (TL.tl z) = if TL.tl z = wK then some .keep else if TL.tl z = wM then some .meet else none := by
    unfold deedL
    rw [hp] <;> rfl
  rw [e]
  by_cases c : TL.tl z = wK
  · rw [if_pos c]
    have ez : z = Str.ofString "keep" := str_of tl_keep c
    refine ⟨.one h (.inl ez) rfl, fun d hd => ?_⟩
    rw [← Option.some.inj hd, ez] <;> rfl
  · rw [if_neg c]
    by_cases c2 : TL.tl z = wM
    · rw [if_pos c2]
      have ez : z = Str.ofString "meet" := str_of tl_meet c2
      refine ⟨.one h (.inr ez) rfl, fun d hd => ?_⟩
      rw [← Option.some.inj hd, ez] <;> rfl
    · rw [if_neg c2]
      exact ⟨.two h (fun q => c (by rw [q]; exact tl_keep)) (fun q => c2 (by rw [q]; exact tl_meet)) (by decide), fun d hd => nomatch hd⟩
theorem thg_oW {K : PySem.W.Frag} {H : Hp} (o : Option Nat) : Thg K H (oW o) (o.map fun n => (n : Int)) := by
  cases o with
  | none => exact .non
  | some n => exact .int _
theorem deed_th2 {K : PySem.W.Frag} {H : Hp} {t : Addr} {l : List Nat} {z : Str} {w r : List Nat} (ez : TL.tl z = w) (h : H t = some (.tup [.str z, oW (numQ r)])) (hp : TL.par [32] [] l = some (w, r)) :
    DeedTh K H (.ref t) (deedL l).isSome ∧ ∀ d, deedL l = some d → d.vs = [.str z, oW (numQ r)] := by
  have e : deedL l = match numQ r with | none => none | some n => deedNum w n := by
    unfold deedL
    rw [hp] <;> rfl
  rw [e]
  by_cases ck : z = Str.ofString "keep" ∨ z = Str.ofString "meet"
  · have en : (match numQ r with | none => none | some n => deedNum w n) = none := by
      cases numQ r with
      | none => rfl
      | some n =>
        show deedNum w n = none
        cases q : deedNum w n with
        | none => rfl
        | some d =>
          have := (deedNum_ok q).2
          rw [← ez] at this
          rcases ck with rfl | rfl
          · rw [tl_keep] at this
            rcases this with ⟨a, _⟩ | ⟨a, _⟩ | ⟨a, _⟩ <;> exact absurd a (by decide)
          · rw [tl_meet] at this
            rcases this with ⟨a, _⟩ | ⟨a, _⟩ | ⟨a, _⟩ <;> exact absurd a (by decide)
    rw [en]
    exact ⟨.one h ck (by show false = decide _; simp), fun d hd => nomatch hd⟩
  · refine ⟨.num h (fun q => ck (.inl q)) (fun q => ck (.inr q)) (thg_oW (numQ r)) ?_, fun d hd => ?_⟩
    · have dw : ∀ (s : String) (l : List Nat), TL.tl (Str.ofString s) = l → (decide (z = Str.ofString s)) = decide (w = l) := fun s l hl => decide_eq_decide.mpr ⟨fun q => by rw [← ez, q, hl], fun q => str_of hl (ez.trans q)⟩
      have dg : (z = Str.ofString "go") ↔ w = wG := ⟨fun q => by rw [← ez, q, tl_go], fun q => str_of tl_go (ez.trans q)⟩
      rw [dw "take" wT tl_take, dw "drop" wD tl_drop]
      cases numQ r with
      | none =>
        show false = if z = Str.ofString "go" then false else ((decide (w = wT) || decide (w = wD)) && false)
        rw [Bool.and_false]
        simp
      | some n =>
        show (deedNum w n).isSome = if z = Str.ofString "go" then (decide ((1 : Int) ≤ (n : Int)) && decide ((n : Int) ≤ 100)) else ((decide (w = wT) || decide (w = wD)) && (decide ((0 : Int) ≤ (n : Int)) && decide ((n : Int) ≤ 100)))
        unfold deedNum
        by_cases cg : w = wG
        · rw [if_pos cg, if_pos (dg.mpr cg)]
          by_cases b : 1 ≤ n ∧ n ≤ 100
          · rw [if_pos b, decide_eq_true (by omega), decide_eq_true (by omega)] <;> rfl
          · rw [if_neg b]
            by_cases b1 : 1 ≤ n
            · rw [decide_eq_false (show ¬ (n : Int) ≤ 100 by omega), Bool.and_false] <;> rfl
            · rw [decide_eq_false (show ¬ (1 : Int) ≤ (n : Int) by omega), Bool.false_and] <;> rfl
        · rw [if_neg cg, if_neg (fun q => cg (dg.mp q)), decide_eq_true (show (0 : Int) ≤ (n : Int) by omega), Bool.true_and]
          have ei : decide ((n : Int) ≤ 100) = decide (n ≤ 100) := decide_eq_decide.mpr ⟨fun q => by omega, fun q => by omega⟩
          rw [ei]
          by_cases ct : w = wT
          · rw [if_pos ct, decide_eq_true ct, Bool.true_or, Bool.true_and]
            by_cases b : n ≤ 100
            · rw [if_pos b, decide_eq_true b] <;> rfl
            · rw [if_neg b, decide_eq_false b] <;> rfl
          · rw [if_neg ct, decide_eq_false ct, Bool.false_or]
            by_cases cd : w = wD
            · rw [if_pos cd, decide_eq_true cd, Bool.true_and]
              by_cases b : n ≤ 100
              · rw [if_pos b, decide_eq_true b] <;> rfl
              · rw [if_neg b, decide_eq_false b] <;> rfl
            · rw [if_neg cd, decide_eq_false cd, Bool.false_and] <;> rfl
    · cases q : numQ r with
      | none => rw [q] at hd; cases hd
      | some n =>
        rw [q] at hd
        have hd : deedNum w n = some d := hd
        rcases (deedNum_ok hd).2 with ⟨a, rfl⟩ | ⟨a, rfl⟩ | ⟨a, rfl⟩
        · rw [str_of tl_go (ez.trans a)] <;> rfl
        · rw [str_of tl_take (ez.trans a)] <;> rfl
        · rw [str_of tl_drop (ez.trans a)] <;> rfl
theorem ok_deed_of (T : Txt K mg) : OkF P w K mg base "deed_of" 3 ["line"] (sp_deed_of K T.aBadDeed) := by
  obtain ⟨f_number_of, fd_number_of, m_number_of, k_number_of, b_number_of, G_number_of⟩ := ok_number_of (P := P) (w := w) (base := base) T
  obtain ⟨f_is_deed, fd_is_deed, m_is_deed, k_is_deed, b_is_deed, G_is_deed⟩ := ok_is_deed (P := P) (w := w) (base := base) T
  refine okf T.d_deed_of sc_deed_of (fun vs H Q E h => ?_) (fun f cdv A outer s H vs Q E hr h => ?_)
  · obtain ⟨z, rfl, hz, kg, kb⟩ := h
    rfl
  · obtain ⟨z, rfl, hz, kg, kb⟩ := h
    refine ⟨_, (Evl.pss_cut (ps_asg (pe_partition (pv 0) pe_str) (pg_tup rfl (pgs_cons (pg_name (i := 1) sc_deed_of.nd rfl (Or.inl rfl)) (pgs_cons (pg_name (i := 2) sc_deed_of.nd rfl (Or.inl rfl)) (pgs_cons (pg_name (i := 3) sc_deed_of.nd rfl (Or.inl rfl)) pgs_nil)))))
        (pss_cons (ps_set (i := 4) sc_deed_of.nd rfl (Or.inl rfl) (pe_tup (pa_cons (pv 1) pa_nil)))
        (Evl.pss_cut (ps_if (pt_cmpR op_ne (pv 2) pe_str (nomark _))
        (pss_one (ps_set (i := 4) sc_deed_of.nd rfl (Or.inl rfl) (pe_tup (pa_cons (pv 1) (pa_cons (pe_call G_number_of (hr.mono (by decide)) (by rfl) m_number_of k_number_of b_number_of .nil passL (pa_cons (pv 3) pa_nil)) pa_nil)))))
        pss_nil)
        (pss_cons (ps_if (pt_not (pt_val (pe_call G_is_deed (hr.mono (by decide)) (by rfl) m_is_deed k_is_deed b_is_deed .nil passL (pa_cons (pv 4) pa_nil))))
        (pss_one (ps_raise rfl (takes_of rfl rfl rfl rfl) (pmk_own PySem.F.excBase_ValueError T.x_BadDeed.x T.x_BadDeed.g T.x_BadDeed.k (raises_own T.x_BadDeed.b T.x_BadDeed.t) rfl)))
        pss_nil)
        (pss_one (ps_ret (pv 4))))))), ?_⟩
    have lb : (Str.length (Str.ofString " ") == 0) = false := by decide +kernel
    have hl := TL.len_tl z
    refine ⟨fun σ H' => ∃ a b c : Str, σ = [some (.str z), some (.str a), some (.str b), some (.str c), none] ∧ Same H H' ∧ ((TL.par [32] [] (TL.tl z) = none ∧ a = z ∧ b = Str.empty) ∨ (∃ r, TL.par [32] [] (TL.tl z) = some (TL.tl a, r) ∧ TL.tl c = r ∧ b = Str.ofString " ")), ?_, ?_⟩
    · refine ⟨_, rfl, ⟨_, rfl⟩, z, _, rfl, rfl, lb, sz5 (by omega), fun p hp => ?_⟩
      refine ⟨p, _, rfl, SqT.of upd_same, rfl, _, _, rfl, _, _, rfl, _, _, rfl, rfl, _, _, _, rfl, Same.new hp, ?_⟩
      rw [TL.partition_par z (Str.ofString " ") (by rw [tl_blank]; simp), tl_blank]
      cases e : TL.par [32] [] (TL.tl z) with
      | none => exact .inl ⟨rfl, rfl, rfl⟩
      | some q =>
        obtain ⟨a, b⟩ := q
        exact .inr ⟨b, by rw [TL.tl_mk], TL.tl_mk _, rfl⟩
    rintro σ H1 ⟨a, b, c, rfl, s1, hpar⟩
    refine ⟨_, rfl, by show 1 ≤ sizeLine; decide, fun t1 h1 => ?_⟩
    have w1 := Same.new (o := .tup [.str a]) h1
    refine ⟨fun σ H' => ∃ t v, σ = [some (.str z), some (.str a), some (.str b), some (.str c), some (.ref t)] ∧ Same H1 H' ∧ H1 t = none ∧ H' t = some (.tup v) ∧ DeedTh K H' (.ref t) (deedL (TL.tl z)).isSome ∧ ∀ d, deedL (TL.tl z) = some d → d.vs = v, ?_, ?_⟩
    · refine ⟨_, rfl, rfl, _, rfl, ?_⟩
      rcases hpar with ⟨hp, rfl, rfl⟩ | ⟨r, hp, hc, rfl⟩
      · obtain ⟨d1, d2⟩ := deed_th1 (K := K) (H := upd H1 t1 (.tup [.str a])) upd_same hp
        exact iteNS rfl ⟨t1, _, rfl, w1, h1, upd_same, d1, d2⟩
      · rw [show (!decide (V.str (Str.ofString " ") = V.str (Str.ofString ""))) = true by decide +kernel]
        refine iteT ?_
        have lc : c.length ≤ 5000 := by
          have := par_len _ _ hp
          rw [TL.len_tl c, hc]
          simp only [List.length_nil] at this
          omega
        refine ⟨_, rfl, _, rfl, c, rfl, lc, by show 2 ≤ sizeLine; decide, fun t2 h2 => ?_⟩
        have w2 := Same.new (o := .tup [.str a, oW (numQ (TL.tl c))]) h2
        rw [hc] at w2 ⊢
        obtain ⟨d1, d2⟩ := deed_th2 (K := K) (H := upd (upd H1 t1 (.tup [.str a])) t2 (.tup [.str a, oW (numQ r)])) (t := t2) (z := a) rfl upd_same hp
        exact ⟨t2, _, rfl, w1.trans w2, w1.free h2, upd_same, d1, d2⟩
    rintro σ H2 ⟨t, v, rfl, s2, ht, hT, hd, hv⟩
    refine ⟨_, rfl, _, _, rfl, hd, _, rfl, ?_⟩
    cases e : deedL (TL.tl z) with
    | none => exact iteT (kb e _ (s1.trans s2))
    | some d =>
      refine iteF ⟨_, rfl, ?_⟩
      rw [← hv d e] at hT
      exact kg d e t H2 (s1.free ht) (s1.trans s2) hT
-- @@ _law_cell_at
/-- _law_cell_at(script, k): the k-th number, or 0 -/
def cellAt (ns : List Int) (k : Nat) : Int := ns.getD k 0
def sp_l_cell_at (K : PySem.W.Frag) : Sp := fun vs H Q _ => ∃ (a : Addr) (ns : List Int) (j : Nat), vs = [.ref a, .int (j : Int)] ∧ SqL K H a (ns.map V.int) ∧ Q (.int (cellAt ns j)) H
theorem ok_l_cell_at (T : Txt K mg) : OkF P w K mg base "_law_cell_at" 1 ["_law_script", "_law_k"] (sp_l_cell_at K) := by
  refine okf T.d_l_cell_at sc_l_cell_at (fun vs H Q E h => ?_) (fun f cdv A outer s H vs Q E hr h => ?_)
  · obtain ⟨a, ns, j, rfl, hS, k⟩ := h
    rfl
  · obtain ⟨a, ns, j, rfl, hS, k⟩ := h
    refine ⟨_, (pss_cons (ps_if (pt_cmpR op_lt (pv 1) (pe_callB call_len_seq (by rfl) T.n_len PySem.boot_len (pa_cons (pv 0) pa_nil)) (nomark _))
        (pss_one (ps_ret (pe_ix ix_list (pv 0) (pv 1) (fun _ _ => rfl))))
        pss_nil)
        (pss_one (ps_ret pe_int))), ?_⟩
    refine ⟨_, rfl, _, rfl, a, _, rfl, .inl hS, _, _, rfl, rfl, _, rfl, ?_⟩
    refine ite2 (fun c => ?_) (fun c => ?_)
    · have c' := of_decide_eq_true c
      rw [List.length_map] at c'
      have hj : j < ns.length := by omega
      refine ⟨_, rfl, _, rfl, a, _, _, .int (cellAt ns j), rfl, rfl, hS, ?_, k⟩
      refine at_map rfl ?_
      unfold cellAt
      rw [List.getElem?_eq_getElem hj, List.getD_eq_getElem?_getD, List.getElem?_eq_getElem hj] <;> rfl
    · have c' : ¬ ((j : Int) < ((ns.map V.int).length : Int)) := fun z => c (decide_eq_true z)
      rw [List.length_map] at c'
      have e : cellAt ns j = 0 := by
        unfold cellAt
        rw [List.getD_eq_getElem?_getD, List.getElem?_eq_none (by omega)] <;> rfl
      rw [e] at k
      exact k

-- @@ _law_number
def numN (ns : List Int) (j : Nat) : Int := if ns = [] then 5003 * (j : Int) else (ns.getD (j % ns.length) 0 + 7919 * ((j / ns.length : Nat) : Int) + 101 * (j : Int)) * 48271 % 2147483647
theorem num_nn (ns : List Int) (j : Nat) : 0 ≤ numN ns j := by
  unfold numN
  split
  · omega
  · exact Int.emod_nonneg _ (by decide)
def sp_l_number (K : PySem.W.Frag) : Sp := fun vs H Q _ => ∃ (a : Addr) (ns : List Int) (j : Nat), vs = [.ref a, .int (j : Int)] ∧ SqL K H a (ns.map V.int) ∧ ns.length ≤ 63 ∧ j < 100000 ∧ Q (.int (numN ns j)) H
theorem ok_l_number (T : Txt K mg) : OkF P w K mg base "_law_number" 1 ["_law_script", "_law_k"] (sp_l_number K) := by
  refine okf T.d_l_number sc_l_number (fun vs H Q E h => ?_) (fun f cdv A outer s H vs Q E hr h => ?_)
  · obtain ⟨a, ns, j, rfl, hS, hl, hj, k⟩ := h
    rfl
  · obtain ⟨a, ns, j, rfl, hS, hl, hj, k⟩ := h
    refine ⟨_, (pss_cons (ps_if (pt_cmpR op_eq (pe_callB call_len_seq (by rfl) T.n_len PySem.boot_len (pa_cons (pv 0) pa_nil)) pe_int (nomark _))
        (pss_one (ps_ret (pe_op op_mul pe_int (pv 1))))
        pss_nil)
        (pss_cons (ps_set (i := 2) sc_l_number.nd rfl (Or.inl rfl) (pe_op op_add (pe_op op_add (pe_ix ix_list (pv 0) (pe_op op_mod (pv 1) (pe_callB call_len_seq (by rfl) T.n_len PySem.boot_len (pa_cons (pv 0) pa_nil))) (fun _ _ => rfl)) (pe_op op_mul pe_int (pe_op op_fdiv (pv 1) (pe_callB call_len_seq (by rfl) T.n_len PySem.boot_len (pa_cons (pv 0) pa_nil))))) (pe_op op_mul pe_int (pv 1))))
        (pss_one (ps_ret (pe_op op_mod (pe_op op_mul (pv 2) pe_int) pe_int))))), ?_⟩
    refine ⟨_, rfl, a, _, rfl, .inl hS, rfl, _, rfl, ?_⟩
    refine ite2 (fun c => ?_) (fun c => ?_)
    · have e : ns = [] := by
        have := V.int.inj (of_decide_eq_true c)
        rw [List.length_map] at this
        exact List.length_eq_zero_iff.mp (by omega)
      have en : numN ns j = 5003 * (j : Int) := by
        unfold numN
        rw [if_pos e]
      rw [en] at k
      exact ⟨_, rfl, _, _, rfl, rfl, .inl ⟨by decide, by decide⟩, k⟩
    · have hp : 0 < ns.length := by
        by_cases z : ns.length = 0
        · exact absurd (decide_eq_true (by rw [List.length_map, z] <;> rfl)) c
        · omega
      have en : numN ns j = (ns.getD (j % ns.length) 0 + 7919 * ((j / ns.length : Nat) : Int) + 101 * (j : Int)) * 48271 % 2147483647 := by
        unfold numN
        rw [if_neg (fun z => by rw [z] at hp; exact absurd hp (by decide))]
      have el : ((ns.map V.int).length : Int) = (ns.length : Int) := by rw [List.length_map]
      have hm := Nat.mod_lt j hp
      refine ⟨_, rfl, _, rfl, _, rfl, a, _, rfl, .inl hS, _, _, rfl, rfl, by rw [el]; show (0 : Int) < (ns.length : Int); omega, a, _, _, .int (ns.getD (j % ns.length) 0), rfl, rfl, hS, ?_, ?_⟩
      · refine at_map (j := j % ns.length) ?_ ?_
        · rw [el, Int.natCast_emod]
        · rw [List.getElem?_eq_getElem hm, List.getD_eq_getElem?_getD, List.getElem?_eq_getElem hm] <;> rfl
      refine ⟨_, rfl, _, rfl, a, _, rfl, .inl hS, _, _, rfl, rfl, ⟨by rw [el]; omega, by rw [el]; omega⟩, _, _, rfl, rfl, .inl ⟨by decide, by decide⟩, _, _, rfl, rfl, _, rfl, _, _, rfl, rfl, .inl ⟨by decide, by decide⟩, _, _, rfl, rfl, ?_⟩
      refine ⟨_, rfl, _, _, rfl, rfl, .inr ⟨by decide, by decide⟩, _, _, rfl, rfl, by show (0 : Int) < 2147483647; decide, ?_⟩
      rw [en, Int.natCast_ediv, ← el] at k
      exact k
-- @@ _law_whole
def sp_l_whole (K : PySem.W.Frag) : Sp := fun vs H Q _ => ∃ (x : V) (o : Option Int), vs = [x] ∧ Thg K H x o ∧ Q (.bl (whole o)) H
theorem ok_l_whole (T : Txt K mg) : OkF P w K mg base "_law_whole" 1 ["_law_found"] (sp_l_whole K) := by
  refine okf T.d_l_whole sc_l_whole (fun vs H Q E h => ?_) (fun f cdv A outer s H vs Q E hr h => ?_)
  · obtain ⟨x, o, rfl, th, k⟩ := h
    rfl
  · obtain ⟨x, o, rfl, th, k⟩ := h
    refine ⟨_, (pss_one (ps_ret (pe_and (pe_callB call_isi (by rfl) T.n_isinstance (by decide +kernel) (pa_cons (pv 0) (pa_cons (pe_bltn (v := .ty "int") (by rfl) T.n_int (by decide +kernel) rfl) pa_nil))) (pe_one (pe_not (pe_callB call_isi (by rfl) T.n_isinstance (by decide +kernel) (pa_cons (pv 0) (pa_cons (pe_bltn (v := .ty "bool") (by rfl) T.n_bool (by decide +kernel) rfl) pa_nil)))))))), ?_⟩
    refine ⟨_, rfl, ?_⟩
    cases th with
    | int i =>
      refine ⟨_, _, _, _, true, rfl, .ty "int", .base (.int i), kit_ty (by decide +kernel), true, rfl, iteT ?_⟩
      exact ⟨_, rfl, _, _, _, _, false, rfl, .ty "bool", .base (.int i), kit_ty (by decide +kernel), false, rfl, k⟩
    | bl b =>
      refine ⟨_, _, _, _, true, rfl, .ty "int", .base (.bl b), kit_ty (by decide +kernel), true, rfl, iteT ?_⟩
      exact ⟨_, rfl, _, _, _, _, true, rfl, .ty "bool", .base (.bl b), kit_ty (by decide +kernel), true, rfl, k⟩
    | oth ty ni =>
      refine ⟨_, _, _, _, false, rfl, .ty "int", ty, ni, false, rfl, iteF ?_⟩
      exact k
-- @@ _law_class
def kinds8 (i : Nat) : List V := [.bl (decide (0 = i)), .bl (decide (1 = i)), .bl (decide (2 = i)), .bl (decide (3 = i)), .bl (decide (4 = i)), .bl (decide (5 = i)), .bl (decide (6 = i)), .bl (decide (7 = i))]
theorem kinds_count {i : Nat} (h : i < 8) : ((kinds8 i).countP fun z => eqV z (.bl true)) = 1 := eight (P := fun i => ((kinds8 i).countP fun z => eqV z (.bl true)) = 1) h rfl rfl rfl rfl rfl rfl rfl rfl
theorem kinds_at {i : Nat} (h : i < 8) : (kinds8 i)[i]? = some (.bl true) := eight (P := fun i => (kinds8 i)[i]? = some (.bl true)) h rfl rfl rfl rfl rfl rfl rfl rfl
theorem kinds_ahead {i m : Nat} (h : i < 8) (hm : m < i) : (kinds8 i)[m]? = some (.bl false) := by
  have g : ∀ i, i < 8 → ∀ m, m < i → (kinds8 i)[m]? = some (.bl false) := by decide
  exact g i h m hm
theorem words_at {i : Nat} (h : i < 8) : (words8.map V.str)[i]? = some (.str (words8.getD i "")) := eight (P := fun i => (words8.map V.str)[i]? = some (.str (words8.getD i ""))) h rfl rfl rfl rfl rfl rfl rfl rfl
theorem ok_l_class (T : Txt K mg) : ∃ (f : Addr) (fd : FuncData), mg "_law_class" = some (.ref f) ∧ PySem.W.keepIn K (.ref f) = true ∧ Binds K fd ["_law_e"] [] ∧ FnE P w K mg base 1 f fd ["_law_e"] (sp_class K T.c8) := by
  obtain ⟨f, fd, hm, F, hb⟩ := T.d_l_class
  refine ⟨f, fd, hm, F.kp, hb, fn_ofE F sc_l_class (fun a c d vs H Q h => ?_) (fun cdv A outer s H vs Q p c d hz hf hr h => ?_)⟩
  · obtain ⟨rfl, _⟩ := h
    rfl
  · obtain ⟨rfl, D, i, rfl, rfl, KD, k⟩ := h
    refine ⟨_, (pss_cons (ps_set (i := 1) sc_l_class.nd rfl (Or.inl rfl) (pe_lst (pa_cons (pe_callB (call_isP (List.mem_singleton_self _) hz hf) (by rfl) T.n_isinstance (by decide +kernel) (pa_cons (pv 0) (pa_cons (pe_glob (v := .ref T.aBadCount) (by rfl) T.x_BadCount.g rfl) pa_nil))) (pa_cons (pe_callB (call_isP (List.mem_singleton_self _) hz hf) (by rfl) T.n_isinstance (by decide +kernel) (pa_cons (pv 0) (pa_cons (pe_glob (v := .ref T.aBadRule) (by rfl) T.x_BadRule.g rfl) pa_nil))) (pa_cons (pe_callB (call_isP (List.mem_singleton_self _) hz hf) (by rfl) T.n_isinstance (by decide +kernel) (pa_cons (pv 0) (pa_cons (pe_glob (v := .ref T.aBadDeed) (by rfl) T.x_BadDeed.g rfl) pa_nil))) (pa_cons (pe_callB (call_isP (List.mem_singleton_self _) hz hf) (by rfl) T.n_isinstance (by decide +kernel) (pa_cons (pv 0) (pa_cons (pe_glob (v := .ref T.aFull) (by rfl) T.x_Full.g rfl) pa_nil))) pa_nil))))))
    (pss_cons (ps_set (i := 1) sc_l_class.nd rfl (Or.inl rfl) (pe_op op_cat (pv 1) (pe_lst (pa_cons (pe_callB (call_isP (List.mem_singleton_self _) hz hf) (by rfl) T.n_isinstance (by decide +kernel) (pa_cons (pv 0) (pa_cons (pe_glob (v := .ref T.aTwice) (by rfl) T.x_Twice.g rfl) pa_nil))) (pa_cons (pe_callB (call_isP (List.mem_singleton_self _) hz hf) (by rfl) T.n_isinstance (by decide +kernel) (pa_cons (pv 0) (pa_cons (pe_glob (v := .ref T.aNotKept) (by rfl) T.x_NotKept.g rfl) pa_nil))) (pa_cons (pe_callB (call_isP (List.mem_singleton_self _) hz hf) (by rfl) T.n_isinstance (by decide +kernel) (pa_cons (pv 0) (pa_cons (pe_glob (v := .ref T.aAtEnd) (by rfl) T.x_AtEnd.g rfl) pa_nil))) (pa_cons (pe_callB (call_isP (List.mem_singleton_self _) hz hf) (by rfl) T.n_isinstance (by decide +kernel) (pa_cons (pv 0) (pa_cons (pe_glob (v := .ref T.aNotWanted) (by rfl) T.x_NotWanted.g rfl) pa_nil))) pa_nil)))))))
    (pss_cons (ps_if (PW.pt (pw_or (pt_cmpR op_ne (pe_bm PySem.F.plainAttrs_list PySem.F.slot_list_count PySem.F.type_list_count mt_countV (pv 1) (pa_cons pe_bl pa_nil)) pe_int (nomark _)) (pw_or1 (pt_not (pt_val (pe_callB (call_isP (List.mem_singleton_self _) hz hf) (by rfl) T.n_isinstance (by decide +kernel) (pa_cons (pv 0) (pa_cons (pe_bltn (v := .ty "ValueError") (by rfl) T.n_ValueError (by decide +kernel) rfl) pa_nil))))))))
    (pss_one (ps_ret (pe_tup (pa_cons pe_str (pa_cons pe_str pa_nil)))))
    pss_nil)
    (pss_cons (ps_set (i := 2) sc_l_class.nd rfl (Or.inl rfl) (pe_lst (pa_cons pe_str (pa_cons pe_str (pa_cons pe_str (pa_cons pe_str (pa_cons pe_str (pa_cons pe_str (pa_cons pe_str (pa_cons pe_str pa_nil))))))))))
    (pss_one (ps_ret (pe_tup (pa_cons pe_str (pa_cons (pe_ix ix_list (pv 2) (pe_bm PySem.F.plainAttrs_list PySem.F.slot_list_index PySem.F.type_list_index mt_index (pv 1) (pa_cons pe_bl pa_nil)) (fun _ _ => rfl)) pa_nil))))))))), ?_⟩
    refine ⟨_, rfl, D, .ref _, .ref _, _, rfl, rfl, KD.ex, rfl, fun u r => r, KD.is 0 (by decide), _, rfl, D, .ref _, .ref _, _, rfl, rfl, KD.ex, rfl, fun u r => r, KD.is 1 (by decide), _, rfl, D, .ref _, .ref _, _, rfl, rfl, KD.ex, rfl, fun u r => r, KD.is 2 (by decide), _, rfl, D, .ref _, .ref _, _, rfl, rfl, KD.ex, rfl, fun u r => r, KD.is 3 (by decide), by show 4 ≤ sizeLine; decide, fun p1 h1 => ?_⟩
    refine ⟨_, rfl, ?_⟩
    refine ⟨_, rfl, D, .ref _, .ref _, _, rfl, rfl, KD.ex, rfl, fun u r => r, KD.is 4 (by decide), _, rfl, D, .ref _, .ref _, _, rfl, rfl, KD.ex, rfl, fun u r => r, KD.is 5 (by decide), _, rfl, D, .ref _, .ref _, _, rfl, rfl, KD.ex, rfl, fun u r => r, KD.is 6 (by decide), _, rfl, D, .ref _, .ref _, _, rfl, rfl, KD.ex, rfl, fun u r => r, KD.is 7 (by decide), by show 4 ≤ sizeLine; decide, fun p2 h2 => ?_⟩
    have n12 : p1 ≠ p2 := ne_of_none upd_same h2
    refine ⟨p1, p2, _, _, rfl, rfl, by rw [upd_ne n12]; exact upd_same, upd_same, by show 8 ≤ sizeLine; decide, fun p3 h3 => ?_⟩
    have sm := fun (o : HO) => ((Same.new h1).trans (Same.new h2)).trans (Same.new (o := o) h3)
    -- the two refusals of the shape
    refine ⟨_, rfl, .inl ⟨rfl, _, SqL.of upd_same⟩, p3, kinds8 i, .bl true, rfl, rfl, SqL.of upd_same, rfl, rfl, ?_⟩
    rw [kinds_count KD.lt]
    refine ⟨rfl, _, rfl, iteNS rfl ?_⟩
    refine ⟨_, rfl, D, .ty "ValueError", .type "ValueError", _, rfl, rfl, KD.ex, rfl, fun u r => r, KD.ve, _, rfl, iteF ?_⟩
    refine ⟨by show 8 ≤ sizeLine; decide, fun p4 h4 => ?_⟩
    have n34 : p3 ≠ p4 := ne_of_none upd_same h4
    refine ⟨_, rfl, _, rfl, .inl ⟨rfl, _, SqL.of (by rw [upd_ne n34]; exact upd_same)⟩, p3, kinds8 i, .bl true, i, .bl true, rfl, rfl, SqL.of (by rw [upd_ne n34]; exact upd_same), rfl, rfl, kinds_at KD.lt, rfl, fun m z' hm hz' => ?_, ?_⟩
    · rw [kinds_ahead KD.lt hm] at hz'
      cases hz'
      rfl
    refine ⟨p4, words8.map V.str, _, _, rfl, rfl, SqL.of upd_same, atI_nat (words_at KD.lt), by show 2 ≤ sizeLine; decide, fun t ht => ?_⟩
    exact k t _ (((sm _).trans (Same.new h4)).free ht) (((sm _).trans (Same.new h4)).trans (Same.new ht)) upd_same

-- @@ _law_deed
def sp_l_deed (K : PySem.W.Frag) : Sp := fun vs H Q _ => ∃ c : Int, vs = [.int c] ∧ ∀ (d : Raw) (t : Addr) (H' : Hp), d.ok → H t = none → Same H H' → H' t = some (.tup d.vs) → Q (.ref t) H'
theorem ok_l_deed (T : Txt K mg) : OkF P w K mg base "_law_deed" 1 ["_law_cell"] (sp_l_deed K) := by
  refine okf T.d_l_deed sc_l_deed (fun vs H Q E h => ?_) (fun f cdv A outer s H vs Q E hr h => ?_)
  · obtain ⟨c, rfl, k⟩ := h
    rfl
  · obtain ⟨c, rfl, k⟩ := h
    refine ⟨_, (Evl.pss_cut (ps_set (i := 1) sc_l_deed.nd rfl (Or.inl rfl) (pe_ix ix_list (pe_lst (pa_cons pe_str (pa_cons pe_str (pa_cons pe_str (pa_cons pe_str (pa_cons pe_str (pa_cons pe_str pa_nil))))))) (pe_op op_mod (pv 0) pe_int) (fun _ _ => rfl)))
        (Evl.pss_cut (ps_if (PW.pt (pw_or (pt_cmpR op_eq (pv 1) pe_str (nomark _)) (pw_or1 (pt_cmpR op_eq (pv 1) pe_str (nomark _)))))
        (pss_one (ps_ret (pe_tup (pa_cons (pv 1) pa_nil))))
        pss_nil)
        (Evl.pss_cut (ps_if (pt_cmpR op_eq (pe_op op_mod (pe_op op_fdiv (pv 0) pe_int) pe_int) pe_int (nomark _))
        (pss_one (ps_ret (pe_tup (pa_cons (pv 1) (pa_cons (pe_ix ix_list (pe_lst (pa_cons pe_int (pa_cons pe_int (pa_cons pe_int (pa_cons pe_int (pa_cons pe_int (pa_cons pe_int (pa_cons pe_int (pa_cons (pe_un un_neg pe_int) pa_nil))))))))) (pe_op op_mod (pe_op op_fdiv (pv 0) pe_int) pe_int) (fun _ _ => rfl)) pa_nil)))))
        pss_nil)
        (pss_one (ps_ret (pe_tup (pa_cons (pv 1) (pa_cons (pe_op op_sub (pe_op op_mod (pe_op op_fdiv (pv 0) pe_int) pe_int) pe_int) pa_nil)))))))), ?_⟩
    refine ⟨fun σ H' => ∃ x : Str, σ = [some (.int c), some (.str x)] ∧ Same H H' ∧ (x = "keep" ∨ x = "meet" ∨ x = "take" ∨ x = "drop" ∨ x = "go"), ?_, ?_⟩
    · refine ⟨by show 6 ≤ sizeLine; decide, fun l hl => ?_⟩
      obtain ⟨j, hj, ej⟩ := rem_nat (z := c) (m := 6) (by decide)
      obtain ⟨v, hv, x, rfl, hx⟩ := pick (P := fun v => ∃ x : Str, v = V.str x ∧ (x = "keep" ∨ x = "meet" ∨ x = "take" ∨ x = "drop" ∨ x = "go")) (xs := [.str "keep", .str "meet", .str "take", .str "drop", .str "go", .str "go"]) (fun v hv => by
        simp only [List.mem_cons, List.not_mem_nil, or_false] at hv
        rcases hv with rfl | rfl | rfl | rfl | rfl | rfl
        · exact ⟨_, rfl, .inl rfl⟩
        · exact ⟨_, rfl, .inr (.inl rfl)⟩
        · exact ⟨_, rfl, .inr (.inr (.inl rfl))⟩
        · exact ⟨_, rfl, .inr (.inr (.inr (.inl rfl)))⟩
        · exact ⟨_, rfl, .inr (.inr (.inr (.inr rfl)))⟩
        · exact ⟨_, rfl, .inr (.inr (.inr (.inr rfl)))⟩) (j := j) (by show j < 6; omega)
      exact ⟨_, rfl, _, _, rfl, rfl, by show (0 : Int) < 6; decide, l, _, _, .str x, rfl, rfl, SqL.of upd_same, at_of ej hv, x, rfl, Same.new hl, hx⟩
    rintro σ H1 ⟨x, rfl, s1, hx⟩
    refine ⟨fun σ H' => H' = H1 ∧ σ = [some (.int c), some (.str x)] ∧ (x = "take" ∨ x = "drop" ∨ x = "go"), ?_, ?_⟩
    · have one : (x = "keep" ∨ x = "meet") → ∀ t, H1 t = none → Q (.ref t) (upd H1 t (.tup [.str x])) := fun h t ht => k ⟨x, none⟩ t _ h (s1.free ht) (s1.trans (Same.new ht)) upd_same
      refine ⟨_, rfl, rfl, _, rfl, ?_⟩
      rw [show decide (V.str x = V.str (Str.ofString "keep")) = decide (x = Str.ofString "keep") from decide_eq_decide.mpr ⟨V.str.inj, fun e => by rw [e]⟩]
      refine ite2 (fun q => iteT ⟨_, rfl, by show 1 ≤ sizeLine; decide, one (.inl (of_decide_eq_true q))⟩) (fun q1 => ?_)
      refine ⟨_, rfl, rfl, _, rfl, ?_⟩
      rw [show decide (V.str x = V.str (Str.ofString "meet")) = decide (x = Str.ofString "meet") from decide_eq_decide.mpr ⟨V.str.inj, fun e => by rw [e]⟩]
      refine ite2 (fun q => ⟨_, rfl, by show 1 ≤ sizeLine; decide, one (.inr (of_decide_eq_true q))⟩) (fun q2 => ⟨rfl, rfl, ?_⟩)
      rcases hx with h | h | h
      · exact absurd (decide_eq_true h) q1
      · exact absurd (decide_eq_true h) q2
      · exact h
    rintro σ H2 ⟨rfl, rfl, hx⟩
    have two : ∀ (i : Int) (H3 : Hp), -1 ≤ i → i ≤ 103 → Same H2 H3 → ∀ t, H3 t = none → Q (.ref t) (upd H3 t (.tup [.str x, .int i])) := fun i H3 i1 i2 s t ht => k ⟨x, some i⟩ t _ ⟨hx, i1, i2⟩ (s1.free (s.free ht)) (s1.trans (s.trans (Same.new ht))) upd_same
    refine ⟨fun σ H' => H' = H2 ∧ σ = [some (.int c), some (.str x)], ?_, ?_⟩
    · refine ⟨_, rfl, _, _, rfl, rfl, ⟨by decide, by decide⟩, _, _, rfl, rfl, by show (0 : Int) < 3; decide, rfl, _, rfl, ?_⟩
      refine ite2 (fun _ => ?_) (fun _ => ⟨rfl, rfl⟩)
      refine ⟨_, rfl, _, rfl, by show 8 ≤ sizeLine; decide, fun l hl => ?_⟩
      obtain ⟨j, hj, ej⟩ := rem_nat (z := c / 18) (m := 8) (by decide)
      obtain ⟨v, hv, i, rfl, i1, i2⟩ := pick (P := fun v => ∃ i : Int, v = V.int i ∧ -1 ≤ i ∧ i ≤ 103) (xs := [.int 0, .int 1, .int 9, .int 10, .int 99, .int 100, .int 101, .int (-1)]) (fun v hv => by
        simp only [List.mem_cons, List.not_mem_nil, or_false] at hv
        rcases hv with rfl | rfl | rfl | rfl | rfl | rfl | rfl | rfl <;> exact ⟨_, rfl, by decide, by decide⟩) (j := j) (by show j < 8; omega)
      exact ⟨_, rfl, _, _, rfl, rfl, ⟨by decide, by decide⟩, _, _, rfl, rfl, by show (0 : Int) < 8; decide, l, _, _, .int i, rfl, rfl, SqL.of upd_same, at_of ej hv, by show 2 ≤ sizeLine; decide, two i _ i1 i2 (Same.new hl)⟩
    rintro σ H3 ⟨rfl, rfl⟩
    have m1 := Int.emod_nonneg (c / 18) (show (104 : Int) ≠ 0 by decide)
    have m2 := Int.emod_lt_of_pos (c / 18) (show (0 : Int) < 104 by decide)
    exact ⟨_, rfl, _, rfl, _, _, rfl, rfl, ⟨by decide, by decide⟩, _, _, rfl, rfl, by show (0 : Int) < 104; decide, _, _, rfl, rfl, by show 2 ≤ sizeLine; decide, two _ _ (by omega) (by omega) (Same.refl _)⟩
-- @@ _law_good
def sp_l_good (K : PySem.W.Frag) : Sp := fun vs H Q _ => ∃ (q : Addr) (d : Raw), vs = [.ref q] ∧ H q = some (.tup d.vs) ∧ Q (.bl d.good) H
theorem ok_l_good (T : Txt K mg) : OkF P w K mg base "_law_good" 1 ["_law_deed_here"] (sp_l_good K) := by
  refine okf T.d_l_good sc_l_good (fun vs H Q E h => ?_) (fun f cdv A outer s H vs Q E hr h => ?_)
  · obtain ⟨q, d, rfl, hq, k⟩ := h
    rfl
  · obtain ⟨q, d, rfl, hq, k⟩ := h
    refine ⟨_, (pss_cons (ps_if (pt_cmpR op_eq (pe_callB call_len_seq (by rfl) T.n_len PySem.boot_len (pa_cons (pv 0) pa_nil)) pe_int (nomark _))
        (pss_one (ps_ret pe_bl))
        pss_nil)
        (pss_cons (ps_set (i := 1) sc_l_good.nd rfl (Or.inl rfl) pe_int)
        (Evl.pss_cut (ps_if (pt_cmpR op_eq (pe_ix ix_tup (pv 0) pe_int (fun _ _ => rfl)) pe_str (nomark _))
        (pss_one (ps_set (i := 1) sc_l_good.nd rfl (Or.inl rfl) pe_int))
        pss_nil)
        (pss_one (ps_ret (pe_and (pe_cmpR op_le (pv 1) (pe_ix ix_tup (pv 0) pe_int (fun _ _ => rfl)) (nomark _)) (pe_one (pe_cmpR op_le (pe_ix ix_tup (pv 0) pe_int (fun _ _ => rfl)) pe_int (nomark _))))))))), ?_⟩
    obtain ⟨w', n⟩ := d
    cases n with
    | none =>
      have hq : H q = some (.tup [.str w']) := hq
      exact ⟨_, rfl, q, _, rfl, .inr (SqT.of hq), rfl, _, rfl, iteT k⟩
    | some n =>
      have hq : H q = some (.tup [.str w', .int n]) := hq
      refine ⟨_, rfl, q, _, rfl, .inr (SqT.of hq), rfl, _, rfl, iteF ?_⟩
      refine ⟨fun σ H' => H' = H ∧ σ = [some (.ref q), some (.int (if w' = "go" then (1 : Int) else 0))], ?_, ?_⟩
      · refine ⟨_, rfl, q, _, _, .str w', rfl, rfl, SqT.of hq, rfl, rfl, _, rfl, ?_⟩
        rw [show decide (V.str w' = V.str (Str.ofString "go")) = decide (w' = Str.ofString "go") from decide_eq_decide.mpr ⟨V.str.inj, fun e => by rw [e]⟩]
        by_cases c : w' = Str.ofString "go"
        · rw [decide_eq_true c, if_pos c]
          exact iteT ⟨rfl, rfl⟩
        · rw [decide_eq_false c, if_neg c]
          exact iteF ⟨rfl, rfl⟩
      rintro σ H' ⟨rfl, rfl⟩
      have k : Q (.bl (decide ((if w' = Str.ofString "go" then (1 : Int) else 0) ≤ n) && decide (n ≤ 100))) H' := k
      revert k
      generalize (if w' = Str.ofString "go" then (1 : Int) else 0) = lo
      intro k
      refine ⟨_, rfl, _, rfl, q, _, _, .int n, rfl, rfl, SqT.of hq, rfl, _, _, rfl, rfl, _, rfl, ?_⟩
      cases c : decide (lo ≤ n) with
      | true =>
        rw [c, Bool.true_and] at k
        exact iteT ⟨_, rfl, q, _, _, .int n, rfl, rfl, SqT.of hq, rfl, _, _, rfl, rfl, k⟩
      | false =>
        rw [c, Bool.false_and] at k
        exact iteF k
-- @@ _law_read
def sp_l_read (K : PySem.W.Frag) : Sp := fun vs H Q _ => ∃ z : Str, vs = [.str z] ∧ z.length ≤ 5000 ∧ (∀ d, deedL (TL.tl z) = some d → RetT H d.vs Q) ∧ (deedL (TL.tl z) = none → ∀ H', Same H H' → Q .non H')
theorem num_text (n : Nat) : Str.ofString (toString ((n : Nat) : Int)) = Str.ofString (toString ((n : Nat) : Int)) := rfl
theorem ok_l_read (T : Txt K mg) : OkF P w K mg base "_law_read" 1 ["_law_line"] (sp_l_read K) := by
  refine okf T.d_l_read sc_l_read (fun vs H Q E h => ?_) (fun f cdv A outer s H vs Q E hr h => ?_)
  · obtain ⟨z, rfl, hz, kg, kb⟩ := h
    rfl
  · obtain ⟨z, rfl, hz, kg, kb⟩ := h
    refine ⟨_, (Evl.pss_cut (ps_set (i := 1) sc_l_read.nd rfl (Or.inl rfl) (pe_split (pv 0) pe_str))
        (Evl.pss_cut (ps_if (PW.pt (pw_and (pt_cmpR op_eq (pe_callB call_len_seq (by rfl) T.n_len PySem.boot_len (pa_cons (pv 1) pa_nil)) pe_int (nomark _)) (pw_and1 (pt_cmpR op_in_seq (pe_ix ix_list (pv 1) pe_int (fun _ _ => rfl)) (pe_tup (pa_cons pe_str (pa_cons pe_str pa_nil))) (by rfl)))))
        (pss_one (ps_ret (pe_tup (pa_cons (pe_ix ix_list (pv 1) pe_int (fun _ _ => rfl)) pa_nil))))
        pss_nil)
        (Evl.pss_cut (ps_if (PW.pt (pw_or (pt_cmpR op_ne (pe_callB call_len_seq (by rfl) T.n_len PySem.boot_len (pa_cons (pv 1) pa_nil)) pe_int (nomark _)) (pw_or1 (pt_cmpR op_notIn_seq (pe_ix ix_list (pv 1) pe_int (fun _ _ => rfl)) (pe_tup (pa_cons pe_str (pa_cons pe_str (pa_cons pe_str pa_nil)))) (by rfl)))))
        (pss_one (ps_ret pe_non))
        pss_nil)
        (pss_cons (ps_for (passes_of rfl) rfl (pi_range2 (by rfl) T.n_range (pa_cons (pe_callTy (T := "int") call_int1 (by rfl) T.n_int (by decide +kernel) (pa_cons (pe_cmpR op_eq (pe_ix ix_list (pv 1) pe_int (fun _ _ => rfl)) pe_str (nomark _)) pa_nil)) (pa_cons pe_int pa_nil))) (pg_name (i := 2) sc_l_read.nd rfl (Or.inl rfl))
        (pss_one (ps_if (pt_cmpR op_eq (pe_ix ix_list (pv 1) pe_int (fun _ _ => rfl)) (pe_callTy (T := "str") call_str_int (by rfl) T.n_str (by decide +kernel) (pa_cons (pv 2) pa_nil)) (nomark _))
        (pss_one (ps_ret (pe_tup (pa_cons (pe_ix ix_list (pv 1) pe_int (fun _ _ => rfl)) (pa_cons (pv 2) pa_nil)))))
        pss_nil)))
        (pss_one (ps_ret pe_non)))))), ?_⟩
    have lb : (Str.length (Str.ofString " ") == 0) = false := by decide +kernel
    have hl := TL.len_tl z
    refine ⟨fun σ H' => ∃ (p : Addr) (ws : List Str), σ = [some (.str z), some (.ref p), none] ∧ Same H H' ∧ H' p = some (.lst (ws.map V.str)) ∧ ws.map TL.tl = TL.spl [32] 0 [] (TL.tl z), ?_, ?_⟩
    · refine ⟨_, rfl, ⟨_, rfl⟩, z, _, rfl, rfl, lb, sz5 (by omega), fun p hp => ⟨p, _, rfl, Same.new hp, upd_same, ?_⟩⟩
      rw [TL.split_spl z (Str.ofString " ") (by rw [tl_blank]; simp) (TL.kind_ok (by decide +kernel)), tl_blank]
    rintro σ H1 ⟨p, ws, rfl, s1, hP, hws⟩
    obtain ⟨w0, wr, ew⟩ : ∃ w0 wr, ws = w0 :: wr := by
      cases ws with
      | nil =>
        obtain ⟨a, b, e⟩ := spl_some (TL.tl z) []
        rw [e] at hws
        cases hws
      | cons a b => exact ⟨a, b, rfl⟩
    subst ew
    have hlen : ∀ n : Nat, decide (V.int (((w0 :: wr).map V.str).length : Int) = V.int (n : Int)) = decide ((w0 :: wr).length = n) := fun n => decide_eq_decide.mpr ⟨fun e => by have := V.int.inj e; rw [List.length_map] at this; omega, fun e => by rw [List.length_map, e]⟩
    have eqv : ∀ s : String, eqV (V.str (Str.ofString s)) (.str w0) = decide (TL.tl w0 = TL.tl (Str.ofString s)) := fun s => by
      show decide (Str.ofString s = w0) = _
      exact decide_eq_decide.mpr ⟨fun e => by rw [e], fun e => (TL.ext_tl e).symm⟩
    refine ⟨fun σ H' => σ = [some (.str z), some (.ref p), none] ∧ Same H1 H' ∧ ((w0 :: wr).length ≠ 1 ∨ ((w0 :: wr).length = 1 ∧ deedL (TL.tl z) = none)), ?_, ?_⟩
    · refine ⟨_, rfl, p, _, rfl, .inl (SqL.of hP), rfl, _, rfl, ?_⟩
      rw [show decide (V.int (((w0 :: wr).map V.str).length : Int) = V.int 1) = decide ((w0 :: wr).length = 1) from hlen 1]
      refine ite2 (fun c => ?_) (fun c => iteF ⟨rfl, Same.refl _, .inl fun e => c (decide_eq_true e)⟩)
      have c := of_decide_eq_true c
      have er : wr = [] := List.length_eq_zero_iff.mp (by rw [List.length_cons] at c; omega)
      have e1 := deed_one (l := TL.tl z) (w := TL.tl w0) (by rw [← hws, er] <;> rfl)
      refine ⟨_, rfl, p, _, _, .str w0, rfl, rfl, SqL.of hP, atI_nat (j := 0) rfl, by show 2 ≤ sizeLine; decide, fun t ht => ?_⟩
      have v1 := Same.new (o := .tup [.str "keep", .str "meet"]) ht
      refine ⟨t, _, rfl, .inr (SqT.of upd_same), rfl, rfl, _, rfl, ?_⟩
      have ei : inV (.str w0) [.str "keep", .str "meet"] = (decide (TL.tl w0 = wK) || (decide (TL.tl w0 = wM) || false)) := by
        show (eqV (V.str (Str.ofString "keep")) (.str w0) || (eqV (V.str (Str.ofString "meet")) (.str w0) || false)) = _
        rw [eqv, eqv, tl_keep, tl_meet]
      show (if inV (.str w0) [.str "keep", .str "meet"] = true then _ else _)
      rw [ei, Bool.or_false]
      have fin : ∀ d, deedL (TL.tl z) = some d → d.vs = [.str w0] → ∀ t2, (upd H1 t (.tup [.str "keep", .str "meet"])) t2 = none → Q (.ref t2) (upd (upd H1 t (.tup [.str "keep", .str "meet"])) t2 (.tup [.str w0])) := fun d h1 h2 t2 ht2 => by
        have q := kg d h1 t2 _ (s1.free (v1.free ht2)) (s1.trans (v1.trans (Same.new (o := .tup [.str w0]) ht2)))
        rw [h2] at q
        exact q upd_same
      by_cases ck : TL.tl w0 = wK
      · rw [decide_eq_true ck, Bool.true_or]
        rw [if_pos ck] at e1
        refine iteT ⟨_, rfl, p, _, _, .str w0, rfl, rfl, SqL.of (v1 _ _ hP), atI_nat (j := 0) rfl, by show 1 ≤ sizeLine; decide, fin _ e1 ?_⟩
        rw [str_of tl_keep ck] <;> rfl
      · rw [decide_eq_false ck, Bool.false_or]
        rw [if_neg ck] at e1
        by_cases cm : TL.tl w0 = wM
        · rw [decide_eq_true cm]
          rw [if_pos cm] at e1
          refine iteT ⟨_, rfl, p, _, _, .str w0, rfl, rfl, SqL.of (v1 _ _ hP), atI_nat (j := 0) rfl, by show 1 ≤ sizeLine; decide, fin _ e1 ?_⟩
          rw [str_of tl_meet cm] <;> rfl
        · rw [decide_eq_false cm]
          rw [if_neg cm] at e1
          exact iteF ⟨rfl, v1, .inr ⟨c, e1⟩⟩
    rintro σ H2 ⟨rfl, s2, h1⟩
    have hP2 := s2 _ _ hP
    have s12 := s1.trans s2
    refine ⟨fun σ H' => σ = [some (.str z), some (.ref p), none] ∧ Same H2 H' ∧ (∃ w1, wr = [w1]) ∧ (TL.tl w0 = wG ∨ TL.tl w0 = wT ∨ TL.tl w0 = wD), ?_, ?_⟩
    · refine ⟨_, rfl, p, _, rfl, .inl (SqL.of hP2), rfl, _, rfl, ?_⟩
      rw [show decide (V.int (((w0 :: wr).map V.str).length : Int) = V.int 2) = decide ((w0 :: wr).length = 2) from hlen 2]
      by_cases c : (w0 :: wr).length = 2
      · rw [decide_eq_true c]
        refine iteF ?_
        obtain ⟨w1, er⟩ : ∃ w1, wr = [w1] := by
          match wr, c with
          | [a], _ => exact ⟨a, rfl⟩
        have e2 := deed_two (l := TL.tl z) (w := TL.tl w0) (r := TL.tl w1) (by rw [← hws, er] <;> rfl)
        refine ⟨_, rfl, p, _, _, .str w0, rfl, rfl, SqL.of hP2, atI_nat (j := 0) rfl, by show 3 ≤ sizeLine; decide, fun t ht => ?_⟩
        have v1 := Same.new (o := .tup [.str "take", .str "drop", .str "go"]) ht
        refine ⟨t, _, rfl, .inr (SqT.of upd_same), rfl, rfl, _, rfl, ?_⟩
        have ei : inV (.str w0) [.str "take", .str "drop", .str "go"] = (decide (TL.tl w0 = wT) || (decide (TL.tl w0 = wD) || (decide (TL.tl w0 = wG) || false))) := by
          show (eqV (V.str (Str.ofString "take")) (.str w0) || (eqV (V.str (Str.ofString "drop")) (.str w0) || (eqV (V.str (Str.ofString "go")) (.str w0) || false))) = _
          rw [eqv, eqv, eqv, tl_take, tl_drop, tl_go]
        show (if (if true = true then !inV (.str w0) [.str "take", .str "drop", .str "go"] else inV (.str w0) [.str "take", .str "drop", .str "go"]) = true then _ else _)
        rw [if_pos rfl, ei]
        by_cases cg : TL.tl w0 = wG
        · rw [decide_eq_true cg, Bool.true_or, Bool.or_true, Bool.or_true]
          exact iteF ⟨rfl, v1, ⟨w1, er⟩, .inl cg⟩
        · rw [decide_eq_false cg]
          by_cases ct : TL.tl w0 = wT
          · rw [decide_eq_true ct, Bool.true_or]
            exact iteF ⟨rfl, v1, ⟨w1, er⟩, .inr (.inl ct)⟩
          · rw [decide_eq_false ct]
            by_cases cd : TL.tl w0 = wD
            · rw [decide_eq_true cd]
              exact iteF ⟨rfl, v1, ⟨w1, er⟩, .inr (.inr cd)⟩
            · rw [decide_eq_false cd]
              refine iteT (kb ?_ _ (s12.trans v1))
              rw [e2]
              cases numQ (TL.tl w1) with
              | none => rfl
              | some n =>
                show deedNum _ n = none
                unfold deedNum
                rw [if_neg cg, if_neg ct, if_neg cd]
      · rw [decide_eq_false c]
        refine iteT (iteT (kb ?_ _ s12))
        rcases h1 with h1 | ⟨_, h1⟩
        · refine deed_more ?_ ?_
          · rw [← hws, List.length_map]
            exact h1
          · rw [← hws, List.length_map]
            exact c
        · exact h1
    rintro σ H3 ⟨rfl, s3, ⟨w1, rfl⟩, hw⟩
    have hP3 := s3 _ _ hP2
    have s13 := s12.trans s3
    have e2 := deed_two (l := TL.tl z) (w := TL.tl w0) (r := TL.tl w1) (by rw [← hws] <;> rfl)
    have elo : ∀ lo : Nat, lo = (if TL.tl w0 = wG then 1 else 0) → ∀ n, n ≤ 100 → lo ≤ n → TL.tl w1 = TL.numL n → ∃ d, deedL (TL.tl z) = some d ∧ d.vs = [.str w0, .int (n : Int)] := by
      intro lo hlo n hn hln he
      have q := numQ_num n (by omega)
      rw [he, q] at e2
      have e2 : deedL (TL.tl z) = deedNum (TL.tl w0) n := e2
      rw [e2]
      unfold deedNum
      rcases hw with h | h | h
      · rw [if_pos h]
        rw [if_pos h] at hlo
        rw [if_pos ⟨by omega, hn⟩]
        exact ⟨_, rfl, by rw [str_of tl_go h] <;> rfl⟩
      · rw [h, if_neg (by decide), if_pos rfl, if_pos hn]
        exact ⟨_, rfl, by rw [str_of tl_take h] <;> rfl⟩
      · rw [h, if_neg (by decide), if_neg (by decide), if_pos rfl, if_pos hn]
        exact ⟨_, rfl, by rw [str_of tl_drop h] <;> rfl⟩
    have enone : ∀ lo : Nat, lo = (if TL.tl w0 = wG then 1 else 0) → (∀ n, n ≤ 100 → lo ≤ n → TL.tl w1 ≠ TL.numL n) → deedL (TL.tl z) = none := by
      intro lo hlo hn
      rw [e2]
      cases q : numQ (TL.tl w1) with
      | none => rfl
      | some n =>
        show deedNum _ n = none
        have h := numQ_back q
        have big : ¬ (n ≤ 100 ∧ lo ≤ n) := fun c => hn n c.1 c.2 h
        unfold deedNum
        rcases hw with h | h | h
        · rw [if_pos h]
          rw [if_pos h] at hlo
          rw [if_neg (by omega)]
        · rw [h] at hlo ⊢
          rw [if_neg (by decide)] at hlo
          rw [if_neg (by decide), if_pos rfl, if_neg (by omega)]
        · rw [h] at hlo ⊢
          rw [if_neg (by decide)] at hlo
          rw [if_neg (by decide), if_neg (by decide), if_pos rfl, if_neg (by omega)]
    refine ⟨_, rfl, p, _, _, .str w0, rfl, rfl, SqL.of hP3, rfl, rfl, .inr ⟨_, rfl, ?_⟩⟩
    rw [str_iff, tl_go]
    have ec : (if decide (TL.tl w0 = wG) = true then (1 : Int) else 0) = ((if TL.tl w0 = wG then 1 else 0 : Nat) : Int) := by
      by_cases c : TL.tl w0 = wG
      · rw [decide_eq_true c, if_pos rfl, if_pos c] <;> rfl
      · rw [decide_eq_false c, if_neg (by decide), if_neg c] <;> rfl
    rw [ec]
    have hlo : (if TL.tl w0 = wG then 1 else 0 : Nat) ≤ 1 := by split <;> omega
    generalize hg : (if TL.tl w0 = wG then 1 else 0 : Nat) = lo at hlo elo enone
    replace elo := elo lo rfl
    replace enone := enone lo rfl
    refine ⟨_, _, rfl, by omega, ?_⟩
    have en : (101 - (lo : Int)).toNat = 101 - lo := by omega
    refine for_range (lo := (lo : Int)) (n := (101 - (lo : Int)).toNat) (fun i σ H' => H' = H3 ∧ ∃ u, σ = [some (.str z), some (.ref p), u] ∧ ∀ m, m < lo + i → lo ≤ m → TL.tl w1 ≠ TL.numL m) ⟨rfl, none, rfl, fun m h1 h2 => by omega⟩ ?_ ?_
    · rintro i σ H' hi ⟨rfl, u, rfl, hm⟩
      rw [en] at hi
      have eLi : ((lo : Int) + (i : Int)) = ((lo + i : Nat) : Int) := by omega
      rw [eLi]
      refine ⟨_, rfl, p, _, _, .str w1, rfl, rfl, SqL.of hP3, rfl, _, rfl, _, rfl, log_small (by omega) (by omega), rfl, _, rfl, ?_⟩
      rw [str_iff, TL.tl_num]
      by_cases c : TL.tl w1 = TL.numL (lo + i)
      · rw [decide_eq_true c]
        obtain ⟨d, hd, hv⟩ := elo (lo + i) (by omega) (by omega) c
        refine iteT ⟨_, rfl, p, _, _, .str w0, rfl, rfl, SqL.of hP3, rfl, _, rfl, by show 2 ≤ sizeLine; decide, fun t ht => ?_⟩
        have q := kg d hd t _ (s13.free ht) (s13.trans (Same.new (o := .tup [.str w0, .int ((lo + i : Nat) : Int)]) ht))
        rw [hv] at q
        exact q upd_same
      · rw [decide_eq_false c]
        refine iteF ⟨rfl, _, rfl, fun m h1 h2 => ?_⟩
        by_cases e : m = lo + i
        · rw [e]
          exact c
        · exact hm m (by omega) h2
    · rintro σ H' ⟨rfl, u, rfl, hm⟩
      rw [en] at hm
      exact kb (enone fun n h1 h2 => hm n (by omega) h2) _ s13
-- @@ _law_told
def sp_l_told (K : PySem.W.Frag) : Sp := fun vs H Q _ => ∃ z : Str, vs = [.str z] ∧ z.length ≤ 5000 ∧ (∀ d, deedL (TL.tl z) = some d → RetT H d.vs Q) ∧ (deedL (TL.tl z) = none → RetT H [.str "refused", .str "deed"] Q)
theorem ok_l_told (T : Txt K mg) : OkF P w K mg base "_law_told" 4 ["_law_line"] (sp_l_told K) := by
  obtain ⟨f_deed_of, fd_deed_of, m_deed_of, k_deed_of, b_deed_of, G_deed_of⟩ := ok_deed_of (P := P) (w := w) (base := base) T
  obtain ⟨f_l_class, fd_l_class, m_l_class, k_l_class, b_l_class, G_l_class⟩ := ok_l_class (P := P) (w := w) (base := base) T
  refine okf T.d_l_told sc_l_told (fun vs H Q E h => ?_) (fun f cdv A outer s H vs Q E hr h => ?_)
  · obtain ⟨z, rfl, hz, kg, kb⟩ := h
    rfl
  · obtain ⟨z, rfl, hz, kg, kb⟩ := h
    refine ⟨_, (pss_one (ps_try_as (i := 1) rfl rfl sc_l_told.nd rfl rfl ⟨rfl, by decide, .inl T.x_MarkError.g⟩ takes0 (fun W pn xe tk po => (pss_one (ps_ret (pe_callS G_deed_of (hr.mono (by decide)) (by rfl) m_deed_of k_deed_of b_deed_of (fun σ => passAt tk σ) (pa_cons (pv 0) pa_nil))))) (fun a oe cls d pn hz hf => (pss_one (ps_ret (pe_hotE G_l_class (hr.mono (by decide)) hz hf (by rfl) m_l_class k_l_class b_l_class (pa_cons (pv 1) pa_nil))))))), ?_⟩
    refine ⟨_, rfl, z, rfl, hz, kg, fun e H' s1 => ?_⟩
    refine ⟨true, T.e_BadDeed, fun _ a ha => ?_, fun q => Bool.noConfusion q⟩
    exact ⟨_, rfl, rfl, T.aBadDeed, 2, rfl, rfl, T.q_BadDeed, fun t H2 ht s2 hT => kb e t H2 (s1.free ht) (s1.trans s2) hT⟩
-- @@ _law_spoilt
def ShortT (v : V) : Prop := ∃ z : Str, v = .str z ∧ z.length ≤ 100
def sp_l_spoilt (K : PySem.W.Frag) : Sp := fun vs H Q _ => ∃ (z : Str) (c : Int), vs = [.str z, .int c] ∧ z.length ≤ 12 ∧ ∀ (y : Str) (H' : Hp), y.length ≤ 100 → Same H H' → Q (.str y) H'
theorem ok_l_spoilt (T : Txt K mg) : OkF P w K mg base "_law_spoilt" 1 ["_law_line", "_law_cell"] (sp_l_spoilt K) := by
  refine okf T.d_l_spoilt sc_l_spoilt (fun vs H Q E h => ?_) (fun f cdv A outer s H vs Q E hr h => ?_)
  · obtain ⟨z, c, rfl, hz, k⟩ := h
    rfl
  · obtain ⟨z, c, rfl, hz, k⟩ := h
    refine ⟨_, (Evl.pss_cut (ps_set (i := 2) sc_l_spoilt.nd rfl (Or.inl rfl) pe_str)
        (Evl.pss_cut (ps_set (i := 3) sc_l_spoilt.nd rfl (Or.inl rfl) (pe_op op_mod (pe_op op_fdiv (pv 1) pe_int) (pe_op op_add (pe_callB call_len_str (by rfl) T.n_len PySem.boot_len (pa_cons (pv 0) pa_nil)) pe_int)))
        (Evl.pss_cut (ps_set (i := 4) sc_l_spoilt.nd rfl (Or.inl rfl) (pe_ix ix_str (pv 2) (pe_op op_mod (pe_op op_fdiv (pv 1) pe_int) (pe_callB call_len_str (by rfl) T.n_len PySem.boot_len (pa_cons (pv 2) pa_nil))) (fun _ _ => rfl)))
        (Evl.pss_cut (ps_set (i := 5) sc_l_spoilt.nd rfl (Or.inl rfl) (pe_split (pv 0) pe_str))
        (Evl.pss_cut (ps_set (i := 6) sc_l_spoilt.nd rfl (Or.inl rfl) (pe_lst (pa_cons (pe_op op_add_str (pe_op op_add_str (pe_slice sl_str (pv 0) po_none (po_some (pv 3))) (pv 4)) (pe_slice sl_str (pv 0) (po_some (pv 3)) po_none)) (pa_cons (pe_op op_add_str (pe_slice sl_str (pv 0) po_none (po_some (pv 3))) (pe_slice sl_str (pv 0) (po_some (pe_op op_add (pv 3) pe_int)) po_none)) (pa_cons (pe_op op_add_str (pe_op op_add_str (pe_slice sl_str (pv 0) po_none (po_some (pv 3))) (pv 4)) (pe_slice sl_str (pv 0) (po_some (pe_op op_add (pv 3) pe_int)) po_none)) pa_nil)))))
        (Evl.pss_cut (ps_set (i := 7) sc_l_spoilt.nd rfl (Or.inl rfl) (pe_ix ix_list (pv 5) (pe_op op_sub (pe_callB call_len_seq (by rfl) T.n_len PySem.boot_len (pa_cons (pv 5) pa_nil)) pe_int) (fun _ _ => rfl)))
        (Evl.pss_cut (ps_set (i := 6) sc_l_spoilt.nd rfl (Or.inl rfl) (pe_op op_cat (pv 6) (pe_lst (pa_cons (pe_op op_add_str (pv 0) pe_str) (pa_cons (pe_op op_add_str (pe_op op_add_str (pe_ix ix_list (pv 5) pe_int (fun _ _ => rfl)) pe_str) (pv 7)) (pa_cons (pe_op op_add_str (pe_op op_add_str (pe_ix ix_list (pv 5) pe_int (fun _ _ => rfl)) pe_str) (pv 7)) (pa_cons (pe_op op_add_str (pe_op op_add_str (pe_ix ix_list (pv 5) pe_int (fun _ _ => rfl)) pe_str) (pv 7)) (pa_cons (pe_op op_add_str (pv 0) pe_str) pa_nil))))))))
        (Evl.pss_cut (ps_set (i := 6) sc_l_spoilt.nd rfl (Or.inl rfl) (pe_op op_cat (pv 6) (pe_lst (pa_cons (pe_op op_add_str pe_str (pv 0)) (pa_cons (pe_op op_add_str (pv 0) pe_str) (pa_cons (pe_op op_add_str (pv 0) pe_str) (pa_cons (pe_op op_add_str (pe_upper (pe_ix ix_list (pv 5) pe_int (fun _ _ => rfl))) (pe_slice sl_str (pv 0) (po_some (pe_callB call_len_str (by rfl) T.n_len PySem.boot_len (pa_cons (pe_ix ix_list (pv 5) pe_int (fun _ _ => rfl)) pa_nil))) po_none)) pa_nil)))))))
        (pss_one (ps_ret (pe_ix ix_list (pv 6) (pe_op op_mod (pv 1) pe_int) (fun _ _ => rfl)))))))))))), ?_⟩
    have lb : (Str.length (Str.ofString " ") == 0) = false := by decide +kernel
    have l1 : Str.length (Str.ofString " ") = 1 := by decide +kernel
    have l2 : Str.length (Str.ofString " 7") = 2 := by decide +kernel
    have l3 : Str.length (Str.ofString "  ") = 2 := by decide +kernel
    have l4 : Str.length (Str.ofString " 0") = 2 := by decide +kernel
    have l5 : Str.length (Str.ofString " +") = 2 := by decide +kernel
    have l6 : Str.length (Str.ofString "_0") = 2 := by decide +kernel
    have l7 : Str.length (Str.ofString "\n") = 1 := by decide +kernel
    have ls : Str.length (Str.ofString "keeptakdrogm0123456789 -+_.AZ~\t\n") = 32 := by decide +kernel
    have lt : (Str.ofString "keeptakdrogm0123456789 -+_.AZ~\t\n").cps.toList.length = 32 := by decide +kernel
    have cz : ∀ lo hi, (cutS z lo hi).length ≤ 12 := fun lo hi => Nat.le_trans (cutS_length z lo hi) hz
    refine ⟨fun σ H' => H' = H ∧ σ = [some (.str z), some (.int c), some (.str "keeptakdrogm0123456789 -+_.AZ~\t\n"), none, none, none, none, none], ⟨rfl, rfl⟩, ?_⟩
    rintro σ H0 ⟨rfl, rfl⟩
    refine ⟨fun σ H' => H' = H0 ∧ ∃ j : Int, σ = [some (.str z), some (.int c), some (.str "keeptakdrogm0123456789 -+_.AZ~\t\n"), some (.int j), none, none, none, none], ?_, ?_⟩
    · exact ⟨_, rfl, _, _, rfl, rfl, ⟨by decide, by decide⟩, _, rfl, z, rfl, sz5 (by omega), _, _, rfl, rfl, _, _, rfl, rfl, by show (0 : Int) < (z.length : Int) + 1; omega, rfl, _, rfl⟩
    rintro σ H1 ⟨rfl, j, rfl⟩
    refine ⟨fun σ H' => H' = H1 ∧ ∃ s : Nat, σ = [some (.str z), some (.int c), some (.str "keeptakdrogm0123456789 -+_.AZ~\t\n"), some (.int j), some (.str ⟨#[s]⟩), none, none, none], ?_, ?_⟩
    · obtain ⟨i, hi, ei⟩ := rem_nat (z := c / 144) (m := 32) (by decide)
      obtain ⟨s, hs⟩ : ∃ s, (Str.ofString "keeptakdrogm0123456789 -+_.AZ~\t\n").cps.toList[i]? = some s := ⟨_, List.getElem?_eq_getElem (by rw [lt]; omega)⟩
      refine ⟨_, rfl, _, rfl, _, _, rfl, rfl, ⟨by decide, by decide⟩, _, rfl, _, rfl, sz5 (by rw [ls]; decide), _, _, rfl, rfl, by show (0 : Int) < ((Str.length (Str.ofString "keeptakdrogm0123456789 -+_.AZ~\t\n") : Nat) : Int); rw [ls]; decide, _, _, s, rfl, rfl, sz5 (by rw [ls]; decide), ?_, rfl, s, rfl⟩
      show atI _ (c / 144 % ((Str.length (Str.ofString "keeptakdrogm0123456789 -+_.AZ~\t\n") : Nat) : Int)) = some s
      rw [ls, show c / 144 % ((32 : Nat) : Int) = (i : Int) from ei]
      exact atI_nat hs
    rintro σ H2 ⟨rfl, s, rfl⟩
    have lsg : Str.length ⟨#[s]⟩ = 1 := rfl
    refine ⟨fun σ H' => Same H2 H' ∧ ∃ (p : Addr) (ws : List Str), σ = [some (.str z), some (.int c), some (.str "keeptakdrogm0123456789 -+_.AZ~\t\n"), some (.int j), some (.str ⟨#[s]⟩), some (.ref p), none, none] ∧ H' p = some (.lst (ws.map V.str)) ∧ ws ≠ [] ∧ ∀ w ∈ ws, w.length ≤ 12, ?_, ?_⟩
    · refine ⟨_, rfl, ⟨_, rfl⟩, z, _, rfl, rfl, lb, sz5 (by omega), fun p hp => ⟨Same.new hp, p, _, rfl, upd_same, ?_, fun w hw => ?_⟩⟩
      · intro e
        have q := TL.split_spl z (Str.ofString " ") (by rw [tl_blank]; simp) (TL.kind_ok (by decide +kernel))
        rw [e, tl_blank] at q
        obtain ⟨a, b, q2⟩ := spl_some (TL.tl z) []
        rw [q2] at q
        cases q
      · have q := TL.split_spl z (Str.ofString " ") (by rw [tl_blank]; simp) (TL.kind_ok (by decide +kernel))
        rw [tl_blank] at q
        have m : TL.tl w ∈ TL.spl [32] 0 [] (TL.tl z) := by rw [← q]; exact List.mem_map.mpr ⟨w, hw, rfl⟩
        have := spl_len _ _ [] (Nat.le_refl _) _ m
        rw [TL.len_tl]
        have hl := TL.len_tl z
        simp only [List.length_nil] at this
        omega
    rintro σ H3 ⟨s3, p, ws, rfl, hP, hne, hws⟩
    obtain ⟨w0, wr, ew⟩ : ∃ w0 wr, ws = w0 :: wr := by
      cases ws with
      | nil => exact absurd rfl hne
      | cons a b => exact ⟨a, b, rfl⟩
    have hw0 : w0.length ≤ 12 := hws w0 (by rw [ew]; exact List.mem_cons_self)
    have at0 : atI (ws.map V.str) 0 = some (V.str w0) := by
      rw [ew]
      exact atI_nat (j := 0) rfl
    refine ⟨fun σ H' => Same H3 H' ∧ ∃ (l : Addr) (xs : List V), σ = [some (.str z), some (.int c), some (.str "keeptakdrogm0123456789 -+_.AZ~\t\n"), some (.int j), some (.str ⟨#[s]⟩), some (.ref p), some (.ref l), none] ∧ H' l = some (.lst xs) ∧ xs.length = 3 ∧ ∀ v ∈ xs, ShortT v, ?_, ?_⟩
    · refine ⟨_, rfl, _, rfl, _, rfl, z, rfl, sz5 (by omega), _, rfl, _, _, rfl, rfl, sz5 (by have := cz none (some j); rw [lsg]; omega), _, rfl, _, rfl, _, rfl, z, rfl, sz5 (by omega), _, _, rfl, rfl, sz5 (by have := cz none (some j); have := cz (some j) none; rw [slen, lsg]; omega), ?_⟩
      refine ⟨_, rfl, _, rfl, _, rfl, z, rfl, sz5 (by omega), _, rfl, _, rfl, _, _, rfl, rfl, _, rfl, z, rfl, sz5 (by omega), _, _, rfl, rfl, sz5 (by have := cz none (some j); have := cz (some (j + 1)) none; omega), ?_⟩
      refine ⟨_, rfl, _, rfl, _, rfl, z, rfl, sz5 (by omega), _, rfl, _, _, rfl, rfl, sz5 (by have := cz none (some j); rw [lsg]; omega), _, rfl, _, rfl, _, _, rfl, rfl, _, rfl, z, rfl, sz5 (by omega), _, _, rfl, rfl, sz5 (by have := cz none (some j); have := cz (some (j + 1)) none; rw [slen, lsg]; omega), ?_⟩
      refine ⟨by show 3 ≤ sizeLine; decide, fun l hl => ⟨Same.new hl, l, _, rfl, upd_same, rfl, fun v hv => ?_⟩⟩
      have a1 := cz none (some j)
      have a2 := cz (some j) none
      have a3 := cz (some (j + 1)) none
      simp only [List.mem_cons, List.not_mem_nil, or_false] at hv
      rcases hv with rfl | rfl | rfl
      · exact ⟨_, rfl, by rw [slen, slen, lsg]; omega⟩
      · exact ⟨_, rfl, by rw [slen]; omega⟩
      · exact ⟨_, rfl, by rw [slen, slen, lsg]; omega⟩
    rintro σ H4 ⟨s4, l, xs, rfl, hL, hx3, hxs⟩
    have hP4 := s4 _ _ hP
    have lw : (ws.map V.str).length = ws.length := List.length_map ..
    have hwl : 0 < ws.length := by rw [ew]; exact Nat.succ_pos _
    obtain ⟨wl, hwl1⟩ : ∃ wl, ws[ws.length - 1]? = some wl := ⟨_, List.getElem?_eq_getElem (by omega)⟩
    have hwl2 := hws wl (List.mem_of_getElem? hwl1)
    refine ⟨fun σ H' => H' = H4 ∧ σ = [some (.str z), some (.int c), some (.str "keeptakdrogm0123456789 -+_.AZ~\t\n"), some (.int j), some (.str ⟨#[s]⟩), some (.ref p), some (.ref l), some (.str wl)], ?_, ?_⟩
    · refine ⟨_, rfl, _, rfl, p, _, rfl, .inl (SqL.of hP4), _, _, rfl, rfl, p, _, _, .str wl, rfl, rfl, SqL.of hP4, at_of (j := ws.length - 1) (by rw [lw]; omega) ?_, rfl, rfl⟩
      rw [List.getElem?_map, hwl1] <;> rfl
    rintro σ H5 ⟨rfl, rfl⟩
    refine ⟨fun σ H' => Same H5 H' ∧ ∃ (l : Addr) (xs : List V), σ = [some (.str z), some (.int c), some (.str "keeptakdrogm0123456789 -+_.AZ~\t\n"), some (.int j), some (.str ⟨#[s]⟩), some (.ref p), some (.ref l), some (.str wl)] ∧ H' l = some (.lst xs) ∧ xs.length = 8 ∧ ∀ v ∈ xs, ShortT v, ?_, ?_⟩
    · refine ⟨_, rfl, _, rfl, _, _, rfl, rfl, sz5 (by rw [l2]; omega), ?_⟩
      refine ⟨_, rfl, p, _, _, .str w0, rfl, rfl, SqL.of hP4, at0, _, _, rfl, rfl, sz5 (by rw [l3]; omega), _, rfl, _, _, rfl, rfl, sz5 (by rw [slen, l3]; omega), ?_⟩
      refine ⟨_, rfl, p, _, _, .str w0, rfl, rfl, SqL.of hP4, at0, _, _, rfl, rfl, sz5 (by rw [l4]; omega), _, rfl, _, _, rfl, rfl, sz5 (by rw [slen, l4]; omega), ?_⟩
      refine ⟨_, rfl, p, _, _, .str w0, rfl, rfl, SqL.of hP4, at0, _, _, rfl, rfl, sz5 (by rw [l5]; omega), _, rfl, _, _, rfl, rfl, sz5 (by rw [slen, l5]; omega), ?_⟩
      refine ⟨_, rfl, _, _, rfl, rfl, sz5 (by rw [l6]; omega), by show 5 ≤ sizeLine; decide, fun l' hl' => ?_⟩
      have v1 := Same.new (o := .lst [.str (z ++ Str.ofString " 7"), .str (w0 ++ Str.ofString "  " ++ wl), .str (w0 ++ Str.ofString " 0" ++ wl), .str (w0 ++ Str.ofString " +" ++ wl), .str (z ++ Str.ofString "_0")]) hl'
      refine ⟨l, l', _, _, rfl, rfl, v1 _ _ hL, upd_same, sz5 (by rw [hx3]; show 3 + 5 ≤ 100000; decide), fun m2 hm2 => ⟨v1.trans (Same.new hm2), m2, _, rfl, upd_same, by rw [List.length_append, hx3] <;> rfl, fun v hv => ?_⟩⟩
      rcases List.mem_append.mp hv with hv | hv
      · exact hxs v hv
      · simp only [List.mem_cons, List.not_mem_nil, or_false] at hv
        rcases hv with rfl | rfl | rfl | rfl | rfl
        · exact ⟨_, rfl, by rw [slen, l2]; omega⟩
        · exact ⟨_, rfl, by rw [slen, slen, l3]; omega⟩
        · exact ⟨_, rfl, by rw [slen, slen, l4]; omega⟩
        · exact ⟨_, rfl, by rw [slen, slen, l5]; omega⟩
        · exact ⟨_, rfl, by rw [slen, l6]; omega⟩
    rintro σ H6 ⟨s6, l8, ys, rfl, hL8, hy8, hys⟩
    have hP6 := s6 _ _ hP4
    refine ⟨fun σ H' => Same H6 H' ∧ ∃ (l : Addr) (xs : List V), σ = [some (.str z), some (.int c), some (.str "keeptakdrogm0123456789 -+_.AZ~\t\n"), some (.int j), some (.str ⟨#[s]⟩), some (.ref p), some (.ref l), some (.str wl)] ∧ H' l = some (.lst xs) ∧ xs.length = 12 ∧ ∀ v ∈ xs, ShortT v, ?_, ?_⟩
    · have lu := PyProof.Rows.len_upper w0
      refine ⟨_, rfl, _, rfl, _, _, rfl, rfl, sz5 (by rw [l1]; omega), ?_⟩
      refine ⟨_, rfl, _, _, rfl, rfl, sz5 (by rw [l1]; omega), ?_⟩
      refine ⟨_, rfl, _, _, rfl, rfl, sz5 (by rw [l7]; omega), ?_⟩
      refine ⟨_, rfl, p, _, _, .str w0, rfl, rfl, SqL.of hP6, at0, ⟨_, rfl⟩, w0, rfl, rfl, by omega, _, rfl, _, rfl, p, _, _, .str w0, rfl, rfl, SqL.of hP6, at0, w0, rfl, sz5 (by omega), _, rfl, z, rfl, sz5 (by omega), _, _, rfl, rfl, sz5 (by have := cz (some (w0.length : Int)) none; omega), by show 4 ≤ sizeLine; decide, fun l' hl' => ?_⟩
      have v1 := Same.new (o := .lst [.str (Str.ofString " " ++ z), .str (z ++ Str.ofString " "), .str (z ++ Str.ofString "\n"), .str (Txt.upper w0 ++ cutS z (some (w0.length : Int)) none)]) hl'
      refine ⟨l8, l', _, _, rfl, rfl, v1 _ _ hL8, upd_same, sz5 (by rw [hy8]; show 8 + 4 ≤ 100000; decide), fun m2 hm2 => ⟨v1.trans (Same.new hm2), m2, _, rfl, upd_same, by rw [List.length_append, hy8] <;> rfl, fun v hv => ?_⟩⟩
      rcases List.mem_append.mp hv with hv | hv
      · exact hys v hv
      · have a4 := cz (some (w0.length : Int)) none
        simp only [List.mem_cons, List.not_mem_nil, or_false] at hv
        rcases hv with rfl | rfl | rfl | rfl
        · exact ⟨_, rfl, by rw [slen, l1]; omega⟩
        · exact ⟨_, rfl, by rw [slen, l1]; omega⟩
        · exact ⟨_, rfl, by rw [slen, l7]; omega⟩
        · exact ⟨_, rfl, by rw [slen]; omega⟩
    rintro σ H7 ⟨s7, l12, us, rfl, hL12, hu12, hus⟩
    obtain ⟨i, hi, ei⟩ := rem_nat (z := c) (m := 12) (by decide)
    obtain ⟨v, hv, y, rfl, hy⟩ := pick hus (j := i) (by omega)
    exact ⟨_, rfl, _, rfl, _, _, rfl, rfl, by show (0 : Int) < 12; decide, l12, _, _, .str y, rfl, rfl, SqL.of hL12, at_of ei hv, k y _ hy (s3.trans (s4.trans (s6.trans s7)))⟩
-- @@ law
theorem Raw.at0 (d : Raw) : atI d.vs 0 = some (.str d.w) := by
  obtain ⟨w, n⟩ := d
  cases n with
  | none => rfl
  | some i => rfl
theorem rep_size (c : Array Nat) : ∀ (n : Nat) (acc : Array Nat), ((List.replicate n c).foldl (· ++ ·) acc).size = acc.size + n * c.size
  | 0, acc => by simp
  | n + 1, acc => by
    rw [List.replicate_succ, List.foldl_cons, rep_size c n (acc ++ c), Array.size_append, Nat.succ_mul]
    omega
theorem rep_len (a : Str) (n : Int) (h : a.length = 1) (hn : 0 ≤ n) : ((⟨(List.replicate n.toNat a.cps).foldl (· ++ ·) #[]⟩ : Str).length : Int) = n := by
  show (((List.replicate n.toNat a.cps).foldl (· ++ ·) #[]).size : Int) = n
  have h : a.cps.size = 1 := h
  rw [rep_size, h]
  show ((0 + n.toNat * 1 : Nat) : Int) = n
  omega
def LongT (v : V) : Prop := ∃ z : Str, v = .str z ∧ z.length ≤ 4000
def DueV (H : Hp) (l : List Nat) (v : V) : Prop := (deedL l = none ∧ v = .non) ∨ ∃ d p, deedL l = some d ∧ v = .ref p ∧ H p = some (.tup d.vs)
def FoundV (H : Hp) (l : List Nat) (v : V) : Prop := (deedL l = none ∧ ∃ p, v = .ref p ∧ H p = some (.tup [.str "refused", .str "deed"])) ∨ ∃ d p, deedL l = some d ∧ v = .ref p ∧ H p = some (.tup d.vs)
theorem DueV.same {H H' : Hp} {l : List Nat} {v : V} (e : Same H H') (h : DueV H l v) : DueV H' l v := by
  rcases h with h | ⟨d, p, a, b, c⟩
  · exact .inl h
  · exact .inr ⟨d, p, a, b, e _ _ c⟩
def refD3 : PyData := .tuple [.str "refused", .str "deed"]
theorem refD3_sh : Sh 1 refD3 := .tup fun d hd => by
  simp only [List.mem_cons, List.not_mem_nil, or_false] at hd
  rcases hd with rfl | rfl
  · exact .str (by decide +kernel)
  · exact .str (by decide +kernel)
theorem refD3_dp {K : PySem.W.Frag} {H : Hp} {t : Addr} (h : H t = some (.tup [.str "refused", .str "deed"])) : Dp K H (.ref t) refD3 := .tup (SqT.of h) (.cons (.str _) (.cons (.str _) .nil))
theorem len4 : ∀ s : String, s ∈ [" ", "\n", "  ", "\t", "keep 0", "go", "take", "drop", "go ", "take ", " 5", "5", ""] → Str.length (Str.ofString s) ≤ 10 := by decide +kernel
theorem ok_law_at (T : Txt K mg) {f : Addr} {fd : FuncData} (F : Fun K "law" "law" s_law f fd) : FnOk P w K mg base (L2.CX P w) 5 f fd ["_law_script"] (sp_law K) := by
  obtain ⟨f_l_deed, fd_l_deed, m_l_deed, k_l_deed, b_l_deed, G_l_deed⟩ := ok_l_deed (P := P) (w := w) (base := base) T
  obtain ⟨f_l_number, fd_l_number, m_l_number, k_l_number, b_l_number, G_l_number⟩ := ok_l_number (P := P) (w := w) (base := base) T
  obtain ⟨f_l_good, fd_l_good, m_l_good, k_l_good, b_l_good, G_l_good⟩ := ok_l_good (P := P) (w := w) (base := base) T
  obtain ⟨f_is_deed, fd_is_deed, m_is_deed, k_is_deed, b_is_deed, G_is_deed⟩ := ok_is_deed (P := P) (w := w) (base := base) T
  obtain ⟨f_line_of, fd_line_of, m_line_of, k_line_of, b_line_of, G_line_of⟩ := ok_line_of (P := P) (w := w) (base := base) T
  obtain ⟨f_l_spoilt, fd_l_spoilt, m_l_spoilt, k_l_spoilt, b_l_spoilt, G_l_spoilt⟩ := ok_l_spoilt (P := P) (w := w) (base := base) T
  obtain ⟨f_l_read, fd_l_read, m_l_read, k_l_read, b_l_read, G_l_read⟩ := ok_l_read (P := P) (w := w) (base := base) T
  obtain ⟨f_l_told, fd_l_told, m_l_told, k_l_told, b_l_told, G_l_told⟩ := ok_l_told (P := P) (w := w) (base := base) T
  obtain ⟨f_l_whole, fd_l_whole, m_l_whole, k_l_whole, b_l_whole, G_l_whole⟩ := ok_l_whole (P := P) (w := w) (base := base) T
  obtain ⟨f_l_cell_at, fd_l_cell_at, m_l_cell_at, k_l_cell_at, b_l_cell_at, G_l_cell_at⟩ := ok_l_cell_at (P := P) (w := w) (base := base) T
  refine F.okX sc_law (fun vs H Q E h => ?_) (fun cdv A outer s H vs Q E hr h => ?_)
  · obtain ⟨a, ns, rfl, hS, hl, k⟩ := h
    rfl
  · obtain ⟨a, ns, rfl, hS, hl, k⟩ := h
    refine ⟨_, (Evl.pss_cut (ps_set (i := 1) sc_law.nd rfl (Or.inl rfl) (pe_call G_l_deed (hr.mono (by decide)) (by rfl) m_l_deed k_l_deed b_l_deed .nil passL (pa_cons (pe_call G_l_number (hr.mono (by decide)) (by rfl) m_l_number k_l_number b_l_number .nil passL (pa_cons (pv 0) (pa_cons pe_int pa_nil))) pa_nil)))
        (pss_cons (ps_set (i := 2) sc_law.nd rfl (Or.inl rfl) (pe_call G_l_good (hr.mono (by decide)) (by rfl) m_l_good k_l_good b_l_good .nil passL (pa_cons (pv 1) pa_nil)))
        (pss_cons (ps_set (i := 3) sc_law.nd rfl (Or.inl rfl) (pe_call G_is_deed (hr.mono (by decide)) (by rfl) m_is_deed k_is_deed b_is_deed .nil passL (pa_cons (pv 1) pa_nil)))
        (Evl.pss_cut (ps_if (PW.pt (pw_or (pt_not (pt_val (pe_callB call_isi (by rfl) T.n_isinstance (by decide +kernel) (pa_cons (pv 3) (pa_cons (pe_bltn (v := .ty "bool") (by rfl) T.n_bool (by decide +kernel) rfl) pa_nil))))) (pw_or1 (pt_cmpR op_ne (pv 3) (pv 2) (nomark _)))))
        (pss_one (ps_ret pe_bl))
        pss_nil)
        (pss_cons (ps_set (i := 4) sc_law.nd rfl (Or.inl rfl) (pe_ix ix_tup (pv 1) pe_int (fun _ _ => rfl)))
        (Evl.pss_cut (ps_if (pt_cmpR op_eq (pe_callB call_len_seq (by rfl) T.n_len PySem.boot_len (pa_cons (pv 1) pa_nil)) pe_int (nomark _))
        (pss_one (ps_set (i := 4) sc_law.nd rfl (Or.inl rfl) (pe_op op_add_str (pe_op op_add_str (pv 4) pe_str) (pe_callTy (T := "str") call_str_int (by rfl) T.n_str (by decide +kernel) (pa_cons (pe_ix ix_tup (pv 1) pe_int (fun _ _ => rfl)) pa_nil)))))
        pss_nil)
        (Evl.pss_cut (ps_if (PW.pt (pw_and (pt_val (pv 2)) (pw_and1 (pt_cmpR op_ne (pe_call G_line_of (hr.mono (by decide)) (by rfl) m_line_of k_line_of b_line_of .nil passL (pa_cons (pv 1) pa_nil)) (pv 4) (nomark _)))))
        (pss_one (ps_ret pe_bl))
        pss_nil)
        (Evl.pss_cut (ps_set (i := 5) sc_law.nd rfl (Or.inl rfl) (pe_lst (pa_cons pe_str (pa_cons pe_str (pa_cons pe_str (pa_cons pe_str (pa_cons pe_str (pa_cons pe_str (pa_cons pe_str (pa_cons (pe_op op_add_str pe_str (pe_op op_repS pe_str pe_int)) (pa_cons (pe_op op_add_str pe_str (pe_op op_repS pe_str pe_int)) pa_nil)))))))))))
        (Evl.pss_cut (ps_set (i := 6) sc_law.nd rfl (Or.inl rfl) (pe_ix ix_list (pe_op op_cat (pe_lst (pa_cons pe_str (pa_cons pe_str (pa_cons pe_str (pa_cons pe_str (pa_cons pe_str pa_nil)))))) (pv 5)) (pe_op op_mod (pe_call G_l_number (hr.mono (by decide)) (by rfl) m_l_number k_l_number b_l_number .nil passL (pa_cons (pv 0) (pa_cons pe_int pa_nil))) pe_int) (fun _ _ => rfl)))
        (Evl.pss_cut (ps_for (passes_of rfl) rfl (pi_tup (pe_tup (pa_cons (pv 4) (pa_cons (pe_call G_l_spoilt (hr.mono (by decide)) (by rfl) m_l_spoilt k_l_spoilt b_l_spoilt .nil passL (pa_cons (pv 4) (pa_cons (pe_call G_l_number (hr.mono (by decide)) (by rfl) m_l_number k_l_number b_l_number .nil passL (pa_cons (pv 0) (pa_cons pe_int pa_nil))) pa_nil))) (pa_cons pe_str (pa_cons (pv 6) pa_nil)))))) (pg_name (i := 7) sc_law.nd rfl (Or.inl rfl))
        (Evl.pss_cut (ps_set (i := 8) sc_law.nd rfl (Or.inl rfl) (pe_call G_l_read (hr.mono (by decide)) (by rfl) m_l_read k_l_read b_l_read .nil passL (pa_cons (pv 7) pa_nil)))
        (Evl.pss_cut (ps_set (i := 9) sc_law.nd rfl (Or.inl rfl) (pe_call G_l_told (hr.mono (by decide)) (by rfl) m_l_told k_l_told b_l_told .nil passL (pa_cons (pv 7) pa_nil)))
        (Evl.pss_cut (ps_if (PW.pt (pw_and (pt_cmpR op_isN (pv 8) pe_non (nomark _)) (pw_and1 (pt_cmpR (op_neD hr.units) (pv 9) (pe_tup (pa_cons pe_str (pa_cons pe_str pa_nil))) (nomark _)))))
        (pss_one (ps_ret pe_bl))
        pss_nil)
        (Evl.pss_cut (ps_if (PW.pt (pw_and (pt_cmpR op_notN (pv 8) pe_non (nomark _)) (pw_and1 (PW.pt (pw_or (pt_cmpR (op_neD hr.units) (pv 9) (pv 8) (nomark _)) (pw_or1 (pt_not (pt_val (pe_callB call_isi (by rfl) T.n_isinstance (by decide +kernel) (pa_cons (pv 9) (pa_cons (pe_bltn (v := .ty "tuple") (by rfl) T.n_tuple (by decide +kernel) rfl) pa_nil)))))))))))
        (pss_one (ps_ret pe_bl))
        pss_nil)
        (pss_one (ps_if (PW.pt (pw_and (pt_cmpR op_notN (pv 8) pe_non (nomark _)) (pw_and (pt_cmpR op_eq (pe_callB call_len_seq (by rfl) T.n_len PySem.boot_len (pa_cons (pv 8) pa_nil)) pe_int (nomark _)) (pw_and1 (pt_not (pt_val (pe_call G_l_whole (hr.mono (by decide)) (by rfl) m_l_whole k_l_whole b_l_whole .nil passL (pa_cons (pe_ix ix_tup (pv 9) pe_int (fun _ _ => rfl)) pa_nil))))))))
        (pss_one (ps_ret pe_bl))
        pss_nil)))))))
        (Evl.pss_cut (ps_set (i := 10) sc_law.nd rfl (Or.inl rfl) (pe_lst (pa_cons pe_non (pa_cons pe_str (pa_cons (pe_tup pa_nil) (pa_cons (pe_tup (pa_cons pe_str (pa_cons pe_int pa_nil))) (pa_cons (pe_lst (pa_cons pe_str pa_nil)) (pa_cons (pe_tup (pa_cons pe_str pa_nil)) (pa_cons (pe_tup (pa_cons pe_str (pa_cons pe_bl pa_nil))) (pa_cons (pe_tup (pa_cons pe_str (pa_cons pe_str pa_nil))) (pa_cons (pe_tup (pa_cons pe_non (pa_cons pe_int pa_nil))) (pa_cons (pe_tup (pa_cons pe_str (pa_cons pe_int (pa_cons pe_int pa_nil)))) pa_nil))))))))))))
        (Evl.pss_cut (ps_set (i := 10) sc_law.nd rfl (Or.inl rfl) (pe_op op_cat (pv 10) (pe_lst (pa_cons (pe_tup (pa_cons pe_str (pa_cons pe_int pa_nil))) (pa_cons pe_int (pa_cons (pe_tup (pa_cons (pe_lst (pa_cons pe_str pa_nil)) pa_nil)) (pa_cons (pe_tup (pa_cons pe_dnewK (pa_cons pe_int pa_nil))) (pa_cons (pe_tup (pa_cons pe_str (pa_cons (pe_lst (pa_cons pe_int pa_nil)) pa_nil))) (pa_cons (pe_tup (pa_cons pe_str (pa_cons pe_dnewK pa_nil))) (pa_cons pe_dnewK pa_nil))))))))))
        (pss_one (ps_ret (pe_cmpR op_isBl (pe_call G_is_deed (hr.mono (by decide)) (by rfl) m_is_deed k_is_deed b_is_deed .nil passL (pa_cons (pe_ix ix_list (pv 10) (pe_op op_mod (pe_call G_l_cell_at (hr.mono (by decide)) (by rfl) m_l_cell_at k_l_cell_at b_l_cell_at .nil passL (pa_cons (pv 0) (pa_cons pe_int pa_nil))) pe_int) (fun _ _ => rfl)) pa_nil)) pe_bl (nomark _)))))))))))))))), ?_⟩
    refine ⟨fun σ H' => ∃ (d : Raw) (t : Addr), σ = [some (.ref a), some (.ref t), none, none, none, none, none, none, none, none, none] ∧ Same H H' ∧ d.ok ∧ H' t = some (.tup d.vs), ?_, ?_⟩
    · exact ⟨_, rfl, a, ns, 0, rfl, hS, hl, by omega, _, rfl, fun d t H1 ok ht s1 hT => ⟨d, t, rfl, s1, ok, hT⟩⟩
    rintro σ H1 ⟨d, t, rfl, s1, ok, hT⟩
    have hS1 := s1.seq hS
    refine ⟨_, rfl, t, d, rfl, hT, _, rfl, .ref t, d.good, rfl, d.th ok hT, ?_⟩
    refine ⟨fun σ H' => H' = H1 ∧ σ = [some (.ref a), some (.ref t), some (.bl d.good), some (.bl d.good), none, none, none, none, none, none, none], ?_, ?_⟩
    · refine ⟨_, rfl, .bl d.good, _, _, _, true, rfl, .ty "bool", .base (.bl _), kit_ty (by decide +kernel), true, rfl, iteF ?_⟩
      exact ⟨_, rfl, _, rfl, rfl, _, rfl, iteNS rfl ⟨rfl, rfl⟩⟩
    rintro σ H2 ⟨rfl, rfl⟩
    refine ⟨_, rfl, t, _, _, .str d.w, rfl, rfl, SqT.of hT, d.at0, ?_⟩
    have ltx := Raw.len ok
    refine ⟨fun σ H' => H' = H2 ∧ σ = [some (.ref a), some (.ref t), some (.bl d.good), some (.bl d.good), some (.str d.text), none, none, none, none, none, none], ?_, ?_⟩
    · refine ⟨_, rfl, t, _, rfl, .inr (SqT.of hT), rfl, _, rfl, ?_⟩
      obtain ⟨w', n⟩ := d
      cases n with
      | none => exact iteF ⟨rfl, rfl⟩
      | some n =>
        have ok : (w' = "take" ∨ w' = "drop" ∨ w' = "go") ∧ -1 ≤ n ∧ n ≤ 103 := ok
        have lt : (w' ++ Str.ofString " " ++ Str.ofString (toString n)).length ≤ 12 := ltx
        rw [slen] at lt
        refine iteT ⟨_, rfl, _, _, rfl, rfl, sz5 (by show w'.length + (Str.ofString " ").length ≤ 100000; have := slen w' (Str.ofString " "); omega), _, rfl, t, _, _, .int n, rfl, rfl, SqT.of hT, rfl, n, rfl, log_small ok.2.1 ok.2.2, _, _, rfl, rfl, sz5 (by show (w' ++ Str.ofString " ").length + (Str.ofString (toString n)).length ≤ 100000; omega), rfl, rfl⟩
    rintro σ H3 ⟨rfl, rfl⟩
    refine ⟨fun σ H' => H' = H3 ∧ σ = [some (.ref a), some (.ref t), some (.bl d.good), some (.bl d.good), some (.str d.text), none, none, none, none, none, none], ?_, ?_⟩
    · refine ⟨_, rfl, d.good, rfl, ?_⟩
      cases d.good with
      | false => exact iteF ⟨rfl, rfl⟩
      | true => exact iteT ⟨_, rfl, t, d, rfl, hT, ok, _, rfl, rfl, _, rfl, iteNS rfl ⟨rfl, rfl⟩⟩
    rintro σ H4 ⟨rfl, rfl⟩
    have g7 := rep_len (Str.ofString "7") 300 (by decide +kernel) (by decide)
    have g1 := rep_len (Str.ofString "1") 3000 (by decide +kernel) (by decide)
    have b4 := len4 "go " (by decide)
    have b5 := len4 "take " (by decide)
    refine ⟨fun σ H' => Same H4 H' ∧ ∃ (l : Addr) (xs : List V), σ = [some (.ref a), some (.ref t), some (.bl d.good), some (.bl d.good), some (.str d.text), some (.ref l), none, none, none, none, none] ∧ H' l = some (.lst xs) ∧ xs.length = 9 ∧ ∀ v ∈ xs, LongT v, ?_, ?_⟩
    · refine ⟨_, _, rfl, rfl, by decide, by decide, by decide +kernel, by omega, _, _, rfl, rfl, sz5 (by omega), ?_⟩
      refine ⟨_, _, rfl, rfl, by decide, by decide, by decide +kernel, by omega, _, _, rfl, rfl, sz5 (by omega), by show 9 ≤ sizeLine; decide, fun l hl0 => ⟨Same.new hl0, l, _, rfl, upd_same, rfl, fun v hv => ?_⟩⟩
      simp only [List.mem_cons, List.not_mem_nil, or_false] at hv
      rcases hv with rfl | rfl | rfl | rfl | rfl | rfl | rfl | rfl | rfl
      · exact ⟨_, rfl, Nat.le_trans (len4 "go" (by decide)) (by decide)⟩
      · exact ⟨_, rfl, Nat.le_trans (len4 "take" (by decide)) (by decide)⟩
      · exact ⟨_, rfl, Nat.le_trans (len4 "drop" (by decide)) (by decide)⟩
      · exact ⟨_, rfl, Nat.le_trans b4 (by decide)⟩
      · exact ⟨_, rfl, Nat.le_trans b5 (by decide)⟩
      · exact ⟨_, rfl, Nat.le_trans (len4 " 5" (by decide)) (by decide)⟩
      · exact ⟨_, rfl, Nat.le_trans (len4 "5" (by decide)) (by decide)⟩
      · exact ⟨_, rfl, by rw [slen]; omega⟩
      · exact ⟨_, rfl, by rw [slen]; omega⟩
    rintro σ H5 ⟨s5, l, xs, rfl, hL, hx9, hxs⟩
    have hS5 := s5.seq hS1
    refine ⟨fun σ H' => Same H5 H' ∧ ∃ y : Str, y.length ≤ 4000 ∧ σ = [some (.ref a), some (.ref t), some (.bl d.good), some (.bl d.good), some (.str d.text), some (.ref l), some (.str y), none, none, none, none], ?_, ?_⟩
    · refine ⟨by show 5 ≤ sizeLine; decide, fun l5 h5 => ?_⟩
      have v1 := Same.new (o := .lst [.str " ", .str "\n", .str "  ", .str "\t", .str "keep 0"]) h5
      refine ⟨_, rfl, l5, l, _, _, rfl, rfl, upd_same, v1 _ _ hL, sz5 (by rw [hx9]; show 5 + 9 ≤ 100000; decide), fun l14 h14 => ?_⟩
      have v2 := Same.new (o := .lst ([.str " ", .str "\n", .str "  ", .str "\t", .str "keep 0"] ++ xs)) h14
      obtain ⟨j, hj, ej⟩ := rem_nat (z := numN ns 3) (m := 14) (by decide)
      obtain ⟨v, hv, y, rfl, hy⟩ := pick (P := LongT) (xs := [.str " ", .str "\n", .str "  ", .str "\t", .str "keep 0"] ++ xs) (fun v hv => by
        rcases List.mem_append.mp hv with hv | hv
        · simp only [List.mem_cons, List.not_mem_nil, or_false] at hv
          rcases hv with rfl | rfl | rfl | rfl | rfl
          · exact ⟨_, rfl, Nat.le_trans (len4 " " (by decide)) (by decide)⟩
          · exact ⟨_, rfl, Nat.le_trans (len4 "\n" (by decide)) (by decide)⟩
          · exact ⟨_, rfl, Nat.le_trans (len4 "  " (by decide)) (by decide)⟩
          · exact ⟨_, rfl, Nat.le_trans (len4 "\t" (by decide)) (by decide)⟩
          · exact ⟨_, rfl, Nat.le_trans (len4 "keep 0" (by decide)) (by decide)⟩
        · exact hxs v hv) (j := j) (by rw [List.length_append, hx9]; show j < 5 + 9; omega)
      exact ⟨_, rfl, a, ns, 3, rfl, (v1.trans v2).seq hS5, hl, by omega, _, _, rfl, rfl, by show (0 : Int) < 14; decide, l14, _, _, .str y, rfl, rfl, SqL.of upd_same, at_of ej hv, v1.trans v2, y, hy, rfl⟩
    rintro σ H6 ⟨s6, y, hy, rfl⟩
    have hS6 := s6.seq hS5
    refine ⟨fun σ H' => Same H6 H' ∧ ∃ u7 u8 u9, σ = [some (.ref a), some (.ref t), some (.bl d.good), some (.bl d.good), some (.str d.text), some (.ref l), some (.str y), u7, u8, u9, none], ?_, ?_⟩
    · refine ⟨_, rfl, _, rfl, _, rfl, a, ns, 1, rfl, hS6, hl, by omega, d.text, _, rfl, ltx, fun y2 H7 hy2 s7 => ⟨_, rfl, by show 4 ≤ sizeLine; decide, fun tq htq => ?_⟩⟩
      have v1 := Same.new (o := .tup [.str d.text, .str y2, .str "", .str y]) htq
      have s67 := s7.trans v1
      refine ⟨tq, rfl, ⟨_, SqT.of upd_same⟩, ?_⟩
      refine for_tup (K := K) (a := tq) (xs := [.str d.text, .str y2, .str "", .str y]) (fun i σ H' => Same (upd H7 tq (.tup [.str d.text, .str y2, .str "", .str y])) H' ∧ ∃ u7 u8 u9, σ = [some (.ref a), some (.ref t), some (.bl d.good), some (.bl d.good), some (.str d.text), some (.ref l), some (.str y), u7, u8, u9, none]) ⟨Same.refl _, _, _, _, rfl⟩ (fun i σ H' _ ⟨s, _⟩ => SqT.of (s _ _ upd_same)) ?_ ?_
      · rintro i x σ H8 hi ⟨s8, u7, u8, u9, rfl⟩
        obtain ⟨z, rfl, hz⟩ : LongT x := by
          have hm := List.mem_of_getElem? hi
          simp only [List.mem_cons, List.not_mem_nil, or_false] at hm
          rcases hm with rfl | rfl | rfl | rfl
          · exact ⟨_, rfl, by omega⟩
          · exact ⟨_, rfl, by omega⟩
          · exact ⟨_, rfl, Nat.le_trans (len4 "" (by decide)) (by decide)⟩
          · exact ⟨_, rfl, hy⟩
        refine ⟨fun σ H' => Same H8 H' ∧ ∃ v, σ = [some (.ref a), some (.ref t), some (.bl d.good), some (.bl d.good), some (.str d.text), some (.ref l), some (.str y), some (.str z), some v, u9, none] ∧ DueV H' (TL.tl z) v, ?_, ?_⟩
        · exact ⟨_, rfl, z, rfl, by omega, fun d' hd p H' hp s hP => ⟨s, _, rfl, .inr ⟨d', p, hd, rfl, hP⟩⟩, fun hn H' s => ⟨s, _, rfl, .inl ⟨hn, rfl⟩⟩⟩
        rintro σ H9 ⟨s9, v, rfl, dv⟩
        refine ⟨fun σ H' => Same H9 H' ∧ ∃ u, σ = [some (.ref a), some (.ref t), some (.bl d.good), some (.bl d.good), some (.str d.text), some (.ref l), some (.str y), some (.str z), some v, some u, none] ∧ FoundV H' (TL.tl z) u, ?_, ?_⟩
        · exact ⟨_, rfl, z, rfl, by omega, fun d' hd p H' hp s hP => ⟨s, _, rfl, .inr ⟨d', p, hd, rfl, hP⟩⟩, fun hn p H' hp s hP => ⟨s, _, rfl, .inl ⟨hn, p, rfl, hP⟩⟩⟩
        rintro σ HA ⟨sA, u, rfl, fv⟩
        replace dv := dv.same sA
        have s8A := s9.trans sA
        refine ⟨fun σ H' => Same HA H' ∧ σ = [some (.ref a), some (.ref t), some (.bl d.good), some (.bl d.good), some (.str d.text), some (.ref l), some (.str y), some (.str z), some v, some u, none], ?_, ?_⟩
        · rcases dv with ⟨hn, rfl⟩ | ⟨d', p, hd, rfl, hP⟩
          · refine ⟨_, rfl, rfl, _, rfl, iteT ?_⟩
            rcases fv with ⟨_, q, rfl, hQ⟩ | ⟨d2, _, hd2, _⟩
            · refine ⟨_, rfl, by show 2 ≤ sizeLine; decide, fun t2 ht2 => ?_⟩
              have w1 := Same.new (o := .tup [.str "refused", .str "deed"]) ht2
              refine ⟨_, _, refD3_dp (w1 _ _ hQ), refD3_dp upd_same, refD3_sh.shaped (by decide), refD3_sh.shaped (by decide), _, rfl, ?_⟩
              rw [refD3_sh.refl]
              exact iteF ⟨w1, rfl⟩
            · rw [hn] at hd2
              cases hd2
          · exact ⟨_, rfl, rfl, _, rfl, iteF ⟨Same.refl _, rfl⟩⟩
        rintro σ HB ⟨sB, rfl⟩
        have sAB : Same HA HB := sB
        refine ⟨fun σ H' => H' = HB ∧ σ = [some (.ref a), some (.ref t), some (.bl d.good), some (.bl d.good), some (.str d.text), some (.ref l), some (.str y), some (.str z), some v, some u, none], ?_, ?_⟩
        · rcases dv with ⟨hn, rfl⟩ | ⟨d', p, hd, rfl, hP⟩
          · exact ⟨_, rfl, rfl, _, rfl, iteF ⟨rfl, rfl⟩⟩
          · refine ⟨_, rfl, rfl, _, rfl, iteT ?_⟩
            rcases fv with ⟨hn, _⟩ | ⟨d2, q, hd2, rfl, hQ⟩
            · rw [hn] at hd
              cases hd
            · rw [hd] at hd2
              cases hd2
              refine ⟨_, rfl, _, rfl, _, _, d'.dp (sB _ _ hQ), d'.dp (sB _ _ hP), d'.sh.shaped (by decide), d'.sh.shaped (by decide), _, rfl, ?_⟩
              rw [d'.sh.refl]
              refine iteF ?_
              exact ⟨_, rfl, .ref q, _, _, _, true, rfl, .ty "tuple", .base (.tup (sB _ _ hQ)), kit_ty (by decide +kernel), true, rfl, iteF ⟨rfl, rfl⟩⟩
        rintro σ HC ⟨rfl, rfl⟩
        have fin : Same (upd H7 tq (.tup [.str d.text, .str y2, .str "", .str y])) HC ∧ ∃ u7 u8 u9, [some (V.ref a), some (.ref t), some (.bl d.good), some (.bl d.good), some (.str d.text), some (.ref l), some (.str y), some (.str z), some v, some u, none] = [some (.ref a), some (.ref t), some (.bl d.good), some (.bl d.good), some (.str d.text), some (.ref l), some (.str y), u7, u8, u9, none] := ⟨s8.trans (s8A.trans sB), _, _, _, rfl⟩
        rcases dv with ⟨hn, rfl⟩ | ⟨d', p, hd, rfl, hP⟩
        · exact ⟨_, rfl, rfl, _, rfl, iteF fin⟩
        · refine ⟨_, rfl, rfl, _, rfl, iteT ?_⟩
          rcases fv with ⟨hn, _⟩ | ⟨d2, q, hd2, rfl, hQ⟩
          · rw [hn] at hd
            cases hd
          · rw [hd] at hd2
            cases hd2
            have hP' := sB _ _ hP
            have hQ' := sB _ _ hQ
            refine ⟨_, rfl, p, _, rfl, .inr (SqT.of hP'), rfl, _, rfl, ?_⟩
            cases d' with
            | keep => exact iteF fin
            | meet => exact iteF fin
            | take n => exact iteT ⟨_, rfl, q, _, _, .int (n : Int), rfl, rfl, SqT.of hQ', rfl, .int (n : Int), some (n : Int), rfl, .int _, _, rfl, iteF fin⟩
            | drop n => exact iteT ⟨_, rfl, q, _, _, .int (n : Int), rfl, rfl, SqT.of hQ', rfl, .int (n : Int), some (n : Int), rfl, .int _, _, rfl, iteF fin⟩
            | go n => exact iteT ⟨_, rfl, q, _, _, .int (n : Int), rfl, rfl, SqT.of hQ', rfl, .int (n : Int), some (n : Int), rfl, .int _, _, rfl, iteF fin⟩
      · rintro σ H' ⟨s8, u7, u8, u9, rfl⟩
        exact ⟨s67.trans s8, _, _, _, rfl⟩
    rintro σ H7 ⟨s7, u7, u8, u9, rfl⟩
    have hS7 := s7.seq hS6
    refine ⟨fun σ H' => Same H7 H' ∧ ∃ (o : Addr) (xs : List V), σ = [some (.ref a), some (.ref t), some (.bl d.good), some (.bl d.good), some (.str d.text), some (.ref l), some (.str y), u7, u8, u9, some (.ref o)] ∧ H' o = some (.lst xs) ∧ xs.length = 10 ∧ ∀ v ∈ xs, DeedTh K H' v false, ?_, ?_⟩
    · refine ⟨by show 0 ≤ sizeLine; decide, fun t1 h1 => ?_⟩
      refine ⟨by show 2 ≤ sizeLine; decide, fun t2 h2 => ?_⟩
      refine ⟨by show 1 ≤ sizeLine; decide, fun t3 h3 => ?_⟩
      refine ⟨by show 1 ≤ sizeLine; decide, fun t4 h4 => ?_⟩
      refine ⟨by show 2 ≤ sizeLine; decide, fun t5 h5 => ?_⟩
      refine ⟨by show 2 ≤ sizeLine; decide, fun t6 h6 => ?_⟩
      refine ⟨by show 2 ≤ sizeLine; decide, fun t7 h7 => ?_⟩
      refine ⟨by show 3 ≤ sizeLine; decide, fun t8 h8 => ?_⟩
      refine ⟨by show 10 ≤ sizeLine; decide, fun o ho => ?_⟩
      have w1 := Same.new (o := .tup []) h1
      have w2 := Same.new (o := .tup [.str "keep", .int 1]) h2
      have w3 := Same.new (o := .lst [.str "meet"]) h3
      have w4 := Same.new (o := .tup [.str "go"]) h4
      have w5 := Same.new (o := .tup [.str "go", .bl true]) h5
      have w6 := Same.new (o := .tup [.str "take", .str "1"]) h6
      have w7 := Same.new (o := .tup [.non, .int 1]) h7
      have w8 := Same.new (o := .tup [.str "go", .int 1, .int 1]) h8
      have w9 := Same.new (o := .lst [.non, .str "keep", .ref t1, .ref t2, .ref t3, .ref t4, .ref t5, .ref t6, .ref t7, .ref t8]) ho
      have z8 := w8.trans w9
      have z7 := w7.trans z8
      have z6 := w6.trans z7
      have z5 := w5.trans z6
      have z4 := w4.trans z5
      have z3 := w3.trans z4
      have z2 := w2.trans z3
      refine ⟨w1.trans z2, o, _, rfl, upd_same, rfl, fun v hv => ?_⟩
      simp only [List.mem_cons, List.not_mem_nil, or_false] at hv
      rcases hv with rfl | rfl | rfl | rfl | rfl | rfl | rfl | rfl | rfl | rfl
      · exact .ntup (.base .non) (kit_ty (by decide +kernel))
      · exact .ntup (.base (.str _)) (kit_ty (by decide +kernel))
      · exact .nil (z2 _ _ upd_same)
      · exact .one (z3 _ _ upd_same) (.inl rfl) (by decide +kernel)
      · exact .ntup (.base (.lst (z4 _ _ upd_same))) (kit_ty (by decide +kernel))
      · exact .two (z5 _ _ upd_same) (by decide +kernel) (by decide +kernel) (by decide)
      · exact .num (z6 _ _ upd_same) (by decide +kernel) (by decide +kernel) (.bl _) (by decide +kernel)
      · exact .num (z7 _ _ upd_same) (by decide +kernel) (by decide +kernel) (.str _) (by decide +kernel)
      · exact .nstr (z8 _ _ upd_same) (.base .non) (kit_ty (by decide +kernel))
      · exact .two (w9 _ _ upd_same) (by decide +kernel) (by decide +kernel) (by show ¬ 2 = 1; decide)
    rintro σ H8 ⟨s8, o, xs', rfl, hO, hx10, hxs'⟩
    have hS8 := s8.seq hS7
    refine ⟨fun σ H' => Same H8 H' ∧ ∃ (o : Addr) (xs : List V), σ = [some (.ref a), some (.ref t), some (.bl d.good), some (.bl d.good), some (.str d.text), some (.ref l), some (.str y), u7, u8, u9, some (.ref o)] ∧ H' o = some (.lst xs) ∧ xs.length = 17 ∧ ∀ v ∈ xs, DeedTh K H' v false, ?_, ?_⟩
    · refine ⟨_, rfl, by show 2 ≤ sizeLine; decide, fun t1 h1 => ?_⟩
      refine ⟨by show 1 ≤ sizeLine; decide, fun t2 h2 => ?_⟩
      refine ⟨by show 1 ≤ sizeLine; decide, fun t3 h3 => ?_⟩
      refine fun t4 h4 => ?_
      refine ⟨by show 2 ≤ sizeLine; decide, fun t5 h5 => ?_⟩
      refine ⟨by show 1 ≤ sizeLine; decide, fun t6 h6 => ?_⟩
      refine ⟨by show 2 ≤ sizeLine; decide, fun t7 h7 => ?_⟩
      refine fun t8 h8 => ?_
      refine ⟨by show 2 ≤ sizeLine; decide, fun t9 h9 => ?_⟩
      refine fun tA hA => ?_
      refine ⟨by show 7 ≤ sizeLine; decide, fun o2 ho2 => ?_⟩
      have w1 := Same.new (o := .tup [.str "Take", .int 1]) h1
      have w2 := Same.new (o := .lst [.str "keep"]) h2
      have w3 := Same.new (o := .tup [.ref t2]) h3
      have w4 := Same.new (o := .dK []) h4
      have w5 := Same.new (o := .tup [.ref t4, .int 1]) h5
      have w6 := Same.new (o := .lst [.int 1]) h6
      have w7 := Same.new (o := .tup [.str "take", .ref t6]) h7
      have w8 := Same.new (o := .dK []) h8
      have w9 := Same.new (o := .tup [.str "drop", .ref t8]) h9
      have wA := Same.new (o := .dK []) hA
      have wB := Same.new (o := .lst [.ref t1, .int 5, .ref t3, .ref t5, .ref t7, .ref t9, .ref tA]) ho2
      have zA := wA.trans wB
      have z9 := w9.trans zA
      have z8 := w8.trans z9
      have z7 := w7.trans z8
      have z6 := w6.trans z7
      have z5 := w5.trans z6
      have z4 := w4.trans z5
      have z3 := w3.trans z4
      have z2 := w2.trans z3
      have z1 := w1.trans z2
      refine ⟨o, o2, _, _, rfl, rfl, z1 _ _ hO, upd_same, sz5 (by rw [hx10]; show 10 + 7 ≤ 100000; decide), fun o3 ho3 => ?_⟩
      have wC := Same.new (o := .lst (xs' ++ [.ref t1, .int 5, .ref t3, .ref t5, .ref t7, .ref t9, .ref tA])) ho3
      refine ⟨z1.trans wC, o3, _, rfl, upd_same, by rw [List.length_append, hx10] <;> rfl, fun v hv => ?_⟩
      rcases List.mem_append.mp hv with hv | hv
      · exact (hxs' v hv).same (z1.trans wC)
      refine DeedTh.same wC ?_
      simp only [List.mem_cons, List.not_mem_nil, or_false] at hv
      rcases hv with rfl | rfl | rfl | rfl | rfl | rfl | rfl
      · exact .num (z2 _ _ upd_same) (by decide +kernel) (by decide +kernel) (.int _) (by decide +kernel)
      · exact .ntup (.base (.int _)) (kit_ty (by decide +kernel))
      · exact .nstr (z4 _ _ upd_same) (.base (.lst (z3 _ _ upd_same))) (kit_ty (by decide +kernel))
      · exact .nstr (z6 _ _ upd_same) (.base (.dK (z5 _ _ upd_same))) (kit_ty (by decide +kernel))
      · exact .num (z8 _ _ upd_same) (by decide +kernel) (by decide +kernel) (.lst (z7 _ _ upd_same)) (by decide +kernel)
      · exact .num (zA _ _ upd_same) (by decide +kernel) (by decide +kernel) (.dK (z9 _ _ upd_same)) (by decide +kernel)
      · exact .ntup (.base (.dK (wB _ _ upd_same))) (kit_ty (by decide +kernel))
    rintro σ H9 ⟨s9, o3, us, rfl, hO3, hu17, hus⟩
    obtain ⟨j, hj, ej⟩ := rem_nat (z := cellAt ns 2) (m := 17) (by decide)
    obtain ⟨v, hv, th⟩ := pick hus (j := j) (by omega)
    exact ⟨_, rfl, _, rfl, a, ns, 2, rfl, s9.seq hS8, _, _, rfl, rfl, by show (0 : Int) < 17; decide, o3, _, _, v, rfl, rfl, SqL.of hO3, at_of ej hv, v, false, rfl, th, _, _, rfl, rfl, k _⟩

-- @@ end
end
theorem all_mk {l : PySem.W.OpenLaw} {w : World} {K : PySem.W.Frag} {h : Heap} {mg : Str → Option Value} {fa : Addr} (X : K.In h) (G : h.Ns mainGlobals mg) (hfa : mg "law" = some (.ref fa))
    {oc_is_among kV_is_among dc_is_among pm_is_among cd_is_among ct_is_among : Value} {od_is_among an_is_among : Option Addr} {sl_is_among : Array (Option Value)} {f_is_among : Addr}
    {oc_is_deed kV_is_deed dc_is_deed pm_is_deed cd_is_deed ct_is_deed : Value} {od_is_deed an_is_deed : Option Addr} {sl_is_deed : Array (Option Value)} {f_is_deed : Addr}
    {oc_line_of kV_line_of dc_line_of pm_line_of cd_line_of ct_line_of : Value} {od_line_of an_line_of : Option Addr} {sl_line_of : Array (Option Value)} {f_line_of : Addr}
    {oc_number_of kV_number_of dc_number_of pm_number_of cd_number_of ct_number_of : Value} {od_number_of an_number_of : Option Addr} {sl_number_of : Array (Option Value)} {f_number_of : Addr}
    {oc_deed_of kV_deed_of dc_deed_of pm_deed_of cd_deed_of ct_deed_of : Value} {od_deed_of an_deed_of : Option Addr} {sl_deed_of : Array (Option Value)} {f_deed_of : Addr}
    {oc_l_cell_at kV_l_cell_at dc_l_cell_at pm_l_cell_at cd_l_cell_at ct_l_cell_at : Value} {od_l_cell_at an_l_cell_at : Option Addr} {sl_l_cell_at : Array (Option Value)} {f_l_cell_at : Addr}
    {oc_l_number kV_l_number dc_l_number pm_l_number cd_l_number ct_l_number : Value} {od_l_number an_l_number : Option Addr} {sl_l_number : Array (Option Value)} {f_l_number : Addr}
    {oc_l_whole kV_l_whole dc_l_whole pm_l_whole cd_l_whole ct_l_whole : Value} {od_l_whole an_l_whole : Option Addr} {sl_l_whole : Array (Option Value)} {f_l_whole : Addr}
    {oc_l_class kV_l_class dc_l_class pm_l_class cd_l_class ct_l_class : Value} {od_l_class an_l_class : Option Addr} {sl_l_class : Array (Option Value)} {f_l_class : Addr}
    {oc_l_deed kV_l_deed dc_l_deed pm_l_deed cd_l_deed ct_l_deed : Value} {od_l_deed an_l_deed : Option Addr} {sl_l_deed : Array (Option Value)} {f_l_deed : Addr}
    {oc_l_good kV_l_good dc_l_good pm_l_good cd_l_good ct_l_good : Value} {od_l_good an_l_good : Option Addr} {sl_l_good : Array (Option Value)} {f_l_good : Addr}
    {oc_l_read kV_l_read dc_l_read pm_l_read cd_l_read ct_l_read : Value} {od_l_read an_l_read : Option Addr} {sl_l_read : Array (Option Value)} {f_l_read : Addr}
    {oc_l_told kV_l_told dc_l_told pm_l_told cd_l_told ct_l_told : Value} {od_l_told an_l_told : Option Addr} {sl_l_told : Array (Option Value)} {f_l_told : Addr}
    {oc_l_spoilt kV_l_spoilt dc_l_spoilt pm_l_spoilt cd_l_spoilt ct_l_spoilt : Value} {od_l_spoilt an_l_spoilt : Option Addr} {sl_l_spoilt : Array (Option Value)} {f_l_spoilt : Addr}
    {oc_law kV_law dc_law pm_law cd_law ct_law : Value} {od_law an_law : Option Addr} {sl_law : Array (Option Value)} {f_law : Addr}
    {t_MOST_STEPS : Tok}
    {C_BadDeed : Addr}
    {C_BadCount : Addr}
    {C_BadRule : Addr}
    {C_Full : Addr}
    {C_Twice : Addr}
    {C_NotKept : Addr}
    {C_AtEnd : Addr}
    {C_NotWanted : Addr}
    {C_MarkError : Addr}
    (a_is_among : PySem.W.nsIn K mainGlobals "is_among" = some (some (.ref f_is_among)))
    (l_is_among : K.lookup f_is_among = some ⟨oc_is_among, od_is_among, .func (PySem.W.fnOf "is_among" "is_among" (defArgs s_is_among) (defBody s_is_among) (defScope s_is_among) .none kV_is_among dc_is_among pm_is_among an_is_among cd_is_among ct_is_among), sl_is_among⟩)
    (c_is_among : PySem.W.codeIn K cd_is_among "is_among" = true)
    (k_is_among : PySem.W.keepIn K (.ref f_is_among) = true)
    (a_is_deed : PySem.W.nsIn K mainGlobals "is_deed" = some (some (.ref f_is_deed)))
    (l_is_deed : K.lookup f_is_deed = some ⟨oc_is_deed, od_is_deed, .func (PySem.W.fnOf "is_deed" "is_deed" (defArgs s_is_deed) (defBody s_is_deed) (defScope s_is_deed) .none kV_is_deed dc_is_deed pm_is_deed an_is_deed cd_is_deed ct_is_deed), sl_is_deed⟩)
    (c_is_deed : PySem.W.codeIn K cd_is_deed "is_deed" = true)
    (k_is_deed : PySem.W.keepIn K (.ref f_is_deed) = true)
    (a_line_of : PySem.W.nsIn K mainGlobals "line_of" = some (some (.ref f_line_of)))
    (l_line_of : K.lookup f_line_of = some ⟨oc_line_of, od_line_of, .func (PySem.W.fnOf "line_of" "line_of" (defArgs s_line_of) (defBody s_line_of) (defScope s_line_of) .none kV_line_of dc_line_of pm_line_of an_line_of cd_line_of ct_line_of), sl_line_of⟩)
    (c_line_of : PySem.W.codeIn K cd_line_of "line_of" = true)
    (k_line_of : PySem.W.keepIn K (.ref f_line_of) = true)
    (a_number_of : PySem.W.nsIn K mainGlobals "number_of" = some (some (.ref f_number_of)))
    (l_number_of : K.lookup f_number_of = some ⟨oc_number_of, od_number_of, .func (PySem.W.fnOf "number_of" "number_of" (defArgs s_number_of) (defBody s_number_of) (defScope s_number_of) .none kV_number_of dc_number_of pm_number_of an_number_of cd_number_of ct_number_of), sl_number_of⟩)
    (c_number_of : PySem.W.codeIn K cd_number_of "number_of" = true)
    (k_number_of : PySem.W.keepIn K (.ref f_number_of) = true)
    (a_deed_of : PySem.W.nsIn K mainGlobals "deed_of" = some (some (.ref f_deed_of)))
    (l_deed_of : K.lookup f_deed_of = some ⟨oc_deed_of, od_deed_of, .func (PySem.W.fnOf "deed_of" "deed_of" (defArgs s_deed_of) (defBody s_deed_of) (defScope s_deed_of) .none kV_deed_of dc_deed_of pm_deed_of an_deed_of cd_deed_of ct_deed_of), sl_deed_of⟩)
    (c_deed_of : PySem.W.codeIn K cd_deed_of "deed_of" = true)
    (k_deed_of : PySem.W.keepIn K (.ref f_deed_of) = true)
    (a_l_cell_at : PySem.W.nsIn K mainGlobals "_law_cell_at" = some (some (.ref f_l_cell_at)))
    (l_l_cell_at : K.lookup f_l_cell_at = some ⟨oc_l_cell_at, od_l_cell_at, .func (PySem.W.fnOf "_law_cell_at" "_law_cell_at" (defArgs s_l_cell_at) (defBody s_l_cell_at) (defScope s_l_cell_at) .none kV_l_cell_at dc_l_cell_at pm_l_cell_at an_l_cell_at cd_l_cell_at ct_l_cell_at), sl_l_cell_at⟩)
    (c_l_cell_at : PySem.W.codeIn K cd_l_cell_at "_law_cell_at" = true)
    (k_l_cell_at : PySem.W.keepIn K (.ref f_l_cell_at) = true)
    (a_l_number : PySem.W.nsIn K mainGlobals "_law_number" = some (some (.ref f_l_number)))
    (l_l_number : K.lookup f_l_number = some ⟨oc_l_number, od_l_number, .func (PySem.W.fnOf "_law_number" "_law_number" (defArgs s_l_number) (defBody s_l_number) (defScope s_l_number) .none kV_l_number dc_l_number pm_l_number an_l_number cd_l_number ct_l_number), sl_l_number⟩)
    (c_l_number : PySem.W.codeIn K cd_l_number "_law_number" = true)
    (k_l_number : PySem.W.keepIn K (.ref f_l_number) = true)
    (a_l_whole : PySem.W.nsIn K mainGlobals "_law_whole" = some (some (.ref f_l_whole)))
    (l_l_whole : K.lookup f_l_whole = some ⟨oc_l_whole, od_l_whole, .func (PySem.W.fnOf "_law_whole" "_law_whole" (defArgs s_l_whole) (defBody s_l_whole) (defScope s_l_whole) .none kV_l_whole dc_l_whole pm_l_whole an_l_whole cd_l_whole ct_l_whole), sl_l_whole⟩)
    (c_l_whole : PySem.W.codeIn K cd_l_whole "_law_whole" = true)
    (k_l_whole : PySem.W.keepIn K (.ref f_l_whole) = true)
    (a_l_class : PySem.W.nsIn K mainGlobals "_law_class" = some (some (.ref f_l_class)))
    (l_l_class : K.lookup f_l_class = some ⟨oc_l_class, od_l_class, .func (PySem.W.fnOf "_law_class" "_law_class" (defArgs s_l_class) (defBody s_l_class) (defScope s_l_class) .none kV_l_class dc_l_class pm_l_class an_l_class cd_l_class ct_l_class), sl_l_class⟩)
    (c_l_class : PySem.W.codeIn K cd_l_class "_law_class" = true)
    (k_l_class : PySem.W.keepIn K (.ref f_l_class) = true)
    (a_l_deed : PySem.W.nsIn K mainGlobals "_law_deed" = some (some (.ref f_l_deed)))
    (l_l_deed : K.lookup f_l_deed = some ⟨oc_l_deed, od_l_deed, .func (PySem.W.fnOf "_law_deed" "_law_deed" (defArgs s_l_deed) (defBody s_l_deed) (defScope s_l_deed) .none kV_l_deed dc_l_deed pm_l_deed an_l_deed cd_l_deed ct_l_deed), sl_l_deed⟩)
    (c_l_deed : PySem.W.codeIn K cd_l_deed "_law_deed" = true)
    (k_l_deed : PySem.W.keepIn K (.ref f_l_deed) = true)
    (a_l_good : PySem.W.nsIn K mainGlobals "_law_good" = some (some (.ref f_l_good)))
    (l_l_good : K.lookup f_l_good = some ⟨oc_l_good, od_l_good, .func (PySem.W.fnOf "_law_good" "_law_good" (defArgs s_l_good) (defBody s_l_good) (defScope s_l_good) .none kV_l_good dc_l_good pm_l_good an_l_good cd_l_good ct_l_good), sl_l_good⟩)
    (c_l_good : PySem.W.codeIn K cd_l_good "_law_good" = true)
    (k_l_good : PySem.W.keepIn K (.ref f_l_good) = true)
    (a_l_read : PySem.W.nsIn K mainGlobals "_law_read" = some (some (.ref f_l_read)))
    (l_l_read : K.lookup f_l_read = some ⟨oc_l_read, od_l_read, .func (PySem.W.fnOf "_law_read" "_law_read" (defArgs s_l_read) (defBody s_l_read) (defScope s_l_read) .none kV_l_read dc_l_read pm_l_read an_l_read cd_l_read ct_l_read), sl_l_read⟩)
    (c_l_read : PySem.W.codeIn K cd_l_read "_law_read" = true)
    (k_l_read : PySem.W.keepIn K (.ref f_l_read) = true)
    (a_l_told : PySem.W.nsIn K mainGlobals "_law_told" = some (some (.ref f_l_told)))
    (l_l_told : K.lookup f_l_told = some ⟨oc_l_told, od_l_told, .func (PySem.W.fnOf "_law_told" "_law_told" (defArgs s_l_told) (defBody s_l_told) (defScope s_l_told) .none kV_l_told dc_l_told pm_l_told an_l_told cd_l_told ct_l_told), sl_l_told⟩)
    (c_l_told : PySem.W.codeIn K cd_l_told "_law_told" = true)
    (k_l_told : PySem.W.keepIn K (.ref f_l_told) = true)
    (a_l_spoilt : PySem.W.nsIn K mainGlobals "_law_spoilt" = some (some (.ref f_l_spoilt)))
    (l_l_spoilt : K.lookup f_l_spoilt = some ⟨oc_l_spoilt, od_l_spoilt, .func (PySem.W.fnOf "_law_spoilt" "_law_spoilt" (defArgs s_l_spoilt) (defBody s_l_spoilt) (defScope s_l_spoilt) .none kV_l_spoilt dc_l_spoilt pm_l_spoilt an_l_spoilt cd_l_spoilt ct_l_spoilt), sl_l_spoilt⟩)
    (c_l_spoilt : PySem.W.codeIn K cd_l_spoilt "_law_spoilt" = true)
    (k_l_spoilt : PySem.W.keepIn K (.ref f_l_spoilt) = true)
    (a_law : PySem.W.nsIn K mainGlobals "law" = some (some (.ref f_law)))
    (l_law : K.lookup f_law = some ⟨oc_law, od_law, .func (PySem.W.fnOf "law" "law" (defArgs s_law) (defBody s_law) (defScope s_law) .none kV_law dc_law pm_law an_law cd_law ct_law), sl_law⟩)
    (c_law : PySem.W.codeIn K cd_law "law" = true)
    (k_law : PySem.W.keepIn K (.ref f_law) = true)
    (v_MOST_STEPS : PySem.W.nsIn K mainGlobals "MOST_STEPS" = some (some (.int 100 t_MOST_STEPS)))
    (z_isinstance : PySem.W.nsIn K mainGlobals "isinstance" = some none)
    (z_bool : PySem.W.nsIn K mainGlobals "bool" = some none)
    (z_int : PySem.W.nsIn K mainGlobals "int" = some none)
    (z_str : PySem.W.nsIn K mainGlobals "str" = some none)
    (z_len : PySem.W.nsIn K mainGlobals "len" = some none)
    (z_tuple : PySem.W.nsIn K mainGlobals "tuple" = some none)
    (z_ValueError : PySem.W.nsIn K mainGlobals "ValueError" = some none)
    (z_range : PySem.W.nsIn K mainGlobals "range" = some none)
    (gBadDeed : PySem.W.nsIn K mainGlobals "BadDeed" = some (some (.ref C_BadDeed)))
    (xBadDeed : PySem.W.excIn K C_BadDeed [.type "ValueError", .type "Exception", .type "BaseException", .type "object"] "ValueError.__new__" = true)
    (kBadDeed : PySem.W.keepIn K (.ref C_BadDeed) = true) (bBadDeed : PySem.W.subIn K (.ref C_BadDeed) (.type "BaseException") = some true) (tBadDeed : PySem.W.typeIn K (.ref C_BadDeed) = some (.type "type"))
    (gBadCount : PySem.W.nsIn K mainGlobals "BadCount" = some (some (.ref C_BadCount)))
    (xBadCount : PySem.W.excIn K C_BadCount [.type "ValueError", .type "Exception", .type "BaseException", .type "object"] "ValueError.__new__" = true)
    (kBadCount : PySem.W.keepIn K (.ref C_BadCount) = true) (bBadCount : PySem.W.subIn K (.ref C_BadCount) (.type "BaseException") = some true) (tBadCount : PySem.W.typeIn K (.ref C_BadCount) = some (.type "type"))
    (gBadRule : PySem.W.nsIn K mainGlobals "BadRule" = some (some (.ref C_BadRule)))
    (xBadRule : PySem.W.excIn K C_BadRule [.type "ValueError", .type "Exception", .type "BaseException", .type "object"] "ValueError.__new__" = true)
    (kBadRule : PySem.W.keepIn K (.ref C_BadRule) = true) (bBadRule : PySem.W.subIn K (.ref C_BadRule) (.type "BaseException") = some true) (tBadRule : PySem.W.typeIn K (.ref C_BadRule) = some (.type "type"))
    (gFull : PySem.W.nsIn K mainGlobals "Full" = some (some (.ref C_Full)))
    (xFull : PySem.W.excIn K C_Full [.type "ValueError", .type "Exception", .type "BaseException", .type "object"] "ValueError.__new__" = true)
    (kFull : PySem.W.keepIn K (.ref C_Full) = true) (bFull : PySem.W.subIn K (.ref C_Full) (.type "BaseException") = some true) (tFull : PySem.W.typeIn K (.ref C_Full) = some (.type "type"))
    (gTwice : PySem.W.nsIn K mainGlobals "Twice" = some (some (.ref C_Twice)))
    (xTwice : PySem.W.excIn K C_Twice [.type "ValueError", .type "Exception", .type "BaseException", .type "object"] "ValueError.__new__" = true)
    (kTwice : PySem.W.keepIn K (.ref C_Twice) = true) (bTwice : PySem.W.subIn K (.ref C_Twice) (.type "BaseException") = some true) (tTwice : PySem.W.typeIn K (.ref C_Twice) = some (.type "type"))
    (gNotKept : PySem.W.nsIn K mainGlobals "NotKept" = some (some (.ref C_NotKept)))
    (xNotKept : PySem.W.excIn K C_NotKept [.type "ValueError", .type "Exception", .type "BaseException", .type "object"] "ValueError.__new__" = true)
    (kNotKept : PySem.W.keepIn K (.ref C_NotKept) = true) (bNotKept : PySem.W.subIn K (.ref C_NotKept) (.type "BaseException") = some true) (tNotKept : PySem.W.typeIn K (.ref C_NotKept) = some (.type "type"))
    (gAtEnd : PySem.W.nsIn K mainGlobals "AtEnd" = some (some (.ref C_AtEnd)))
    (xAtEnd : PySem.W.excIn K C_AtEnd [.type "ValueError", .type "Exception", .type "BaseException", .type "object"] "ValueError.__new__" = true)
    (kAtEnd : PySem.W.keepIn K (.ref C_AtEnd) = true) (bAtEnd : PySem.W.subIn K (.ref C_AtEnd) (.type "BaseException") = some true) (tAtEnd : PySem.W.typeIn K (.ref C_AtEnd) = some (.type "type"))
    (gNotWanted : PySem.W.nsIn K mainGlobals "NotWanted" = some (some (.ref C_NotWanted)))
    (xNotWanted : PySem.W.excIn K C_NotWanted [.type "ValueError", .type "Exception", .type "BaseException", .type "object"] "ValueError.__new__" = true)
    (kNotWanted : PySem.W.keepIn K (.ref C_NotWanted) = true) (bNotWanted : PySem.W.subIn K (.ref C_NotWanted) (.type "BaseException") = some true) (tNotWanted : PySem.W.typeIn K (.ref C_NotWanted) = some (.type "type"))
    (gMarkError : PySem.W.nsIn K mainGlobals "MarkError" = some (some (.ref C_MarkError)))
    (xMarkError : PySem.W.excIn K C_MarkError [.type "ValueError", .type "Exception", .type "BaseException", .type "object"] "ValueError.__new__" = true)
    (kMarkError : PySem.W.keepIn K (.ref C_MarkError) = true) (bMarkError : PySem.W.subIn K (.ref C_MarkError) (.type "BaseException") = some true) (tMarkError : PySem.W.typeIn K (.ref C_MarkError) = some (.type "type"))
    (hdM : PySem.W.hasDictIn K C_MarkError = true)
    (tkX : PySem.W.takesIn K (.builtin "object.__class__") = some true)
    (spX : PySem.W.specialIn K (.builtin "object.__class__") "__get__" = some (some (.builtin "getset_descriptor.__get__")))
    (sMBadDeed : PySem.W.subIn K (.ref C_BadDeed) (.ref C_MarkError) = some true)
    (qBadDeedBadCount : PySem.W.kitOne K (.ref C_BadDeed) (.ref C_BadCount) = some false)
    (qBadDeedBadRule : PySem.W.kitOne K (.ref C_BadDeed) (.ref C_BadRule) = some false)
    (qBadDeedBadDeed : PySem.W.kitOne K (.ref C_BadDeed) (.ref C_BadDeed) = some true)
    (qBadDeedFull : PySem.W.kitOne K (.ref C_BadDeed) (.ref C_Full) = some false)
    (qBadDeedTwice : PySem.W.kitOne K (.ref C_BadDeed) (.ref C_Twice) = some false)
    (qBadDeedNotKept : PySem.W.kitOne K (.ref C_BadDeed) (.ref C_NotKept) = some false)
    (qBadDeedAtEnd : PySem.W.kitOne K (.ref C_BadDeed) (.ref C_AtEnd) = some false)
    (qBadDeedNotWanted : PySem.W.kitOne K (.ref C_BadDeed) (.ref C_NotWanted) = some false)
    (qvBadDeed : PySem.W.kitOne K (.ref C_BadDeed) (.type "ValueError") = some true)
    (hgBadDeed : PySem.W.findIn K (.ref C_BadDeed) "__getattribute__" = some (some (.builtin "BaseException.__getattribute__")))
    (hkBadDeed : PySem.W.findIn K (.ref C_BadDeed) "__getattr__" = some none)
    (hdBadDeed : PySem.W.hasDictIn K C_BadDeed = true)
    (haBadDeed : PySem.W.findIn K (.ref C_BadDeed) "__class__" = some (some (.builtin "object.__class__")))
    (hmBadDeed : PySem.W.mroIn K C_BadDeed (.type "object") = some true) :
    ∃ fd : FuncData, (∀ (s : Shared) (v : Value), BindsTo s fd ⟨[v], []⟩ [("_law_script", v)]) ∧ ∀ base : Heap, K.In base → base.Ns mainGlobals mg → FnOk l.prog w K mg base (L2.CX l.prog w) 5 fa fd ["_law_script"] (sp_law K) := by
  have e := hfa.symm.trans (PySem.W.mg_of X G a_law)
  cases e
  have T : Txt K mg := {
    d_is_among := ⟨_, _, PySem.W.mg_of X G a_is_among, fun_mk (st := s_is_among) l_is_among c_is_among k_is_among, (fun_mk (st := s_is_among) l_is_among c_is_among k_is_among).binds (ps := ["thing", "low", "high"]) fun _ _ _ _ _ _ us hl => match us, hl with | [_, _, _], _ => rfl⟩,
    d_is_deed := ⟨_, _, PySem.W.mg_of X G a_is_deed, fun_mk (st := s_is_deed) l_is_deed c_is_deed k_is_deed, (fun_mk (st := s_is_deed) l_is_deed c_is_deed k_is_deed).binds (ps := ["thing"]) fun _ _ _ _ _ _ us hl => match us, hl with | [_], _ => rfl⟩,
    d_line_of := ⟨_, _, PySem.W.mg_of X G a_line_of, fun_mk (st := s_line_of) l_line_of c_line_of k_line_of, (fun_mk (st := s_line_of) l_line_of c_line_of k_line_of).binds (ps := ["deed"]) fun _ _ _ _ _ _ us hl => match us, hl with | [_], _ => rfl⟩,
    d_number_of := ⟨_, _, PySem.W.mg_of X G a_number_of, fun_mk (st := s_number_of) l_number_of c_number_of k_number_of, (fun_mk (st := s_number_of) l_number_of c_number_of k_number_of).binds (ps := ["word"]) fun _ _ _ _ _ _ us hl => match us, hl with | [_], _ => rfl⟩,
    d_deed_of := ⟨_, _, PySem.W.mg_of X G a_deed_of, fun_mk (st := s_deed_of) l_deed_of c_deed_of k_deed_of, (fun_mk (st := s_deed_of) l_deed_of c_deed_of k_deed_of).binds (ps := ["line"]) fun _ _ _ _ _ _ us hl => match us, hl with | [_], _ => rfl⟩,
    d_l_cell_at := ⟨_, _, PySem.W.mg_of X G a_l_cell_at, fun_mk (st := s_l_cell_at) l_l_cell_at c_l_cell_at k_l_cell_at, (fun_mk (st := s_l_cell_at) l_l_cell_at c_l_cell_at k_l_cell_at).binds (ps := ["_law_script", "_law_k"]) fun _ _ _ _ _ _ us hl => match us, hl with | [_, _], _ => rfl⟩,
    d_l_number := ⟨_, _, PySem.W.mg_of X G a_l_number, fun_mk (st := s_l_number) l_l_number c_l_number k_l_number, (fun_mk (st := s_l_number) l_l_number c_l_number k_l_number).binds (ps := ["_law_script", "_law_k"]) fun _ _ _ _ _ _ us hl => match us, hl with | [_, _], _ => rfl⟩,
    d_l_whole := ⟨_, _, PySem.W.mg_of X G a_l_whole, fun_mk (st := s_l_whole) l_l_whole c_l_whole k_l_whole, (fun_mk (st := s_l_whole) l_l_whole c_l_whole k_l_whole).binds (ps := ["_law_found"]) fun _ _ _ _ _ _ us hl => match us, hl with | [_], _ => rfl⟩,
    d_l_class := ⟨_, _, PySem.W.mg_of X G a_l_class, fun_mk (st := s_l_class) l_l_class c_l_class k_l_class, (fun_mk (st := s_l_class) l_l_class c_l_class k_l_class).binds (ps := ["_law_e"]) fun _ _ _ _ _ _ us hl => match us, hl with | [_], _ => rfl⟩,
    d_l_deed := ⟨_, _, PySem.W.mg_of X G a_l_deed, fun_mk (st := s_l_deed) l_l_deed c_l_deed k_l_deed, (fun_mk (st := s_l_deed) l_l_deed c_l_deed k_l_deed).binds (ps := ["_law_cell"]) fun _ _ _ _ _ _ us hl => match us, hl with | [_], _ => rfl⟩,
    d_l_good := ⟨_, _, PySem.W.mg_of X G a_l_good, fun_mk (st := s_l_good) l_l_good c_l_good k_l_good, (fun_mk (st := s_l_good) l_l_good c_l_good k_l_good).binds (ps := ["_law_deed_here"]) fun _ _ _ _ _ _ us hl => match us, hl with | [_], _ => rfl⟩,
    d_l_read := ⟨_, _, PySem.W.mg_of X G a_l_read, fun_mk (st := s_l_read) l_l_read c_l_read k_l_read, (fun_mk (st := s_l_read) l_l_read c_l_read k_l_read).binds (ps := ["_law_line"]) fun _ _ _ _ _ _ us hl => match us, hl with | [_], _ => rfl⟩,
    d_l_told := ⟨_, _, PySem.W.mg_of X G a_l_told, fun_mk (st := s_l_told) l_l_told c_l_told k_l_told, (fun_mk (st := s_l_told) l_l_told c_l_told k_l_told).binds (ps := ["_law_line"]) fun _ _ _ _ _ _ us hl => match us, hl with | [_], _ => rfl⟩,
    d_l_spoilt := ⟨_, _, PySem.W.mg_of X G a_l_spoilt, fun_mk (st := s_l_spoilt) l_l_spoilt c_l_spoilt k_l_spoilt, (fun_mk (st := s_l_spoilt) l_l_spoilt c_l_spoilt k_l_spoilt).binds (ps := ["_law_line", "_law_cell"]) fun _ _ _ _ _ _ us hl => match us, hl with | [_, _], _ => rfl⟩,
    d_law := ⟨_, _, PySem.W.mg_of X G a_law, fun_mk (st := s_law) l_law c_law k_law, (fun_mk (st := s_law) l_law c_law k_law).binds (ps := ["_law_script"]) fun _ _ _ _ _ _ us hl => match us, hl with | [_], _ => rfl⟩,
    c_MOST_STEPS := ⟨_, PySem.W.mg_of X G v_MOST_STEPS⟩,
    n_isinstance := PySem.W.mg_none_of X G z_isinstance,
    n_bool := PySem.W.mg_none_of X G z_bool,
    n_int := PySem.W.mg_none_of X G z_int,
    n_str := PySem.W.mg_none_of X G z_str,
    n_len := PySem.W.mg_none_of X G z_len,
    n_tuple := PySem.W.mg_none_of X G z_tuple,
    n_ValueError := PySem.W.mg_none_of X G z_ValueError,
    n_range := PySem.W.mg_none_of X G z_range,
    aBadDeed := C_BadDeed,
    x_BadDeed := ⟨PySem.W.mg_of X G gBadDeed, xBadDeed, kBadDeed, bBadDeed, tBadDeed⟩,
    aBadCount := C_BadCount,
    x_BadCount := ⟨PySem.W.mg_of X G gBadCount, xBadCount, kBadCount, bBadCount, tBadCount⟩,
    aBadRule := C_BadRule,
    x_BadRule := ⟨PySem.W.mg_of X G gBadRule, xBadRule, kBadRule, bBadRule, tBadRule⟩,
    aFull := C_Full,
    x_Full := ⟨PySem.W.mg_of X G gFull, xFull, kFull, bFull, tFull⟩,
    aTwice := C_Twice,
    x_Twice := ⟨PySem.W.mg_of X G gTwice, xTwice, kTwice, bTwice, tTwice⟩,
    aNotKept := C_NotKept,
    x_NotKept := ⟨PySem.W.mg_of X G gNotKept, xNotKept, kNotKept, bNotKept, tNotKept⟩,
    aAtEnd := C_AtEnd,
    x_AtEnd := ⟨PySem.W.mg_of X G gAtEnd, xAtEnd, kAtEnd, bAtEnd, tAtEnd⟩,
    aNotWanted := C_NotWanted,
    x_NotWanted := ⟨PySem.W.mg_of X G gNotWanted, xNotWanted, kNotWanted, bNotWanted, tNotWanted⟩,
    aMarkError := C_MarkError,
    x_MarkError := ⟨PySem.W.mg_of X G gMarkError, xMarkError, kMarkError, bMarkError, tMarkError⟩,
    q_BadDeed := ⟨by decide, fun j hj => eight (P := fun j => PySem.W.kitOne K (.ref C_BadDeed) (.ref ([C_BadCount, C_BadRule, C_BadDeed, C_Full, C_Twice, C_NotKept, C_AtEnd, C_NotWanted].getD j 0)) = some (decide (j = 2))) hj qBadDeedBadCount qBadDeedBadRule qBadDeedBadDeed qBadDeedFull qBadDeedTwice qBadDeedNotKept qBadDeedAtEnd qBadDeedNotWanted, qvBadDeed, ⟨hgBadDeed, hkBadDeed, bBadDeed, hdBadDeed, haBadDeed, spX, tkX, hmBadDeed⟩⟩,
    e_BadDeed := PySem.W.exm_ref bMarkError hdM tMarkError sMBadDeed }
  refine ⟨PySem.W.fnOf "law" "law" (defArgs s_law) (defBody s_law) (defScope s_law) .none kV_law dc_law pm_law an_law cd_law ct_law, fun s v => .of_eq rfl, fun base _ _ => ?_⟩
  exact ok_law_at T (fun_mk (st := s_law) l_law c_law k_law)
theorem walk {l : PySem.W.OpenLaw} {q : Program} {loose : List Str} {XP : (Str → Option Value) → Heap → Prop} {YP : World → Heap → Prop} {d : DefRec} {K : Params → PySem.W.Frag} (hn : l.most = some 63) (hdf : d.params.defaults = [])
    (hY : ∀ (w : World) (h : Heap), YP w h → (K w.params).In h)
    (F : ∀ (w : World) (mg : Str → Option Value) (fa : Addr) (h : Heap), (K w.params).In h → h.Ns mainGlobals mg → mg d.name = some (.ref fa) →
      ∃ fd : FuncData, (∀ (s : Shared) (u : Value), BindsTo s fd ⟨[u], []⟩ [("_law_script", u)]) ∧ ∀ base : Heap, (K w.params).In base → base.Ns mainGlobals mg → FnOk l.prog w (K w.params) mg base (L2.CX l.prog w) 5 fa fd ["_law_script"] (sp_law (K w.params))) :
    PySem.W.WalkO q loose XP YP l.row.toRowW d [] (fun f vs => PySem.call f vs) :=
  L2.walk_of (n := 63) (k := 5) (x := "_law_script") (CX := fun w => L2.CX l.prog w) (sp := fun w => sp_law (K w.params)) hn (by decide) hdf ⟨rfl, by decide, by decide⟩ hY F (fun _ _ _ _ hl _ hS => law_true hS hl) fun _ _ _ _ _ z => cx0_no z
end BM
open PySem PySem.W PyProof.Rows
set_option maxRecDepth 100000 in
set_option maxHeartbeats 0 in
theorem PySem.Challenge.cw_backmarks_k03_deeds_written_holds : PySem.Challenge.rw_backmarks_k03_deeds_written.Holds := by
  w_on; o_law; k_head; (case hw => w_witness2)
  k_fill
  refine BM.walk (l := PySem.Challenge.rw_backmarks_k03_deeds_written) rfl rfl (fun w h Y => PySem.W.kIn_of Y) ?F
  case F =>
    intro w mg fa h KX G hmg
    refine' BM.all_mk (l := PySem.Challenge.rw_backmarks_k03_deeds_written) KX G hmg ?a_is_among ?l_is_among ?c_is_among ?k_is_among ?a_is_deed ?l_is_deed ?c_is_deed ?k_is_deed ?a_line_of ?l_line_of ?c_line_of ?k_line_of ?a_number_of ?l_number_of ?c_number_of ?k_number_of ?a_deed_of ?l_deed_of ?c_deed_of ?k_deed_of ?a_l_cell_at ?l_l_cell_at ?c_l_cell_at ?k_l_cell_at ?a_l_number ?l_l_number ?c_l_number ?k_l_number ?a_l_whole ?l_l_whole ?c_l_whole ?k_l_whole ?a_l_class ?l_l_class ?c_l_class ?k_l_class ?a_l_deed ?l_l_deed ?c_l_deed ?k_l_deed ?a_l_good ?l_l_good ?c_l_good ?k_l_good ?a_l_read ?l_l_read ?c_l_read ?k_l_read ?a_l_told ?l_l_told ?c_l_told ?k_l_told ?a_l_spoilt ?l_l_spoilt ?c_l_spoilt ?k_l_spoilt ?a_law ?l_law ?c_law ?k_law ?v_MOST_STEPS ?z_isinstance ?z_bool ?z_int ?z_str ?z_len ?z_tuple ?z_ValueError ?z_range ?gBadDeed ?xBadDeed ?kBadDeed ?bBadDeed ?tBadDeed ?gBadCount ?xBadCount ?kBadCount ?bBadCount ?tBadCount ?gBadRule ?xBadRule ?kBadRule ?bBadRule ?tBadRule ?gFull ?xFull ?kFull ?bFull ?tFull ?gTwice ?xTwice ?kTwice ?bTwice ?tTwice ?gNotKept ?xNotKept ?kNotKept ?bNotKept ?tNotKept ?gAtEnd ?xAtEnd ?kAtEnd ?bAtEnd ?tAtEnd ?gNotWanted ?xNotWanted ?kNotWanted ?bNotWanted ?tNotWanted ?gMarkError ?xMarkError ?kMarkError ?bMarkError ?tMarkError ?hdM ?tkX ?spX ?sMBadDeed ?qBadDeedBadCount ?qBadDeedBadRule ?qBadDeedBadDeed ?qBadDeedFull ?qBadDeedTwice ?qBadDeedNotKept ?qBadDeedAtEnd ?qBadDeedNotWanted ?qvBadDeed ?hgBadDeed ?hkBadDeed ?hdBadDeed ?haBadDeed ?hmBadDeed
    (case a_is_among => k_is)
    (case l_is_among => k_is)
    (case c_is_among => k_is)
    (case k_is_among => k_is)
    (case a_is_deed => k_is)
    (case l_is_deed => k_is)
    (case c_is_deed => k_is)
    (case k_is_deed => k_is)
    (case a_line_of => k_is)
    (case l_line_of => k_is)
    (case c_line_of => k_is)
    (case k_line_of => k_is)
    (case a_number_of => k_is)
    (case l_number_of => k_is)
    (case c_number_of => k_is)
    (case k_number_of => k_is)
    (case a_deed_of => k_is)
    (case l_deed_of => k_is)
    (case c_deed_of => k_is)
    (case k_deed_of => k_is)
    (case a_l_cell_at => k_is)
    (case l_l_cell_at => k_is)
    (case c_l_cell_at => k_is)
    (case k_l_cell_at => k_is)
    (case a_l_number => k_is)
    (case l_l_number => k_is)
    (case c_l_number => k_is)
    (case k_l_number => k_is)
    (case a_l_whole => k_is)
    (case l_l_whole => k_is)
    (case c_l_whole => k_is)
    (case k_l_whole => k_is)
    (case a_l_class => k_is)
    (case l_l_class => k_is)
    (case c_l_class => k_is)
    (case k_l_class => k_is)
    (case a_l_deed => k_is)
    (case l_l_deed => k_is)
    (case c_l_deed => k_is)
    (case k_l_deed => k_is)
    (case a_l_good => k_is)
    (case l_l_good => k_is)
    (case c_l_good => k_is)
    (case k_l_good => k_is)
    (case a_l_read => k_is)
    (case l_l_read => k_is)
    (case c_l_read => k_is)
    (case k_l_read => k_is)
    (case a_l_told => k_is)
    (case l_l_told => k_is)
    (case c_l_told => k_is)
    (case k_l_told => k_is)
    (case a_l_spoilt => k_is)
    (case l_l_spoilt => k_is)
    (case c_l_spoilt => k_is)
    (case k_l_spoilt => k_is)
    (case a_law => k_is)
    (case l_law => k_is)
    (case c_law => k_is)
    (case k_law => k_is)
    (case v_MOST_STEPS => k_is)
    (case z_isinstance => k_is)
    (case z_bool => k_is)
    (case z_int => k_is)
    (case z_str => k_is)
    (case z_len => k_is)
    (case z_tuple => k_is)
    (case z_ValueError => k_is)
    (case z_range => k_is)
    (case gBadDeed => k_is)
    (case xBadDeed => k_exc)
    (case kBadDeed => k_is)
    (case bBadDeed => k_is)
    (case tBadDeed => k_is)
    (case gBadCount => k_is)
    (case xBadCount => k_exc)
    (case kBadCount => k_is)
    (case bBadCount => k_is)
    (case tBadCount => k_is)
    (case gBadRule => k_is)
    (case xBadRule => k_exc)
    (case kBadRule => k_is)
    (case bBadRule => k_is)
    (case tBadRule => k_is)
    (case gFull => k_is)
    (case xFull => k_exc)
    (case kFull => k_is)
    (case bFull => k_is)
    (case tFull => k_is)
    (case gTwice => k_is)
    (case xTwice => k_exc)
    (case kTwice => k_is)
    (case bTwice => k_is)
    (case tTwice => k_is)
    (case gNotKept => k_is)
    (case xNotKept => k_exc)
    (case kNotKept => k_is)
    (case bNotKept => k_is)
    (case tNotKept => k_is)
    (case gAtEnd => k_is)
    (case xAtEnd => k_exc)
    (case kAtEnd => k_is)
    (case bAtEnd => k_is)
    (case tAtEnd => k_is)
    (case gNotWanted => k_is)
    (case xNotWanted => k_exc)
    (case kNotWanted => k_is)
    (case bNotWanted => k_is)
    (case tNotWanted => k_is)
    (case gMarkError => k_is)
    (case xMarkError => k_exc)
    (case kMarkError => k_is)
    (case bMarkError => k_is)
    (case tMarkError => k_is)
    (case hdM => k_is)
    (case tkX => k_is)
    (case spX => k_is)
    (case sMBadDeed => k_is)
    (case qBadDeedBadCount => kit_is)
    (case qBadDeedBadRule => kit_is)
    (case qBadDeedBadDeed => kit_is)
    (case qBadDeedFull => kit_is)
    (case qBadDeedTwice => kit_is)
    (case qBadDeedNotKept => kit_is)
    (case qBadDeedAtEnd => kit_is)
    (case qBadDeedNotWanted => kit_is)
    (case qvBadDeed => kit_is)
    (case hgBadDeed => k_is)
    (case hkBadDeed => k_is)
    (case hdBadDeed => k_is)
    (case haBadDeed => k_is)
    (case hmBadDeed => k_is)
#print axioms PySem.Challenge.cw_backmarks_k03_deeds_written_holds
