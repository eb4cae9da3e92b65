import PyProof.Rows.All
import Wide.All
import OpenK.AllK
import Wide.FinOn
import PyProof.EqAt
import PyProof.EqKinds
import PyProof.TupleCall
import HandS.ForMost
import HandS.Exc
import HandS.TryOnly
import HandS.ExcOwn
import HandS.WordsExc
import HandS.IsInst
import HandS.ExcIs
import HandS.Evl
import HandS.HotCalls
import HandS.Deep
import HandS.Style
import HandS.Rev
import KE.RegKIsAll
import HandS.More
import PySem.Challenge.RW_backmarks_k05_a_walkers_deeds
set_option Elab.async false
set_option linter.all false
set_option maxRecDepth 100000
set_option maxHeartbeats 4000000
/-! ## Common words: a def as it stands, what it promises, an error class, things that are whole numbers or not -/
namespace BM
open PySem PySem.Spec PyProof.Rows L2

/-- the def named x of the module's top -/
def Def (K : PySem.W.Frag) (mg : Str → Option Value) (x qual : Str) (st : Stmt) (ps : List Str) : Prop :=
  ∃ (f : Addr) (fd : FuncData), mg x = some (.ref f) ∧ Fun K x qual st f fd ∧ Binds K fd ps []
/-- it keeps its promise -/
def OkF (P : Program) (w : World) (K : PySem.W.Frag) (mg : Str → Option Value) (base : Heap) (x : Str) (k : Nat) (ps : List Str) (sp : Sp) : Prop :=
  ∃ (f : Addr) (fd : FuncData), mg x = some (.ref f) ∧ PySem.W.keepIn K (.ref f) = true ∧ Binds K fd ps [] ∧ FnOk P w K mg base (L2.CX P w) k f fd ps sp
/-- a class of the program's own errors, without a body of its own -/
structure XC (K : PySem.W.Frag) (mg : Str → Option Value) (n : Str) (C : Addr) : Prop where
  g : mg n = some (.ref C)
  x : PySem.W.excIn K C [.type "ValueError", .type "Exception", .type "BaseException", .type "object"] "ValueError.__new__" = true
  k : PySem.W.keepIn K (.ref C) = true
  b : PySem.W.subIn K (.ref C) (.type "BaseException") = some true
  t : PySem.W.typeIn K (.ref C) = some (.type "type")
section
variable {P : Program} {w : World} {K : PySem.W.Frag} {mg : Str → Option Value} {base : Heap}
theorem okf {x qual : Str} {st : Stmt} {N ps : List Str} {k : Nat} {sp : Sp} (D : Def K mg x qual st ps) (S : FnScope N ps (defScope st)) (len : ∀ vs H Q E, sp vs H Q E → vs.length = ps.length)
    (hbody : ∀ (f : Addr) (cdv : Value) (A : Around) (outer : List Env) (s : Shared) (H : Hp) (vs : List V) (Q : VK) (E : XK), Room k (A.deeper (envOfC qual (defScope st) s.heap.objs.size f cdv)) → sp vs H Q E →
      ∃ t, PSs (cxOf (L2.CX P w) P w K mg base N qual (defScope st) f cdv A outer s H E) (defBody st) t ∧ t { nx := fun _ H' => Q .non H', rt := Q } (start N vs) H) : OkF P w K mg base x (k + 1) ps sp := by
  obtain ⟨f, fd, hm, F, hb⟩ := D
  exact ⟨f, fd, hm, F.kp, hb, F.okX S len (fun cdv A outer s H vs Q E hr h => hbody f cdv A outer s H vs Q E hr h)⟩
theorem OkF.mono {x : Str} {j k : Nat} {ps : List Str} {sp : Sp} (F : OkF P w K mg base x j ps sp) (h : j ≤ k) : OkF P w K mg base x k ps sp := by
  obtain ⟨f, fd, hm, hk, hb, G⟩ := F
  exact ⟨f, fd, hm, hk, hb, G.mono h⟩
end
/-- a method, an __init__ of the class at C -/
def DefM (K : PySem.W.Frag) (C : Addr) (m qual : Str) (st : Stmt) (ps : List Str) : Prop := ∃ (f : Addr) (fd : FuncData), Meth K C m f ∧ Fun K m qual st f fd ∧ Binds K fd ps []
def DefI (K : PySem.W.Frag) (C : Addr) (m qual : Str) (st : Stmt) (ps : List Str) : Prop := ∃ (f : Addr) (fd : FuncData), Mk K C f ∧ Fun K m qual st f fd ∧ Binds K fd ps []
def OkM (P : Program) (w : World) (K : PySem.W.Frag) (mg : Str → Option Value) (base : Heap) (C : Addr) (m : Str) (k : Nat) (ps : List Str) (sp : Sp) : Prop :=
  ∃ (f : Addr) (fd : FuncData), Meth K C m f ∧ Binds K fd ps [] ∧ FnOk P w K mg base (L2.CX P w) k f fd ps sp
def OkI (P : Program) (w : World) (K : PySem.W.Frag) (mg : Str → Option Value) (base : Heap) (C : Addr) (m : Str) (k : Nat) (ps : List Str) (sp : Sp) : Prop :=
  ∃ (f : Addr) (fd : FuncData), Mk K C f ∧ Binds K fd ps [] ∧ FnOk P w K mg base (L2.CX P w) k f fd ps sp
section
variable {P : Program} {w : World} {K : PySem.W.Frag} {mg : Str → Option Value} {base : Heap}
theorem okm {C : Addr} {m qual : Str} {st : Stmt} {N ps : List Str} {k : Nat} {sp : Sp} (D : DefM K C m qual st ps) (S : FnScope N ps (defScope st)) (len : ∀ vs H Q E, sp vs H Q E → vs.length = ps.length)
    (hbody : ∀ (f : Addr) (cdv : Value) (A : Around) (outer : List Env) (s : Shared) (H : Hp) (vs : List V) (Q : VK) (E : XK), Room k (A.deeper (envOfC qual (defScope st) s.heap.objs.size f cdv)) → sp vs H Q E →
      ∃ t, PSs (cxOf (L2.CX P w) P w K mg base N qual (defScope st) f cdv A outer s H E) (defBody st) t ∧ t { nx := fun _ H' => Q .non H', rt := Q } (start N vs) H) : OkM P w K mg base C m (k + 1) ps sp := by
  obtain ⟨f, fd, hm, F, hb⟩ := D
  exact ⟨f, fd, hm, hb, F.okX S len (fun cdv A outer s H vs Q E hr h => hbody f cdv A outer s H vs Q E hr h)⟩
theorem oki {C : Addr} {m qual : Str} {st : Stmt} {N ps : List Str} {k : Nat} {sp : Sp} (D : DefI K C m qual st ps) (S : FnScope N ps (defScope st)) (len : ∀ vs H Q E, sp vs H Q E → vs.length = ps.length)
    (hbody : ∀ (f : Addr) (cdv : Value) (A : Around) (outer : List Env) (s : Shared) (H : Hp) (vs : List V) (Q : VK) (E : XK), Room k (A.deeper (envOfC qual (defScope st) s.heap.objs.size f cdv)) → sp vs H Q E →
      ∃ t, PSs (cxOf (L2.CX P w) P w K mg base N qual (defScope st) f cdv A outer s H E) (defBody st) t ∧ t { nx := fun _ H' => Q .non H', rt := Q } (start N vs) H) : OkI P w K mg base C m (k + 1) ps sp := by
  obtain ⟨f, fd, hm, F, hb⟩ := D
  exact ⟨f, fd, hm, hb, F.okX S len (fun cdv A outer s H vs Q E hr h => hbody f cdv A outer s H vs Q E hr h)⟩
end
/-- a thing, and the whole number that it is (no truth value is one) -/
inductive Thg (K : PySem.W.Frag) (H : Hp) : V → Option Int → Prop where
  | int (i : Int) : Thg K H (.int i) (some i)
  | bl (b : Bool) : Thg K H (.bl b) none
  | oth {x : V} {t : Value} (ty : TyX K H x t) (ni : PySem.W.kitOne K t (.type "int") = some false) : Thg K H x none
theorem Thg.non {K : PySem.W.Frag} {H : Hp} : Thg K H .non none := .oth (.base .non) (kit_ty (by decide +kernel))
theorem Thg.str {K : PySem.W.Frag} {H : Hp} (x : Str) : Thg K H (.str x) none := .oth (.base (.str x)) (kit_ty (by decide +kernel))
theorem Thg.lst {K : PySem.W.Frag} {H : Hp} {a : Addr} {xs : List V} (e : H a = some (.lst xs)) : Thg K H (.ref a) none := .oth (.base (.lst e)) (kit_ty (by decide +kernel))
theorem Thg.tup {K : PySem.W.Frag} {H : Hp} {a : Addr} {xs : List V} (e : H a = some (.tup xs)) : Thg K H (.ref a) none := .oth (.base (.tup e)) (kit_ty (by decide +kernel))
theorem Thg.dK {K : PySem.W.Frag} {H : Hp} {a : Addr} {xs : List (Key × V)} (e : H a = some (.dK xs)) : Thg K H (.ref a) none := .oth (.base (.dK e)) (kit_ty (by decide +kernel))
theorem tyOf_same {K : PySem.W.Frag} {H H' : Hp} {x : V} {t : Value} (e : Same H H') (h : TyOf K H x t) : TyOf K H' x t := by
  cases h with
  | non => exact .non
  | bl b => exact .bl b
  | int i => exact .int i
  | str z => exact .str z
  | flt z => exact .flt z
  | lst q => exact .lst (e _ _ q)
  | frz q => exact .frz (e _ _ q)
  | tup q => exact .tup (e _ _ q)
  | dK q => exact .dK (e _ _ q)
  | dT q => exact .dT (e _ _ q)
  | ins q cl ha hn htk hm => exact .ins (e _ _ q) cl ha hn htk hm
theorem tyX_same {K : PySem.W.Frag} {H H' : Hp} {x : V} {t : Value} (e : Same H H') (h : TyX K H x t) : TyX K H' x t := by
  cases h with
  | base b => exact .base (tyOf_same e b)
  | byt b => exact .byt b
  | set q => exact .set (e _ _ q)
  | kList q c => exact .kList q c
  | kTuple q c => exact .kTuple q c
  | kDict q c => exact .kDict q c
  | fTuple q => exact .fTuple (e _ _ q)
  | fDict q => exact .fDict (e _ _ q)
theorem Thg.same {K : PySem.W.Frag} {H H' : Hp} {x : V} {o : Option Int} (e : Same H H') (h : Thg K H x o) : Thg K H' x o := by
  cases h with
  | int i => exact .int i
  | bl b => exact .bl b
  | oth ty ni => exact .oth (tyX_same e ty) ni
theorem pick {α : Type} {P : α → Prop} {xs : List α} (h : ∀ x ∈ xs, P x) {j : Nat} (hj : j < xs.length) : ∃ x, xs[j]? = some x ∧ P x := ⟨xs[j], List.getElem?_eq_getElem hj, h _ (List.getElem_mem hj)⟩
def among (o : Option Int) (lo hi : Int) : Bool := match o with
  | some i => decide (lo ≤ i) && decide (i ≤ hi)
  | none => false
def whole (o : Option Int) : Bool := o.isSome
/-- a new list, a new tuple: what stood stands, and it is there -/
def RetL (H : Hp) (xs : List V) (Q : VK) : Prop := ∀ p H', H p = none → Same H H' → H' p = some (.lst xs) → Q (.ref p) H'
def RetT (H : Hp) (xs : List V) (Q : VK) : Prop := ∀ p H', H p = none → Same H H' → H' p = some (.tup xs) → Q (.ref p) H'
theorem Same.new {H : Hp} {p : Addr} {o : HO} (h : H p = none) : Same H (upd H p o) := fun a u e => by
  rw [upd_ne (ne_of_none e h)]
  exact e
theorem new_at {H : Hp} {p : Addr} {o : HO} (_ : H p = none) : upd H p o p = some o := upd_same
theorem Same.mut {H H' : Hp} {p : Addr} {o : HO} (e : Same H H') (h : H p = none) : Same H (upd H' p o) := fun a u ha => by
  rw [upd_ne (ne_of_none ha h)]
  exact e a u ha
theorem get_map {α β : Type} {f : α → β} {xs : List α} {i : Nat} {y : β} (h : (xs.map f)[i]? = some y) : ∃ x, xs[i]? = some x ∧ y = f x := by
  rw [List.getElem?_map] at h
  cases e : xs[i]? with
  | none =>
    rw [e] at h
    cases h
  | some x =>
    rw [e] at h
    exact ⟨x, rfl, (Option.some.inj h).symm⟩
theorem take_succ {α : Type} {l : List α} {i : Nat} {x : α} (h : l[i]? = some x) : l.take (i + 1) = l.take i ++ [x] := by
  rw [List.take_add_one, h] <;> rfl
theorem at_map {xs : List Int} {z : Int} {j : Nat} {v : Int} (e : z = (j : Int)) (h : xs[j]? = some v) : atI (xs.map V.int) z = some (V.int v) := by
  rw [e]
  refine atI_nat ?_
  rw [List.getElem?_map, h] <;> rfl
theorem sz5 {n : Nat} (h : n ≤ 100000) : n ≤ sizeLine := Nat.le_trans h (by decide)
theorem sz5' {n : Nat} (h : n < 100000) : n < sizeLine := Nat.lt_of_lt_of_le h (by decide)
theorem cx0_no {P : Program} {w : World} {H : Hp} {s : Shared} {e : Value} {s' : Shared} (h : L2.CX P w [] H s (fun _ _ _ => False) e s') : False := by
  obtain ⟨_, _, _, _, _, _, _, _, _, _, _, _, z⟩ := h
  exact z.elim
/-- the law's: a list of at most 63 whole numbers is handed in, True comes out -/
def sp_law (K : PySem.W.Frag) : Sp := fun vs H Q _ => ∃ (a : Addr) (ns : List Int), vs = [.ref a] ∧ SqL K H a (ns.map V.int) ∧ ns.length ≤ 63 ∧ ∀ H', Q (.bl true) H'
theorem law_true {K : PySem.W.Frag} {H : Hp} {a : Addr} {ns : List Int} (hS : SqL K H a (ns.map V.int)) (hl : ns.length ≤ 63) : sp_law K [.ref a] H (fun v _ => v = .bl true) (fun _ _ _ => False) := ⟨a, ns, rfl, hS, hl, fun _ => rfl⟩
/-- a remainder as a natural number -/
theorem rem_nat {z m : Int} (hm : 0 < m) : ∃ s : Nat, (s : Int) < m ∧ z % m = (s : Int) := by
  have h1 := Int.emod_nonneg z (show m ≠ 0 by omega)
  have h2 := Int.emod_lt_of_pos z hm
  exact ⟨(z % m).toNat, by omega, by omega⟩
end BM

/-! ## Data that is compared -/
namespace BM
open PySem PySem.Spec PyProof.Rows L2
def Sh (n : Nat) (d : PyData) : Prop := d.canLay0 = true ∧ d.depth ≤ n
theorem canAll : ∀ {ds : List PyData}, (∀ d ∈ ds, d.canLay0 = true) → PyData.canLayAll0 ds = true
  | [], _ => rfl
  | d :: r, h => by
    have h1 := h d List.mem_cons_self
    have h2 := canAll (ds := r) fun e he => h e (List.mem_cons_of_mem _ he)
    simp [PyData.canLayAll0, h1, h2]
theorem depAll {n : Nat} : ∀ {ds : List PyData}, (∀ d ∈ ds, d.depth ≤ n) → PyData.depthAll ds ≤ n
  | [], _ => by
    show 0 ≤ n
    omega
  | d :: r, h => by
    have h1 := h d List.mem_cons_self
    have h2 := depAll (ds := r) fun e he => h e (List.mem_cons_of_mem _ he)
    show max d.depth (PyData.depthAll r) ≤ n
    omega
theorem Sh.non {n : Nat} : Sh n .none := ⟨rfl, Nat.zero_le _⟩
theorem Sh.bl {n : Nat} (b : Bool) : Sh n (.bool b) := ⟨rfl, Nat.zero_le _⟩
theorem Sh.int {n : Nat} (i : Int) : Sh n (.int i) := ⟨rfl, Nat.zero_le _⟩
theorem Sh.str {n : Nat} {x : Str} (h : (PyData.str x).canLay0 = true) : Sh n (.str x) := ⟨h, Nat.zero_le _⟩
theorem Sh.lst {n : Nat} {ds : List PyData} (h : ∀ d ∈ ds, Sh n d) : Sh (n + 1) (.list ds) :=
  ⟨canAll fun d hd => (h d hd).1, by
    have := depAll fun d hd => (h d hd).2
    show PyData.depthAll ds + 1 ≤ n + 1
    omega⟩
theorem Sh.tup {n : Nat} {ds : List PyData} (h : ∀ d ∈ ds, Sh n d) : Sh (n + 1) (.tuple ds) :=
  ⟨canAll fun d hd => (h d hd).1, by
    have := depAll fun d hd => (h d hd).2
    show PyData.depthAll ds + 1 ≤ n + 1
    omega⟩
theorem Sh.shaped {n : Nat} {d : PyData} (h : Sh n d) (hn : n ≤ 64) : SeqAt.shaped d = true := by
  unfold SeqAt.shaped
  rw [h.1, Bool.true_and]
  exact decide_eq_true (Nat.le_trans h.2 hn)
theorem Sh.refl {n : Nat} {d : PyData} (h : Sh n d) : PyData.eqv d d = true := SeqAt.eqv_refl d h.1
theorem sh_ints {n : Nat} (ns : List Int) : Sh (n + 1) (.list (ns.map PyData.int)) := .lst fun d hd => by
  obtain ⟨i, _, rfl⟩ := List.mem_map.mp hd
  exact .int i
/-- values paired with data, by place -/
theorem dp_all {K : PySem.W.Frag} {H : Hp} : ∀ {vs : List V} {ds : List PyData}, vs.length = ds.length → (∀ (i : Nat) (v : V) (d : PyData), vs[i]? = some v → ds[i]? = some d → Dp K H v d) → DpAll K H vs ds
  | [], [], _, _ => .nil
  | [], _ :: _, h, _ => by simp at h
  | _ :: _, [], h, _ => by simp at h
  | v :: vs, d :: ds, h, k => .cons (k 0 v d rfl rfl) (dp_all (by simpa using h) fun i w e hw he => k (i + 1) w e hw he)
theorem dp_ints {K : PySem.W.Frag} {H : Hp} : ∀ ns : List Int, DpAll K H (ns.map V.int) (ns.map PyData.int)
  | [] => .nil
  | i :: r => .cons (.int i) (dp_ints r)
theorem atI_end {α : Type} {xs : List α} {v : α} (h : xs[xs.length - 1]? = some v) : atI xs (-1) = some v := by
  obtain ⟨hl, e⟩ := List.getElem?_eq_some_iff.mp h
  unfold atI ixN
  rw [if_neg (by decide), if_pos (by omega)]
  have e1 : ((-1 : Int) + (xs.length : Int)).toNat = xs.length - 1 := by omega
  rw [e1]
  exact h
def rListOf (K : PySem.W.Frag) : List V → Hp → VK → Prop := fun xs H Q => ∃ p ys, xs = [.ref p] ∧ (SqL K H p ys ∨ SqT K H p ys) ∧ ∀ l, H l = none → Q (.ref l) (upd H l (.lst ys))
end BM

/-! ## A def that is called with the caught error, in the suite that holds it: nothing leaves it -/
namespace BM
open PySem PySem.Spec PyProof.Rows L2
abbrev SpE := Addr → Value → Option Addr → List V → Hp → VK → Prop
structure FnE (P : Program) (w : World) (K : PySem.W.Frag) (mg : Str → Option Value) (base : Heap) (k : Nat) (f : Addr) (fd : FuncData) (ps : List Str) (sp : SpE) : Prop where
  len : ∀ a c d vs H Q, sp a c d vs H Q → vs.length = ps.length
  go : ∀ (A : Around) (outer : List Env) (s : Shared) (H : Hp) (args : Args) (us : List Value) (vs : List V) (Q : VK) (p : Addr × Obj) (c : Value) (d : Option Addr), Zc c d p.2 → (∃ ws, p.2.data = .fields ws) →
    L2H.RoomH k A → L2H.PinOk outer H s p → Env0 P w K mg base A outer s H → BindsTo s fd args (ps.zip us) → Vals vs us → sp p.1 c d vs H Q → codeAny (model P w) A (.call (.ref f) args) (CR CX0 outer P w H s Q E0) s
theorem cells_ok {scope : Scope} {n : Nat} {ps : List Str} {us : List Value} (par : ∀ x ∈ ps, scope.names.lookup x = some .local ∨ scope.names.lookup x = some .cell) :
    ∀ y ∈ ps.zip us, scope.names.lookup y.1 = some .local ∨ (scope.names.lookup y.1 = some .cell ∧ ((cellsFrom n scope.names []).lookup y.1).isSome = true) := by
  intro y hy
  obtain ⟨x, v⟩ := y
  have hx := par x (List.of_mem_zip hy).1
  cases hx with
  | inl q => exact Or.inl q
  | inr q => exact Or.inr ⟨q, PySem.W.cellsFrom_some _ _ _ (Or.inl q)⟩
theorem fn_ofE {P : Program} {w : World} {K : PySem.W.Frag} {mg : Str → Option Value} {base : Heap} {k : Nat} {x qual : Str} {st : Stmt} {f : Addr} {fd : FuncData} {N ps : List Str} {sp : SpE}
    (F : Fun K x qual st f fd) (S : FnScope N ps (defScope st)) (len : ∀ a c d vs H Q, sp a c d vs H Q → vs.length = ps.length)
    (body : ∀ (cdv : Value) (A : Around) (outer : List Env) (s : Shared) (H : Hp) (vs : List V) (Q : VK) (p : Addr × Obj) (c : Value) (d : Option Addr), Zc c d p.2 → (∃ ws, p.2.data = .fields ws) →
      L2H.RoomH k (A.deeper (envOfC qual (defScope st) s.heap.objs.size f cdv)) → sp p.1 c d vs H Q →
      ∃ t, PSs (L2H.cxH CX0 P w K mg base N qual (defScope st) f cdv A outer s H E0 p) (defBody st) t ∧ t { nx := fun _ H' => Q .non H', rt := Q } (L2.start N vs) H) :
    FnE P w K mg base (k + 1) f fd ps sp := by
  obtain ⟨oc, od, kV, doc, pm, an, cdv, ct, osl, e0, lk, hcd⟩ := F.ex
  subst e0
  refine ⟨len, ?_⟩
  intro A outer s H args us vs Q p c d hz hf hr hpin ev hb r hsp
  have hl := len _ _ _ _ _ _ hsp
  have kin : K.In s.heap := ev.mod.kin.keeps (fun b o q => (ev.bs b o q).1)
  have nol : s.heap.NoLimit := ev.mod.nolimit.keeps (fun b o q => (ev.bs b o q).1)
  refine codeAny_call_function hr.depth (kin _ _ lk) rfl S.co S.gen rfl
    (PySem.W.codeRec_of kin hcd) (hb _ _ _ _ ?_)
  refine wpAny_newFunctionEnv_cells S.kind (cells_ok S.par)
    fun env he t1 y => ?_
  cases he
  refine ⟨nol.keeps y.toInCall.keep, codeAny_func ?_⟩
  obtain ⟨t, ht, hq⟩ := body cdv A outer s H vs Q p c d hz hf (hr.deeper _) hsp
  have I := L2H.inv_startH (CX := CX0) (E := E0) S hpin ev hl r y
  refine wpAny_mono (ht.run [] t1 _ H _ I hq) (fun fl s' hs => ?_) (fun _ _ z => z)
  match fl, hs with
  | .ret u, hs =>
    obtain ⟨v, σ', H', J, rv, q⟩ := hs
    exact ⟨v, H', J.os, J.bare, J.base, J.hok, rv, q⟩
  | .next, hs =>
    obtain ⟨σ', H', J, q⟩ := hs
    exact ⟨V.non, H', J.os, J.bare, J.base, J.hok, rfl, q⟩
  | .brk, hs =>
    obtain ⟨_, _, _, q⟩ := hs
    exact q.elim
  | .cont, hs =>
    obtain ⟨_, _, _, q⟩ := hs
    exact q.elim
section
variable {X : Cx}
/-- the call, from the suite -/
theorem pe_hotE {k : Nat} {f a : Addr} {fd : FuncData} {ps : List Str} {sp : SpE} {x : Str} {q pos : Pos} {e : Expr} {es : List Expr} {t : TA} {oe : Obj} {c : Value} {d : Option Addr} {pn : List (Addr × Obj)}
    (F : FnE X.prog X.w X.K X.mg X.base k f fd ps sp) (hr : Room k X.A) (hz : Zc c d oe) (hf : ∃ ws, oe.data = .fields ws) (hg : Gl X x) (hm : X.mg x = some (.ref f)) (hk : PySem.W.keepIn X.K (.ref f) = true) (hb : Binds X.K fd ps [])
    (ha : PA (X.suite a ((a, oe) :: pn)) (e :: es) t) (hdb : (x == ("__debug__" : Str)) = false := by decide) (he : starEach (e :: es) X.env = (false, eval e X.env) :: starEach es X.env := by rfl) (hpl : (backTo pos (starEach es X.env)).any (·.1) = false := by rfl) :
    PE (X.suite a ((a, oe) :: pn)) (.Call (.Name x q) (e :: es) [] pos) (fun σ H Q => t σ H fun vs H1 => sp a c d vs H1 Q) := by
  refine ⟨fun pins s σ H Q I h => ?_⟩
  refine wpAny_Call_Name_kw (ld_glob I hg hm ?_ hdb)
  refine PySem.W.callWith_K (h₀ := X.base) I.ok.mod.kin hk (thn (ha.run pos pins s σ H _ I h) ?_) he hpl
  intro us s1 ⟨vs, H1, I1, r, hs⟩
  refine ⟨I1.kIn, ?_⟩
  have hl : us.length = ps.length := by
    rw [← r.length]
    exact F.len _ _ _ _ _ _ hs
  have b := hb s1 us I1.kIn (by rw [List.append_nil]; exact hl)
  rw [List.append_nil] at b
  have P1 := I1.pin (a, oe) (List.mem_append_left _ List.mem_cons_self)
  have hpin : L2H.PinOk X.stack H1 s1 (a, oe) := ⟨P1.1, P1.2.1, fun z => (List.mem_cons.mp (I1.stkSub a z)).elim P1.2.2.1 P1.2.2.2.1, P1.2.2.2.2⟩
  have hr' : L2H.RoomH k (X.suite a ((a, oe) :: pn)).A := ⟨hr.dp, hr.un⟩
  refine wpAny_call (codeAny_mono (F.go _ X.stack s1 H1 ⟨us, []⟩ us vs Q (a, oe) c d hz hf hr' hpin I1.env0 b r hs) ?_)
  intro res s' hq
  match res, hq with
  | .error e, hq => exact hq.elim
  | .ok (.ret u), hq => exact I1.after hq
  | .ok .next, hq => exact hq.elim
  | .ok .brk, hq => exact hq.elim
  | .ok .cont, hq => exact hq.elim
/-- isinstance(e, C), e the pinned error -/
def rIsP (K : PySem.W.Frag) (a : Addr) (cls : Value) (d : Option Addr) : List V → Hp → VK → Prop := fun xs H Q => ∃ (D : Addr) (c : V) (cv : Value) (b : Bool), cls = .ref D ∧ d = none ∧ ExcC K D ∧ xs = [.ref a, c] ∧ (∀ u, RelV c u → u = cv) ∧ PySem.W.kitOne K (.ref D) cv = some b ∧ Q (.bl b) H
theorem call_isP {p : Addr × Obj} {cls : Value} {d : Option Addr} (hp : p ∈ X.pn) (hz : Zc cls d p.2) (hf : ∃ ws, p.2.data = .fields ws) : CallR X (.builtin "isinstance") (rIsP X.K p.1 cls d) := by
  intro pins s σ H xs us Q I r h
  obtain ⟨D, c, cv, b, rfl, rfl, C, rfl, hcv, e, q⟩ := h
  match us, r with
  | [_, u2], .cons rx (.cons rt .nil) =>
    cases rx
    have ec : u2 = cv := hcv _ rt
    cases ec
    obtain ⟨hget, _⟩ := I.pin p (List.mem_append.mpr (Or.inl hp))
    obtain ⟨ws, hv⟩ := hf
    have J : PySem.W.InstAt s.heap p.1 p.2 D none := by
      obtain ⟨pa, ⟨oc, od, oda, osl⟩⟩ := p
      obtain ⟨g1, g2⟩ := hz
      dsimp only at g1 g2 hv
      cases g1
      cases g2
      cases hv
      exact ⟨hget, rfl, rfl, trivial⟩
    refine PySem.W.kia_one (PySem.W.handS_kitx_exc C.hg C.hk C.hs C.hd C.ha C.hn C.ht C.hm) I.kIn J e (fun z => nomatch z) ?_
    intro tk
    exact ⟨.bl b, H, I.kept (t' := tk) (fun _ _ z => z), rfl, q⟩
theorem countP_vals {y : V} : ∀ {ys : List V} {us : List Value}, Vals ys us → ys.all flatV = true → us.countP (eqU y) = ys.countP fun z => eqV z y
  | _, _, .nil, _ => rfl
  | z :: zs, u :: us, .cons r t, f => by
    rw [List.all_cons, Bool.and_eq_true] at f
    rw [List.countP_cons, List.countP_cons, countP_vals t f.2, eqU_of r f.1]
/-- xs.count(y), flat things -/
theorem mt_countV : MtR X "list.count" (fun x xs H Q => ∃ (p : Addr) (ys : List V) (y : V), x = .ref p ∧ xs = [y] ∧ SqL X.K H p ys ∧ flatV y = true ∧ ys.all flatV = true ∧ Q (.int ((ys.countP fun z => eqV z y : Nat) : Int)) H) := by
  intro pins s σ H x xs v us Q I rx rxs h
  obtain ⟨a, ys, y, rfl, rfl, hs, fy, fys, q⟩ := h
  cases rx
  match us, rxs with
  | [uy], .cons ry .nil =>
    obtain ⟨its, rv, ⟨⟨cls, dd, data, sl⟩, n, ho, hc, hdn, hd⟩, hlen⟩ := I.list hs
    cases hc
    cases hd
    refine call_meets PySem.F.slot_list_count ⟨_, ho, rfl⟩ PySem.F.entry_list_count (PySem.F.args_list_count_2 _ _)
      (SeqAt.list_countAt a its.toArray n dd sl uy (eqU y)) ⟨ho, fun u' hu' => mem_eqAt ry fy rv fys u' (by simpa using hu'), ?_⟩
    have ec := countP_vals (y := y) rv fys
    refine ⟨.int ((ys.countP fun z => eqV z y : Nat) : Int), H, I.tok _, ⟨s.toks, ?_⟩, q⟩
    show Value.int ((its.toArray.toList.countP (eqU y) : Nat) : Int) s.toks = _
    rw [← ec]
end
/-! ### the law's own classes of errors -/
def words8 : List Str := ["count", "rule", "deed", "full", "twice", "notkept", "atend", "notwanted"]
/-- the class D is the i-th of the eight -/
structure Kind (K : PySem.W.Frag) (c : Nat → Addr) (D : Addr) (i : Nat) : Prop where
  lt : i < 8
  is : ∀ j, j < 8 → PySem.W.kitOne K (.ref D) (.ref (c j)) = some (decide (j = i))
  ve : PySem.W.kitOne K (.ref D) (.type "ValueError") = some true
  ex : ExcC K D
/-- what the law is told of an error -/
def sp_class (K : PySem.W.Frag) (c : Nat → Addr) : SpE := fun a cls d vs H Q => vs = [.ref a] ∧ ∃ (D : Addr) (i : Nat), cls = .ref D ∧ d = none ∧ Kind K c D i ∧ RetT H [.str "refused", .str (words8.getD i "")] Q
theorem eight {P : Nat → Prop} {i : Nat} (h : i < 8) (h0 : P 0) (h1 : P 1) (h2 : P 2) (h3 : P 3) (h4 : P 4) (h5 : P 5) (h6 : P 6) (h7 : P 7) : P i := by
  match i, h with
  | 0, _ => exact h0
  | 1, _ => exact h1
  | 2, _ => exact h2
  | 3, _ => exact h3
  | 4, _ => exact h4
  | 5, _ => exact h5
  | 6, _ => exact h6
  | 7, _ => exact h7
end BM

/-! ## The tables, in plain Lean -/
namespace BM
open PySem PySem.Spec PyProof.Rows L2
def choStep (m : Nat) (f t : Nat) : Nat := f * (m - t) / (t + 1)
def choN (m c : Nat) : Nat := (List.range c).foldl (choStep m) 1
def waysN (r t : Nat) : Nat := choN (r + t) r
def oftGo (s r : Nat) : Nat → Nat → Nat
  | 0, t => t
  | n + 1, t => if waysN r t ≤ s then oftGo s r n (t + 1) else t
/-- how often -/
def oftN (s r : Nat) : Nat := oftGo s r 101 0
def costN (s r : Nat) : Int := if oftN s r = 0 then 0 else (oftN s r : Int) * ((s : Int) + 1) - (waysN (r + 1) (oftN s r - 1) : Int)
theorem choN_succ (m c : Nat) : choN m (c + 1) = choStep m (choN m c) c := by
  unfold choN
  rw [List.range_succ, List.foldl_append] <;> rfl
theorem ways_far : ∀ r, r < 14 → 1 ≤ r → 100 < waysN r 101 := by decide +kernel
theorem oftGo_le {s r : Nat} : ∀ n t, oftGo s r n t ≤ n + t
  | 0, t => by
    show t ≤ 0 + t
    omega
  | n + 1, t => by
    have h := oftGo_le (s := s) (r := r) n (t + 1)
    show (if waysN r t ≤ s then oftGo s r n (t + 1) else t) ≤ n + 1 + t
    split <;> omega
theorem oftN_le (s r : Nat) : oftN s r ≤ 101 := oftGo_le 101 0
theorem oft_yes {s r n t : Nat} (h : waysN r t ≤ s) : oftGo s r (n + 1) t = oftGo s r n (t + 1) := if_pos h
theorem oft_no {s r n t : Nat} (h : ¬ waysN r t ≤ s) : oftGo s r n t = t := by
  cases n with
  | zero => rfl
  | succ n => exact if_neg h
def goodC (o1 o2 : Option Int) : Bool := among o1 0 100 && among o2 1 12
/-- the best of the marks met so far -/
def bestStep (above found : List Int) (many : Nat) (b : Option Int) (j : Nat) : Option Int :=
  let w := ((j : Int) + 1) + above.getD (many - (j + 1)) 0 + found.getD j 0
  match b with
  | none => some w
  | some v => if w < v then some w else some v
def bestN (above found : List Int) (many : Nat) (j : Nat) : Option Int := (List.range j).foldl (bestStep above found many) none
def nextN (above : List Int) : Nat → List Int
  | 0 => [0]
  | n + 1 => nextN above n ++ [(bestN above (nextN above n) (n + 1) (n + 1)).getD 0]
theorem nextN_len (above : List Int) : ∀ n, (nextN above n).length = n + 1
  | 0 => rfl
  | n + 1 => by
    show (nextN above n ++ [_]).length = n + 1 + 1
    rw [List.length_append, nextN_len above n] <;> rfl
theorem bestN_succ (above found : List Int) (many j : Nat) : bestN above found many (j + 1) = bestStep above found many (bestN above found many j) j := by
  unfold bestN
  rw [List.range_succ, List.foldl_append] <;> rfl
theorem bestStep_some (above found : List Int) (many : Nat) (b : Option Int) (j : Nat) : ∃ v, bestStep above found many b j = some v := by
  unfold bestStep
  cases b with
  | none => exact ⟨_, rfl⟩
  | some v =>
    dsimp only
    split
    · exact ⟨_, rfl⟩
    · exact ⟨_, rfl⟩
def lineOne (n : Nat) : List Int := (List.range (n + 1)).map fun (m : Nat) => ((m : Int) * ((m : Int) + 1)) / 2
def tableN (n : Nat) : Nat → List (List Int)
  | 0 => [lineOne n]
  | r + 1 => tableN n r ++ [nextN ((tableN n r).getLastD []) n]
def oV : Option Int → V
  | none => .non
  | some i => .int i
theorem tableN_len (n : Nat) : ∀ r, (tableN n r).length = r + 1
  | 0 => rfl
  | r + 1 => by
    show (tableN n r ++ [_]).length = r + 1 + 1
    rw [List.length_append, tableN_len n r] <;> rfl
end BM
namespace BM
open PySem PySem.Spec PyProof.Rows L2
def lineK (n : Nat) : Nat → List Int
  | 0 => lineOne n
  | k + 1 => nextN (lineK n k) n
theorem lineK_len (n : Nat) : ∀ k, (lineK n k).length = n + 1
  | 0 => by
    show (lineOne n).length = n + 1
    unfold lineOne
    rw [List.length_map, List.length_range]
  | k + 1 => nextN_len _ n
/-- the rows stand at these places -/
structure Rows (H : Hp) (as : List Addr) (r : Nat) (f : Nat → List Int) : Prop where
  len : as.length = r
  at' : ∀ i a, as[i]? = some a → H a = some (.lst ((f i).map V.int))
def RetRows (H : Hp) (r : Nat) (f : Nat → List Int) (Q : VK) : Prop :=
  ∀ p as H', H p = none → (∀ a ∈ as, H a = none) → Same H H' → H' p = some (.lst (as.map V.ref)) → Rows H' as r f → Q (.ref p) H'
theorem lineOne_take (m : Nat) : (((List.range m).map fun (m : Nat) => ((m : Int) * ((m : Int) + 1)) / 2).map V.int) ++ [V.int (((m : Int) * ((m : Int) + 1)) / 2)] = ((List.range (m + 1)).map fun (m : Nat) => ((m : Int) * ((m : Int) + 1)) / 2).map V.int := by
  rw [List.range_succ, List.map_append, List.map_append] <;> rfl
end BM

/-! ## The least cost: as a greatest of straight lines -/
namespace BM
theorem ways_zero : ∀ r, r < 15 → waysN r 0 = 1 := by decide +kernel
theorem ways_nil : ∀ t, t < 104 → waysN 0 t = 1 := by decide +kernel
theorem pascal' : ((List.range 13).all fun r => (List.range 103).all fun t => waysN (r + 1) (t + 1) == waysN (r + 1) t + waysN r (t + 1)) = true := by decide +kernel
theorem pascal {r t : Nat} (hr : r < 13) (ht : t < 103) : waysN (r + 1) (t + 1) = waysN (r + 1) t + waysN r (t + 1) :=
  eq_of_beq (List.all_eq_true.mp (List.all_eq_true.mp pascal' r (List.mem_range.mpr hr)) t (List.mem_range.mpr ht))
theorem ways_pos : ∀ r t, r < 14 → t < 104 → 1 ≤ waysN r t
  | 0, t, _, ht => by rw [ways_nil t ht]; omega
  | r + 1, 0, hr, _ => by rw [ways_zero (r + 1) (by omega)]; omega
  | r + 1, t + 1, hr, ht => by
    have h := ways_pos (r + 1) t hr (by omega)
    rw [pascal (by omega) (by omega)]
    omega
theorem ways_up {r t : Nat} (hr : r < 13) (ht : t < 103) : waysN (r + 1) t < waysN (r + 1) (t + 1) := by
  have h := ways_pos r (t + 1) (by omega) (by omega)
  rw [pascal hr ht]
  omega
theorem ways_mono {r t : Nat} (h1 : 1 ≤ r) (hr : r < 14) : ∀ d, t + d < 104 → waysN r t + d ≤ waysN r (t + d)
  | 0, _ => Nat.le_refl _
  | d + 1, h => by
    have i := ways_mono (t := t) h1 hr d (by omega)
    obtain ⟨q, rfl⟩ : ∃ q, r = q + 1 := ⟨r - 1, by omega⟩
    have u := ways_up (r := q) (t := t + d) (by omega) (by omega)
    show waysN (q + 1) t + (d + 1) ≤ waysN (q + 1) (t + d + 1)
    omega
theorem ways_lt {r a b : Nat} (h1 : 1 ≤ r) (hr : r < 14) (hb : b < 104) (h : a ≤ b) : waysN r a + (b - a) ≤ waysN r b := by
  have := ways_mono (t := a) h1 hr (b - a) (by omega)
  have e : a + (b - a) = b := by omega
  rw [e] at this
  exact this
theorem ways_ge {r t : Nat} (h1 : 1 ≤ r) (hr : r < 14) (ht : t < 104) : t + 1 ≤ waysN r t := by
  have := ways_lt (a := 0) (b := t) h1 hr ht (Nat.zero_le _)
  rw [ways_zero r (by omega)] at this
  omega
theorem oftGo_spec {s r : Nat} : ∀ n t, (∀ u, u < t → waysN r u ≤ s) → (s < waysN r (n + t)) → (∀ u, u < oftGo s r n t → waysN r u ≤ s) ∧ s < waysN r (oftGo s r n t)
  | 0, t, h, hs => by
    rw [Nat.zero_add] at hs
    exact ⟨h, hs⟩
  | n + 1, t, h, hs => by
    by_cases c : waysN r t ≤ s
    · rw [oft_yes c]
      refine oftGo_spec n (t + 1) (fun u hu => ?_) (by rw [show n + (t + 1) = n + 1 + t by omega]; exact hs)
      by_cases e : u = t
      · rw [e]
        exact c
      · exact h u (by omega)
    · rw [oft_no c]
      exact ⟨h, by omega⟩
theorem oft_spec {s r : Nat} (hs : s ≤ 101) (h1 : 1 ≤ r) (hr : r < 14) : (∀ u, u < oftN s r → waysN r u ≤ s) ∧ s < waysN r (oftN s r) := by
  refine oftGo_spec 101 0 (fun u hu => by omega) ?_
  show s < waysN r 101
  have := ways_ge (t := 101) h1 hr (by omega)
  omega
theorem oft_le {s r : Nat} (hs : s ≤ 101) (h1 : 1 ≤ r) (hr : r < 14) : oftN s r ≤ s := by
  have h := (oft_spec hs h1 hr).1
  by_cases c : oftN s r ≤ s
  · exact c
  · have q := h s (by omega)
    have := ways_ge (t := s) h1 hr (by omega)
    omega
def phi (r s t : Nat) : Int := if t = 0 then 0 else (t : Int) * ((s : Int) + 1) - (waysN (r + 1) (t - 1) : Int)
theorem cost_phi (s r : Nat) : costN s r = phi r s (oftN s r) := rfl
theorem phi_step {r s t : Nat} (hr : r < 13) (ht : t < 103) : phi r s (t + 1) = phi r s t + ((s : Int) + 1) - (waysN r t : Int) := by
  cases t with
  | zero =>
    show (if (0 + 1 : Nat) = 0 then (0 : Int) else ((0 + 1 : Nat) : Int) * ((s : Int) + 1) - (waysN (r + 1) 0 : Int)) = 0 + ((s : Int) + 1) - (waysN r 0 : Int)
    rw [if_neg (by omega), ways_zero (r + 1) (by omega), ways_zero r (by omega)]
    omega
  | succ t =>
    have p := pascal (r := r) (t := t) hr (by omega)
    show (if (t + 1 + 1 : Nat) = 0 then (0 : Int) else ((t + 1 + 1 : Nat) : Int) * ((s : Int) + 1) - (waysN (r + 1) (t + 1) : Int)) = (if (t + 1 : Nat) = 0 then (0 : Int) else ((t + 1 : Nat) : Int) * ((s : Int) + 1) - (waysN (r + 1) t : Int)) + ((s : Int) + 1) - (waysN r (t + 1) : Int)
    rw [if_neg (by omega), if_neg (by omega), p]
    have e : ((t + 1 + 1 : Nat) : Int) * ((s : Int) + 1) = ((t + 1 : Nat) : Int) * ((s : Int) + 1) + ((s : Int) + 1) := by
      rw [Int.natCast_add (t + 1) 1, Int.add_mul]
      show _ + (1 : Int) * _ = _
      rw [Int.one_mul]
    rw [e, Int.natCast_add]
    omega
/-- the least cost is the greatest of the lines -/
theorem phi_le {r s t : Nat} (hs : s ≤ 101) (h1 : 1 ≤ r) (hr : r < 13) (ht : t ≤ 103) : phi r s t ≤ costN s r := by
  obtain ⟨a, b⟩ := oft_spec (s := s) (r := r) hs h1 (by omega)
  have o := oft_le (s := s) (r := r) hs h1 (by omega)
  rw [cost_phi]
  have up : ∀ d, d ≤ oftN s r → phi r s (oftN s r - d) ≤ phi r s (oftN s r) := by
    intro d
    induction d with
    | zero => intro _; exact Int.le_refl _
    | succ d ih =>
      intro hd
      have i := ih (by omega)
      have st := phi_step (r := r) (s := s) (t := oftN s r - (d + 1)) (by omega) (by omega)
      have w := a (oftN s r - (d + 1)) (by omega)
      have e : oftN s r - (d + 1) + 1 = oftN s r - d := by omega
      rw [e] at st
      omega
  have down : ∀ d, oftN s r + d ≤ 103 → phi r s (oftN s r + d) ≤ phi r s (oftN s r) := by
    intro d
    induction d with
    | zero => intro _; exact Int.le_refl _
    | succ d ih =>
      intro hd
      have i := ih (by omega)
      have st := phi_step (r := r) (s := s) (t := oftN s r + d) (by omega) (by omega)
      have w := ways_lt (r := r) (a := oftN s r) (b := oftN s r + d) h1 (by omega) (by omega) (by omega)
      rw [show oftN s r + (d + 1) = oftN s r + d + 1 by omega]
      omega
  by_cases c : t ≤ oftN s r
  · have := up (oftN s r - t) (by omega)
    rw [show oftN s r - (oftN s r - t) = t by omega] at this
    exact this
  · have := down (t - oftN s r) (by omega)
    rw [show oftN s r + (t - oftN s r) = t by omega] at this
    exact this
theorem cost_nonneg {s r : Nat} (hs : s ≤ 101) (h1 : 1 ≤ r) (hr : r < 13) : 0 ≤ costN s r := phi_le (t := 0) hs h1 hr (by omega)
/-- no mark does better -/
theorem cost_mark {s r m : Nat} (hs : s ≤ 101) (h1 : 1 ≤ r) (hr : r < 12) (hm : 1 ≤ m) (hms : m ≤ s) : costN s (r + 1) ≤ (m : Int) + costN (s - m) r + costN (m - 1) (r + 1) := by
  rw [cost_phi s (r + 1)]
  have o := oft_le (s := s) (r := r + 1) hs (by omega) (by omega)
  cases e : oftN s (r + 1) with
  | zero =>
    have a := cost_nonneg (s := s - m) (r := r) (by omega) h1 (by omega)
    have b := cost_nonneg (s := m - 1) (r := r + 1) (by omega) (by omega) (by omega)
    show (0 : Int) ≤ _
    omega
  | succ t =>
    rw [e] at o
    have a := phi_le (s := s - m) (r := r) (t := t + 1) (by omega) h1 (by omega) (by omega)
    have b := phi_le (s := m - 1) (r := r + 1) (t := t) (by omega) (by omega) (by omega) (by omega)
    have e1 : phi (r + 1) s (t + 1) = ((t + 1 : Nat) : Int) * ((s : Int) + 1) - (waysN (r + 1 + 1) t : Int) := by
      show (if (t + 1 : Nat) = 0 then (0 : Int) else _) = _
      rw [if_neg (by omega)] <;> rfl
    have e2 : phi r (s - m) (t + 1) = ((t + 1 : Nat) : Int) * (((s - m : Nat) : Int) + 1) - (waysN (r + 1) t : Int) := by
      show (if (t + 1 : Nat) = 0 then (0 : Int) else _) = _
      rw [if_neg (by omega)] <;> rfl
    have q1 : ((t + 1 : Nat) : Int) * (((s - m : Nat) : Int) + 1) + ((t + 1 : Nat) : Int) * (m : Int) = ((t + 1 : Nat) : Int) * ((s : Int) + 1) := by
      rw [← Int.mul_add]
      congr 1
      omega
    have e3 : phi (r + 1) (m - 1) t = (t : Int) * (m : Int) - (if t = 0 then 0 else (waysN (r + 1 + 1) (t - 1) : Int)) := by
      show (if t = 0 then (0 : Int) else (t : Int) * (((m - 1 : Nat) : Int) + 1) - _) = _
      by_cases c : t = 0
      · rw [if_pos c, if_pos c, c]
        show (0 : Int) = 0 * (m : Int) - 0
        rw [Int.zero_mul] <;> rfl
      · rw [if_neg c, if_neg c, show (((m - 1 : Nat) : Int) + 1) = (m : Int) by omega]
    have q2 : ((t + 1 : Nat) : Int) * (m : Int) = (t : Int) * (m : Int) + (m : Int) := by
      rw [Int.natCast_add t 1, Int.add_mul]
      show _ + (1 : Int) * _ = _
      rw [Int.one_mul]
    have p : (waysN (r + 1 + 1) t : Int) = (if t = 0 then 0 else (waysN (r + 1 + 1) (t - 1) : Int)) + (waysN (r + 1) t : Int) := by
      cases t with
      | zero =>
        rw [if_pos rfl, ways_zero (r + 1 + 1) (by omega), ways_zero (r + 1) (by omega)] <;> rfl
      | succ t =>
        rw [if_neg (by omega), pascal (r := r + 1) (t := t) (by omega) (by omega), Int.natCast_add] <;> rfl
    omega
/-- one room more never costs more -/
theorem cost_room {s r : Nat} (hs : s ≤ 101) (h1 : 1 ≤ r) (hr : r < 12) : costN s (r + 1) ≤ costN s r := by
  rw [cost_phi s (r + 1)]
  have o := oft_le (s := s) (r := r + 1) hs (by omega) (by omega)
  refine Int.le_trans ?_ (phi_le (t := oftN s (r + 1)) hs h1 (by omega) (by omega))
  unfold phi
  by_cases c : oftN s (r + 1) = 0
  · rw [if_pos c, if_pos c]
    exact Int.le_refl _
  · rw [if_neg c, if_neg c]
    have : waysN (r + 1) (oftN s (r + 1) - 1) ≤ waysN (r + 1 + 1) (oftN s (r + 1) - 1) := by
      have hu : oftN s (r + 1) - 1 < 103 := by omega
      generalize oftN s (r + 1) - 1 = u at hu ⊢
      cases u with
      | zero => rw [ways_zero (r + 1) (by omega), ways_zero (r + 1 + 1) (by omega)]; omega
      | succ t =>
        rw [pascal (r := r + 1) (t := t) (by omega) (by omega)]
        omega
    omega
end BM

/-! ## The table's lines tell the least cost -/
namespace BM
def markN (s r : Nat) : Nat := min (waysN r (oftN s r - 1)) (s + 1 - waysN (r - 1) (oftN s r - 1))
def markOk (s r : Nat) : Bool := s == 0 || (decide (1 ≤ markN s (r + 1)) && decide (markN s (r + 1) ≤ s) && decide (costN s (r + 1) = (markN s (r + 1) : Int) + costN (s - markN s (r + 1)) r + costN (markN s (r + 1) - 1) (r + 1)))
theorem markOk1 : ((List.range 101).all fun s => (List.range 2).all fun r => markOk s (r + 1)) = true := by decide +kernel
theorem markOk2 : ((List.range 101).all fun s => (List.range 4).all fun r => markOk s (r + 3)) = true := by decide +kernel
theorem markOk3 : ((List.range 101).all fun s => (List.range 5).all fun r => markOk s (r + 7)) = true := by decide +kernel
theorem mark_ok {s r : Nat} (hs : s ≤ 100) (h0 : 1 ≤ s) (h1 : 1 ≤ r) (hr : r < 12) : 1 ≤ markN s (r + 1) ∧ markN s (r + 1) ≤ s ∧ costN s (r + 1) = (markN s (r + 1) : Int) + costN (s - markN s (r + 1)) r + costN (markN s (r + 1) - 1) (r + 1) := by
  have h : markOk s r = true := by
    by_cases c : r < 3
    · have := List.all_eq_true.mp (List.all_eq_true.mp markOk1 s (List.mem_range.mpr (by omega))) (r - 1) (List.mem_range.mpr (by omega))
      rw [show r - 1 + 1 = r by omega] at this
      exact this
    · by_cases c2 : r < 7
      · have := List.all_eq_true.mp (List.all_eq_true.mp markOk2 s (List.mem_range.mpr (by omega))) (r - 3) (List.mem_range.mpr (by omega))
        rw [show r - 3 + 3 = r by omega] at this
        exact this
      · have := List.all_eq_true.mp (List.all_eq_true.mp markOk3 s (List.mem_range.mpr (by omega))) (r - 7) (List.mem_range.mpr (by omega))
        rw [show r - 7 + 7 = r by omega] at this
        exact this
  unfold markOk at h
  rw [Bool.or_eq_true] at h
  rcases h with h | h
  · have := eq_of_beq h
    omega
  · simp only [Bool.and_eq_true, decide_eq_true_eq] at h
    exact ⟨h.1.1, h.1.2, h.2⟩
theorem one_ok : ((List.range 101).all fun s => decide (costN s 1 = ((s : Int) * ((s : Int) + 1)) / 2)) = true := by decide +kernel
theorem cost_one {s : Nat} (hs : s ≤ 100) : costN s 1 = ((s : Int) * ((s : Int) + 1)) / 2 :=
  of_decide_eq_true (List.all_eq_true.mp one_ok s (List.mem_range.mpr (by omega)))
theorem best_min {above found : List Int} {many : Nat} {w : Nat → Int} (hw : ∀ j, j < many → ((j : Int) + 1) + above.getD (many - (j + 1)) 0 + found.getD j 0 = w j) :
    ∀ j, j ≤ many → (bestN above found many j = none ∧ j = 0) ∨ ∃ v, bestN above found many j = some v ∧ (∃ i, i < j ∧ v = w i) ∧ ∀ i, i < j → v ≤ w i
  | 0, _ => .inl ⟨rfl, rfl⟩
  | j + 1, h => by
    have e := bestN_succ above found many j
    have ew := hw j (by omega)
    have st : ∀ b, bestStep above found many b j = match b with | none => some (w j) | some v => if w j < v then some (w j) else some v := by
      intro b
      unfold bestStep
      rw [ew]
    rw [st] at e
    rcases best_min hw j (by omega) with ⟨h0, rfl⟩ | ⟨v, hv, ⟨i, hi, hvi⟩, hm⟩
    · rw [h0] at e
      refine .inr ⟨w 0, e, ⟨0, by omega, rfl⟩, fun i hi => ?_⟩
      rw [show i = 0 by omega]
      exact Int.le_refl _
    · rw [hv] at e
      by_cases c : w j < v
      · have e' : bestN above found many (j + 1) = some (w j) := e.trans (if_pos c)
        refine .inr ⟨w j, e', ⟨j, by omega, rfl⟩, fun i' hi' => ?_⟩
        by_cases q : i' = j
        · rw [q]
          exact Int.le_refl _
        · have := hm i' (by omega)
          omega
      · have e' : bestN above found many (j + 1) = some v := e.trans (if_neg c)
        refine .inr ⟨v, e', ⟨i, by omega, hvi⟩, fun i' hi' => ?_⟩
        by_cases q : i' = j
        · rw [q]
          omega
        · exact hm i' (by omega)
def lineC (n r : Nat) : List Int := (List.range (n + 1)).map fun m => costN m r
theorem lineC_get {n r j : Nat} (h : j ≤ n) : (lineC n r).getD j 0 = costN j r := by
  unfold lineC
  rw [List.getD_eq_getElem?_getD, List.getElem?_map, List.getElem?_range (by omega)] <;> rfl
theorem next_line {n r : Nat} (h1 : 1 ≤ r) (hr : r < 12) : ∀ k, k ≤ n → n ≤ 100 → nextN (lineC n r) k = lineC k (r + 1)
  | 0, _, _ => by
    show [(0 : Int)] = [costN 0 (r + 1)]
    have o := oft_le (s := 0) (r := r + 1) (by omega) (by omega) (by omega)
    have e : costN 0 (r + 1) = 0 := by
      unfold costN
      rw [if_pos (by omega)]
    rw [e]
  | k + 1, hk, hn => by
    have ih := next_line h1 hr k (by omega) hn
    have e : lineC (k + 1) (r + 1) = lineC k (r + 1) ++ [costN (k + 1) (r + 1)] := by
      unfold lineC
      rw [List.range_succ (n := k + 1), List.map_append] <;> rfl
    show nextN (lineC n r) k ++ [(bestN (lineC n r) (nextN (lineC n r) k) (k + 1) (k + 1)).getD 0] = _
    rw [ih, e]
    have hw : ∀ j, j < k + 1 → ((j : Int) + 1) + (lineC n r).getD (k + 1 - (j + 1)) 0 + (lineC k (r + 1)).getD j 0 = ((j : Int) + 1) + costN (k + 1 - (j + 1)) r + costN j (r + 1) := fun j hj => by
      rw [lineC_get (by omega), lineC_get (by omega)]
    rcases best_min hw (k + 1) (Nat.le_refl _) with ⟨_, h0⟩ | ⟨v, hv, ⟨i, hi, hvi⟩, hm⟩
    · omega
    · rw [hv]
      obtain ⟨m1, m2, m3⟩ := mark_ok (s := k + 1) (r := r) (by omega) (by omega) h1 hr
      have a := hm (markN (k + 1) (r + 1) - 1) (by omega)
      have b := cost_mark (s := k + 1) (r := r) (m := i + 1) (by omega) h1 hr (by omega) (by omega)
      rw [show markN (k + 1) (r + 1) - 1 + 1 = markN (k + 1) (r + 1) by omega] at a
      rw [show i + 1 - 1 = i by omega] at b
      have ev : v = costN (k + 1) (r + 1) := by omega
      rw [ev] <;> rfl
theorem lineK_eq {n : Nat} (hn : n ≤ 100) : ∀ k, k < 12 → lineK n k = lineC n (k + 1)
  | 0, _ => by
    show lineOne n = lineC n 1
    unfold lineOne lineC
    refine List.map_congr_left fun m hm => ?_
    exact (cost_one (by have := List.mem_range.mp hm; omega)).symm
  | k + 1, hk => by
    show nextN (lineK n k) n = lineC n (k + 1 + 1)
    rw [lineK_eq hn k (by omega)]
    exact next_line (by omega) (by omega) n (Nat.le_refl _) hn
end BM

/-! ## Deeds and plans, in plain Lean -/
namespace BM
inductive Deed where
  | keep | meet | take (p : Nat) | drop (p : Nat) | go (n : Nat)
  deriving DecidableEq
def aPre (start steps : Nat) : Nat → List Deed
  | 0 => []
  | i + 1 => aPre start steps i ++ [.go (steps - i), .meet, .take start]
def againN (start steps : Nat) : List Deed := aPre start steps steps ++ [.meet]
def fromN : Nat → Nat → Nat → Nat → List Deed
  | 0, _, _, _ => []
  | k + 1, start, steps, room => if steps = 0 ∨ room = 1 then againN start steps else
      ([.go (markN steps room), .keep] ++ fromN k (start + markN steps room) (steps - markN steps room) (room - 1) ++ [.drop (start + markN steps room), .take start]) ++ fromN k start (markN steps room - 1) room
def planN (steps room : Nat) : List Deed := if steps = 0 then [.meet] else [.keep] ++ fromN 101 0 steps room
def costD1 : Deed → Nat
  | .go n => n
  | _ => 0
def costD (ds : List Deed) : Nat := (ds.map costD1).sum
def mostStep (s : Int × Int) : Deed → Int × Int
  | .keep => (s.1 + 1, max s.2 (s.1 + 1))
  | .drop _ => (s.1 - 1, max s.2 (s.1 - 1))
  | _ => (s.1, max s.2 s.1)
def mostD (ds : List Deed) : Int := (ds.foldl mostStep (0, 0)).2
/-- a hand with its kept places -/
structure WSt where
  pl : Nat
  mks : List Nat
  wa : Int
  co : Nat
  mo : Nat
  deriving DecidableEq
def stepW (n R : Nat) (s : WSt) : Deed → Option WSt
  | .keep => if s.pl ∉ s.mks ∧ s.mks.length < R then some { s with mks := s.mks ++ [s.pl], mo := max s.mo (s.mks.length + 1) } else none
  | .meet => if (s.pl : Int) = s.wa then some { s with wa := s.wa - 1 } else none
  | .go m => if 0 < m ∧ s.pl + m ≤ n then some { s with pl := s.pl + m, co := s.co + m } else none
  | .take p => if p ∈ s.mks then some { s with pl := p } else none
  | .drop p => if p ∈ s.mks then some { s with mks := s.mks.filter (· ≠ p) } else none
def runW (n R : Nat) : List Deed → WSt → Option WSt
  | [], s => some s
  | d :: ds, s => (stepW n R s d).bind (runW n R ds)
theorem ite_some {α : Type} {c : Prop} [Decidable c] {x u : α} (h : (if c then some x else none) = some u) : c ∧ x = u := by
  by_cases q : c
  · rw [if_pos q] at h
    exact ⟨q, Option.some.inj h⟩
  · rw [if_neg q] at h
    cases h
theorem runW_append (n R : Nat) : ∀ (ds es : List Deed) (s : WSt), runW n R (ds ++ es) s = (runW n R ds s).bind (runW n R es)
  | [], _, _ => rfl
  | d :: ds, es, s => by
    show (stepW n R s d).bind (runW n R (ds ++ es)) = ((stepW n R s d).bind (runW n R ds)).bind (runW n R es)
    cases stepW n R s d with
    | none => rfl
    | some t => exact runW_append n R ds es t
theorem costD_append (ds es : List Deed) : costD (ds ++ es) = costD ds + costD es := by
  unfold costD
  rw [List.map_append, List.sum_append]
theorem runW_cost {n R : Nat} : ∀ {ds : List Deed} {s t : WSt}, runW n R ds s = some t → t.co = s.co + costD ds
  | [], s, t, h => by
    have e : s = t := Option.some.inj h
    rw [e]
    show t.co = t.co + 0
    omega
  | d :: ds, s, t, h => by
    have h : (stepW n R s d).bind (runW n R ds) = some t := h
    cases e : stepW n R s d with
    | none => rw [e] at h; cases h
    | some u =>
      rw [e] at h
      have ih := runW_cost (s := u) h
      have e2 : u.co = s.co + costD1 d := by
        cases d with
        | keep => obtain ⟨_, rfl⟩ := ite_some (α := WSt) e; rfl
        | meet => obtain ⟨_, rfl⟩ := ite_some (α := WSt) e; rfl
        | go m => obtain ⟨_, rfl⟩ := ite_some (α := WSt) e; rfl
        | take p => obtain ⟨_, rfl⟩ := ite_some (α := WSt) e; rfl
        | drop p => obtain ⟨_, rfl⟩ := ite_some (α := WSt) e; rfl
      have e3 : costD (d :: ds) = costD1 d + costD ds := by
        unfold costD
        rw [List.map_cons, List.sum_cons]
      omega
theorem filter_len_drop {p : Nat} : ∀ {l : List Nat}, l.Nodup → p ∈ l → (l.filter (· ≠ p)).length + 1 = l.length
  | [], _, h => by cases h
  | x :: r, hn, h => by
    obtain ⟨h1, h2⟩ := List.nodup_cons.mp hn
    by_cases e : x = p
    · subst e
      have q : r.filter (· ≠ x) = r := List.filter_eq_self.mpr fun y hy => decide_eq_true fun z => h1 (z ▸ hy)
      rw [List.filter_cons, if_neg (by simp), q] <;> rfl
    · have hm : p ∈ r := by
        rcases List.mem_cons.mp h with z | z
        · exact absurd z.symm e
        · exact z
      have ih := filter_len_drop h2 hm
      rw [List.filter_cons, if_pos (decide_eq_true e), List.length_cons, List.length_cons]
      omega
theorem nodup_snoc {l : List Nat} {x : Nat} (h : l.Nodup) (hx : x ∉ l) : (l ++ [x]).Nodup := by
  rw [List.nodup_append]
  refine ⟨h, by simp, ?_⟩
  intro a ha b hb
  rw [List.mem_singleton.mp hb]
  rintro rfl
  exact hx ha
/-- the count of the kept ones goes along -/
theorem runW_most {n R : Nat} : ∀ {ds : List Deed} {s t : WSt} {m : Int × Int}, runW n R ds s = some t → s.mks.Nodup → m.1 = (s.mks.length : Int) → m.2 = (s.mo : Int) → s.mks.length ≤ s.mo → (ds.foldl mostStep m).2 = (t.mo : Int)
  | [], s, t, m, h, _, _, h2, _ => by
    have e : s = t := Option.some.inj h
    rw [← e]
    exact h2
  | d :: ds, s, t, m, h, hn, h1, h2, h3 => by
    have h : (stepW n R s d).bind (runW n R ds) = some t := h
    cases e : stepW n R s d with
    | none => rw [e] at h; cases h
    | some u =>
      rw [e] at h
      have key : u.mks.Nodup ∧ (mostStep m d).1 = (u.mks.length : Int) ∧ (mostStep m d).2 = (u.mo : Int) ∧ u.mks.length ≤ u.mo := by
        cases d with
        | keep =>
          obtain ⟨c, rfl⟩ := ite_some (α := WSt) e
          refine ⟨nodup_snoc hn c.1, ?_, ?_, ?_⟩
          · show m.1 + 1 = ((s.mks ++ [s.pl]).length : Int)
            rw [List.length_append, h1] <;> rfl
          · show max m.2 (m.1 + 1) = ((max s.mo (s.mks.length + 1) : Nat) : Int)
            omega
          · show (s.mks ++ [s.pl]).length ≤ max s.mo (s.mks.length + 1)
            rw [List.length_append]
            show s.mks.length + 1 ≤ _
            omega
        | meet =>
          obtain ⟨c, rfl⟩ := ite_some (α := WSt) e
          refine ⟨hn, h1, ?_, h3⟩
          show max m.2 m.1 = (s.mo : Int)
          omega
        | go k =>
          obtain ⟨c, rfl⟩ := ite_some (α := WSt) e
          refine ⟨hn, h1, ?_, h3⟩
          show max m.2 m.1 = (s.mo : Int)
          omega
        | take p =>
          obtain ⟨c, rfl⟩ := ite_some (α := WSt) e
          refine ⟨hn, h1, ?_, h3⟩
          show max m.2 m.1 = (s.mo : Int)
          omega
        | drop p =>
          obtain ⟨c, rfl⟩ := ite_some (α := WSt) e
          have fl := filter_len_drop hn c
          refine ⟨hn.filter _, ?_, ?_, ?_⟩
          · show m.1 - 1 = ((s.mks.filter (· ≠ p)).length : Int)
            omega
          · show max m.2 (m.1 - 1) = (s.mo : Int)
            omega
          · show (s.mks.filter (· ≠ p)).length ≤ s.mo
            omega
      exact runW_most (s := u) (m := mostStep m d) h key.1 key.2.1 key.2.2.1 key.2.2.2
theorem filter_last {M : List Nat} {x : Nat} (hx : x ∉ M) : (M ++ [x]).filter (· ≠ x) = M := by
  rw [List.filter_append, List.filter_cons, if_neg (by simp), List.filter_nil, List.append_nil]
  exact List.filter_eq_self.mpr fun y hy => decide_eq_true fun z => hx (z ▸ hy)
theorem again_run {n R start : Nat} {M : List Nat} {mo : Nat} (hM : start ∈ M) : ∀ steps i co, i ≤ steps → start + steps ≤ n →
    ∃ c, runW n R (aPre start steps i) { pl := start, mks := M, wa := ((start + steps : Nat) : Int), co := co, mo := mo } = some { pl := start, mks := M, wa := ((start + steps : Nat) : Int) - (i : Int), co := c, mo := mo }
  | steps, 0, co, _, _ => ⟨co, by show some _ = some _; simp⟩
  | steps, i + 1, co, hi, hn => by
    obtain ⟨c, ih⟩ := again_run hM steps i co (by omega) hn
    refine ⟨c + (steps - i), ?_⟩
    show runW n R (aPre start steps i ++ [.go (steps - i), .meet, .take start]) _ = _
    rw [runW_append, ih]
    show ((stepW n R _ (.go (steps - i))).bind fun s => (stepW n R s .meet).bind fun s => (stepW n R s (.take start)).bind fun s => some s) = _
    have e1 : stepW n R { pl := start, mks := M, wa := ((start + steps : Nat) : Int) - (i : Int), co := c, mo := mo } (.go (steps - i)) = some { pl := start + (steps - i), mks := M, wa := ((start + steps : Nat) : Int) - (i : Int), co := c + (steps - i), mo := mo } := by
      show (if 0 < steps - i ∧ start + (steps - i) ≤ n then _ else _) = _
      rw [if_pos ⟨by omega, by omega⟩]
    have e2 : stepW n R { pl := start + (steps - i), mks := M, wa := ((start + steps : Nat) : Int) - (i : Int), co := c + (steps - i), mo := mo } .meet = some { pl := start + (steps - i), mks := M, wa := ((start + steps : Nat) : Int) - (i : Int) - 1, co := c + (steps - i), mo := mo } := by
      show (if ((start + (steps - i) : Nat) : Int) = ((start + steps : Nat) : Int) - (i : Int) then _ else _) = _
      rw [if_pos (by omega)]
    have e3 : stepW n R { pl := start + (steps - i), mks := M, wa := ((start + steps : Nat) : Int) - (i : Int) - 1, co := c + (steps - i), mo := mo } (.take start) = some { pl := start, mks := M, wa := ((start + steps : Nat) : Int) - (i : Int) - 1, co := c + (steps - i), mo := mo } := if_pos hM
    rw [e1]
    show ((stepW n R _ .meet).bind _) = _
    rw [e2]
    show ((stepW n R _ (.take start)).bind _) = _
    rw [e3]
    show some _ = some _
    congr 2
    omega
theorem aPre_cost (start steps : Nat) : ∀ i, i ≤ steps → (2 * costD (aPre start steps i) : Nat) + i * i = i * (2 * steps + 1)
  | 0, _ => by
    show 2 * 0 + 0 * 0 = 0 * (2 * steps + 1)
    simp
  | i + 1, h => by
    have ih := aPre_cost start steps i (by omega)
    have e : costD (aPre start steps (i + 1)) = costD (aPre start steps i) + (steps - i) := by
      show costD (aPre start steps i ++ [.go (steps - i), .meet, .take start]) = _
      rw [costD_append]
      show _ + ((steps - i) + (0 + (0 + 0))) = _
      omega
    rw [e]
    have q1 : (i + 1) * (i + 1) = i * i + 2 * i + 1 := by
      rw [Nat.add_mul, Nat.mul_add, Nat.one_mul, Nat.mul_one]
      omega
    have q2 : (i + 1) * (2 * steps + 1) = i * (2 * steps + 1) + 2 * steps + 1 := by
      rw [Nat.add_mul, Nat.one_mul]
      omega
    omega
theorem again_cost {start steps : Nat} (hs : steps ≤ 100) : (costD (againN start steps) : Int) = costN steps 1 := by
  rw [cost_one hs]
  unfold againN
  have h := aPre_cost start steps steps (Nat.le_refl _)
  rw [costD_append]
  have e : costD [Deed.meet] = 0 := rfl
  rw [e]
  have q : steps * (2 * steps + 1) = 2 * (steps * steps) + steps := by
    rw [Nat.mul_add, Nat.mul_one, Nat.mul_left_comm]
  have q2 : (steps : Int) * ((steps : Int) + 1) = ((steps * steps + steps : Nat) : Int) := by
    rw [Int.mul_add, Int.mul_one, Int.natCast_add, Int.natCast_mul]
  rw [q2]
  omega
/-- the plan's deeds from a kept place on: all from the end down to it are met, and what was kept is kept -/
theorem from_run {n R : Nat} : ∀ k start steps room (M : List Nat) (co mo : Nat), steps < k → 1 ≤ room → room ≤ 12 → steps ≤ 100 → start + steps ≤ n → start ∈ M → (∀ x ∈ M, x ≤ start) → M.length + room ≤ R + 1 →
    ∃ c m, runW n R (fromN k start steps room) { pl := start, mks := M, wa := ((start + steps : Nat) : Int), co := co, mo := mo } = some { pl := start, mks := M, wa := (start : Int) - 1, co := c, mo := m }
  | 0, _, steps, _, _, _, _, h, _, _, _, _, _, _, _ => by omega
  | k + 1, start, steps, room, M, co, mo, hk, h1, h2, h3, h4, hM, hU, hR => by
    by_cases c : steps = 0 ∨ room = 1
    · obtain ⟨c', e⟩ := again_run (n := n) (R := R) (mo := mo) hM steps steps co (Nat.le_refl _) h4
      refine ⟨c', mo, ?_⟩
      show runW n R (if steps = 0 ∨ room = 1 then againN start steps else _) _ = _
      rw [if_pos c]
      unfold againN
      rw [runW_append, e]
      show (stepW n R _ .meet).bind (fun s => some s) = _
      have e2 : stepW n R { pl := start, mks := M, wa := ((start + steps : Nat) : Int) - (steps : Int), co := c', mo := mo } .meet = some { pl := start, mks := M, wa := ((start + steps : Nat) : Int) - (steps : Int) - 1, co := c', mo := mo } := by
        show (if ((start : Nat) : Int) = ((start + steps : Nat) : Int) - (steps : Int) then _ else _) = _
        rw [if_pos (by omega)]
      rw [e2]
      show some _ = some _
      congr 2
      omega
    · obtain ⟨m1, m2, _⟩ := mark_ok (s := steps) (r := room - 1) h3 (by omega) (by omega) (by omega)
      rw [show room - 1 + 1 = room by omega] at m1 m2
      have hx : start + markN steps room ∉ M := fun z => by
        have := hU _ z
        omega
      show ∃ c m, runW n R (if steps = 0 ∨ room = 1 then againN start steps else _) _ = _
      rw [if_neg c]
      obtain ⟨c1, q1, e1⟩ := from_run (n := n) (R := R) k (start + markN steps room) (steps - markN steps room) (room - 1) (M ++ [start + markN steps room]) (co + markN steps room) (max mo (M.length + 1)) (by omega) (by omega) (by omega) (by omega) (by omega) (by simp) (fun x hx => by
        rcases List.mem_append.mp hx with z | z
        · have := hU x z
          omega
        · rw [List.mem_singleton.mp z]
          exact Nat.le_refl _) (by rw [List.length_append]; show M.length + 1 + (room - 1) ≤ R + 1; omega)
      obtain ⟨c2, q2, e2⟩ := from_run (n := n) (R := R) k start (markN steps room - 1) room M c1 q1 (by omega) h1 h2 (by omega) (by omega) hM hU hR
      refine ⟨c2, q2, ?_⟩
      rw [List.append_assoc, List.append_assoc, runW_append]
      have s1 : runW n R [.go (markN steps room), .keep] { pl := start, mks := M, wa := ((start + steps : Nat) : Int), co := co, mo := mo } = some { pl := start + markN steps room, mks := M ++ [start + markN steps room], wa := ((start + steps : Nat) : Int), co := co + markN steps room, mo := max mo (M.length + 1) } := by
        show (stepW n R _ (.go (markN steps room))).bind (fun s => (stepW n R s .keep).bind fun s => some s) = _
        have a1 : stepW n R { pl := start, mks := M, wa := ((start + steps : Nat) : Int), co := co, mo := mo } (.go (markN steps room)) = some { pl := start + markN steps room, mks := M, wa := ((start + steps : Nat) : Int), co := co + markN steps room, mo := mo } := if_pos ⟨by omega, by show start + markN steps room ≤ n; omega⟩
        have a2 : stepW n R { pl := start + markN steps room, mks := M, wa := ((start + steps : Nat) : Int), co := co + markN steps room, mo := mo } .keep = some { pl := start + markN steps room, mks := M ++ [start + markN steps room], wa := ((start + steps : Nat) : Int), co := co + markN steps room, mo := max mo (M.length + 1) } := if_pos ⟨hx, by show M.length < R; omega⟩
        rw [a1]
        show (stepW n R _ .keep).bind _ = _
        rw [a2] <;> rfl
      rw [s1]
      show runW n R (fromN k (start + markN steps room) (steps - markN steps room) (room - 1) ++ ([.drop (start + markN steps room), .take start] ++ fromN k start (markN steps room - 1) room)) _ = _
      rw [runW_append]
      rw [show ((start + markN steps room + (steps - markN steps room) : Nat) : Int) = ((start + steps : Nat) : Int) by omega] at e1
      rw [e1]
      show runW n R ([.drop (start + markN steps room), .take start] ++ fromN k start (markN steps room - 1) room) _ = _
      rw [runW_append]
      have s2 : runW n R [.drop (start + markN steps room), .take start] { pl := start + markN steps room, mks := M ++ [start + markN steps room], wa := ((start + markN steps room : Nat) : Int) - 1, co := c1, mo := q1 } = some { pl := start, mks := M, wa := ((start + markN steps room : Nat) : Int) - 1, co := c1, mo := q1 } := by
        show (stepW n R _ (.drop (start + markN steps room))).bind (fun s => (stepW n R s (.take start)).bind fun s => some s) = _
        have a1 : stepW n R { pl := start + markN steps room, mks := M ++ [start + markN steps room], wa := ((start + markN steps room : Nat) : Int) - 1, co := c1, mo := q1 } (.drop (start + markN steps room)) = some { pl := start + markN steps room, mks := M, wa := ((start + markN steps room : Nat) : Int) - 1, co := c1, mo := q1 } := by
          show (if _ then _ else _) = _
          rw [if_pos (by simp), filter_last hx]
        have a2 : stepW n R { pl := start + markN steps room, mks := M, wa := ((start + markN steps room : Nat) : Int) - 1, co := c1, mo := q1 } (.take start) = some { pl := start, mks := M, wa := ((start + markN steps room : Nat) : Int) - 1, co := c1, mo := q1 } := if_pos hM
        rw [a1]
        show (stepW n R _ (.take start)).bind _ = _
        rw [a2] <;> rfl
      rw [s2]
      show runW n R (fromN k start (markN steps room - 1) room) _ = _
      rw [show ((start + markN steps room : Nat) : Int) - 1 = ((start + (markN steps room - 1) : Nat) : Int) by omega]
      exact e2
theorem from_cost : ∀ k start steps room, steps < k → 1 ≤ room → room ≤ 12 → steps ≤ 100 → (costD (fromN k start steps room) : Int) = costN steps room
  | 0, _, steps, _, h, _, _, _ => by omega
  | k + 1, start, steps, room, hk, h1, h2, h3 => by
    show (costD (if steps = 0 ∨ room = 1 then againN start steps else _) : Int) = _
    by_cases c : steps = 0 ∨ room = 1
    · rw [if_pos c, again_cost h3]
      rcases c with c | c
      · have z : ∀ r, 1 ≤ r → r ≤ 12 → costN 0 r = 0 := fun r q1 q2 => by
          have o := oft_le (s := 0) (r := r) (by omega) q1 (by omega)
          unfold costN
          rw [if_pos (by omega)]
        rw [c, z 1 (by omega) (by omega), z room h1 h2]
      · rw [c]
    · rw [if_neg c]
      obtain ⟨m1, m2, m3⟩ := mark_ok (s := steps) (r := room - 1) h3 (by omega) (by omega) (by omega)
      rw [show room - 1 + 1 = room by omega] at m1 m2 m3
      have i1 := from_cost k (start + markN steps room) (steps - markN steps room) (room - 1) (by omega) (by omega) (by omega) (by omega)
      have i2 := from_cost k start (markN steps room - 1) room (by omega) h1 h2 (by omega)
      rw [costD_append, costD_append, costD_append]
      have a : costD [Deed.go (markN steps room), Deed.keep] = markN steps room := rfl
      have b : costD [Deed.drop (start + markN steps room), Deed.take start] = 0 := rfl
      rw [a, b, m3, Int.natCast_add, Int.natCast_add, Int.natCast_add, i1, i2]
      omega
def wst0 (n : Nat) : WSt := { pl := 0, mks := [], wa := (n : Int), co := 0, mo := 0 }
/-- the plan meets all, at the least cost -/
theorem plan_run {s r : Nat} (hs : s ≤ 100) (h1 : 1 ≤ r) (h2 : r ≤ 12) : ∃ t, runW s r (planN s r) (wst0 s) = some t ∧ t.wa = -1 ∧ (t.co : Int) = costN s r ∧ t.pl = 0 := by
  unfold planN
  by_cases c : s = 0
  · rw [if_pos c]
    have o := oft_le (s := 0) (r := r) (by omega) h1 (by omega)
    have z : costN 0 r = 0 := by
      unfold costN
      rw [if_pos (by omega)]
    rw [c, z]
    exact ⟨{ pl := 0, mks := [], wa := -1, co := 0, mo := 0 }, rfl, rfl, rfl, rfl⟩
  · rw [if_neg c, runW_append]
    have a : runW s r [.keep] (wst0 s) = some { pl := 0, mks := [0], wa := (s : Int), co := 0, mo := 1 } := by
      show (stepW s r (wst0 s) .keep).bind (fun s => some s) = _
      have : stepW s r (wst0 s) .keep = some { pl := 0, mks := [0], wa := (s : Int), co := 0, mo := 1 } := if_pos ⟨by simp [wst0], by show 0 < r; omega⟩
      rw [this] <;> rfl
    obtain ⟨c', m, e⟩ := from_run (n := s) (R := r) 101 0 s r [0] 0 1 (by omega) h1 h2 hs (by omega) (by simp) (fun x hx => by rw [List.mem_singleton.mp hx]; exact Nat.le_refl _) (by show 1 + r ≤ r + 1; omega)
    rw [Nat.zero_add] at e
    refine ⟨_, by rw [a]; exact e, rfl, ?_, rfl⟩
    have q := runW_cost e
    have fc := from_cost 101 0 s r (by omega) h1 h2 hs
    show (c' : Int) = _
    have q' : c' = 0 + costD (fromN 101 0 s r) := q
    rw [q', Nat.zero_add]
    exact fc
end BM

/-! ## Deeds as they stand in memory -/
namespace BM
open PySem PySem.Spec PyProof.Rows L2
def Deed.word : Deed → Str
  | .keep => "keep"
  | .meet => "meet"
  | .take _ => "take"
  | .drop _ => "drop"
  | .go _ => "go"
def Deed.vs : Deed → List V
  | .keep => [.str "keep"]
  | .meet => [.str "meet"]
  | .take p => [.str "take", .int (p : Int)]
  | .drop p => [.str "drop", .int (p : Int)]
  | .go n => [.str "go", .int (n : Int)]
theorem Deed.at0 (d : Deed) : atI d.vs 0 = some (.str d.word) := by cases d <;> rfl
def DS (H : Hp) (ps : List (Addr × Deed)) : Prop := ∀ q ∈ ps, H q.1 = some (.tup q.2.vs)
def refs (ps : List (Addr × Deed)) : List V := ps.map fun q => V.ref q.1
theorem DS.same {H H' : Hp} {ps : List (Addr × Deed)} (e : Same H H') (h : DS H ps) : DS H' ps := fun q hq => e _ _ (h q hq)
theorem DS.append {H : Hp} {ps qs : List (Addr × Deed)} (h : DS H ps) (h' : DS H qs) : DS H (ps ++ qs) := fun q hq => (List.mem_append.mp hq).elim (h q) (h' q)
theorem refs_append (ps qs : List (Addr × Deed)) : refs (ps ++ qs) = refs ps ++ refs qs := List.map_append
theorem refs_len (ps : List (Addr × Deed)) : (refs ps).length = ps.length := List.length_map ..
/-- a new list of deeds is told -/
def RetD (H : Hp) (ds : List Deed) (Q : VK) : Prop := ∀ (p : Addr) (H' : Hp) (ps : List (Addr × Deed)), H p = none → Same H H' → ps.map (·.2) = ds → H' p = some (.lst (refs ps)) → DS H' ps → Q (.ref p) H'
theorem len_of {ps : List (Addr × Deed)} {ds : List Deed} (h : ps.map (·.2) = ds) : ps.length = ds.length := by rw [← h, List.length_map]
theorem aPre_len (start steps : Nat) : ∀ i, (aPre start steps i).length = 3 * i
  | 0 => rfl
  | i + 1 => by
    show (aPre start steps i ++ _).length = _
    rw [List.length_append, aPre_len start steps i]
    show 3 * i + 3 = _
    omega
theorem again_len (start steps : Nat) : (againN start steps).length = 3 * steps + 1 := by
  unfold againN
  rw [List.length_append, aPre_len] <;> rfl
theorem from_len : ∀ k a steps room, steps < k → 1 ≤ room → room ≤ 12 → steps ≤ 100 → (fromN k a steps room).length ≤ 5 * steps + 1
  | 0, _, steps, _, h, _, _, _ => by omega
  | k + 1, a, steps, room, hk, h1, h2, h3 => by
    show (if steps = 0 ∨ room = 1 then againN a steps else _).length ≤ _
    by_cases c : steps = 0 ∨ room = 1
    · rw [if_pos c, again_len]
      omega
    · rw [if_neg c]
      obtain ⟨m1, m2, _⟩ := mark_ok (s := steps) (r := room - 1) h3 (by omega) (by omega) (by omega)
      rw [show room - 1 + 1 = room by omega] at m1 m2
      have i1 := from_len k (a + markN steps room) (steps - markN steps room) (room - 1) (by omega) (by omega) (by omega) (by omega)
      have i2 := from_len k a (markN steps room - 1) room (by omega) h1 h2 (by omega)
      simp only [List.length_append, List.length_cons, List.length_nil]
      omega
theorem plan_len {s r : Nat} (hs : s ≤ 100) (h1 : 1 ≤ r) (h2 : r ≤ 12) : (planN s r).length ≤ 600 := by
  unfold planN
  by_cases c : s = 0
  · rw [if_pos c]
    show 1 ≤ 600
    omega
  · rw [if_neg c, List.length_append]
    have := from_len 101 0 s r (by omega) h1 h2 hs
    show 1 + _ ≤ 600
    omega
def goes : List Deed → List Int
  | [] => []
  | .go n :: ds => (n : Int) :: goes ds
  | _ :: ds => goes ds
theorem goes_snoc : ∀ (ds : List Deed) (d : Deed), goes (ds ++ [d]) = goes ds ++ (match d with | .go n => [(n : Int)] | _ => [])
  | [], d => by cases d <;> rfl
  | e :: ds, d => by
    have ih := goes_snoc ds d
    cases e with
    | go n =>
      show (n : Int) :: goes (ds ++ [d]) = (n : Int) :: goes ds ++ _
      rw [ih] <;> rfl
    | keep => exact ih
    | meet => exact ih
    | take _ => exact ih
    | drop _ => exact ih
theorem goes_sum : ∀ ds : List Deed, (goes ds).sum = (costD ds : Int)
  | [] => rfl
  | e :: ds => by
    have ih := goes_sum ds
    have c : costD (e :: ds) = costD1 e + costD ds := by
      unfold costD
      rw [List.map_cons, List.sum_cons]
    rw [c]
    cases e with
    | go n =>
      show ((n : Int) :: goes ds).sum = ((n + costD ds : Nat) : Int)
      rw [List.sum_cons, ih, Int.natCast_add]
    | keep => show (goes ds).sum = ((0 + costD ds : Nat) : Int); rw [Nat.zero_add]; exact ih
    | meet => show (goes ds).sum = ((0 + costD ds : Nat) : Int); rw [Nat.zero_add]; exact ih
    | take _ => show (goes ds).sum = ((0 + costD ds : Nat) : Int); rw [Nat.zero_add]; exact ih
    | drop _ => show (goes ds).sum = ((0 + costD ds : Nat) : Int); rw [Nat.zero_add]; exact ih
theorem goes_len : ∀ ds : List Deed, (goes ds).length ≤ ds.length
  | [] => Nat.le_refl _
  | e :: ds => by
    have ih := goes_len ds
    cases e with
    | go n => exact Nat.succ_le_succ ih
    | keep => exact Nat.le_succ_of_le ih
    | meet => exact Nat.le_succ_of_le ih
    | take _ => exact Nat.le_succ_of_le ih
    | drop _ => exact Nat.le_succ_of_le ih
theorem max_if (a b : Int) : (if b > a then b else a) = max a b := by
  by_cases h : b > a
  · rw [if_pos h]; omega
  · rw [if_neg h]; omega
end BM

/-! ## Rules and things, as they stand in memory -/
namespace BM
open PySem PySem.Spec PyProof.Rows L2
inductive Rule where
  | add (k : Nat) | times (k : Nat) | square | half
def Rule.word : Rule → Str
  | .add _ => "add"
  | .times _ => "times"
  | .square => "square"
  | .half => "half"
def Rule.vs : Rule → List V
  | .add k => [.str "add", .int (k : Int)]
  | .times k => [.str "times", .int (k : Int)]
  | .square => [.str "square"]
  | .half => [.str "half"]
def Rule.ok : Rule → Prop
  | .add k => k < 999983
  | .times k => k < 999983
  | _ => True
theorem Rule.at0 (r : Rule) : atI r.vs 0 = some (.str r.word) := by cases r <;> rfl
def forthN : Rule → Nat → Nat
  | .add k, s => (s + k) % 999983
  | .times k, s => s * k % 999983
  | .square, s => s * s % 999983
  | .half, s => s / 2
theorem forthN_lt (r : Rule) {s : Nat} (h : s < 999983) : forthN r s < 999983 := by
  cases r with
  | add k => exact Nat.mod_lt _ (by decide)
  | times k => exact Nat.mod_lt _ (by decide)
  | square => exact Nat.mod_lt _ (by decide)
  | half =>
    show s / 2 < 999983
    omega
/-- a thing, and whether it is a rule -/
inductive RuleTh (K : PySem.W.Frag) (H : Hp) : V → Bool → Prop where
  | ntup {x : V} {t : Value} (ty : TyX K H x t) (ni : PySem.W.kitOne K t (.type "tuple") = some false) : RuleTh K H x false
  | nil {q : Addr} (h : H q = some (.tup [])) : RuleTh K H (.ref q) false
  | nstr {q : Addr} {v : V} {r : List V} {t : Value} (h : H q = some (.tup (v :: r))) (ty : TyX K H v t) (ni : PySem.W.kitOne K t (.type "str") = some false) : RuleTh K H (.ref q) false
  | two {q : Addr} {w : Str} {r : List V} (h : H q = some (.tup (.str w :: r))) (hw : w = "add" ∨ w = "times") (hl : r.length ≠ 1) : RuleTh K H (.ref q) false
  | num {q : Addr} {w : Str} {v : V} {o : Option Int} (h : H q = some (.tup [.str w, v])) (hw : w = "add" ∨ w = "times") (th : Thg K H v o) : RuleTh K H (.ref q) (among o 0 999982)
  | one {q : Addr} {w : Str} {r : List V} {b : Bool} (h : H q = some (.tup (.str w :: r))) (h1 : w ≠ "add") (h2 : w ≠ "times") (hb : b = (decide (r = []) && (decide (w = "square") || decide (w = "half")))) : RuleTh K H (.ref q) b
theorem RuleTh.same {K : PySem.W.Frag} {H H' : Hp} {x : V} {b : Bool} (e : Same H H') (h : RuleTh K H x b) : RuleTh K H' x b := by
  cases h with
  | ntup ty ni => exact .ntup (tyX_same e ty) ni
  | nil h => exact .nil (e _ _ h)
  | nstr h ty ni => exact .nstr (e _ _ h) (tyX_same e ty) ni
  | two h hw hl => exact .two (e _ _ h) hw hl
  | num h hw th => exact .num (e _ _ h) hw (th.same e)
  | one h h1 h2 hb => exact .one (e _ _ h) h1 h2 hb
theorem Rule.th {K : PySem.W.Frag} {H : Hp} {q : Addr} (r : Rule) (ok : r.ok) (h : H q = some (.tup r.vs)) : RuleTh K H (.ref q) true := by
  cases r with
  | add k =>
    have e : among (some (k : Int)) 0 999982 = true := by
      have h : k < 999983 := ok
      show (decide ((0 : Int) ≤ (k : Int)) && decide ((k : Int) ≤ 999982)) = true
      simp only [Bool.and_eq_true, decide_eq_true_eq]
      omega
    rw [← e]
    exact .num h (.inl rfl) (.int _)
  | times k =>
    have e : among (some (k : Int)) 0 999982 = true := by
      have h : k < 999983 := ok
      show (decide ((0 : Int) ≤ (k : Int)) && decide ((k : Int) ≤ 999982)) = true
      simp only [Bool.and_eq_true, decide_eq_true_eq]
      omega
    rw [← e]
    exact .num h (.inr rfl) (.int _)
  | square => exact .one h (by decide +kernel) (by decide +kernel) (by decide +kernel)
  | half => exact .one h (by decide +kernel) (by decide +kernel) (by decide +kernel)
/-- a new rule is told -/
def RetR (H : Hp) (Q : VK) : Prop := ∀ (r : Rule) (p : Addr) (H' : Hp), r.ok → H p = none → Same H H' → H' p = some (.tup r.vs) → Q (.ref p) H'
end BM

/-! ## Walkers: what they are between two deeds -/
namespace BM
open PySem PySem.Spec PyProof.Rows L2
def lastN (s : Nat) (rs : List Rule) : Nat := rs.foldl (fun s r => forthN r s) s
theorem lastN_lt {rs : List Rule} : ∀ {s : Nat}, s < 999983 → lastN s rs < 999983 := by
  induction rs with
  | nil => intro s h; exact h
  | cons r rs ih => intro s h; exact ih (forthN_lt r h)
theorem lastN_snoc (s : Nat) (rs : List Rule) (r : Rule) : lastN s (rs ++ [r]) = forthN r (lastN s rs) := by
  unfold lastN
  rw [List.foldl_append] <;> rfl
theorem lastN_append (s : Nat) (rs qs : List Rule) : lastN s (rs ++ qs) = lastN (lastN s rs) qs := by
  unfold lastN
  rw [List.foldl_append]
structure WK where
  pl : Nat
  st : Nat
  dn : Nat
  wa : Option Nat
  mks : List (Nat × Nat)
  sn : List Nat
def waI : Option Nat → Int
  | none => -1
  | some n => (n : Int)
def oW : Option Nat → V
  | none => .non
  | some n => .int (n : Int)
def stOf (ms : List (Nat × Nat)) (p : Nat) : Option Nat := (ms.find? fun q => q.1 == p).map (·.2)
/-- what a deed does; which class refuses it (by its number among the eight) -/
def stepK (rs : List Rule) (R : Nat) (w : WK) : Deed → Except Nat WK
  | .keep => if (stOf w.mks w.pl).isSome = true then .error 4 else if w.mks.length = R then .error 3 else .ok { w with mks := w.mks ++ [(w.pl, w.st)] }
  | .meet => if some w.pl = w.wa then .ok { w with sn := w.sn ++ [w.st], wa := if w.pl = 0 then none else some (w.pl - 1) } else .error 7
  | .go m => if w.pl + m > rs.length then .error 6 else .ok { w with pl := w.pl + m, st := lastN w.st ((rs.drop w.pl).take m), dn := w.dn + m }
  | .take p => match stOf w.mks p with | none => .error 5 | some s => .ok { w with pl := p, st := s }
  | .drop p => match stOf w.mks p with | none => .error 5 | some _ => .ok { w with mks := w.mks.filter fun q => q.1 != p }
def wk0 (f n : Nat) : WK := { pl := 0, st := f, dn := 0, wa := some n, mks := [], sn := [] }
/-- places and states within their bounds -/
structure WK.Ok (n : Nat) (w : WK) : Prop where
  pl : w.pl ≤ n
  st : w.st < 999983
  mo : ∀ q ∈ w.mks, q.1 ≤ n ∧ q.2 < 999983
  nd : (w.mks.map (·.1)).Nodup
  wa : ∀ m, w.wa = some m → m ≤ n
theorem stOf_mem {ms : List (Nat × Nat)} {p s : Nat} (h : stOf ms p = some s) : (p, s) ∈ ms := by
  unfold stOf at h
  cases e : ms.find? fun q => q.1 == p with
  | none => rw [e] at h; cases h
  | some q =>
    rw [e] at h
    have e1 : q.2 = s := Option.some.inj h
    have e2 : q.1 = p := by simpa using List.find?_some e
    rw [← e1, ← e2]
    exact List.mem_of_find?_eq_some e
theorem stOf_none {ms : List (Nat × Nat)} {p : Nat} (h : stOf ms p = none) : p ∉ ms.map (·.1) := by
  unfold stOf at h
  cases e : ms.find? fun q => q.1 == p with
  | none =>
    intro m
    obtain ⟨q, hq, rfl⟩ := List.mem_map.mp m
    have := List.find?_eq_none.mp e q hq
    simp at this
  | some q => rw [e] at h; cases h
theorem WK.Ok.step {rs : List Rule} {R : Nat} {w v : WK} {d : Deed} (o : w.Ok rs.length) (h : stepK rs R w d = .ok v) : v.Ok rs.length := by
  cases d with
  | keep =>
    have h : (if (stOf w.mks w.pl).isSome = true then Except.error 4 else if w.mks.length = R then .error 3 else .ok { w with mks := w.mks ++ [(w.pl, w.st)] }) = Except.ok v := h
    by_cases c : (stOf w.mks w.pl).isSome = true
    · rw [if_pos c] at h; cases h
    · rw [if_neg c] at h
      by_cases c2 : w.mks.length = R
      · rw [if_pos c2] at h; cases h
      · rw [if_neg c2] at h
        cases h
        have hn : stOf w.mks w.pl = none := by
          cases e : stOf w.mks w.pl with
          | none => rfl
          | some _ => rw [e] at c; exact absurd rfl c
        refine ⟨o.pl, o.st, fun q hq => ?_, ?_, o.wa⟩
        · rcases List.mem_append.mp hq with z | z
          · exact o.mo q z
          · rw [List.mem_singleton.mp z]
            exact ⟨o.pl, o.st⟩
        · show ((w.mks ++ [(w.pl, w.st)]).map (·.1)).Nodup
          rw [List.map_append, List.nodup_append]
          refine ⟨o.nd, by simp, ?_⟩
          intro a ha b hb
          have hb' : b = w.pl := by simpa using hb
          rw [hb']
          rintro rfl
          exact stOf_none hn ha
  | meet =>
    have h : (if some w.pl = w.wa then Except.ok { w with sn := w.sn ++ [w.st], wa := if w.pl = 0 then none else some (w.pl - 1) } else .error 7) = Except.ok v := h
    by_cases c : some w.pl = w.wa
    · rw [if_pos c] at h
      cases h
      refine ⟨o.pl, o.st, o.mo, o.nd, fun m hm => ?_⟩
      have hm : (if w.pl = 0 then none else some (w.pl - 1)) = some m := hm
      by_cases z : w.pl = 0
      · rw [if_pos z] at hm; cases hm
      · rw [if_neg z] at hm
        have := Option.some.inj hm
        have := o.pl
        omega
    · rw [if_neg c] at h; cases h
  | go m =>
    have h : (if w.pl + m > rs.length then Except.error 6 else .ok { w with pl := w.pl + m, st := lastN w.st ((rs.drop w.pl).take m), dn := w.dn + m }) = Except.ok v := h
    by_cases c : w.pl + m > rs.length
    · rw [if_pos c] at h; cases h
    · rw [if_neg c] at h
      cases h
      exact ⟨by show w.pl + m ≤ rs.length; omega, lastN_lt o.st, o.mo, o.nd, o.wa⟩
  | take p =>
    have h : (match stOf w.mks p with | none => Except.error 5 | some s => .ok { w with pl := p, st := s }) = Except.ok v := h
    cases e : stOf w.mks p with
    | none => rw [e] at h; cases h
    | some s =>
      rw [e] at h
      cases h
      have := o.mo _ (stOf_mem e)
      exact ⟨this.1, this.2, o.mo, o.nd, o.wa⟩
  | drop p =>
    have h : (match stOf w.mks p with | none => Except.error 5 | some _ => .ok { w with mks := w.mks.filter fun q => q.1 != p }) = Except.ok v := h
    cases e : stOf w.mks p with
    | none => rw [e] at h; cases h
    | some s =>
      rw [e] at h
      cases h
      refine ⟨o.pl, o.st, fun q hq => o.mo q (List.mem_filter.mp hq).1, ?_, o.wa⟩
      exact o.nd.sublist (List.Sublist.map _ List.filter_sublist)
/-! ### in memory -/
def mkK (ms : List (Nat × Nat)) : List (Key × V) := ms.map fun (q : Nat × Nat) => ((Sum.inl (q.1 : Int) : Key), V.int (q.2 : Int))
theorem mkK_len (ms : List (Nat × Nat)) : (mkK ms).length = ms.length := List.length_map ..
theorem mkK_val : ∀ (ms : List (Nat × Nat)) (p : Nat), valV (mkK ms) (Sum.inl (p : Int) : Key) = (stOf ms p).map fun s => V.int (s : Int)
  | [], _ => rfl
  | q :: ms, p => by
    have ih := mkK_val ms p
    by_cases e : q.1 = p
    · have e1 : stOf (q :: ms) p = some q.2 := by
        unfold stOf
        rw [List.find?_cons, e, beq_self_eq_true] <;> rfl
      rw [e1]
      exact valV_pos (p := ((Sum.inl (q.1 : Int) : Key), V.int (q.2 : Int))) (by show (Sum.inl (q.1 : Int) : Key) = Sum.inl (p : Int); rw [e])
    · have e1 : stOf (q :: ms) p = stOf ms p := by
        unfold stOf
        rw [List.find?_cons, beq_false_of_ne e]
      rw [e1, ← ih]
      exact valV_neg (p := ((Sum.inl (q.1 : Int) : Key), V.int (q.2 : Int))) (fun z : (Sum.inl (q.1 : Int) : Key) = Sum.inl (p : Int) => e (by have := Sum.inl.inj z; omega))
theorem mkK_put {ms : List (Nat × Nat)} {p s : Nat} (h : stOf ms p = none) : putK (mkK ms) (Sum.inl (p : Int) : Key) (.int (s : Int)) = mkK (ms ++ [(p, s)]) := by
  rw [putK_new _ (by rw [mkK_val, h] <;> rfl)]
  unfold mkK
  rw [List.map_append] <;> rfl
theorem mkK_drop (p : Nat) : ∀ ms : List (Nat × Nat), dropK (mkK ms) (Sum.inl (p : Int) : Key) = mkK (ms.filter fun q => q.1 != p)
  | [] => rfl
  | q :: ms => by
    have ih := mkK_drop p ms
    show dropK (((Sum.inl (q.1 : Int) : Key), V.int (q.2 : Int)) :: mkK ms) _ = _
    by_cases e : q.1 = p
    · rw [dropK_pos (by show (Sum.inl (q.1 : Int) : Key) = Sum.inl (p : Int); rw [e]), ih, List.filter_cons, if_neg (by rw [e]; simp)]
    · rw [dropK_neg (fun z : (Sum.inl (q.1 : Int) : Key) = Sum.inl (p : Int) => e (by have := Sum.inl.inj z; omega)), ih, List.filter_cons, if_pos (by simpa using e)] <;> rfl
def refsR (rs : List (Addr × Rule)) : List V := rs.map fun q => V.ref q.1
def RS (H : Hp) (rs : List (Addr × Rule)) : Prop := ∀ q ∈ rs, H q.1 = some (.tup q.2.vs) ∧ q.2.ok
theorem RS.same {H H' : Hp} {rs : List (Addr × Rule)} (e : Same H H') (h : RS H rs) : RS H' rs := fun q hq => ⟨e _ _ (h q hq).1, (h q hq).2⟩
theorem refsR_len (rs : List (Addr × Rule)) : (refsR rs).length = rs.length := List.length_map ..
def wF (rl : Addr) (room pl st dn : Int) (wa : V) (mk sn : Addr) : List (Str × V) :=
  [("rules", .ref rl), ("room", .int room), ("place", .int pl), ("state", .int st), ("done", .int dn), ("wanted", wa), ("marks", .ref mk), ("seen", .ref sn)]
section
variable (rl : Addr) (room pl st dn x : Int) (wa v : V) (mk sn : Addr)
theorem wF_rules : (wF rl room pl st dn wa mk sn).lookup ("rules" : Str) = some (V.ref rl) := by kernel_rfl
theorem wF_room : (wF rl room pl st dn wa mk sn).lookup ("room" : Str) = some (V.int room) := by kernel_rfl
theorem wF_place : (wF rl room pl st dn wa mk sn).lookup ("place" : Str) = some (V.int pl) := by kernel_rfl
theorem wF_state : (wF rl room pl st dn wa mk sn).lookup ("state" : Str) = some (V.int st) := by kernel_rfl
theorem wF_done : (wF rl room pl st dn wa mk sn).lookup ("done" : Str) = some (V.int dn) := by kernel_rfl
theorem wF_wanted : (wF rl room pl st dn wa mk sn).lookup ("wanted" : Str) = some wa := by kernel_rfl
theorem wF_marks : (wF rl room pl st dn wa mk sn).lookup ("marks" : Str) = some (V.ref mk) := by kernel_rfl
theorem wF_seen : (wF rl room pl st dn wa mk sn).lookup ("seen" : Str) = some (V.ref sn) := by kernel_rfl
theorem wF_do : (wF rl room pl st dn wa mk sn).lookup ("do" : Str) = none := by kernel_rfl
theorem wF_keep : (wF rl room pl st dn wa mk sn).lookup ("keep" : Str) = none := by kernel_rfl
theorem wF_go : (wF rl room pl st dn wa mk sn).lookup ("go" : Str) = none := by kernel_rfl
theorem wF_meet : (wF rl room pl st dn wa mk sn).lookup ("meet" : Str) = none := by kernel_rfl
theorem wF_kept : (wF rl room pl st dn wa mk sn).lookup ("kept" : Str) = none := by kernel_rfl
theorem wF_met : (wF rl room pl st dn wa mk sn).lookup ("met" : Str) = none := by kernel_rfl
theorem wF_len : (wF rl room pl st dn wa mk sn).length < 1000 := by show 8 < 1000; decide
theorem wF_sp : putF "place" (.int x) (wF rl room pl st dn wa mk sn) = wF rl room x st dn wa mk sn := by kernel_rfl
theorem wF_ss : putF "state" (.int x) (wF rl room pl st dn wa mk sn) = wF rl room pl x dn wa mk sn := by kernel_rfl
theorem wF_sd : putF "done" (.int x) (wF rl room pl st dn wa mk sn) = wF rl room pl st x wa mk sn := by kernel_rfl
theorem wF_sw : putF "wanted" v (wF rl room pl st dn wa mk sn) = wF rl room pl st dn v mk sn := by kernel_rfl
theorem wF_made : putF "seen" (.ref sn) (putF "marks" (.ref mk) (putF "wanted" wa (putF "done" (.int dn) (putF "state" (.int st) (putF "place" (.int pl) (putF "room" (.int room) (putF "rules" (.ref rl) []))))))) = wF rl room pl st dn wa mk sn := by kernel_rfl
end
theorem pe_fldK {X : Cx} {K : PySem.W.Frag} {e : Expr} {te : TE} {f : Str} {pos : Pos} (hK : X.K = K) (he : PE X e te) (hb : attributeBase e f X.env (eval e X.env) = eval e X.env) : PE X (.Attribute e f pos) (tFld K te f) := by
  subst hK
  exact pe_fld he hb
/-- what the top has written of the class -/
structure OCW (K : PySem.W.Frag) (mg : Str → Option Value) (C : Addr) : Prop where
  cl : Cls K C
  mgC : mg "Walker" = some (.ref C)
  nru : NoAttr K C "rules"
  nro : NoAttr K C "room"
  npl : NoAttr K C "place"
  nst : NoAttr K C "state"
  ndn : NoAttr K C "done"
  nwa : NoAttr K C "wanted"
  nma : NoAttr K C "marks"
  nse : NoAttr K C "seen"
/-- a thing, and whether it is a list of rules -/
inductive ListTh (K : PySem.W.Frag) (H : Hp) : V → Bool → Prop where
  | nlist {x : V} {t : Value} (ty : TyX K H x t) (ni : PySem.W.kitOne K t (.type "list") = some false) : ListTh K H x false
  | big {p : Addr} {xs : List V} (h : H p = some (.lst xs)) (hl : 100 < xs.length) : ListTh K H (.ref p) false
  | all {p : Addr} {xs : List V} {bs : List Bool} (h : H p = some (.lst xs)) (hl : xs.length ≤ 100) (hb : bs.length = xs.length) (ht : ∀ (i : Nat) (x : V) (b : Bool), xs[i]? = some x → bs[i]? = some b → RuleTh K H x b) : ListTh K H (.ref p) (bs.all id)
theorem ListTh.good {K : PySem.W.Frag} {H : Hp} {p : Addr} {rs : List (Addr × Rule)} (h : H p = some (.lst (refsR rs))) (hR : RS H rs) (hl : rs.length ≤ 100) : ListTh K H (.ref p) true := by
  have e : (List.replicate rs.length true).all id = true := List.all_eq_true.mpr fun b hb => by rw [(List.mem_replicate.mp hb).2] <;> rfl
  rw [← e]
  refine .all h (by rw [refsR_len]; exact hl) (by rw [List.length_replicate, refsR_len]) fun i x b hx hb => ?_
  obtain ⟨q, hq, rfl⟩ := get_map hx
  have eb : b = true := (List.mem_replicate.mp (List.mem_of_getElem? hb)).2
  rw [eb]
  have := hR q (List.mem_of_getElem? hq)
  exact q.2.th this.2 this.1
/-- a thing, and whether it is a deed -/
inductive DeedTh (K : PySem.W.Frag) (H : Hp) : V → Bool → Prop where
  | ntup {x : V} {t : Value} (ty : TyX K H x t) (ni : PySem.W.kitOne K t (.type "tuple") = some false) : DeedTh K H x false
  | nil {q : Addr} (h : H q = some (.tup [])) : DeedTh K H (.ref q) false
  | nstr {q : Addr} {v : V} {r : List V} {t : Value} (h : H q = some (.tup (v :: r))) (ty : TyX K H v t) (ni : PySem.W.kitOne K t (.type "str") = some false) : DeedTh K H (.ref q) false
  | one {q : Addr} {w : Str} {r : List V} {b : Bool} (h : H q = some (.tup (.str w :: r))) (hw : w = "keep" ∨ w = "meet") (hb : b = decide (r = [])) : DeedTh K H (.ref q) b
  | two {q : Addr} {w : Str} {r : List V} (h : H q = some (.tup (.str w :: r))) (h1 : w ≠ "keep") (h2 : w ≠ "meet") (hl : r.length ≠ 1) : DeedTh K H (.ref q) false
  | num {q : Addr} {w : Str} {v : V} {o : Option Int} {b : Bool} (h : H q = some (.tup [.str w, v])) (h1 : w ≠ "keep") (h2 : w ≠ "meet") (th : Thg K H v o)
      (hb : b = if w = "go" then among o 1 100 else (decide (w = "take") || decide (w = "drop")) && among o 0 100) : DeedTh K H (.ref q) b
theorem DeedTh.same {K : PySem.W.Frag} {H H' : Hp} {x : V} {b : Bool} (e : Same H H') (h : DeedTh K H x b) : DeedTh K H' x b := by
  cases h with
  | ntup ty ni => exact .ntup (tyX_same e ty) ni
  | nil h => exact .nil (e _ _ h)
  | nstr h ty ni => exact .nstr (e _ _ h) (tyX_same e ty) ni
  | one h hw hb => exact .one (e _ _ h) hw hb
  | two h h1 h2 hl => exact .two (e _ _ h) h1 h2 hl
  | num h h1 h2 th hb => exact .num (e _ _ h) h1 h2 (th.same e) hb
def Deed.ok : Deed → Prop
  | .go n => 1 ≤ n ∧ n ≤ 100
  | .take p => p ≤ 100
  | .drop p => p ≤ 100
  | _ => True
theorem among_of {n : Nat} {lo hi : Int} (h1 : lo ≤ (n : Int)) (h2 : (n : Int) ≤ hi) : among (some (n : Int)) lo hi = true := by
  show (decide (lo ≤ (n : Int)) && decide ((n : Int) ≤ hi)) = true
  rw [decide_eq_true h1, decide_eq_true h2] <;> rfl
theorem Deed.th {K : PySem.W.Frag} {H : Hp} {q : Addr} (d : Deed) (ok : d.ok) (h : H q = some (.tup d.vs)) : DeedTh K H (.ref q) true := by
  cases d with
  | keep => exact .one h (.inl rfl) rfl
  | meet => exact .one h (.inr rfl) rfl
  | go n =>
    refine .num h (by decide +kernel) (by decide +kernel) (.int _) ?_
    have ok : 1 ≤ n ∧ n ≤ 100 := ok
    rw [if_pos rfl, among_of (by omega) (by omega)]
  | take p =>
    refine .num h (by decide +kernel) (by decide +kernel) (.int _) ?_
    have ok : p ≤ 100 := ok
    rw [if_neg (by decide +kernel), among_of (by omega) (by omega)]
    decide +kernel
  | drop p =>
    refine .num h (by decide +kernel) (by decide +kernel) (.int _) ?_
    have ok : p ≤ 100 := ok
    rw [if_neg (by decide +kernel), among_of (by omega) (by omega)]
    decide +kernel
/-- where a walker lies -/
structure WA where
  x : Addr
  dx : Addr
  rl : Addr
  md : Addr
  sn : Addr
/-- a walker stands there -/
structure WAt (C : Addr) (H : Hp) (A : WA) (rs : List (Addr × Rule)) (R : Nat) (w : WK) : Prop where
  ob : H A.x = some (.ins C A.dx (wF A.rl (R : Int) (w.pl : Int) (w.st : Int) (w.dn : Int) (oW w.wa) A.md A.sn))
  ru : H A.rl = some (.lst (refsR rs))
  ma : H A.md = some (.dK (mkK w.mks))
  se : H A.sn = some (.lst (w.sn.map fun (s : Nat) => V.int (s : Int)))
  n1 : A.rl ≠ A.sn
/-- all but the walker's own stands -/
def But (A : WA) (H H' : Hp) : Prop := ∀ b o, H b = some o → b ≠ A.x → b ≠ A.md → b ≠ A.sn → H' b = some o
theorem But.refl (A : WA) (H : Hp) : But A H H := fun _ _ h _ _ _ => h
theorem But.trans {A : WA} {H H1 H2 : Hp} (a : But A H H1) (b : But A H1 H2) : But A H H2 := fun c o h n1 n2 n3 => b c o (a c o h n1 n2 n3) n1 n2 n3
theorem But.same {A : WA} {H H1 H2 : Hp} (a : But A H H1) (b : Same H1 H2) : But A H H2 := fun c o h n1 n2 n3 => b c o (a c o h n1 n2 n3)
theorem Same.but {A : WA} {H H1 : Hp} (a : Same H H1) : But A H H1 := fun c o h _ _ _ => a c o h
theorem But.upd_x {A : WA} {H : Hp} {o : HO} : But A H (upd H A.x o) := fun c u h n1 _ _ => by rw [upd_ne n1]; exact h
theorem But.upd_mk {A : WA} {H : Hp} {o : HO} : But A H (upd H A.md o) := fun c u h _ n1 _ => by rw [upd_ne n1]; exact h
theorem But.upd_sn {A : WA} {H : Hp} {o : HO} : But A H (upd H A.sn o) := fun c u h _ _ n1 => by rw [upd_ne n1]; exact h
section
variable {C : Addr} {H : Hp} {A : WA} {rs : List (Addr × Rule)} {R : Nat} {w : WK}
theorem WAt.xr (W : WAt C H A rs R w) : A.x ≠ A.rl := ne_of W.ob W.ru (by intro z; cases z)
theorem WAt.xm (W : WAt C H A rs R w) : A.x ≠ A.md := ne_of W.ob W.ma (by intro z; cases z)
theorem WAt.xs (W : WAt C H A rs R w) : A.x ≠ A.sn := ne_of W.ob W.se (by intro z; cases z)
theorem WAt.rm (W : WAt C H A rs R w) : A.rl ≠ A.md := ne_of W.ru W.ma (by intro z; cases z)
theorem WAt.ms (W : WAt C H A rs R w) : A.md ≠ A.sn := ne_of W.ma W.se (by intro z; cases z)
theorem WAt.same {H' : Hp} (W : WAt C H A rs R w) (e : Same H H') : WAt C H' A rs R w := ⟨e _ _ W.ob, e _ _ W.ru, e _ _ W.ma, e _ _ W.se, W.n1⟩
/-- a deed's promise -/
def StepP (K : PySem.W.Frag) (C : Addr) (c8 : Nat → Addr) (H : Hp) (A : WA) (rs : List (Addr × Rule)) (R : Nat) (w : WK) (d : Deed) (Q : VK) (E : XK) : Prop :=
  WAt C H A rs R w ∧ RS H rs ∧ w.Ok rs.length ∧ rs.length ≤ 100 ∧ w.mks.length ≤ 1000 ∧ w.sn.length ≤ 10000 ∧
  (∀ v, stepK (rs.map (·.2)) R w d = .ok v → ∀ H', But A H H' → WAt C H' A rs R v → Q .non H') ∧ ∀ i, stepK (rs.map (·.2)) R w d = .error i → E (.ref (c8 i)) none H
theorem RS.but {H' : Hp} (W : WAt C H A rs R w) (b : But A H H') {qs : List (Addr × Rule)} (h : RS H qs) : RS H' qs := fun q hq => by
  have e := (h q hq).1
  exact ⟨b _ _ e (ne_of e W.ob (by intro z; cases z)) (ne_of e W.ma (by intro z; cases z)) (ne_of e W.se (by intro z; cases z)), (h q hq).2⟩
end
end BM

/-! ## Deeds in a row -/
namespace BM
open PySem PySem.Spec PyProof.Rows L2
def runT (rs : List Rule) (R : Nat) : List (Option Deed) → WK → Except Nat WK
  | [], w => .ok w
  | none :: _, _ => .error 2
  | some d :: ts, w => match stepK rs R w d with
    | .ok v => runT rs R ts v
    | .error i => .error i
def ThingD (K : PySem.W.Frag) (H : Hp) (x : V) : Option Deed → Prop
  | none => DeedTh K H x false
  | some d => ∃ a, x = .ref a ∧ H a = some (.tup d.vs) ∧ d.ok
theorem ThingD.same {K : PySem.W.Frag} {H H' : Hp} {x : V} {t : Option Deed} (e : Same H H') (h : ThingD K H x t) : ThingD K H' x t := by
  cases t with
  | none => exact DeedTh.same e h
  | some d =>
    obtain ⟨a, h1, h2, h3⟩ := h
    exact ⟨a, h1, e _ _ h2, h3⟩
structure WK.Ok2 (n R : Nat) (w : WK) : Prop where
  mo : w.mks.length ≤ R
  sn : (w.sn.length : Int) + waI w.wa = (n : Int)
theorem WK.Ok2.step {rs : List Rule} {n R : Nat} {w v : WK} {d : Deed} (o : w.Ok2 n R) (h : stepK rs R w d = .ok v) : v.Ok2 n R := by
  cases d with
  | keep =>
    have h : (if (stOf w.mks w.pl).isSome = true then Except.error 4 else if w.mks.length = R then .error 3 else .ok { w with mks := w.mks ++ [(w.pl, w.st)] }) = Except.ok v := h
    by_cases c : (stOf w.mks w.pl).isSome = true
    · rw [if_pos c] at h; cases h
    · rw [if_neg c] at h
      by_cases c2 : w.mks.length = R
      · rw [if_pos c2] at h; cases h
      · rw [if_neg c2] at h
        cases h
        refine ⟨?_, o.sn⟩
        have := o.mo
        show (w.mks ++ [(w.pl, w.st)]).length ≤ R
        rw [List.length_append]
        show w.mks.length + 1 ≤ R
        omega
  | meet =>
    have h : (if some w.pl = w.wa then Except.ok { w with sn := w.sn ++ [w.st], wa := if w.pl = 0 then none else some (w.pl - 1) } else .error 7) = Except.ok v := h
    by_cases c : some w.pl = w.wa
    · rw [if_pos c] at h
      cases h
      refine ⟨o.mo, ?_⟩
      have s := o.sn
      rw [← c] at s
      have s : (w.sn.length : Int) + (w.pl : Int) = (n : Int) := s
      show ((w.sn ++ [w.st]).length : Int) + waI (if w.pl = 0 then none else some (w.pl - 1)) = (n : Int)
      rw [List.length_append]
      by_cases z : w.pl = 0
      · rw [if_pos z]
        show ((w.sn.length + 1 : Nat) : Int) + -1 = _
        omega
      · rw [if_neg z]
        show ((w.sn.length + 1 : Nat) : Int) + ((w.pl - 1 : Nat) : Int) = _
        omega
    · rw [if_neg c] at h; cases h
  | go m =>
    have h : (if w.pl + m > rs.length then Except.error 6 else .ok { w with pl := w.pl + m, st := lastN w.st ((rs.drop w.pl).take m), dn := w.dn + m }) = Except.ok v := h
    by_cases c : w.pl + m > rs.length
    · rw [if_pos c] at h; cases h
    · rw [if_neg c] at h
      cases h
      exact ⟨o.mo, o.sn⟩
  | take p =>
    have h : (match stOf w.mks p with | none => Except.error 5 | some s => .ok { w with pl := p, st := s }) = Except.ok v := h
    cases e : stOf w.mks p with
    | none => rw [e] at h; cases h
    | some s =>
      rw [e] at h
      cases h
      exact ⟨o.mo, o.sn⟩
  | drop p =>
    have h : (match stOf w.mks p with | none => Except.error 5 | some _ => .ok { w with mks := w.mks.filter fun q => q.1 != p }) = Except.ok v := h
    cases e : stOf w.mks p with
    | none => rw [e] at h; cases h
    | some s =>
      rw [e] at h
      cases h
      refine ⟨?_, o.sn⟩
      have := o.mo
      have l := List.length_filter_le (fun q => q.1 != p) w.mks
      show (w.mks.filter fun q => q.1 != p).length ≤ R
      omega
theorem WK.Ok2.sn_le {n R : Nat} {w : WK} (o : w.Ok2 n R) (hn : n ≤ 100) : w.sn.length ≤ 10000 := by
  have s := o.sn
  cases h : w.wa with
  | none =>
    rw [h] at s
    have s : (w.sn.length : Int) + -1 = (n : Int) := s
    omega
  | some m =>
    rw [h] at s
    have s : (w.sn.length : Int) + (m : Int) = (n : Int) := s
    omega
theorem wk0_ok {f n : Nat} (hf : f < 999983) : (wk0 f n).Ok n := ⟨Nat.zero_le _, hf, fun q hq => (nomatch hq), List.nodup_nil, fun m hm => by
  have e : n = m := Option.some.inj hm
  omega⟩
theorem wk0_ok2 {f n R : Nat} : (wk0 f n).Ok2 n R := ⟨Nat.zero_le _, by show ((0 : Nat) : Int) + (n : Int) = (n : Int); omega⟩
theorem runT_append (rs : List Rule) (R : Nat) : ∀ (ts us : List (Option Deed)) (w : WK), runT rs R (ts ++ us) w = match runT rs R ts w with | .ok v => runT rs R us v | .error i => .error i
  | [], _, _ => rfl
  | none :: _, _, _ => rfl
  | some d :: ts, us, w => by
    show (match stepK rs R w d with | .ok v => runT rs R (ts ++ us) v | .error i => .error i) = match (match stepK rs R w d with | .ok v => runT rs R ts v | .error i => .error i) with | .ok v => runT rs R us v | .error i => .error i
    cases stepK rs R w d with
    | error i => rfl
    | ok v => exact runT_append rs R ts us v
theorem runT_take_err {rs : List Rule} {R : Nat} {ts : List (Option Deed)} {w v : WK} {i : Nat} {t : Option Deed} {e : Nat} (h : runT rs R (ts.take i) w = .ok v) (ht : ts[i]? = some t) (he : runT rs R [t] v = .error e) : runT rs R ts w = .error e := by
  have q : ts.take (i + 1) ++ ts.drop (i + 1) = ts := List.take_append_drop (i + 1) ts
  have q2 : runT rs R (ts.take (i + 1)) w = .error e := by
    rw [take_succ ht, runT_append, h]
    exact he
  rw [← q, runT_append, q2]
end BM

/-! ## A plain hand and a walker go alike -/
namespace BM
def stAt (rs : List Rule) (f p : Nat) : Nat := lastN f (rs.take p)
structure Sim (rs : List Rule) (f : Nat) (s : WSt) (w : WK) : Prop where
  pl : w.pl = s.pl
  mq : w.mks.map (·.1) = s.mks
  wa : waI w.wa = s.wa
  dn : w.dn = s.co
  st : w.st = stAt rs f s.pl
  ms : ∀ q ∈ w.mks, q.2 = stAt rs f q.1
  sn : w.sn = (List.range w.sn.length).map fun i => stAt rs f (rs.length - i)
  sl : (w.sn.length : Int) + waI w.wa = (rs.length : Int)
  le : s.pl ≤ rs.length
  ml : ∀ x ∈ s.mks, x ≤ rs.length
theorem stOf_some : ∀ {ms : List (Nat × Nat)} {p : Nat}, p ∈ ms.map (·.1) → ∃ s, stOf ms p = some s := fun {ms p} h => by
  cases e : stOf ms p with
  | some s => exact ⟨s, rfl⟩
  | none => exact absurd h (stOf_none e)
theorem map_filter_fst (p : Nat) : ∀ ms : List (Nat × Nat), (ms.filter fun q => q.1 != p).map (·.1) = (ms.map (·.1)).filter (· ≠ p)
  | [] => rfl
  | q :: ms => by
    have ih := map_filter_fst p ms
    by_cases e : q.1 = p
    · rw [List.filter_cons, if_neg (by rw [e]; simp), ih, List.map_cons, List.filter_cons, if_neg (by simpa using e)]
    · rw [List.filter_cons, if_pos (by simpa using e), List.map_cons, ih, List.map_cons, List.filter_cons, if_pos (by simpa using e)]
theorem sim_step {rs : List Rule} {f R : Nat} {s t : WSt} {w : WK} {d : Deed} (hn : rs.length ≤ 100) (S : Sim rs f s w) (h : stepW rs.length R s d = some t) : d.ok ∧ ∃ v, stepK rs R w d = .ok v ∧ Sim rs f t v := by
  cases d with
  | keep =>
    obtain ⟨⟨c1, c2⟩, rfl⟩ := ite_some h
    have hno : stOf w.mks w.pl = none := by
      cases e : stOf w.mks w.pl with
      | none => rfl
      | some z =>
        refine absurd ?_ c1
        rw [← S.mq, ← S.pl]
        exact List.mem_map.mpr ⟨_, stOf_mem e, rfl⟩
    have hl : w.mks.length = s.mks.length := by rw [← S.mq, List.length_map]
    refine ⟨trivial, { w with mks := w.mks ++ [(w.pl, w.st)] }, ?_, ⟨S.pl, ?_, S.wa, S.dn, S.st, ?_, S.sn, S.sl, S.le, ?_⟩⟩
    · show (if (stOf w.mks w.pl).isSome = true then Except.error 4 else if w.mks.length = R then .error 3 else .ok { w with mks := w.mks ++ [(w.pl, w.st)] }) = _
      rw [hno, if_neg (by decide), if_neg (by omega)]
    · show (w.mks ++ [(w.pl, w.st)]).map (·.1) = s.mks ++ [s.pl]
      rw [List.map_append, S.mq, ← S.pl] <;> rfl
    · intro q hq
      rcases List.mem_append.mp hq with z | z
      · exact S.ms q z
      · rw [List.mem_singleton.mp z]
        show w.st = stAt rs f w.pl
        rw [S.pl]
        exact S.st
    · intro x hx
      rcases List.mem_append.mp hx with z | z
      · exact S.ml x z
      · rw [List.mem_singleton.mp z]
        exact S.le
  | meet =>
    obtain ⟨c1, rfl⟩ := ite_some h
    have e1 : some w.pl = w.wa := by
      have a := S.wa
      rw [← c1, ← S.pl] at a
      cases e : w.wa with
      | none =>
        rw [e] at a
        have a : (-1 : Int) = (w.pl : Int) := a
        omega
      | some m =>
        rw [e] at a
        have a : (m : Int) = (w.pl : Int) := a
        congr 1
        omega
    refine ⟨trivial, { w with sn := w.sn ++ [w.st], wa := if w.pl = 0 then none else some (w.pl - 1) }, ?_, ⟨S.pl, S.mq, ?_, S.dn, S.st, S.ms, ?_, ?_, S.le, S.ml⟩⟩
    · show (if some w.pl = w.wa then Except.ok { w with sn := w.sn ++ [w.st], wa := if w.pl = 0 then none else some (w.pl - 1) } else .error 7) = _
      rw [if_pos e1]
    · show waI (if w.pl = 0 then none else some (w.pl - 1)) = s.wa - 1
      rw [← c1, ← S.pl]
      by_cases z : w.pl = 0
      · rw [if_pos z]
        show (-1 : Int) = (w.pl : Int) - 1
        omega
      · rw [if_neg z]
        show ((w.pl - 1 : Nat) : Int) = (w.pl : Int) - 1
        omega
    · show w.sn ++ [w.st] = (List.range (w.sn ++ [w.st]).length).map fun i => stAt rs f (rs.length - i)
      rw [List.length_append]
      show w.sn ++ [w.st] = (List.range (w.sn.length + 1)).map fun i => stAt rs f (rs.length - i)
      rw [List.range_succ, List.map_append, ← S.sn]
      have z := S.sl
      rw [← e1] at z
      have z : (w.sn.length : Int) + (w.pl : Int) = (rs.length : Int) := z
      have y : rs.length - w.sn.length = s.pl := by have := S.pl; omega
      show w.sn ++ [w.st] = w.sn ++ [stAt rs f (rs.length - w.sn.length)]
      rw [y, S.st]
    · have z := S.sl
      rw [← e1] at z
      have z : (w.sn.length : Int) + (w.pl : Int) = (rs.length : Int) := z
      show ((w.sn ++ [w.st]).length : Int) + waI (if w.pl = 0 then none else some (w.pl - 1)) = (rs.length : Int)
      rw [List.length_append]
      by_cases y : w.pl = 0
      · rw [if_pos y]
        show ((w.sn.length + 1 : Nat) : Int) + (-1) = _
        omega
      · rw [if_neg y]
        show ((w.sn.length + 1 : Nat) : Int) + ((w.pl - 1 : Nat) : Int) = _
        omega
  | go m =>
    obtain ⟨⟨c1, c2⟩, rfl⟩ := ite_some h
    have hp := S.pl
    refine ⟨⟨by omega, by omega⟩, { w with pl := w.pl + m, st := lastN w.st ((rs.drop w.pl).take m), dn := w.dn + m }, ?_, ⟨?_, S.mq, S.wa, ?_, ?_, S.ms, S.sn, S.sl, c2, S.ml⟩⟩
    · show (if w.pl + m > rs.length then Except.error 6 else .ok { w with pl := w.pl + m, st := lastN w.st ((rs.drop w.pl).take m), dn := w.dn + m }) = _
      rw [if_neg (by omega)]
    · show w.pl + m = s.pl + m
      omega
    · show w.dn + m = s.co + m
      rw [S.dn]
    · show lastN w.st ((rs.drop w.pl).take m) = lastN f (rs.take (s.pl + m))
      rw [S.st, S.pl]
      show lastN (lastN f (rs.take s.pl)) _ = _
      rw [← lastN_append]
      congr 1
      rw [List.take_add]
  | take p =>
    obtain ⟨c1, rfl⟩ := ite_some h
    obtain ⟨z, hz⟩ := stOf_some (ms := w.mks) (p := p) (by rw [S.mq]; exact c1)
    refine ⟨by have := S.ml p c1; show p ≤ 100; omega, { w with pl := p, st := z }, ?_, ⟨rfl, S.mq, S.wa, S.dn, ?_, S.ms, S.sn, S.sl, S.ml p c1, S.ml⟩⟩
    · show (match stOf w.mks p with | none => Except.error 5 | some s => .ok { w with pl := p, st := s }) = _
      rw [hz]
    · exact S.ms _ (stOf_mem hz)
  | drop p =>
    obtain ⟨c1, rfl⟩ := ite_some h
    obtain ⟨z, hz⟩ := stOf_some (ms := w.mks) (p := p) (by rw [S.mq]; exact c1)
    refine ⟨by have := S.ml p c1; show p ≤ 100; omega, { w with mks := w.mks.filter fun q => q.1 != p }, ?_, ⟨S.pl, ?_, S.wa, S.dn, S.st, fun q hq => S.ms q (List.mem_filter.mp hq).1, S.sn, S.sl, S.le, fun x hx => S.ml x (List.mem_filter.mp hx).1⟩⟩
    · show (match stOf w.mks p with | none => Except.error 5 | some _ => .ok { w with mks := w.mks.filter fun q => q.1 != p }) = _
      rw [hz]
    · show (w.mks.filter fun q => q.1 != p).map (·.1) = s.mks.filter (· ≠ p)
      rw [map_filter_fst, S.mq]
theorem sim_run {rs : List Rule} {f R : Nat} (hn : rs.length ≤ 100) : ∀ {ds : List Deed} {s t : WSt} {w : WK}, Sim rs f s w → runW rs.length R ds s = some t → (∀ d ∈ ds, d.ok) ∧ ∃ v, runT rs R (ds.map some) w = .ok v ∧ Sim rs f t v
  | [], s, t, w, S, h => by
    have e : s = t := Option.some.inj h
    rw [← e]
    exact ⟨fun d hd => (nomatch hd), w, rfl, S⟩
  | d :: ds, s, t, w, S, h => by
    have h : (stepW rs.length R s d).bind (runW rs.length R ds) = some t := h
    cases e : stepW rs.length R s d with
    | none =>
      rw [e] at h
      cases h
    | some u =>
      rw [e] at h
      obtain ⟨ok, v, hv, S2⟩ := sim_step hn S e
      obtain ⟨oks, z, hz, S3⟩ := sim_run hn S2 h
      refine ⟨fun d' hd => ?_, z, ?_, S3⟩
      · rcases List.mem_cons.mp hd with q | q
        · rw [q]; exact ok
        · exact oks d' q
      · show (match stepK rs R w d with | .ok v => runT rs R (ds.map some) v | .error i => .error i) = .ok z
        rw [hv]
        exact hz
theorem sim0 (rs : List Rule) (f : Nat) : Sim rs f (wst0 rs.length) (wk0 f rs.length) :=
  ⟨rfl, rfl, rfl, rfl, rfl, fun q hq => (nomatch hq), rfl, by show ((0 : Nat) : Int) + (rs.length : Int) = _; omega, Nat.zero_le _, fun x hx => (nomatch hx)⟩
/-- all states of a row -/
def rowN (f : Nat) (rs : List Rule) : List Nat := (List.range (rs.length + 1)).map fun p => stAt rs f p
theorem rowN_snoc (f : Nat) (rs : List Rule) (r : Rule) : rowN f (rs ++ [r]) = rowN f rs ++ [forthN r (lastN f rs)] := by
  unfold rowN
  rw [List.length_append]
  show (List.range (rs.length + 1 + 1)).map _ = _
  rw [List.range_succ, List.map_append]
  congr 1
  · refine List.map_congr_left fun p hp => ?_
    have := List.mem_range.mp hp
    unfold stAt
    rw [List.take_append_of_le_length (by omega)]
  · show [stAt (rs ++ [r]) f (rs.length + 1)] = _
    unfold stAt
    rw [List.take_of_length_le (by rw [List.length_append]; exact Nat.le_refl _), lastN_snoc]
theorem rowN_len (f : Nat) (rs : List Rule) : (rowN f rs).length = rs.length + 1 := by
  unfold rowN
  rw [List.length_map, List.length_range]
theorem rowN_last (f : Nat) (rs : List Rule) : (rowN f rs)[rs.length]? = some (lastN f rs) := by
  unfold rowN
  rw [List.getElem?_map, List.getElem?_range (by omega)]
  show some (stAt rs f rs.length) = _
  unfold stAt
  rw [List.take_length]
theorem sim_met {rs : List Rule} {f : Nat} {s : WSt} {w : WK} (S : Sim rs f s w) (h : s.wa = -1) : w.wa = none ∧ w.sn = (rowN f rs).reverse := by
  have a := S.wa
  rw [h] at a
  have e : w.wa = none := by
    cases e : w.wa with
    | none => rfl
    | some m =>
      rw [e] at a
      have a : (m : Int) = -1 := a
      omega
  refine ⟨e, ?_⟩
  have l := S.sl
  rw [e] at l
  have l : (w.sn.length : Int) + -1 = (rs.length : Int) := l
  have l : w.sn.length = rs.length + 1 := by omega
  rw [S.sn, l]
  apply List.ext_getElem?
  intro i
  by_cases hi : i < rs.length + 1
  · rw [List.getElem?_map, List.getElem?_range hi, List.getElem?_reverse (by rw [rowN_len]; exact hi), rowN_len]
    unfold rowN
    rw [List.getElem?_map, List.getElem?_range (by omega)]
    show some (stAt rs f (rs.length - i)) = some (stAt rs f (rs.length + 1 - 1 - i))
    rw [show rs.length + 1 - 1 - i = rs.length - i by omega]
  · rw [List.getElem?_eq_none (by rw [List.length_map, List.length_range]; omega), List.getElem?_eq_none (by rw [List.length_reverse, rowN_len]; omega)]
end BM

/-! ## Deeds as data -/
namespace BM
open PySem PySem.Spec PyProof.Rows L2
def Deed.pd : Deed → PyData
  | .keep => .tuple [.str "keep"]
  | .meet => .tuple [.str "meet"]
  | .take p => .tuple [.str "take", .int (p : Int)]
  | .drop p => .tuple [.str "drop", .int (p : Int)]
  | .go n => .tuple [.str "go", .int (n : Int)]
theorem Deed.sh (d : Deed) : Sh 1 d.pd := by
  have w : ∀ s : Str, (PyData.str s).canLay0 = true → Sh 1 (.tuple [.str s]) := fun s h => .tup fun d hd => by
    rw [List.mem_singleton.mp hd]
    exact .str h
  have w2 : ∀ (s : Str) (i : Int), (PyData.str s).canLay0 = true → Sh 1 (.tuple [.str s, .int i]) := fun s i h => .tup fun d hd => by
    rcases List.mem_cons.mp hd with e | hd
    · rw [e]; exact .str h
    · rw [List.mem_singleton.mp hd]; exact .int i
  cases d with
  | keep => exact w _ (by decide +kernel)
  | meet => exact w _ (by decide +kernel)
  | take p => exact w2 _ _ (by decide +kernel)
  | drop p => exact w2 _ _ (by decide +kernel)
  | go n => exact w2 _ _ (by decide +kernel)
theorem Deed.dp {K : PySem.W.Frag} {H : Hp} {a : Addr} (d : Deed) (h : H a = some (.tup d.vs)) : Dp K H (.ref a) d.pd := by
  cases d with
  | keep => exact .tup (SqT.of h) (.cons (.str _) .nil)
  | meet => exact .tup (SqT.of h) (.cons (.str _) .nil)
  | take p => exact .tup (SqT.of h) (.cons (.str _) (.cons (.int _) .nil))
  | drop p => exact .tup (SqT.of h) (.cons (.str _) (.cons (.int _) .nil))
  | go n => exact .tup (SqT.of h) (.cons (.str _) (.cons (.int _) .nil))
theorem deeds_dp {K : PySem.W.Frag} {H : Hp} : ∀ {ps : List (Addr × Deed)}, DS H ps → DpAll K H (refs ps) (ps.map fun q => q.2.pd)
  | [], _ => .nil
  | q :: ps, h => .cons (q.2.dp (h q List.mem_cons_self)) (deeds_dp fun x hx => h x (List.mem_cons_of_mem _ hx))
theorem deeds_sh (ps : List (Addr × Deed)) : Sh 2 (.list (ps.map fun q => q.2.pd)) := .lst fun d hd => by
  obtain ⟨q, _, rfl⟩ := List.mem_map.mp hd
  exact q.2.sh
def Rule.pd : Rule → PyData
  | .add k => .tuple [.str "add", .int (k : Int)]
  | .times k => .tuple [.str "times", .int (k : Int)]
  | .square => .tuple [.str "square"]
  | .half => .tuple [.str "half"]
theorem Rule.sh (d : Rule) : Sh 1 d.pd := by
  have w : ∀ s : Str, (PyData.str s).canLay0 = true → Sh 1 (.tuple [.str s]) := fun s h => .tup fun d hd => by
    rw [List.mem_singleton.mp hd]
    exact .str h
  have w2 : ∀ (s : Str) (i : Int), (PyData.str s).canLay0 = true → Sh 1 (.tuple [.str s, .int i]) := fun s i h => .tup fun d hd => by
    rcases List.mem_cons.mp hd with e | hd
    · rw [e]; exact .str h
    · rw [List.mem_singleton.mp hd]; exact .int i
  cases d with
  | square => exact w _ (by decide +kernel)
  | half => exact w _ (by decide +kernel)
  | add p => exact w2 _ _ (by decide +kernel)
  | times p => exact w2 _ _ (by decide +kernel)
theorem Rule.dp {K : PySem.W.Frag} {H : Hp} {a : Addr} (d : Rule) (h : H a = some (.tup d.vs)) : Dp K H (.ref a) d.pd := by
  cases d with
  | square => exact .tup (SqT.of h) (.cons (.str _) .nil)
  | half => exact .tup (SqT.of h) (.cons (.str _) .nil)
  | add p => exact .tup (SqT.of h) (.cons (.str _) (.cons (.int _) .nil))
  | times p => exact .tup (SqT.of h) (.cons (.str _) (.cons (.int _) .nil))
theorem rules_dp {K : PySem.W.Frag} {H : Hp} : ∀ {ps : List (Addr × Rule)}, RS H ps → DpAll K H (refsR ps) (ps.map fun q => q.2.pd)
  | [], _ => .nil
  | q :: ps, h => .cons (q.2.dp (h q List.mem_cons_self).1) (rules_dp fun x hx => h x (List.mem_cons_of_mem _ hx))
theorem rules_sh (ps : List (Addr × Rule)) : Sh 2 (.list (ps.map fun q => q.2.pd)) := .lst fun d hd => by
  obtain ⟨q, _, rfl⟩ := List.mem_map.mp hd
  exact q.2.sh
theorem dp_nats {K : PySem.W.Frag} {H : Hp} : ∀ ns : List Nat, DpAll K H (ns.map fun (s : Nat) => V.int (s : Int)) (ns.map fun (s : Nat) => PyData.int (s : Int))
  | [] => .nil
  | i :: r => .cons (.int i) (dp_nats r)
theorem sh_nats {n : Nat} (ns : List Nat) : Sh (n + 1) (.list (ns.map fun (s : Nat) => PyData.int (s : Int))) := .lst fun d hd => by
  obtain ⟨i, _, rfl⟩ := List.mem_map.mp hd
  exact .int i
end BM

/-! ## Lists of the same things are not unequal -/
namespace BM
open PySem PySem.Spec PyProof.Rows L2
/-- a thing that is surely like itself -/
inductive Sure : V → Prop where
  | non : Sure .non
  | bl (b : Bool) : Sure (.bl b)
  | int (i : Int) : Sure (.int i)
  | str (x : Str) : Sure (.str x)
  | ref (a : Addr) : Sure (.ref a)
inductive Alike (K : PySem.W.Frag) (H : Hp) : V → V → Prop where
  | lst {p q : Addr} {xs : List V} (h1 : SqL K H p xs) (h2 : SqL K H q xs) (hs : ∀ x ∈ xs, Sure x) : Alike K H (.ref p) (.ref q)
  | tup {p q : Addr} {xs : List V} (h1 : SqT K H p xs) (h2 : SqT K H q xs) (hs : ∀ x ∈ xs, Sure x) : Alike K H (.ref p) (.ref q)
  | str (x : Str) : Alike K H (.str x) (.str x)
  | non : Alike K H .non .non
def rNeS (K : PySem.W.Frag) : R2 := fun x y H Q => Alike K H x y ∧ Q (.bl false) H
theorem sure_eq {A : Around} {s : Shared} {x : V} {u v : Value} (h : Sure x) (r1 : RelV x u) (r2 : RelV x v) : SeqAt.EqAt A s u v true := by
  cases h with
  | non =>
    have e1 : u = Value.none := r1
    have e2 : v = Value.none := r2
    rw [e1, e2]
    exact SeqAt.EqAt.same _
  | bl b =>
    have e1 : u = Value.bool b := r1
    have e2 : v = Value.bool b := r2
    rw [e1, e2]
    exact SeqAt.EqAt.same _
  | int i =>
    obtain ⟨t, rfl⟩ : ∃ t, u = Value.int i t := r1
    obtain ⟨t', rfl⟩ : ∃ t, v = Value.int i t := r2
    have := SeqAt.EqAt.int_int (A := A) (s := s) i t i t'
    rw [beq_self_eq_true] at this
    exact this
  | str z =>
    obtain ⟨t, rfl⟩ : ∃ t, u = Value.str z t := r1
    obtain ⟨t', rfl⟩ : ∃ t, v = Value.str z t := r2
    have := SeqAt.EqAt.str_str (A := A) (s := s) z t z t'
    rw [beq_self_eq_true] at this
    exact this
  | ref a =>
    have e1 : u = Value.ref a := r1
    have e2 : v = Value.ref a := r2
    rw [e1, e2]
    exact SeqAt.EqAt.same _
theorem sure_all {A : Around} {s : Shared} {xs : List V} {us vs : List Value} (h : ∀ x ∈ xs, Sure x) (r1 : Vals xs us) (r2 : Vals xs vs) : ∀ j (h1 : j < us.toArray.size) (h2 : j < vs.toArray.size), SeqAt.EqAt A s us.toArray[j] vs.toArray[j] true := by
  intro j h1 h2
  have h1' : j < us.length := by simpa using h1
  have h2' : j < vs.length := by simpa using h2
  have hx : j < xs.length := by rw [r1.length]; exact h1'
  have ex : xs[j]? = some xs[j] := List.getElem?_eq_getElem hx
  obtain ⟨u, eu, ru⟩ := r1.get ex
  obtain ⟨v, ev, rv⟩ := r2.get ex
  have e1 : us.toArray[j] = u := by
    rw [List.getElem?_eq_getElem h1'] at eu
    simpa using Option.some.inj eu
  have e2 : vs.toArray[j] = v := by
    rw [List.getElem?_eq_getElem h2'] at ev
    simpa using Option.some.inj ev
  rw [e1, e2]
  exact sure_eq (h _ (List.getElem_mem hx)) ru rv
theorem all_true (n : Nat) : (List.range n).all (fun _ => true) = true := List.all_eq_true.mpr fun _ _ => rfl
theorem op_neS {X : Cx} (hu : X.A.units + 64 < cLine) : OpR X (compareOp .NotEq) (rNeS X.K) := by
  intro pins s σ H x y v u Q I rx ry h
  obtain ⟨al, q⟩ := h
  cases al with
  | @lst p p' xs h1 h2 hs =>
    cases rx
    cases ry
    obtain ⟨its, rv, pl, hz⟩ := I.list h1
    obtain ⟨its', rv', pl', hz'⟩ := I.list h2
    have e := SeqAt.RcNeAt.lists (A := X.A) (e := fun _ => true) pl.isList pl'.isList (by rw [List.size_toArray, List.size_toArray, ← rv.length, ← rv'.length]) (by omega) (sure_all hs rv rv')
    refine e _ _ _ _ ?_
    rw [all_true]
    exact ⟨.bl false, H, I, rfl, q⟩
  | @tup p p' xs h1 h2 hs =>
    cases rx
    cases ry
    obtain ⟨its, rv, pl, hz⟩ := I.tuple h1
    obtain ⟨its', rv', pl', hz'⟩ := I.tuple h2
    have e := SeqAt.RcNeAt.tuples (A := X.A) (e := fun _ => true) pl pl' (by omega) (sure_all hs rv rv')
    refine e _ _ _ _ ?_
    rw [all_true, List.size_toArray, List.size_toArray, ← rv.length, ← rv'.length, beq_self_eq_true]
    exact ⟨.bl false, H, I, rfl, q⟩
  | str z =>
    obtain ⟨t, rfl⟩ := rx
    obtain ⟨t', rfl⟩ := ry
    refine SeqAt.RcNeAt.str_str (A := X.A) z t z t' _ _ _ _ ?_
    rw [beq_self_eq_true]
    exact ⟨.bl false, H, I, rfl, q⟩
  | non =>
    cases rx
    cases ry
    exact SeqAt.RcNeAt.none_none (A := X.A) _ _ _ _ ⟨.bl false, H, I, rfl, q⟩
end BM

/-! ## In a try: a new instance, a method; what they let out is wished for at the slots -/
namespace BM
open PySem PySem.Spec PyProof.Rows L2
def tMakeS (C : Addr) (sp : Sp) (E : L2.St → XK) (t : TA) : TE := fun σ H Q => t σ H fun vs H1 => ∀ x dx, H1 x = none → H1 dx = none → dx ≠ x → sp (.ref x :: vs) (upd (upd H1 dx (.own x)) x (.ins C dx [])) (fun v H2 => v = .non ∧ Q (.ref x) H2) (E σ)
def tMethS (C : Addr) (m : Str) (sp : Sp) (E : L2.St → XK) (ta : TE) (t : TA) : TE := fun σ H Q => ta σ H fun x H1 => ∃ a dx fs, x = .ref a ∧ H1 a = some (.ins C dx fs) ∧ fs.lookup m = none ∧ t σ H1 fun vs H2 => sp (x :: vs) H2 Q (E σ)
section
variable {X : Cx} {k : Nat} {f C : Addr} {fd : FuncData} {ps : List Str} {sp : Sp} {E : L2.St → XK} {x m : Str} {p pos apos : Pos} {e o : Expr} {es : List Expr} {ta : TE} {t : TA}
theorem run_makeS {pins : List (Addr × Obj)} {σ : L2.St} {H : Hp} {s : Shared} {Q : VK} {us : List Value} {vs : List V} (M : Mk X.K C f) (F : FnOk X.prog X.w X.K X.mg X.base (L2.CX X.prog X.w) k f fd ps sp)
    (hr : Room (k + 1) X.A) (hb : Binds X.K fd ps []) (hx : ∀ σ, PassesAt (L2.CX X.prog X.w) X σ (E σ)) (I : Inv X pins σ H s) (r : Vals vs us)
    (h : ∀ x dx, H x = none → H dx = none → dx ≠ x → sp (.ref x :: vs) (upd (upd H dx (.own x)) x (.ins C dx [])) (fun v H2 => v = .non ∧ Q (.ref x) H2) (E σ)) :
    wpAny (model X.prog X.w) X.A (call (.ref C) us) (EP X pins σ Q) X.xe s := by
  have n1 := I.hok.fresh (a := s.heap.objs.size + 1) (Nat.le_succ _)
  have n2 := I.hok.fresh (a := s.heap.objs.size) (Nat.le_refl _)
  have g := h _ _ n1 n2 (Nat.ne_of_lt (Nat.lt_succ_self _))
  have J := Inv.made (C := C) I
  have rr : Vals (V.ref (s.heap.objs.size + 1) :: vs) (Value.ref (s.heap.objs.size + 1) :: us) := .cons rfl r
  have len := rr.length
  rw [F.len _ _ _ _ g] at len
  have bb := hb _ (Value.ref (s.heap.objs.size + 1) :: us) J.kIn (by rw [List.append_nil]; exact len.symm)
  rw [List.append_nil] at bb
  have go := F.run _ X.stack _ _ ⟨Value.ref (s.heap.objs.size + 1) :: us, []⟩ _ _ _ (E σ) (hr.make C us []) (J.env0.make C us []) bb rr g
  refine wpAny_call (make_map (f := f) I.kIn M.makes M.init (beq_iff_eq.mp M.fn) (codeAny_mono go fun q s' z => ?_))
  match q, z with
  | .error e, z => exact hx σ pins _ _ e s' J z
  | .ok (.ret u), z =>
    obtain ⟨v, H', I3, rv, ev, q3⟩ := J.after z
    cases ev
    exact ⟨rv, ⟨V.ref (s.heap.objs.size + 1), H', I3, rfl, q3⟩⟩
  | .ok .next, z => exact z.elim
  | .ok .brk, z => exact z.elim
  | .ok .cont, z => exact z.elim
theorem pe_makeS (M : Mk X.K C f) (F : FnOk X.prog X.w X.K X.mg X.base (L2.CX X.prog X.w) k f fd ps sp) (hr : Room (k + 1) X.A) (hg : Gl X x) (hm : X.mg x = some (.ref C)) (hb : Binds X.K fd ps [])
    (hx : ∀ σ, PassesAt (L2.CX X.prog X.w) X σ (E σ)) (ha : PA X (e :: es) t) (hdb : (x == ("__debug__" : Str)) = false := by decide)
    (he : starEach (e :: es) X.env = (false, eval e X.env) :: starEach es X.env := by rfl) (hpl : (backTo pos (starEach es X.env)).any (·.1) = false := by rfl) : PE X (.Call (.Name x p) (e :: es) [] pos) (tMakeS C sp E t) := by
  refine ⟨fun pins s σ H Q I h => wpAny_Call_Name_kw (ld_glob I hg hm ?_ hdb)⟩
  have next := thn (Q' := fun us s1 => X.K.In s1.heap ∧ wpAny (model X.prog X.w) X.A (call (.ref C) us) (EP X pins σ Q) X.xe s1) (ha.run pos pins s σ H _ I h)
    fun us s1 ⟨vs, H1, I1, r, q⟩ => ⟨I1.kIn, run_makeS M F hr hb hx I1 r q⟩
  exact PySem.W.callWith_K (h₀ := X.base) I.ok.mod.kin M.kp next he hpl
theorem pe_methT {pl : Sem Bool} (he : PE X o ta) (c : Cls X.K C) (hm : Meth X.K C m f) (F : FnOk X.prog X.w X.K X.mg X.base (L2.CX X.prog X.w) k f fd ps sp) (hr : Room k X.A) (hb : Binds X.K fd ps [])
    (hx : ∀ σ, PassesAt (L2.CX X.prog X.w) X σ (E σ)) (ha : PA X (e :: es) t) (hst : starEach (e :: es) X.env = (false, eval e X.env) :: starEach es X.env := by rfl) (hpl : (backTo pos (starEach es X.env)).any (·.1) = false := by rfl)
    (ht : eval (.Call (.Attribute o m apos) (e :: es) [] pos) X.env = (do let ov ← eval o X.env; standAt apos.atName; let (f, first) ← holding [ov] (getMethod ov m pl); callWith pos f first (backTo pos (starEach (e :: es) X.env)) (backToKw pos (keywordEach [] X.env))) := by rfl) : PE X (.Call (.Attribute o m apos) (e :: es) [] pos) (tMethS C m sp E ta t) := by
  refine ⟨fun pins s σ H Q I h => PySem.W.methodCall_KW (pl := pl) (thn (he.run pins s σ H _ I h) fun u s1 ⟨x, H1, I1, rx, a, dx, fs, ex, ea, l, q⟩ => ?_) ht⟩
  cases ex
  cases rx
  refine getmeth_ok I1 ea c hm l ?_
  have next := thn (Q' := fun us s2 => X.K.In s2.heap ∧ wpAny (model X.prog X.w) X.A (call (.ref f) (.ref a :: us)) (EP X pins σ Q) X.xe s2) (ha.run pos pins s1 σ H1 _ I1 q)
    fun us s2 ⟨vs, H2, I2, r, q2⟩ => ⟨I2.kIn, run_fnS (us := .ref a :: us) (vs := .ref a :: vs) F hr hb (hx σ) I2 (.cons rfl r) q2⟩
  exact PySem.W.callWith_K (first := [.ref a]) (h₀ := X.base) I.ok.mod.kin hm.kp next hst hpl
end
end BM

/-! ## The law's own model of a walker, a system of two of each -/
namespace BM
open PySem PySem.Spec PyProof.Rows L2
theorem Room_u65 {k : Nat} {A : Around} (r : Room k A) : A.units + 65 < cLine := by
  have := r.un
  omega
/-- is not True, of a truth value or a whole number -/
theorem op_notTrue {X : Cx} : OpR X (compareOp .IsNot) (fun x y H Q => y = .bl true ∧ ((∃ b, x = .bl b ∧ Q (.bl (!b)) H) ∨ (∃ i, x = .int i ∧ Q (.bl true) H))) := by
  intro pins s σ H x y v u Q I rx ry h
  obtain ⟨rfl, h⟩ := h
  cases (show u = Value.bool true from ry)
  rcases h with ⟨b, rfl, q⟩ | ⟨i, rfl, q⟩
  · cases (show v = Value.bool b from rx)
    cases b with
    | true => exact wpAny_isNot_self rfl ⟨.bl false, H, I, rfl, q⟩
    | false => exact wpAny_isNot_other rfl (fun z => nomatch z) ⟨.bl true, H, I, rfl, q⟩
  · obtain ⟨t, rfl⟩ : ∃ t, v = Value.int i t := rx
    exact wpAny_isNot_other rfl (fun z => nomatch z) ⟨.bl true, H, I, rfl, q⟩
structure WK.Tr (rs : List Rule) (f : Nat) (w : WK) : Prop where
  st : w.st = stAt rs f w.pl
  ms : ∀ q ∈ w.mks, q.2 = stAt rs f q.1
theorem WK.Tr.step {rs : List Rule} {f R : Nat} {w v : WK} {d : Deed} (o : w.Tr rs f) (h : stepK rs R w d = .ok v) : v.Tr rs f := by
  cases d with
  | keep =>
    simp only [stepK] at h
    split at h
    · cases h
    · split at h
      · cases h
      · cases h
        refine ⟨o.st, fun q hq => ?_⟩
        rcases List.mem_append.mp hq with z | z
        · exact o.ms q z
        · rw [List.mem_singleton.mp z]
          exact o.st
  | meet =>
    simp only [stepK] at h
    split at h
    · cases h
      exact ⟨o.st, o.ms⟩
    · cases h
  | go m =>
    simp only [stepK] at h
    split at h
    · cases h
    · cases h
      refine ⟨?_, o.ms⟩
      show lastN w.st ((rs.drop w.pl).take m) = lastN f (rs.take (w.pl + m))
      rw [o.st]
      show lastN (lastN f (rs.take w.pl)) _ = _
      rw [← lastN_append]
      congr 1
      rw [List.take_add]
  | take p =>
    simp only [stepK] at h
    split at h
    · cases h
    · rename_i s e
      cases h
      exact ⟨o.ms _ (stOf_mem e), o.ms⟩
  | drop p =>
    simp only [stepK] at h
    split at h
    · cases h
    · cases h
      exact ⟨o.st, fun q hq => o.ms q (List.mem_filter.mp hq).1⟩
theorem wk0_tr (rs : List Rule) (f n : Nat) : (wk0 f n).Tr rs f := ⟨by show f = lastN f (rs.take 0); rfl, fun q hq => nomatch hq⟩
theorem rowN_at {f : Nat} {rs : List Rule} {p : Nat} (h : p ≤ rs.length) : (rowN f rs)[p]? = some (stAt rs f p) := by
  unfold rowN
  rw [List.getElem?_map, List.getElem?_range (by omega)] <;> rfl
def nV (l : List Nat) : List V := l.map fun (s : Nat) => V.int (s : Int)
def mKey (ms : List (Nat × Nat)) : List Int := ms.map fun q => ((q.1 : Nat) : Int)
theorem stOf_isSome {ms : List (Nat × Nat)} {p : Nat} : (stOf ms p).isSome = decide ((p : Int) ∈ mKey ms) := by
  cases e : stOf ms p with
  | some s => exact (decide_eq_true (List.mem_map.mpr ⟨(p, s), stOf_mem e, rfl⟩)).symm
  | none =>
    refine (decide_eq_false fun m => ?_).symm
    obtain ⟨q, hq, e2⟩ := List.mem_map.mp m
    refine stOf_none e (List.mem_map.mpr ⟨q, hq, ?_⟩)
    have e2 : ((q.1 : Nat) : Int) = (p : Int) := e2
    omega
theorem inV_ints (i : Int) : ∀ ks : List Int, inV (.int i) (ks.map V.int) = decide (i ∈ ks)
  | [] => rfl
  | k :: ks => by
    have ih := inV_ints i ks
    show (decide (k = i) || inV (.int i) (ks.map V.int)) = _
    rw [ih, Bool.eq_iff_iff]
    simp only [Bool.or_eq_true, decide_eq_true_eq, List.mem_cons]
    constructor
    · rintro (h | h)
      · exact .inl h.symm
      · exact .inr h
    · rintro (h | h)
      · exact .inl h.symm
      · exact .inr h
/-! ### the dict of the model -/
def mF (sa : Addr) (R pl dn wa : Int) (ka ta : Addr) : List (Key × V) :=
  [(.inr "states", .ref sa), (.inr "room", .int R), (.inr "place", .int pl), (.inr "done", .int dn), (.inr "wanted", .int wa), (.inr "marks", .ref ka), (.inr "met", .ref ta)]
section
variable {H : Hp} {m : Addr} {sa : Addr} {R pl dn wa : Int} {ka ta : Addr}
theorem mF_states : valV (mF sa R pl dn wa ka ta) (Sum.inr "states" : Key) = some (.ref sa) := by kernel_rfl
theorem mF_room : valV (mF sa R pl dn wa ka ta) (Sum.inr "room" : Key) = some (.int R) := by kernel_rfl
theorem mF_place : valV (mF sa R pl dn wa ka ta) (Sum.inr "place" : Key) = some (.int pl) := by kernel_rfl
theorem mF_done : valV (mF sa R pl dn wa ka ta) (Sum.inr "done" : Key) = some (.int dn) := by kernel_rfl
theorem mF_wanted : valV (mF sa R pl dn wa ka ta) (Sum.inr "wanted" : Key) = some (.int wa) := by kernel_rfl
theorem mF_marks : valV (mF sa R pl dn wa ka ta) (Sum.inr "marks" : Key) = some (.ref ka) := by kernel_rfl
theorem mF_met : valV (mF sa R pl dn wa ka ta) (Sum.inr "met" : Key) = some (.ref ta) := by kernel_rfl
theorem mF_sp (x : Int) : putK (mF sa R pl dn wa ka ta) (Sum.inr "place" : Key) (.int x) = mF sa R x dn wa ka ta := by kernel_rfl
theorem mF_sd (x : Int) : putK (mF sa R pl dn wa ka ta) (Sum.inr "done" : Key) (.int x) = mF sa R pl x wa ka ta := by kernel_rfl
theorem mF_sw (x : Int) : putK (mF sa R pl dn wa ka ta) (Sum.inr "wanted" : Key) (.int x) = mF sa R pl dn x ka ta := by kernel_rfl
theorem mF_sk (x : Addr) : putK (mF sa R pl dn wa ka ta) (Sum.inr "marks" : Key) (.ref x) = mF sa R pl dn wa x ta := by kernel_rfl
theorem mF_st (x : Addr) : putK (mF sa R pl dn wa ka ta) (Sum.inr "met" : Key) (.ref x) = mF sa R pl dn wa ka x := by kernel_rfl
theorem mF_made : putK (putK (putK (mergeK [] [(Sum.inr "states", .ref sa), (Sum.inr "room", .int R), (Sum.inr "place", .int pl), (Sum.inr "done", .int dn)]) (Sum.inr "wanted" : Key) (.int wa)) (Sum.inr "marks" : Key) (.ref ka)) (Sum.inr "met" : Key) (.ref ta) = mF sa R pl dn wa ka ta := by kernel_rfl
theorem dg_states (h : H m = some (.dK (mF sa R pl dn wa ka ta))) : DGet H m (.str "states") (some (.ref sa)) := by
  have g := DGet.k (k := Sum.inr "states") h
  rwa [mF_states] at g
theorem dg_room (h : H m = some (.dK (mF sa R pl dn wa ka ta))) : DGet H m (.str "room") (some (.int R)) := by
  have g := DGet.k (k := Sum.inr "room") h
  rwa [mF_room] at g
theorem dg_place (h : H m = some (.dK (mF sa R pl dn wa ka ta))) : DGet H m (.str "place") (some (.int pl)) := by
  have g := DGet.k (k := Sum.inr "place") h
  rwa [mF_place] at g
theorem dg_done (h : H m = some (.dK (mF sa R pl dn wa ka ta))) : DGet H m (.str "done") (some (.int dn)) := by
  have g := DGet.k (k := Sum.inr "done") h
  rwa [mF_done] at g
theorem dg_wanted (h : H m = some (.dK (mF sa R pl dn wa ka ta))) : DGet H m (.str "wanted") (some (.int wa)) := by
  have g := DGet.k (k := Sum.inr "wanted") h
  rwa [mF_wanted] at g
theorem dg_marks (h : H m = some (.dK (mF sa R pl dn wa ka ta))) : DGet H m (.str "marks") (some (.ref ka)) := by
  have g := DGet.k (k := Sum.inr "marks") h
  rwa [mF_marks] at g
theorem dg_met (h : H m = some (.dK (mF sa R pl dn wa ka ta))) : DGet H m (.str "met") (some (.ref ta)) := by
  have g := DGet.k (k := Sum.inr "met") h
  rwa [mF_met] at g
theorem mF_len : (mF sa R pl dn wa ka ta).length < sizeLine := by show 7 < sizeLine; decide
theorem dp_place (x : Int) (h : H m = some (.dK (mF sa R pl dn wa ka ta))) : DPut H m (.str "place") (.int x) (upd H m (.dK (mF sa R x dn wa ka ta))) := by
  have g := DPut.k (k := Sum.inr "place") (v := .int x) h mF_len
  rwa [mF_sp] at g
theorem dp_done (x : Int) (h : H m = some (.dK (mF sa R pl dn wa ka ta))) : DPut H m (.str "done") (.int x) (upd H m (.dK (mF sa R pl x wa ka ta))) := by
  have g := DPut.k (k := Sum.inr "done") (v := .int x) h mF_len
  rwa [mF_sd] at g
theorem dp_wanted (x : Int) (h : H m = some (.dK (mF sa R pl dn wa ka ta))) : DPut H m (.str "wanted") (.int x) (upd H m (.dK (mF sa R pl dn x ka ta))) := by
  have g := DPut.k (k := Sum.inr "wanted") (v := .int x) h mF_len
  rwa [mF_sw] at g
theorem dp_marks (x : Addr) (h : H m = some (.dK (mF sa R pl dn wa ka ta))) : DPut H m (.str "marks") (.ref x) (upd H m (.dK (mF sa R pl dn wa x ta))) := by
  have g := DPut.k (k := Sum.inr "marks") (v := .ref x) h mF_len
  rwa [mF_sk] at g
theorem dp_met (x : Addr) (h : H m = some (.dK (mF sa R pl dn wa ka ta))) : DPut H m (.str "met") (.ref x) (upd H m (.dK (mF sa R pl dn wa ka x))) := by
  have g := DPut.k (k := Sum.inr "met") (v := .ref x) h mF_len
  rwa [mF_st] at g
end
/-- where a model's lists lie -/
structure MA where
  sa : Addr
  ka : Addr
  ta : Addr
structure MAt (H : Hp) (m : Addr) (L : MA) (f R : Nat) (rs : List Rule) (w : WK) (ks : List Int) : Prop where
  ob : H m = some (.dK (mF L.sa (R : Int) (w.pl : Int) (w.dn : Int) (waI w.wa) L.ka L.ta))
  sa : H L.sa = some (.lst (nV (rowN f rs)))
  ka : H L.ka = some (.lst (ks.map V.int))
  ta : H L.ta = some (.lst (nV w.sn))
  pm : ks.Perm (mKey w.mks)
  so : ks.Pairwise (· ≤ ·)
/-- all but what stands at the places T stands -/
def Chg (T : List Addr) (H H' : Hp) : Prop := ∀ b o, H b = some o → b ∉ T → H' b = some o
theorem Chg.of_same {T : List Addr} {H H' : Hp} (e : Same H H') : Chg T H H' := fun b o h _ => e b o h
theorem Chg.of_but {A : WA} {H H' : Hp} (e : But A H H') : Chg [A.x, A.md, A.sn] H H' := fun b o h n => by
  simp only [List.mem_cons, List.not_mem_nil, or_false, not_or] at n
  exact e b o h n.1 n.2.1 n.2.2
theorem Chg.trans {T : List Addr} {H H1 H2 : Hp} (a : Chg T H H1) (b : Chg T H1 H2) : Chg T H H2 := fun c o h n => b c o (a c o h n) n
theorem Chg.upd {m : Addr} {H : Hp} {o : HO} : Chg [m] H (upd H m o) := fun b u h n => by
  rw [upd_ne (fun e => n (by rw [e]; exact List.mem_singleton.mpr rfl))]
  exact h
theorem Chg.free {T : List Addr} {H H' : Hp} (c : Chg T H H') {b : Addr} (n : b ∉ T) (h : H' b = none) : H b = none := by
  cases e : H b with
  | none => rfl
  | some o =>
    rw [c b o e n] at h
    cases h
/-- what stands at no place of M -/
def Rst (M : List Addr) (H : Hp) : Hp := fun b => if b ∈ M then none else H b
theorem Rst.at {M : List Addr} {H : Hp} {b : Addr} (n : b ∉ M) : Rst M H b = H b := if_neg n
theorem Rst.sub {M : List Addr} {H : Hp} : Same (Rst M H) H := fun b o h => by
  by_cases n : b ∈ M
  · rw [show Rst M H b = none from if_pos n] at h
    cases h
  · rwa [Rst.at n] at h
theorem Rst.chg {M T : List Addr} {H H' : Hp} (c : Chg T H H') (hT : ∀ b ∈ T, b ∈ M) : Same (Rst M H) (Rst M H') := fun b o h => by
  by_cases n : b ∈ M
  · rw [show Rst M H b = none from if_pos n] at h
    cases h
  · rw [Rst.at n] at h ⊢
    exact c b o h fun z => n (hT b z)
/-- what is new -/
def New (H H' : Hp) : Hp := fun b => match H b with | none => H' b | some _ => none
theorem New.at {H H' : Hp} {b : Addr} (h : H b = none) : New H H' b = H' b := by
  unfold New
  rw [h]
theorem New.rst {M : List Addr} {H H' : Hp} (al : ∀ b ∈ M, H b ≠ none) : Same (New H H') (Rst M H') := fun b o h => by
  cases e : H b with
  | some u =>
    unfold New at h
    rw [e] at h
    cases h
  | none =>
    rw [New.at e] at h
    rw [Rst.at fun z => al b z e]
    exact h
/-- two lists of the same things, in a pair -/
def PairAt (F : Hp) (t : Addr) : Prop := ∃ a b, F t = some (.tup [.ref a, .ref b]) ∧
  ((∃ ns : List Nat, F a = some (.lst (nV ns)) ∧ F b = some (.lst (nV ns))) ∨
   (∃ us vs : List (Addr × Nat × Nat), us.map (·.2) = vs.map (·.2) ∧ F a = some (.lst (us.map fun q => V.ref q.1)) ∧ F b = some (.lst (vs.map fun q => V.ref q.1)) ∧
     (∀ q ∈ us, F q.1 = some (.tup [.int (q.2.1 : Int), .int (q.2.2 : Int)])) ∧ ∀ q ∈ vs, F q.1 = some (.tup [.int (q.2.1 : Int), .int (q.2.2 : Int)])))
theorem PairAt.same {F F' : Hp} {t : Addr} (e : Same F F') (h : PairAt F t) : PairAt F' t := by
  obtain ⟨a, b, h1, h2⟩ := h
  refine ⟨a, b, e _ _ h1, ?_⟩
  rcases h2 with ⟨ns, x, y⟩ | ⟨us, vs, q, x, y, z, u⟩
  · exact .inl ⟨ns, e _ _ x, e _ _ y⟩
  · exact .inr ⟨us, vs, q, e _ _ x, e _ _ y, fun p hp => e _ _ (z p hp), fun p hp => e _ _ (u p hp)⟩
def pairD (q : Nat × Nat) : PyData := .tuple [.int (q.1 : Int), .int (q.2 : Int)]
theorem pairs_sh (us : List (Nat × Nat)) : Sh 2 (.list (us.map pairD)) := .lst fun d hd => by
  obtain ⟨q, _, rfl⟩ := List.mem_map.mp hd
  refine .tup fun e he => ?_
  simp only [List.mem_cons, List.not_mem_nil, or_false] at he
  rcases he with rfl | rfl
  · exact .int _
  · exact .int _
theorem pairs_dp {K : PySem.W.Frag} {H : Hp} : ∀ {us : List (Addr × Nat × Nat)}, (∀ q ∈ us, H q.1 = some (.tup [.int (q.2.1 : Int), .int (q.2.2 : Int)])) → DpAll K H (us.map fun q => V.ref q.1) ((us.map (·.2)).map pairD)
  | [], _ => .nil
  | q :: us, h => .cons (.tup (SqT.of (h q List.mem_cons_self)) (.cons (.int _) (.cons (.int _) .nil))) (pairs_dp fun x hx => h x (List.mem_cons_of_mem _ hx))
theorem PairAt.data {K : PySem.W.Frag} {H : Hp} {t : Addr} (h : PairAt H t) : ∃ a b d, H t = some (.tup [.ref a, .ref b]) ∧ Dp K H (.ref a) d ∧ Dp K H (.ref b) d ∧ Sh 2 d := by
  obtain ⟨a, b, h1, ⟨ns, x, y⟩ | ⟨us, vs, q, x, y, z, u⟩⟩ := h
  · exact ⟨a, b, _, h1, .lst (SqL.of x) (dp_nats ns), .lst (SqL.of y) (dp_nats ns), sh_nats ns⟩
  · refine ⟨a, b, _, h1, .lst (SqL.of x) (pairs_dp z), .lst (SqL.of y) ?_, pairs_sh _⟩
    rw [q]
    exact pairs_dp u
theorem cut_lo (xs : List V) (k : Nat) : cutV xs none (some (k : Int)) = xs.take k := by
  unfold cutV
  rw [HT.sIx_none, HT.sIx_nat, List.drop_zero, Nat.sub_zero]
  by_cases c : k ≤ xs.length
  · rw [Nat.min_eq_left c]
  · rw [Nat.min_eq_right (by omega), List.take_of_length_le (Nat.le_refl _), List.take_of_length_le (by omega)]
theorem flat_ints (ks : List Int) : (ks.map V.int).all flatV = true := List.all_eq_true.mpr fun x hx => by
  obtain ⟨i, _, rfl⟩ := List.mem_map.mp hx
  rfl
theorem filt_snoc {ks : List Int} {i : Nat} {k p : Int} (h : ks[i]? = some k) : ((ks.take (i + 1)).filter (· ≠ p)) = (ks.take i).filter (· ≠ p) ++ (if k = p then [] else [k]) := by
  rw [take_succ h, List.filter_append]
  congr 1
  by_cases e : k = p
  · rw [if_pos e, List.filter_cons, if_neg (by simpa using e)] <;> rfl
  · rw [if_neg e, List.filter_cons, if_pos (by simpa using e)] <;> rfl
theorem key_filter (p : Nat) : ∀ ms : List (Nat × Nat), mKey (ms.filter fun q => q.1 != p) = (mKey ms).filter (· ≠ (p : Int))
  | [] => rfl
  | q :: ms => by
    have ih := key_filter p ms
    by_cases e : q.1 = p
    · rw [List.filter_cons, if_neg (by rw [e]; simp), ih]
      show _ = (((q.1 : Nat) : Int) :: mKey ms).filter _
      rw [List.filter_cons, if_neg (by rw [e]; simp)]
    · rw [List.filter_cons, if_pos (by simpa using e)]
      show ((q.1 : Nat) : Int) :: mKey _ = (((q.1 : Nat) : Int) :: mKey ms).filter _
      rw [ih, List.filter_cons, if_pos (by simp; omega)]
theorem mF4 (sa : Addr) (R : Int) : mergeK [] [((Sum.inr "states" : Key), V.ref sa), (Sum.inr "room", .int R), (Sum.inr "place", .int 0), (Sum.inr "done", .int 0)] = [((Sum.inr "states" : Key), V.ref sa), (Sum.inr "room", .int R), (Sum.inr "place", .int 0), (Sum.inr "done", .int 0)] := by kernel_rfl
theorem mF5 (sa : Addr) (R n : Int) : putK [((Sum.inr "states" : Key), V.ref sa), (Sum.inr "room", .int R), (Sum.inr "place", .int 0), (Sum.inr "done", .int 0)] (Sum.inr "wanted" : Key) (.int n) = [((Sum.inr "states" : Key), V.ref sa), (Sum.inr "room", .int R), (Sum.inr "place", .int 0), (Sum.inr "done", .int 0), (Sum.inr "wanted", .int n)] := by kernel_rfl
theorem mF6 (sa ka : Addr) (R n : Int) : putK [((Sum.inr "states" : Key), V.ref sa), (Sum.inr "room", .int R), (Sum.inr "place", .int 0), (Sum.inr "done", .int 0), (Sum.inr "wanted", .int n)] (Sum.inr "marks" : Key) (.ref ka) = [((Sum.inr "states" : Key), V.ref sa), (Sum.inr "room", .int R), (Sum.inr "place", .int 0), (Sum.inr "done", .int 0), (Sum.inr "wanted", .int n), (Sum.inr "marks", .ref ka)] := by kernel_rfl
theorem mF7 (sa ka ta : Addr) (R n : Int) : putK [((Sum.inr "states" : Key), V.ref sa), (Sum.inr "room", .int R), (Sum.inr "place", .int 0), (Sum.inr "done", .int 0), (Sum.inr "wanted", .int n), (Sum.inr "marks", .ref ka)] (Sum.inr "met" : Key) (.ref ta) = mF sa R 0 0 n ka ta := by kernel_rfl
/-! ### two sides -/
structure Side where
  A : WA
  m : Addr
  f : Nat
  R : Nat
  rs : List (Addr × Rule)
def Side.own (s : Side) : List Addr := [s.A.x, s.A.md, s.A.sn, s.m]
def muts (S T : Side) (hd : Addr) : List Addr := S.own ++ (T.own ++ [hd])
structure Half (C : Addr) (M : List Addr) (H : Hp) (s : Side) (w wm : WK) : Prop where
  W : WAt C H s.A s.rs s.R w
  mo : ∃ L ks, MAt H s.m L s.f s.R (s.rs.map (·.2)) wm ks ∧ L.sa ∉ M ∧ L.ka ∉ M ∧ L.ta ∉ M
  rl : s.A.rl ∉ M
  rr : RS (Rst M H) s.rs
structure SideOk (s : Side) (w : WK) : Prop where
  ok : w.Ok s.rs.length
  ok2 : w.Ok2 s.rs.length s.R
  tr : w.Tr (s.rs.map (·.2)) s.f
structure SideFix (s : Side) : Prop where
  n : s.rs.length ≤ 100
  f : s.f < 999983
  r1 : 1 ≤ s.R
  r2 : s.R ≤ 12
section
variable {C : Addr} {M T : List Addr} {H H' : Hp} {s : Side} {w wm v : WK}
theorem MAt.keep {m : Addr} {L : MA} {f R : Nat} {rs : List Rule} {ks : List Int} (h : MAt H m L f R rs w ks) (c : Chg T H H') (hm : m ∉ T) (h1 : L.sa ∉ T) (h2 : L.ka ∉ T) (h3 : L.ta ∉ T) : MAt H' m L f R rs w ks :=
  ⟨c _ _ h.ob hm, c _ _ h.sa h1, c _ _ h.ka h2, c _ _ h.ta h3, h.pm, h.so⟩
theorem WAt.keep {A : WA} {rs : List (Addr × Rule)} {R : Nat} (h : WAt C H A rs R w) (c : Chg T H H') (h1 : A.x ∉ T) (h2 : A.md ∉ T) (h3 : A.sn ∉ T) (h4 : A.rl ∉ T) : WAt C H' A rs R w :=
  ⟨c _ _ h.ob h1, c _ _ h.ru h4, c _ _ h.ma h2, c _ _ h.se h3, h.n1⟩
/-- other things change -/
theorem Half.keep (h : Half C M H s w wm) (c : Chg T H H') (hT : ∀ b ∈ T, b ∈ M) (hd : ∀ b ∈ s.own, b ∉ T) : Half C M H' s w wm := by
  obtain ⟨L, ks, ma, n1, n2, n3⟩ := h.mo
  have d1 := hd s.A.x (by simp [Side.own])
  have d2 := hd s.A.md (by simp [Side.own])
  have d3 := hd s.A.sn (by simp [Side.own])
  have d4 := hd s.m (by simp [Side.own])
  exact ⟨h.W.keep c d1 d2 d3 (fun z => h.rl (hT _ z)), ⟨L, ks, ma.keep c d4 (fun z => n1 (hT _ z)) (fun z => n2 (hT _ z)) (fun z => n3 (hT _ z)), n1, n2, n3⟩, h.rl, h.rr.same (Rst.chg c hT)⟩
/-- its walker changes -/
theorem Half.step (h : Half C M H s w wm) (b : But s.A H H') (hM : ∀ b ∈ s.own, b ∈ M) (nd : s.own.Nodup) (W : WAt C H' s.A s.rs s.R v) : Half C M H' s v wm := by
  obtain ⟨L, ks, ma, n1, n2, n3⟩ := h.mo
  have hT : ∀ b ∈ [s.A.x, s.A.md, s.A.sn], b ∈ M := fun b hb => hM b (by
    simp only [List.mem_cons, List.not_mem_nil, or_false] at hb
    simp only [Side.own, List.mem_cons, List.not_mem_nil, or_false]
    rcases hb with e | e | e
    · exact .inl e
    · exact .inr (.inl e)
    · exact .inr (.inr (.inl e)))
  have hm : s.m ∉ [s.A.x, s.A.md, s.A.sn] := by
    simp only [Side.own, List.nodup_cons, List.mem_cons, List.not_mem_nil, or_false, not_or] at nd ⊢
    exact ⟨fun e => nd.1.2.2 e.symm, fun e => nd.2.1.2 e.symm, fun e => nd.2.2.1 e.symm⟩
  have c := Chg.of_but b
  exact ⟨W, ⟨L, ks, ma.keep c hm (fun z => n1 (hT _ z)) (fun z => n2 (hT _ z)) (fun z => n3 (hT _ z)), n1, n2, n3⟩, h.rl, h.rr.same (Rst.chg c hT)⟩
/-- its model changes -/
theorem Half.model (h : Half C M H s w wm) (c : Chg [s.m] H H') (hM : ∀ b ∈ s.own, b ∈ M) (nd : s.own.Nodup) (mo : ∃ L ks, MAt H' s.m L s.f s.R (s.rs.map (·.2)) v ks ∧ L.sa ∉ M ∧ L.ka ∉ M ∧ L.ta ∉ M) : Half C M H' s w v := by
  have nm : ∀ b, b ≠ s.m → b ∉ [s.m] := fun b h z => h (List.mem_singleton.mp z)
  simp only [Side.own, List.nodup_cons, List.mem_cons, List.not_mem_nil, or_false, not_or] at nd
  have hmM := hM s.m (by simp [Side.own])
  have hT : ∀ b ∈ [s.m], b ∈ M := fun b hb => by rw [List.mem_singleton.mp hb]; exact hmM
  exact ⟨h.W.keep c (nm _ nd.1.2.2) (nm _ nd.2.1.2) (nm _ nd.2.2.1) (nm _ fun e => h.rl (by rw [e]; exact hmM)), mo, h.rl, h.rr.same (Rst.chg c hT)⟩
theorem Half.alloc (h : Half C M H s w wm) : ∀ b ∈ s.own, H b ≠ none := by
  intro b hb
  obtain ⟨L, ks, ma, _⟩ := h.mo
  simp only [Side.own, List.mem_cons, List.not_mem_nil, or_false] at hb
  rcases hb with rfl | rfl | rfl | rfl
  · rw [h.W.ob]; exact fun z => nomatch z
  · rw [h.W.ma]; exact fun z => nomatch z
  · rw [h.W.se]; exact fun z => nomatch z
  · rw [ma.ob]; exact fun z => nomatch z
theorem SideOk.step {d : Deed} (o : SideOk s w) (h : stepK (s.rs.map (·.2)) s.R w d = .ok v) : SideOk s v := by
  have o1 : w.Ok (s.rs.map (·.2)).length := by rw [List.length_map]; exact o.ok
  have := o1.step h
  rw [List.length_map] at this
  exact ⟨this, o.ok2.step h, o.tr.step h⟩
end
def HeldAt (M : List Addr) (H : Hp) (hd : Addr) (k : Nat) : Prop := ∃ ts : List Addr, H hd = some (.lst (ts.map V.ref)) ∧ ts.length ≤ k ∧ ∀ t ∈ ts, PairAt (Rst M H) t
theorem HeldAt.keep {M T : List Addr} {H H' : Hp} {hd : Addr} {k : Nat} (h : HeldAt M H hd k) (c : Chg T H H') (hT : ∀ b ∈ T, b ∈ M) (hn : hd ∉ T) : HeldAt M H' hd k := by
  obtain ⟨ts, a, b, p⟩ := h
  exact ⟨ts, c _ _ a hn, b, fun t ht => (p t ht).same (Rst.chg c hT)⟩
/-- the whole -/
structure Sys (C : Addr) (H : Hp) (S T : Side) (hd : Addr) (w wm v vm : WK) (k : Nat) : Prop where
  nd : (muts S T hd).Nodup
  s : Half C (muts S T hd) H S w wm
  t : Half C (muts S T hd) H T v vm
  h : HeldAt (muts S T hd) H hd k
theorem muts_s {S T : Side} {hd b : Addr} (h : b ∈ S.own) : b ∈ muts S T hd := List.mem_append.mpr (.inl h)
theorem muts_t {S T : Side} {hd b : Addr} (h : b ∈ T.own) : b ∈ muts S T hd := List.mem_append.mpr (.inr (List.mem_append.mpr (.inl h)))
theorem muts_h {S T : Side} {hd : Addr} : hd ∈ muts S T hd := List.mem_append.mpr (.inr (List.mem_append.mpr (.inr (List.mem_singleton.mpr rfl))))
section
variable {C : Addr} {H H' : Hp} {S T : Side} {hd : Addr} {w wm v vm u : WK} {k : Nat}
theorem nd_parts (nd : (muts S T hd).Nodup) : S.own.Nodup ∧ T.own.Nodup ∧ (∀ a ∈ S.own, ∀ b ∈ T.own, a ≠ b) ∧ (∀ a ∈ S.own, a ≠ hd) ∧ (∀ a ∈ T.own, a ≠ hd) := by
  unfold muts at nd
  rw [List.nodup_append] at nd
  obtain ⟨n1, n2, n3⟩ := nd
  rw [List.nodup_append] at n2
  obtain ⟨n4, _, n5⟩ := n2
  exact ⟨n1, n4, fun a ha b hb => n3 a ha b (List.mem_append.mpr (.inl hb)), fun a ha => n3 a ha hd (List.mem_append.mpr (.inr (List.mem_singleton.mpr rfl))), fun a ha => n5 a ha hd (List.mem_singleton.mpr rfl)⟩
theorem sub3 {s : Side} {b : Addr} (h : b ∈ [s.A.x, s.A.md, s.A.sn]) : b ∈ s.own := by
  simp only [List.mem_cons, List.not_mem_nil, or_false] at h
  simp only [Side.own, List.mem_cons, List.not_mem_nil, or_false]
  rcases h with e | e | e
  · exact .inl e
  · exact .inr (.inl e)
  · exact .inr (.inr (.inl e))
theorem sub1 {s : Side} {b : Addr} (h : b ∈ [s.m]) : b ∈ s.own := by
  rw [List.mem_singleton.mp h]
  simp [Side.own]
theorem Sys.alloc (y : Sys C H S T hd w wm v vm k) : ∀ b ∈ muts S T hd, H b ≠ none := by
  intro b hb
  rcases List.mem_append.mp hb with h | h
  · exact y.s.alloc b h
  · rcases List.mem_append.mp h with h | h
    · exact y.t.alloc b h
    · obtain ⟨ts, a, _⟩ := y.h
      rw [List.mem_singleton.mp h, a]
      exact fun z => nomatch z
theorem Sys.new {b : Addr} (y : Sys C H S T hd w wm v vm k) (h : H b = none) : b ∉ muts S T hd := fun z => y.alloc b z h
theorem Sys.same (y : Sys C H S T hd w wm v vm k) (e : Same H H') : Sys C H' S T hd w wm v vm k :=
  ⟨y.nd, y.s.keep (T := []) (Chg.of_same e) (fun b hb => nomatch hb) (fun b _ z => nomatch z), y.t.keep (T := []) (Chg.of_same e) (fun b hb => nomatch hb) (fun b _ z => nomatch z), y.h.keep (T := []) (Chg.of_same e) (fun b hb => nomatch hb) (fun z => nomatch z)⟩
theorem Sys.stepS (y : Sys C H S T hd w wm v vm k) (b : But S.A H H') (W : WAt C H' S.A S.rs S.R u) : Sys C H' S T hd u wm v vm k := by
  obtain ⟨n1, n2, n3, n4, n5⟩ := nd_parts y.nd
  have c := Chg.of_but b
  exact ⟨y.nd, y.s.step b (fun b h => muts_s h) n1 W, y.t.keep c (fun b h => muts_s (sub3 h)) (fun b hb z => n3 b (sub3 z) b hb rfl), y.h.keep c (fun b h => muts_s (sub3 h)) (fun z => n4 _ (sub3 z) rfl)⟩
theorem Sys.stepT (y : Sys C H S T hd w wm v vm k) (b : But T.A H H') (W : WAt C H' T.A T.rs T.R u) : Sys C H' S T hd w wm u vm k := by
  obtain ⟨n1, n2, n3, n4, n5⟩ := nd_parts y.nd
  have c := Chg.of_but b
  exact ⟨y.nd, y.s.keep c (fun b h => muts_t (sub3 h)) (fun b hb z => n3 b hb b (sub3 z) rfl), y.t.step b (fun b h => muts_t h) n2 W, y.h.keep c (fun b h => muts_t (sub3 h)) (fun z => n5 _ (sub3 z) rfl)⟩
theorem Sys.modS {L L' : MA} {ks' : List Int} (y : Sys C H S T hd w wm v vm k) (c : Chg [S.m] H H') (hL : L.sa ∉ muts S T hd ∧ L.ka ∉ muts S T hd ∧ L.ta ∉ muts S T hd) (mo : MAt H' S.m L' S.f S.R (S.rs.map (·.2)) u ks') (e1 : L'.sa = L.sa) (e2 : L'.ka = L.ka ∨ H L'.ka = none) (e3 : L'.ta = L.ta ∨ H L'.ta = none) : Sys C H' S T hd w u v vm k := by
  obtain ⟨n1, n2, n3, n4, n5⟩ := nd_parts y.nd
  refine ⟨y.nd, y.s.model c (fun b h => muts_s h) n1 ⟨L', ks', mo, by rw [e1]; exact hL.1, ?_, ?_⟩, y.t.keep c (fun b h => muts_s (sub1 h)) (fun b hb z => n3 b (sub1 z) b hb rfl), y.h.keep c (fun b h => muts_s (sub1 h)) (fun z => n4 _ (sub1 z) rfl)⟩
  · rcases e2 with e | e
    · rw [e]; exact hL.2.1
    · exact y.new e
  · rcases e3 with e | e
    · rw [e]; exact hL.2.2
    · exact y.new e
theorem Sys.modT {L L' : MA} {ks' : List Int} (y : Sys C H S T hd w wm v vm k) (c : Chg [T.m] H H') (hL : L.sa ∉ muts S T hd ∧ L.ka ∉ muts S T hd ∧ L.ta ∉ muts S T hd) (mo : MAt H' T.m L' T.f T.R (T.rs.map (·.2)) u ks') (e1 : L'.sa = L.sa) (e2 : L'.ka = L.ka ∨ H L'.ka = none) (e3 : L'.ta = L.ta ∨ H L'.ta = none) : Sys C H' S T hd w wm v u k := by
  obtain ⟨n1, n2, n3, n4, n5⟩ := nd_parts y.nd
  refine ⟨y.nd, y.s.keep c (fun b h => muts_t (sub1 h)) (fun b hb z => n3 b hb b (sub1 z) rfl), y.t.model c (fun b h => muts_t h) n2 ⟨L', ks', mo, by rw [e1]; exact hL.1, ?_, ?_⟩, y.h.keep c (fun b h => muts_t (sub1 h)) (fun z => n5 _ (sub1 z) rfl)⟩
  · rcases e2 with e | e
    · rw [e]; exact hL.2.1
    · exact y.new e
  · rcases e3 with e | e
    · rw [e]; exact hL.2.2
    · exact y.new e
theorem Chg.mono {T M : List Addr} (c : Chg T H H') (h : ∀ b ∈ T, b ∈ M) : Chg M H H' := fun b o e n => c b o e fun z => n (h b z)
theorem Sys.kinds {b : Addr} (y : Sys C H S T hd w wm v vm k) (h : b ∈ muts S T hd) : (∃ c d fs, H b = some (.ins c d fs)) ∨ (∃ kvs, H b = some (.dK kvs)) ∨ (b = S.A.sn ∨ b = T.A.sn ∨ b = hd) ∧ ∃ xs, H b = some (.lst xs) := by
  obtain ⟨L, ks, ma, _⟩ := y.s.mo
  obtain ⟨L2, ks2, mb, _⟩ := y.t.mo
  obtain ⟨ts, a, _⟩ := y.h
  simp only [muts, Side.own, List.cons_append, List.nil_append, List.mem_cons, List.not_mem_nil, or_false] at h
  rcases h with rfl | rfl | rfl | rfl | rfl | rfl | rfl | rfl | rfl
  · exact .inl ⟨_, _, _, y.s.W.ob⟩
  · exact .inr (.inl ⟨_, y.s.W.ma⟩)
  · exact .inr (.inr ⟨.inl rfl, _, y.s.W.se⟩)
  · exact .inr (.inl ⟨_, ma.ob⟩)
  · exact .inl ⟨_, _, _, y.t.W.ob⟩
  · exact .inr (.inl ⟨_, y.t.W.ma⟩)
  · exact .inr (.inr ⟨.inr (.inl rfl), _, y.t.W.se⟩)
  · exact .inr (.inl ⟨_, mb.ob⟩)
  · exact .inr (.inr ⟨.inr (.inr rfl), _, a⟩)
theorem Sys.tup {b : Addr} {xs : List V} (y : Sys C H S T hd w wm v vm k) (h : H b = some (.tup xs)) : b ∉ muts S T hd := fun z => by
  rcases y.kinds z with ⟨_, _, _, e⟩ | ⟨_, e⟩ | ⟨_, _, e⟩
  · rw [h] at e; cases e
  · rw [h] at e; cases e
  · rw [h] at e; cases e
theorem Sys.lst {b : Addr} {xs : List V} (y : Sys C H S T hd w wm v vm k) (h : H b = some (.lst xs)) (n1 : b ≠ S.A.sn) (n2 : b ≠ T.A.sn) (n3 : b ≠ hd) : b ∉ muts S T hd := fun z => by
  rcases y.kinds z with ⟨_, _, _, e⟩ | ⟨_, e⟩ | ⟨e | e | e, _⟩
  · rw [h] at e; cases e
  · rw [h] at e; cases e
  · exact n1 e
  · exact n2 e
  · exact n3 e
/-- two more pairs are held -/
theorem Sys.held {ts : List Addr} {t1 t2 : Addr} (y : Sys C H S T hd w wm v vm k) (h0 : H hd = some (.lst (ts.map V.ref))) (hk : ts.length ≤ k) (hp : ∀ t ∈ ts, PairAt (Rst (muts S T hd) H) t) (c : Chg [hd] H H')
    (h1 : H' hd = some (.lst ((ts ++ [t1, t2]).map V.ref))) (p1 : PairAt (New H H') t1) (p2 : PairAt (New H H') t2) : Sys C H' S T hd w wm v vm (k + 2) := by
  obtain ⟨n1, n2, n3, n4, n5⟩ := nd_parts y.nd
  have hT : ∀ b ∈ [hd], b ∈ muts S T hd := fun b h => by rw [List.mem_singleton.mp h]; exact muts_h
  refine ⟨y.nd, y.s.keep c hT (fun b hb z => n4 b hb (List.mem_singleton.mp z)), y.t.keep c hT (fun b hb z => n5 b hb (List.mem_singleton.mp z)), ts ++ [t1, t2], h1, by rw [List.length_append]; show ts.length + 2 ≤ k + 2; omega, fun t ht => ?_⟩
  rcases List.mem_append.mp ht with z | z
  · exact (hp t z).same (Rst.chg c hT)
  · simp only [List.mem_cons, List.not_mem_nil, or_false] at z
    rcases z with rfl | rfl
    · exact p1.same (New.rst y.alloc)
    · exact p2.same (New.rst y.alloc)
end
end BM

namespace BM
open PySem PySem.Spec PyProof.Rows L2
def top (i : Nat) : Stmt := PySem.Challenge.pw_backmarks_k05_a_walkers_deeds.main.body.getD i (.Pass ⟨0, 0, 0, 0⟩)
abbrev s_is_among : Stmt := top 13
abbrev s_is_state : Stmt := top 14
abbrev s_is_rule : Stmt := top 15
abbrev s_need_row : Stmt := top 16
abbrev s_forth : Stmt := top 17
abbrev s_is_deed : Stmt := top 19
abbrev s_Walker_init : Stmt := inClass (top 22) 0
abbrev s_Walker_do : Stmt := inClass (top 22) 1
abbrev s_Walker_keep : Stmt := inClass (top 22) 2
abbrev s_Walker_go : Stmt := inClass (top 22) 3
abbrev s_Walker_meet : Stmt := inClass (top 22) 4
abbrev s_Walker_kept : Stmt := inClass (top 22) 5
abbrev s_Walker_met : Stmt := inClass (top 22) 6
abbrev s_l_cell_at : Stmt := top 24
abbrev s_l_number : Stmt := top 25
abbrev s_l_whole : Stmt := top 26
abbrev s_l_rule : Stmt := top 27
abbrev s_l_forth : Stmt := top 28
abbrev s_l_row : Stmt := top 29
abbrev s_l_states : Stmt := top 30
abbrev s_l_class : Stmt := top 31
abbrev s_l_new : Stmt := top 32
abbrev s_l_do : Stmt := top 33
abbrev s_l_deed : Stmt := top 34
abbrev s_l_told : Stmt := top 35
abbrev s_l_right : Stmt := top 36
abbrev s_l_room : Stmt := top 37
abbrev s_l_ahead : Stmt := top 38
abbrev s_law : Stmt := top 39
/-- what the top has left -/
structure Txt (K : PySem.W.Frag) (mg : Str → Option Value) : Type where
  aBadCount : Addr
  aBadRule : Addr
  aBadDeed : Addr
  aNotKept : Addr
  aTwice : Addr
  aFull : Addr
  aAtEnd : Addr
  aNotWanted : Addr
  aMarkError : Addr
  aWalker : Addr
  d_is_among : Def K mg "is_among" "is_among" s_is_among ["thing", "low", "high"]
  d_is_state : Def K mg "is_state" "is_state" s_is_state ["thing"]
  d_is_rule : Def K mg "is_rule" "is_rule" s_is_rule ["thing"]
  d_need_row : Def K mg "need_row" "need_row" s_need_row ["first", "rules"]
  d_forth : Def K mg "forth" "forth" s_forth ["rule", "state"]
  d_is_deed : Def K mg "is_deed" "is_deed" s_is_deed ["thing"]
  d_l_cell_at : Def K mg "_law_cell_at" "_law_cell_at" s_l_cell_at ["_law_script", "_law_k"]
  d_l_number : Def K mg "_law_number" "_law_number" s_l_number ["_law_script", "_law_k"]
  d_l_whole : Def K mg "_law_whole" "_law_whole" s_l_whole ["_law_found"]
  d_l_rule : Def K mg "_law_rule" "_law_rule" s_l_rule ["_law_number_here"]
  d_l_forth : Def K mg "_law_forth" "_law_forth" s_l_forth ["_law_rule_here", "_law_state"]
  d_l_row : Def K mg "_law_row" "_law_row" s_l_row ["_law_script", "_law_start", "_law_most"]
  d_l_states : Def K mg "_law_states" "_law_states" s_l_states ["_law_first", "_law_rules"]
  d_l_class : Def K mg "_law_class" "_law_class" s_l_class ["_law_e"]
  d_l_new : Def K mg "_law_new" "_law_new" s_l_new ["_law_first", "_law_rules", "_law_room_here"]
  d_l_do : Def K mg "_law_do" "_law_do" s_l_do ["_law_m", "_law_deed_here"]
  d_l_deed : Def K mg "_law_deed" "_law_deed" s_l_deed ["_law_m", "_law_number_here"]
  d_l_told : Def K mg "_law_told" "_law_told" s_l_told ["_law_walker", "_law_deed_here"]
  d_l_right : Def K mg "_law_right" "_law_right" s_l_right ["_law_walker", "_law_m", "_law_held"]
  d_l_room : Def K mg "_law_room" "_law_room" s_l_room ["_law_script"]
  d_l_ahead : Def K mg "_law_ahead" "_law_ahead" s_l_ahead ["_law_script", "_law_many"]
  d_law : Def K mg "law" "law" s_law ["_law_script"]
  o_Walker : OCW K mg aWalker
  d_Walker_init : DefI K aWalker "__init__" "Walker.__init__" s_Walker_init ["self", "first", "rules", "room"]
  d_Walker_keep : DefM K aWalker "keep" "Walker.keep" s_Walker_keep ["self"]
  d_Walker_meet : DefM K aWalker "meet" "Walker.meet" s_Walker_meet ["self"]
  d_Walker_go : DefM K aWalker "go" "Walker.go" s_Walker_go ["self", "many"]
  d_Walker_do : DefM K aWalker "do" "Walker.do" s_Walker_do ["self", "deed"]
  d_Walker_kept : DefM K aWalker "kept" "Walker.kept" s_Walker_kept ["self"]
  d_Walker_met : DefM K aWalker "met" "Walker.met" s_Walker_met ["self"]
  c_MODULUS : ∃ t, mg "MODULUS" = some (.int 999983 t)
  c_MOST_STEPS : ∃ t, mg "MOST_STEPS" = some (.int 100 t)
  c_MOST_ROOM : ∃ t, mg "MOST_ROOM" = some (.int 12 t)
  n_isinstance : mg "isinstance" = none
  n_bool : mg "bool" = none
  n_int : mg "int" = none
  n_str : mg "str" = none
  n_len : mg "len" = none
  n_tuple : mg "tuple" = none
  n_list : mg "list" = none
  n_sorted : mg "sorted" = none
  n_range : mg "range" = none
  n_ValueError : mg "ValueError" = none
  n_all : mg "all" = none
  n_min : mg "min" = none
  x_BadCount : XC K mg "BadCount" aBadCount
  x_BadRule : XC K mg "BadRule" aBadRule
  x_BadDeed : XC K mg "BadDeed" aBadDeed
  x_NotKept : XC K mg "NotKept" aNotKept
  x_Twice : XC K mg "Twice" aTwice
  x_Full : XC K mg "Full" aFull
  x_AtEnd : XC K mg "AtEnd" aAtEnd
  x_NotWanted : XC K mg "NotWanted" aNotWanted
  x_MarkError : XC K mg "MarkError" aMarkError
  q_BadDeed : Kind K (fun j => [aBadCount, aBadRule, aBadDeed, aFull, aTwice, aNotKept, aAtEnd, aNotWanted].getD j 0) aBadDeed 2
  e_BadDeed : PySem.W.exmOne K (.ref aBadDeed) (.ref aMarkError) = some true
  q_Full : Kind K (fun j => [aBadCount, aBadRule, aBadDeed, aFull, aTwice, aNotKept, aAtEnd, aNotWanted].getD j 0) aFull 3
  e_Full : PySem.W.exmOne K (.ref aFull) (.ref aMarkError) = some true
  q_Twice : Kind K (fun j => [aBadCount, aBadRule, aBadDeed, aFull, aTwice, aNotKept, aAtEnd, aNotWanted].getD j 0) aTwice 4
  e_Twice : PySem.W.exmOne K (.ref aTwice) (.ref aMarkError) = some true
  q_NotKept : Kind K (fun j => [aBadCount, aBadRule, aBadDeed, aFull, aTwice, aNotKept, aAtEnd, aNotWanted].getD j 0) aNotKept 5
  e_NotKept : PySem.W.exmOne K (.ref aNotKept) (.ref aMarkError) = some true
  q_AtEnd : Kind K (fun j => [aBadCount, aBadRule, aBadDeed, aFull, aTwice, aNotKept, aAtEnd, aNotWanted].getD j 0) aAtEnd 6
  e_AtEnd : PySem.W.exmOne K (.ref aAtEnd) (.ref aMarkError) = some true
  q_NotWanted : Kind K (fun j => [aBadCount, aBadRule, aBadDeed, aFull, aTwice, aNotKept, aAtEnd, aNotWanted].getD j 0) aNotWanted 7
  e_NotWanted : PySem.W.exmOne K (.ref aNotWanted) (.ref aMarkError) = some true
def Txt.w8 {K : PySem.W.Frag} {mg : Str → Option Value} (T : Txt K mg) : Nat → Addr := fun j => [0, 0, T.aBadDeed, T.aFull, T.aTwice, T.aNotKept, T.aAtEnd, T.aNotWanted].getD j 0
def Txt.c8 {K : PySem.W.Frag} {mg : Str → Option Value} (T : Txt K mg) : Nat → Addr := fun j => [T.aBadCount, T.aBadRule, T.aBadDeed, T.aFull, T.aTwice, T.aNotKept, T.aAtEnd, T.aNotWanted].getD j 0
theorem sc_is_among : FnScope ["thing", "low", "high"] ["thing", "low", "high"] (defScope s_is_among) := ⟨rfl, rfl, rfl, by decide +kernel, rfl, by decide +kernel, by decide +kernel⟩
theorem sc_is_state : FnScope ["thing"] ["thing"] (defScope s_is_state) := ⟨rfl, rfl, rfl, by decide +kernel, rfl, by decide +kernel, by decide +kernel⟩
theorem sc_is_rule : FnScope ["thing"] ["thing"] (defScope s_is_rule) := ⟨rfl, rfl, rfl, by decide +kernel, rfl, by decide +kernel, by decide +kernel⟩
theorem sc_need_row : FnScope ["first", "rules", "rule"] ["first", "rules"] (defScope s_need_row) := ⟨rfl, rfl, rfl, by decide +kernel, rfl, by decide +kernel, by decide +kernel⟩
theorem sc_forth : FnScope ["rule", "state"] ["rule", "state"] (defScope s_forth) := ⟨rfl, rfl, rfl, by decide +kernel, rfl, by decide +kernel, by decide +kernel⟩
theorem sc_is_deed : FnScope ["thing"] ["thing"] (defScope s_is_deed) := ⟨rfl, rfl, rfl, by decide +kernel, rfl, by decide +kernel, by decide +kernel⟩
theorem sc_Walker_init : FnScope ["self", "first", "rules", "room"] ["self", "first", "rules", "room"] (defScope s_Walker_init) := ⟨rfl, rfl, rfl, by decide +kernel, rfl, by decide +kernel, by decide +kernel⟩
theorem sc_Walker_keep : FnScope ["self"] ["self"] (defScope s_Walker_keep) := ⟨rfl, rfl, rfl, by decide +kernel, rfl, by decide +kernel, by decide +kernel⟩
theorem sc_Walker_meet : FnScope ["self"] ["self"] (defScope s_Walker_meet) := ⟨rfl, rfl, rfl, by decide +kernel, rfl, by decide +kernel, by decide +kernel⟩
theorem sc_Walker_go : FnScope ["self", "many", "rule"] ["self", "many"] (defScope s_Walker_go) := ⟨rfl, rfl, rfl, by decide +kernel, rfl, by decide +kernel, by decide +kernel⟩
theorem sc_Walker_do : FnScope ["self", "deed"] ["self", "deed"] (defScope s_Walker_do) := ⟨rfl, rfl, rfl, by decide +kernel, rfl, by decide +kernel, by decide +kernel⟩
theorem sc_Walker_kept : FnScope ["self", "place"] ["self"] (defScope s_Walker_kept) := ⟨rfl, rfl, rfl, by decide +kernel, rfl, by decide +kernel, by decide +kernel⟩
theorem sc_Walker_met : FnScope ["self"] ["self"] (defScope s_Walker_met) := ⟨rfl, rfl, rfl, by decide +kernel, rfl, by decide +kernel, by decide +kernel⟩
theorem sc_l_cell_at : FnScope ["_law_script", "_law_k"] ["_law_script", "_law_k"] (defScope s_l_cell_at) := ⟨rfl, rfl, rfl, by decide +kernel, rfl, by decide +kernel, by decide +kernel⟩
theorem sc_l_number : FnScope ["_law_script", "_law_k", "_law_base"] ["_law_script", "_law_k"] (defScope s_l_number) := ⟨rfl, rfl, rfl, by decide +kernel, rfl, by decide +kernel, by decide +kernel⟩
theorem sc_l_whole : FnScope ["_law_found"] ["_law_found"] (defScope s_l_whole) := ⟨rfl, rfl, rfl, by decide +kernel, rfl, by decide +kernel, by decide +kernel⟩
theorem sc_l_rule : FnScope ["_law_number_here", "_law_k"] ["_law_number_here"] (defScope s_l_rule) := ⟨rfl, rfl, rfl, by decide +kernel, rfl, by decide +kernel, by decide +kernel⟩
theorem sc_l_forth : FnScope ["_law_rule_here", "_law_state"] ["_law_rule_here", "_law_state"] (defScope s_l_forth) := ⟨rfl, rfl, rfl, by decide +kernel, rfl, by decide +kernel, by decide +kernel⟩
theorem sc_l_row : FnScope ["_law_script", "_law_start", "_law_most", "_law_first", "_law_many", "_law_k"] ["_law_script", "_law_start", "_law_most"] (defScope s_l_row) := ⟨rfl, rfl, rfl, by decide +kernel, rfl, by decide +kernel, by decide +kernel⟩
theorem sc_l_states : FnScope ["_law_first", "_law_rules", "_law_found", "_law_rule_here"] ["_law_first", "_law_rules"] (defScope s_l_states) := ⟨rfl, rfl, rfl, by decide +kernel, rfl, by decide +kernel, by decide +kernel⟩
theorem sc_l_class : FnScope ["_law_e", "_law_kinds", "_law_words"] ["_law_e"] (defScope s_l_class) := ⟨rfl, rfl, rfl, by decide +kernel, rfl, by decide +kernel, by decide +kernel⟩
theorem sc_l_new : FnScope ["_law_first", "_law_rules", "_law_room_here", "_law_m"] ["_law_first", "_law_rules", "_law_room_here"] (defScope s_l_new) := ⟨rfl, rfl, rfl, by decide +kernel, rfl, by decide +kernel, by decide +kernel⟩
theorem sc_l_do : FnScope ["_law_m", "_law_deed_here", "_law_word", "_law_mark"] ["_law_m", "_law_deed_here"] (defScope s_l_do) := ⟨rfl, rfl, rfl, by decide +kernel, rfl, by decide +kernel, by decide +kernel⟩
theorem sc_l_deed : FnScope ["_law_m", "_law_number_here", "_law_way", "_law_mark", "_law_odd"] ["_law_m", "_law_number_here"] (defScope s_l_deed) := ⟨rfl, rfl, rfl, by decide +kernel, rfl, by decide +kernel, by decide +kernel⟩
theorem sc_l_told : FnScope ["_law_walker", "_law_deed_here", "_law_e"] ["_law_walker", "_law_deed_here"] (defScope s_l_told) := ⟨rfl, rfl, rfl, by decide +kernel, rfl, by decide +kernel, by decide +kernel⟩
theorem sc_l_right : FnScope ["_law_walker", "_law_m", "_law_held", "_law_wanted", "_law_found", "_law_due", "_law_kept", "_law_met", "_law_pair", "_law_mark", "_law_one"] ["_law_walker", "_law_m", "_law_held"] (defScope s_l_right) := ⟨rfl, rfl, rfl, by decide +kernel, rfl, by decide +kernel, by decide +kernel⟩
theorem sc_l_room : FnScope ["_law_script", "_law_room_here"] ["_law_script"] (defScope s_l_room) := ⟨rfl, rfl, rfl, by decide +kernel, rfl, by decide +kernel, by decide +kernel⟩
theorem sc_l_ahead : FnScope ["_law_script", "_law_many", "_law_number_here", "_law_far", "_law_near", "_law_found"] ["_law_script", "_law_many"] (defScope s_l_ahead) := ⟨rfl, rfl, rfl, by decide +kernel, rfl, by decide +kernel, by decide +kernel⟩
theorem sc_law : FnScope ["_law_script", "_law_room_here", "_law_rows", "_law_handed", "_law_walkers", "_law_models", "_law_held", "_law_ahead_here", "_law_k", "_law_which", "_law_deed_here", "_law_due", "_law_odd", "_law_pair"] ["_law_script"] (defScope s_law) := ⟨rfl, rfl, rfl, by decide +kernel, rfl, by decide +kernel, by decide +kernel⟩
section
variable {P : Program} {w : World} {K : PySem.W.Frag} {mg : Str → Option Value} {base : Heap}
-- @@ is_among
/-- is_among(thing, low, high) -/
def sp_is_among (K : PySem.W.Frag) : Sp := fun vs H Q _ => ∃ (x : V) (lo hi : Int) (o : Option Int), vs = [x, .int lo, .int hi] ∧ Thg K H x o ∧ Q (.bl (among o lo hi)) H
theorem ok_is_among (T : Txt K mg) : OkF P w K mg base "is_among" 1 ["thing", "low", "high"] (sp_is_among K) := by
  refine okf T.d_is_among sc_is_among (fun vs H Q E h => ?_) (fun f cdv A outer s H vs Q E hr h => ?_)
  · obtain ⟨x, lo, hi, o, rfl, th, k⟩ := h
    rfl
  · obtain ⟨x, lo, hi, o, rfl, th, k⟩ := h
    refine ⟨_, (pss_one (ps_ret (pe_and (pe_callB call_isi (by rfl) T.n_isinstance (by decide +kernel) (pa_cons (pv 0) (pa_cons (pe_bltn (v := .ty "int") (by rfl) T.n_int (by decide +kernel) rfl) pa_nil))) (pe_and (pe_not (pe_callB call_isi (by rfl) T.n_isinstance (by decide +kernel) (pa_cons (pv 0) (pa_cons (pe_bltn (v := .ty "bool") (by rfl) T.n_bool (by decide +kernel) rfl) pa_nil)))) (pe_one (pe_chain op_le op_le (pv 1) (pv 0) (pv 2))))))), ?_⟩
    refine ⟨_, rfl, ?_⟩
    cases th with
    | int i =>
      refine ⟨_, _, _, _, true, rfl, .ty "int", .base (.int i), kit_ty (by decide +kernel), true, rfl, iteT ?_⟩
      refine ⟨_, rfl, _, _, _, _, false, rfl, .ty "bool", .base (.int i), kit_ty (by decide +kernel), false, rfl, true, rfl, iteT ?_⟩
      refine ⟨_, rfl, _, rfl, _, _, rfl, rfl, _, rfl, ?_⟩
      refine ite2 (fun c => ?_) (fun c => ?_)
      · refine ⟨_, rfl, _, _, rfl, rfl, ?_⟩
        have e : among (some i) lo hi = decide (i ≤ hi) := by
          show (decide (lo ≤ i) && decide (i ≤ hi)) = decide (i ≤ hi)
          rw [c, Bool.true_and]
        rw [e] at k
        exact k
      · have e : among (some i) lo hi = false := by
          show (decide (lo ≤ i) && decide (i ≤ hi)) = false
          rw [Bool.eq_false_iff.mpr c, Bool.false_and]
        rw [e] at k
        exact k
    | bl b =>
      refine ⟨_, _, _, _, true, rfl, .ty "int", .base (.bl b), kit_ty (by decide +kernel), true, rfl, iteT ?_⟩
      refine ⟨_, rfl, _, _, _, _, true, rfl, .ty "bool", .base (.bl b), kit_ty (by decide +kernel), true, rfl, false, rfl, iteF ?_⟩
      exact k
    | oth ty ni =>
      refine ⟨_, _, _, _, false, rfl, .ty "int", ty, ni, false, rfl, iteF ?_⟩
      exact k
-- @@ is_state
def sp_is_state (K : PySem.W.Frag) : Sp := fun vs H Q _ => ∃ (x : V) (o : Option Int), vs = [x] ∧ Thg K H x o ∧ Q (.bl (among o 0 999982)) H
theorem ok_is_state (T : Txt K mg) : OkF P w K mg base "is_state" 2 ["thing"] (sp_is_state K) := by
  obtain ⟨f_is_among, fd_is_among, m_is_among, k_is_among, b_is_among, G_is_among⟩ := ok_is_among (P := P) (w := w) (base := base) T
  refine okf T.d_is_state sc_is_state (fun vs H Q E h => ?_) (fun f cdv A outer s H vs Q E hr h => ?_)
  · obtain ⟨x, o, rfl, th, k⟩ := h
    rfl
  · obtain ⟨x, o, rfl, th, k⟩ := h
    refine ⟨_, (pss_one (ps_ret (pe_call G_is_among (hr.mono (by decide)) (by rfl) m_is_among k_is_among b_is_among .nil passL (pa_cons (pv 0) (pa_cons pe_int (pa_cons (pe_op op_sub (pe_glob (v := .int 999983) (by rfl) T.c_MODULUS.choose_spec ⟨_, rfl⟩) pe_int) pa_nil)))))), ?_⟩
    exact ⟨_, rfl, _, _, rfl, rfl, x, 0, 999982, o, rfl, th, k⟩
-- @@ is_rule
def sp_is_rule (K : PySem.W.Frag) : Sp := fun vs H Q _ => ∃ (x : V) (b : Bool), vs = [x] ∧ RuleTh K H x b ∧ Q (.bl b) H
theorem str_eq (w v : Str) : decide (V.str w = V.str v) = decide (w = v) := decide_eq_decide.mpr ⟨V.str.inj, fun e => by rw [e]⟩
theorem len_ne0 {v : V} {r : List V} : decide (V.int ((v :: r).length : Int) = V.int 0) = false := decide_eq_false (fun z => by have := V.int.inj z; rw [List.length_cons] at this; omega)
def RTail (K : PySem.W.Frag) (H : Hp) (w : Str) (r : List V) (b : Bool) : Prop :=
  ((w = "add" ∨ w = "times") ∧ r.length ≠ 1 ∧ b = false) ∨ (∃ v o, (w = "add" ∨ w = "times") ∧ r = [v] ∧ Thg K H v o ∧ b = among o 0 999982) ∨ (w ≠ "add" ∧ w ≠ "times" ∧ b = (decide (r = []) && (decide (w = "square") || decide (w = "half"))))
theorem ok_is_rule (T : Txt K mg) : OkF P w K mg base "is_rule" 3 ["thing"] (sp_is_rule K) := by
  obtain ⟨f_is_state, fd_is_state, m_is_state, k_is_state, b_is_state, G_is_state⟩ := ok_is_state (P := P) (w := w) (base := base) T
  refine okf T.d_is_rule sc_is_rule (fun vs H Q E h => ?_) (fun f cdv A outer s H vs Q E hr h => ?_)
  · obtain ⟨x, b, rfl, th, k⟩ := h
    rfl
  · obtain ⟨x, b, rfl, th, k⟩ := h
    refine ⟨_, (Evl.pss_cut (ps_if (PW.pt (pw_or (pt_not (pt_val (pe_callB call_isi (by rfl) T.n_isinstance (by decide +kernel) (pa_cons (pv 0) (pa_cons (pe_bltn (v := .ty "tuple") (by rfl) T.n_tuple (by decide +kernel) rfl) pa_nil))))) (pw_or (pt_cmpR op_eq (pe_callB call_len_seq (by rfl) T.n_len PySem.boot_len (pa_cons (pv 0) pa_nil)) pe_int (nomark _)) (pw_or1 (pt_not (pt_val (pe_callB call_isi (by rfl) T.n_isinstance (by decide +kernel) (pa_cons (pe_ix ix_tup (pv 0) pe_int (fun _ _ => rfl)) (pa_cons (pe_bltn (v := .ty "str") (by rfl) T.n_str (by decide +kernel) rfl) pa_nil)))))))))
        (pss_one (ps_ret pe_bl))
        pss_nil)
        (Evl.pss_cut (ps_if (PW.pt (pw_or (pt_cmpR op_eq (pe_ix ix_tup (pv 0) pe_int (fun _ _ => rfl)) pe_str (nomark _)) (pw_or1 (pt_cmpR op_eq (pe_ix ix_tup (pv 0) pe_int (fun _ _ => rfl)) pe_str (nomark _)))))
        (pss_one (ps_ret (pe_and (pe_cmpR op_eq (pe_callB call_len_seq (by rfl) T.n_len PySem.boot_len (pa_cons (pv 0) pa_nil)) pe_int (nomark _)) (pe_one (pe_call G_is_state (hr.mono (by decide)) (by rfl) m_is_state k_is_state b_is_state .nil passL (pa_cons (pe_ix ix_tup (pv 0) pe_int (fun _ _ => rfl)) pa_nil))))))
        pss_nil)
        (pss_one (ps_ret (pe_and (pe_cmpR op_eq (pe_callB call_len_seq (by rfl) T.n_len PySem.boot_len (pa_cons (pv 0) pa_nil)) pe_int (nomark _)) (pe_one (pe_or (pe_cmpR op_eq (pe_ix ix_tup (pv 0) pe_int (fun _ _ => rfl)) pe_str (nomark _)) (pe_one (pe_cmpR op_eq (pe_ix ix_tup (pv 0) pe_int (fun _ _ => rfl)) pe_str (nomark _)))))))))), ?_⟩
    refine ⟨fun σ H' => H' = H ∧ σ = [some x] ∧ ∃ q w r, x = .ref q ∧ H q = some (.tup (.str w :: r)) ∧ RTail K H w r b, ?_, ?_⟩
    · cases th with
      | ntup ty ni =>
        exact ⟨_, rfl, x, _, _, _, false, rfl, .ty "tuple", ty, ni, false, rfl, iteT k⟩
      | @nil q hq =>
        refine ⟨_, rfl, .ref q, _, _, _, true, rfl, .ty "tuple", .base (.tup hq), kit_ty (by decide +kernel), true, rfl, iteF ?_⟩
        exact ⟨_, rfl, q, _, rfl, .inr (SqT.of hq), rfl, _, rfl, iteT k⟩
      | @nstr q v r t hq ty ni =>
        refine ⟨_, rfl, .ref q, _, _, _, true, rfl, .ty "tuple", .base (.tup hq), kit_ty (by decide +kernel), true, rfl, iteF ?_⟩
        refine ⟨_, rfl, q, _, rfl, .inr (SqT.of hq), rfl, _, rfl, ?_⟩
        rw [len_ne0]
        refine iteF ?_
        exact ⟨_, rfl, q, _, _, v, rfl, rfl, SqT.of hq, atI_nat (j := 0) rfl, v, _, _, _, false, rfl, .ty "str", ty, ni, false, rfl, iteT k⟩
      | @two q w r hq hw hl =>
        refine ⟨_, rfl, .ref q, _, _, _, true, rfl, .ty "tuple", .base (.tup hq), kit_ty (by decide +kernel), true, rfl, iteF ?_⟩
        refine ⟨_, rfl, q, _, rfl, .inr (SqT.of hq), rfl, _, rfl, ?_⟩
        rw [len_ne0]
        refine iteF ?_
        exact ⟨_, rfl, q, _, _, .str w, rfl, rfl, SqT.of hq, atI_nat (j := 0) rfl, .str w, _, _, _, true, rfl, .ty "str", .base (.str _), kit_ty (by decide +kernel), true, rfl, iteF ⟨rfl, rfl, q, w, r, rfl, hq, .inl ⟨hw, hl, rfl⟩⟩⟩
      | @num q w v o hq hw th =>
        refine ⟨_, rfl, .ref q, _, _, _, true, rfl, .ty "tuple", .base (.tup hq), kit_ty (by decide +kernel), true, rfl, iteF ?_⟩
        refine ⟨_, rfl, q, _, rfl, .inr (SqT.of hq), rfl, _, rfl, iteF ?_⟩
        exact ⟨_, rfl, q, _, _, .str w, rfl, rfl, SqT.of hq, atI_nat (j := 0) rfl, .str w, _, _, _, true, rfl, .ty "str", .base (.str _), kit_ty (by decide +kernel), true, rfl, iteF ⟨rfl, rfl, q, w, _, rfl, hq, .inr (.inl ⟨v, o, hw, rfl, th, rfl⟩)⟩⟩
      | @one q w r _ hq h1 h2 hb =>
        refine ⟨_, rfl, .ref q, _, _, _, true, rfl, .ty "tuple", .base (.tup hq), kit_ty (by decide +kernel), true, rfl, iteF ?_⟩
        refine ⟨_, rfl, q, _, rfl, .inr (SqT.of hq), rfl, _, rfl, ?_⟩
        rw [len_ne0]
        refine iteF ?_
        exact ⟨_, rfl, q, _, _, .str w, rfl, rfl, SqT.of hq, atI_nat (j := 0) rfl, .str w, _, _, _, true, rfl, .ty "str", .base (.str _), kit_ty (by decide +kernel), true, rfl, iteF ⟨rfl, rfl, q, w, r, rfl, hq, .inr (.inr ⟨h1, h2, hb⟩)⟩⟩
    rintro σ H' ⟨rfl, rfl, q, w, r, rfl, hq, tl⟩
    refine ⟨fun σ H1 => H1 = H' ∧ σ = [some (.ref q)] ∧ b = (decide (r = []) && (decide (w = "square") || decide (w = "half"))), ?_, ?_⟩
    · have go : (w = "add" ∨ w = "times") → (tAndV (tOp rEq (tCB (fun xs H Q => ∃ p ys, xs = [V.ref p] ∧ (SqL K H p ys ∨ SqT K H p ys) ∧ Q (V.int ys.length) H) (tCons (tVar 0) tNil)) (tC (.int 2))) (tCall (sp_is_state K) [] E0 (tCons (tOp (rIxT K) (tVar 0) (tC (.int 1))) tNil))) [some (.ref q)] H' (fun v H2 => Q v H2) := fun hw => by
        refine ⟨_, rfl, q, _, rfl, .inr (SqT.of hq), rfl, _, rfl, ?_⟩
        rcases tl with ⟨_, hl, hb⟩ | ⟨v, o, _, rfl, th, hb⟩ | ⟨h1, h2, _⟩
        · rw [show decide (V.int ((V.str w :: r).length : Int) = V.int 2) = false from decide_eq_false (fun z => by have := V.int.inj z; rw [List.length_cons] at this; omega)]
          rw [hb] at k
          exact iteF k
        · refine iteT ?_
          rw [hb] at k
          exact ⟨_, rfl, q, _, _, v, rfl, rfl, SqT.of hq, atI_nat (j := 1) rfl, v, o, rfl, th, k⟩
        · exact absurd hw (fun z => z.elim h1 h2)
      refine ⟨_, rfl, q, _, _, .str w, rfl, rfl, SqT.of hq, atI_nat (j := 0) rfl, rfl, _, rfl, ?_⟩
      rw [str_eq]
      refine ite2 (fun c => ?_) (fun c => ?_)
      · exact iteT (go (.inl (of_decide_eq_true c)))
      · refine ⟨_, rfl, q, _, _, .str w, rfl, rfl, SqT.of hq, atI_nat (j := 0) rfl, rfl, _, rfl, ?_⟩
        rw [str_eq]
        refine ite2 (fun c2 => ?_) (fun c2 => ?_)
        · exact go (.inr (of_decide_eq_true c2))
        · rcases tl with ⟨hw, _⟩ | ⟨v, o, hw, _⟩ | ⟨h1, h2, hb⟩
          · exact absurd hw (fun z => z.elim (fun z => c (decide_eq_true z)) (fun z => c2 (decide_eq_true z)))
          · exact absurd hw (fun z => z.elim (fun z => c (decide_eq_true z)) (fun z => c2 (decide_eq_true z)))
          · exact ⟨rfl, rfl, hb⟩
    rintro σ H1 ⟨rfl, rfl, hb⟩
    refine ⟨_, rfl, q, _, rfl, .inr (SqT.of hq), rfl, _, rfl, ?_⟩
    have el : decide (V.int ((V.str w :: r).length : Int) = V.int 1) = decide (r = []) := decide_eq_decide.mpr ⟨fun z => by
      have := V.int.inj z
      rw [List.length_cons] at this
      exact List.length_eq_zero_iff.mp (by omega), fun z => by rw [z] <;> rfl⟩
    rw [el]
    rw [hb] at k
    refine ite2 (fun c => ?_) (fun c => ?_)
    · rw [c, Bool.true_and] at k
      refine ⟨_, rfl, q, _, _, .str w, rfl, rfl, SqT.of hq, atI_nat (j := 0) rfl, rfl, _, rfl, ?_⟩
      rw [str_eq]
      refine ite2 (fun c1 => ?_) (fun c1 => ?_)
      · rw [c1, Bool.true_or] at k
        exact k
      · rw [Bool.eq_false_iff.mpr c1, Bool.false_or] at k
        refine ⟨_, rfl, q, _, _, .str w, rfl, rfl, SqT.of hq, atI_nat (j := 0) rfl, rfl, ?_⟩
        rw [str_eq]
        exact k
    · rw [Bool.eq_false_iff.mpr c, Bool.false_and] at k
      exact k
-- @@ need_row
def sp_need_row (K : PySem.W.Frag) (C1 C2 : Addr) : Sp := fun vs H Q E => ∃ (x y : V) (o : Option Int) (b : Bool), vs = [x, y] ∧ Thg K H x o ∧ ListTh K H y b ∧ (among o 0 999982 = false → E (.ref C1) none H) ∧ (among o 0 999982 = true → b = false → E (.ref C2) none H) ∧ (among o 0 999982 = true → b = true → Q .non H)
theorem ok_need_row (T : Txt K mg) : OkF P w K mg base "need_row" 4 ["first", "rules"] (sp_need_row K T.aBadCount T.aBadRule) := by
  obtain ⟨f_is_state, fd_is_state, m_is_state, k_is_state, b_is_state, G_is_state⟩ := ok_is_state (P := P) (w := w) (base := base) T
  obtain ⟨f_is_rule, fd_is_rule, m_is_rule, k_is_rule, b_is_rule, G_is_rule⟩ := ok_is_rule (P := P) (w := w) (base := base) T
  refine okf T.d_need_row sc_need_row (fun vs H Q E h => ?_) (fun f cdv A outer s H vs Q E hr h => ?_)
  · obtain ⟨x, y, o, b, rfl, tx, ty, k1, k2, k3⟩ := h
    rfl
  · obtain ⟨x, y, o, b, rfl, tx, ty, k1, k2, k3⟩ := h
    refine ⟨_, (pss_cons (ps_if (pt_not (pt_val (pe_call G_is_state (hr.mono (by decide)) (by rfl) m_is_state k_is_state b_is_state .nil passL (pa_cons (pv 0) pa_nil))))
        (pss_one (ps_raise rfl (takes_of rfl rfl rfl rfl) (pmk_own PySem.F.excBase_ValueError T.x_BadCount.x T.x_BadCount.g T.x_BadCount.k (raises_own T.x_BadCount.b T.x_BadCount.t) rfl)))
        pss_nil)
        (pss_cons (ps_if (PW.pt (pw_or (pt_not (pt_val (pe_callB call_isi (by rfl) T.n_isinstance (by decide +kernel) (pa_cons (pv 1) (pa_cons (pe_bltn (v := .ty "list") (by rfl) T.n_list (by decide +kernel) rfl) pa_nil))))) (pw_or1 (pt_cmpR op_gt (pe_callB call_len_seq (by rfl) T.n_len PySem.boot_len (pa_cons (pv 1) pa_nil)) (pe_glob (v := .int 100) (by rfl) T.c_MOST_STEPS.choose_spec ⟨_, rfl⟩) (nomark _)))))
        (pss_one (ps_raise rfl (takes_of rfl rfl rfl rfl) (pmk_own PySem.F.excBase_ValueError T.x_BadRule.x T.x_BadRule.g T.x_BadRule.k (raises_own T.x_BadRule.b T.x_BadRule.t) rfl)))
        pss_nil)
        (pss_one (ps_for (passes_of rfl) rfl (pi_list (pv 1)) (pg_name (i := 2) sc_need_row.nd rfl (Or.inl rfl))
        (pss_one (ps_if (pt_not (pt_val (pe_call G_is_rule (hr.mono (by decide)) (by rfl) m_is_rule k_is_rule b_is_rule .nil passL (pa_cons (pv 2) pa_nil))))
        (pss_one (ps_raise rfl (takes_of rfl rfl rfl rfl) (pmk_own PySem.F.excBase_ValueError T.x_BadRule.x T.x_BadRule.g T.x_BadRule.k (raises_own T.x_BadRule.b T.x_BadRule.t) rfl)))
        pss_nil)))))), ?_⟩
    refine ⟨_, rfl, x, o, rfl, tx, _, rfl, ?_⟩
    cases c : among o 0 999982 with
    | false => exact iteT (k1 c)
    | true =>
      refine iteF ?_
      cases ty with
      | nlist ty ni =>
        exact ⟨_, rfl, y, _, _, _, false, rfl, .ty "list", ty, ni, false, rfl, iteT (k2 c rfl)⟩
      | @big p xs hP hl =>
        refine ⟨_, rfl, .ref p, _, _, _, true, rfl, .ty "list", .base (.lst hP), kit_ty (by decide +kernel), true, rfl, iteF ?_⟩
        refine ⟨_, rfl, p, _, rfl, .inl (SqL.of hP), _, _, rfl, rfl, _, rfl, ?_⟩
        rw [decide_eq_true (show (100 : Int) < (xs.length : Int) by omega)]
        exact iteT (k2 c rfl)
      | @all p xs bs hP hl hb ht =>
        refine ⟨_, rfl, .ref p, _, _, _, true, rfl, .ty "list", .base (.lst hP), kit_ty (by decide +kernel), true, rfl, iteF ?_⟩
        refine ⟨_, rfl, p, _, rfl, .inl (SqL.of hP), _, _, rfl, rfl, _, rfl, ?_⟩
        rw [decide_eq_false (show ¬ (100 : Int) < (xs.length : Int) by omega)]
        refine iteF ?_
        refine ⟨_, rfl, p, rfl, ⟨_, SqL.of hP⟩, ?_⟩
        refine for_list (K := K) (a := p) (xs := xs) (fun i σ H' => H' = H ∧ (∃ u, σ = [some x, some (.ref p), u]) ∧ ∀ (j : Nat), j < i → bs[j]? = some true) ⟨rfl, ⟨none, rfl⟩, fun j hj => by omega⟩ (fun i σ H' _ ⟨e, _⟩ => by rw [e]; exact SqL.of hP) ?_ ?_
        · rintro i z σ H' hi ⟨rfl, ⟨u, rfl⟩, hj⟩
          have hil := (List.getElem?_eq_some_iff.mp hi).1
          obtain ⟨b', hb'⟩ : ∃ b', bs[i]? = some b' := ⟨bs[i]'(by omega), List.getElem?_eq_getElem _⟩
          have th := ht i z b' hi hb'
          refine ⟨_, rfl, z, b', rfl, th, _, rfl, ?_⟩
          cases b' with
          | false =>
            refine iteT ?_
            refine k2 c ?_
            refine Bool.eq_false_iff.mpr fun e => ?_
            have := List.all_eq_true.mp e false (List.mem_of_getElem? hb')
            exact absurd this (by decide)
          | true =>
            refine iteF ⟨rfl, ⟨_, rfl⟩, fun j hj' => ?_⟩
            by_cases e : j = i
            · rw [e]
              exact hb'
            · exact hj j (by omega)
        · rintro σ H' ⟨rfl, ⟨u, rfl⟩, hj⟩
          refine k3 c ?_
          refine List.all_eq_true.mpr fun b' hb' => ?_
          obtain ⟨j, hj1, hj2⟩ := List.getElem_of_mem hb'
          have := hj j (by omega)
          rw [List.getElem?_eq_getElem hj1, hj2] at this
          exact Option.some.inj this
-- @@ forth
def sp_forth (K : PySem.W.Frag) : Sp := fun vs H Q _ => ∃ (q : Addr) (r : Rule) (s : Nat), vs = [.ref q, .int (s : Int)] ∧ H q = some (.tup r.vs) ∧ r.ok ∧ s < 999983 ∧ Q (.int (forthN r s : Int)) H
theorem ok_forth (T : Txt K mg) : OkF P w K mg base "forth" 1 ["rule", "state"] (sp_forth K) := by
  refine okf T.d_forth sc_forth (fun vs H Q E h => ?_) (fun f cdv A outer s H vs Q E hr h => ?_)
  · obtain ⟨q, r, s', rfl, hq, ok, hs, k⟩ := h
    rfl
  · obtain ⟨q, r, s', rfl, hq, ok, hs, k⟩ := h
    refine ⟨_, (pss_cons (ps_if (pt_cmpR op_eq (pe_ix ix_tup (pv 0) pe_int (fun _ _ => rfl)) pe_str (nomark _))
        (pss_one (ps_ret (pe_op op_mod (pe_op op_add (pv 1) (pe_ix ix_tup (pv 0) pe_int (fun _ _ => rfl))) (pe_glob (v := .int 999983) (by rfl) T.c_MODULUS.choose_spec ⟨_, rfl⟩))))
        pss_nil)
        (pss_cons (ps_if (pt_cmpR op_eq (pe_ix ix_tup (pv 0) pe_int (fun _ _ => rfl)) pe_str (nomark _))
        (pss_one (ps_ret (pe_op op_mod (pe_op op_mul (pv 1) (pe_ix ix_tup (pv 0) pe_int (fun _ _ => rfl))) (pe_glob (v := .int 999983) (by rfl) T.c_MODULUS.choose_spec ⟨_, rfl⟩))))
        pss_nil)
        (pss_cons (ps_if (pt_cmpR op_eq (pe_ix ix_tup (pv 0) pe_int (fun _ _ => rfl)) pe_str (nomark _))
        (pss_one (ps_ret (pe_op op_mod (pe_op op_mul (pv 1) (pv 1)) (pe_glob (v := .int 999983) (by rfl) T.c_MODULUS.choose_spec ⟨_, rfl⟩))))
        pss_nil)
        (pss_one (ps_ret (pe_op op_fdiv (pv 1) pe_int)))))), ?_⟩
    refine ⟨_, rfl, q, _, _, .str r.word, rfl, rfl, SqT.of hq, r.at0, rfl, _, rfl, ?_⟩
    have ne : ∀ {a b : Str}, a ≠ b → decide (V.str a = V.str b) = false := fun h => decide_eq_false fun z => h (V.str.inj z)
    cases r with
    | add j =>
      have hj : j < 999983 := ok
      refine iteT ?_
      refine ⟨_, rfl, _, rfl, q, _, _, .int (j : Int), rfl, rfl, SqT.of hq, rfl, _, _, rfl, rfl, _, _, rfl, rfl, by show (0 : Int) < 999983; decide, ?_⟩
      have e : ((s' : Int) + (j : Int)) % 999983 = (forthN (.add j) s' : Int) := by
        show _ = (((s' + j) % 999983 : Nat) : Int)
        omega
      show Q (V.int (((s' : Int) + (j : Int)) % 999983)) H
      rw [e]
      exact k
    | times j =>
      have hj : j < 999983 := ok
      rw [ne (show Rule.word (.times j) ≠ "add" from (by decide +kernel : ("times" : Str) ≠ "add"))]
      refine iteF ?_
      refine ⟨_, rfl, q, _, _, .str "times", rfl, rfl, SqT.of hq, rfl, rfl, _, rfl, iteT ?_⟩
      refine ⟨_, rfl, _, rfl, q, _, _, .int (j : Int), rfl, rfl, SqT.of hq, rfl, _, _, rfl, rfl, .inl ⟨by omega, by omega⟩, _, _, rfl, rfl, by show (0 : Int) < 999983; decide, ?_⟩
      have e : ((s' : Int) * (j : Int)) % 999983 = (forthN (.times j) s' : Int) := by
        show _ = ((s' * j % 999983 : Nat) : Int)
        rw [Int.natCast_emod, Int.natCast_mul] <;> rfl
      show Q (V.int (((s' : Int) * (j : Int)) % 999983)) H
      rw [e]
      exact k
    | square =>
      rw [ne (show Rule.word .square ≠ "add" from (by decide +kernel : ("square" : Str) ≠ "add"))]
      refine iteF ?_
      refine ⟨_, rfl, q, _, _, .str "square", rfl, rfl, SqT.of hq, rfl, rfl, _, rfl, ?_⟩
      rw [ne (show ("square" : Str) ≠ "times" by decide +kernel)]
      refine iteF ?_
      refine ⟨_, rfl, q, _, _, .str "square", rfl, rfl, SqT.of hq, rfl, rfl, _, rfl, iteT ?_⟩
      refine ⟨_, rfl, _, rfl, _, _, rfl, rfl, .inl ⟨by omega, by omega⟩, _, _, rfl, rfl, by show (0 : Int) < 999983; decide, ?_⟩
      have e : ((s' : Int) * (s' : Int)) % 999983 = (forthN .square s' : Int) := by
        show _ = ((s' * s' % 999983 : Nat) : Int)
        rw [Int.natCast_emod, Int.natCast_mul] <;> rfl
      show Q (V.int (((s' : Int) * (s' : Int)) % 999983)) H
      rw [e]
      exact k
    | half =>
      rw [ne (show Rule.word .half ≠ "add" from (by decide +kernel : ("half" : Str) ≠ "add"))]
      refine iteF ?_
      refine ⟨_, rfl, q, _, _, .str "half", rfl, rfl, SqT.of hq, rfl, rfl, _, rfl, ?_⟩
      rw [ne (show ("half" : Str) ≠ "times" by decide +kernel)]
      refine iteF ?_
      refine ⟨_, rfl, q, _, _, .str "half", rfl, rfl, SqT.of hq, rfl, rfl, _, rfl, ?_⟩
      rw [ne (show ("half" : Str) ≠ "square" by decide +kernel)]
      refine iteF ?_
      refine ⟨_, rfl, _, _, rfl, rfl, ⟨by decide, by decide⟩, ?_⟩
      have e : (s' : Int) / 2 = (forthN .half s' : Int) := by
        show _ = ((s' / 2 : Nat) : Int)
        omega
      show Q (V.int ((s' : Int) / 2)) H
      rw [e]
      exact k
-- @@ is_deed
def sp_is_deed (K : PySem.W.Frag) : Sp := fun vs H Q _ => ∃ (x : V) (b : Bool), vs = [x] ∧ DeedTh K H x b ∧ Q (.bl b) H
theorem str_eqD (w v : Str) : decide (V.str w = V.str v) = decide (w = v) := decide_eq_decide.mpr ⟨V.str.inj, fun e => by rw [e]⟩
theorem len_ne0D {v : V} {r : List V} : decide (V.int ((v :: r).length : Int) = V.int 0) = false := decide_eq_false (fun z => by have := V.int.inj z; rw [List.length_cons] at this; omega)
def DTail (K : PySem.W.Frag) (H : Hp) (w : Str) (r : List V) (b : Bool) : Prop :=
  ((w = "keep" ∨ w = "meet") ∧ b = decide (r = [])) ∨ (w ≠ "keep" ∧ w ≠ "meet" ∧ r.length ≠ 1 ∧ b = false) ∨ (∃ v o, w ≠ "keep" ∧ w ≠ "meet" ∧ r = [v] ∧ Thg K H v o ∧ b = if w = "go" then among o 1 100 else (decide (w = "take") || decide (w = "drop")) && among o 0 100)
theorem ok_is_deed (T : Txt K mg) : OkF P w K mg base "is_deed" 2 ["thing"] (sp_is_deed K) := by
  obtain ⟨f_is_among, fd_is_among, m_is_among, k_is_among, b_is_among, G_is_among⟩ := ok_is_among (P := P) (w := w) (base := base) T
  refine okf T.d_is_deed sc_is_deed (fun vs H Q E h => ?_) (fun f cdv A outer s H vs Q E hr h => ?_)
  · obtain ⟨x, b, rfl, th, k⟩ := h
    rfl
  · obtain ⟨x, b, rfl, th, k⟩ := h
    refine ⟨_, (Evl.pss_cut (ps_if (PW.pt (pw_or (pt_not (pt_val (pe_callB call_isi (by rfl) T.n_isinstance (by decide +kernel) (pa_cons (pv 0) (pa_cons (pe_bltn (v := .ty "tuple") (by rfl) T.n_tuple (by decide +kernel) rfl) pa_nil))))) (pw_or (pt_cmpR op_eq (pe_callB call_len_seq (by rfl) T.n_len PySem.boot_len (pa_cons (pv 0) pa_nil)) pe_int (nomark _)) (pw_or1 (pt_not (pt_val (pe_callB call_isi (by rfl) T.n_isinstance (by decide +kernel) (pa_cons (pe_ix ix_tup (pv 0) pe_int (fun _ _ => rfl)) (pa_cons (pe_bltn (v := .ty "str") (by rfl) T.n_str (by decide +kernel) rfl) pa_nil)))))))))
        (pss_one (ps_ret pe_bl))
        pss_nil)
        (Evl.pss_cut (ps_if (PW.pt (pw_or (pt_cmpR op_eq (pe_ix ix_tup (pv 0) pe_int (fun _ _ => rfl)) pe_str (nomark _)) (pw_or1 (pt_cmpR op_eq (pe_ix ix_tup (pv 0) pe_int (fun _ _ => rfl)) pe_str (nomark _)))))
        (pss_one (ps_ret (pe_cmpR op_eq (pe_callB call_len_seq (by rfl) T.n_len PySem.boot_len (pa_cons (pv 0) pa_nil)) pe_int (nomark _))))
        pss_nil)
        (pss_cons (ps_if (pt_cmpR op_ne (pe_callB call_len_seq (by rfl) T.n_len PySem.boot_len (pa_cons (pv 0) pa_nil)) pe_int (nomark _))
        (pss_one (ps_ret pe_bl))
        pss_nil)
        (pss_cons (ps_if (pt_cmpR op_eq (pe_ix ix_tup (pv 0) pe_int (fun _ _ => rfl)) pe_str (nomark _))
        (pss_one (ps_ret (pe_call G_is_among (hr.mono (by decide)) (by rfl) m_is_among k_is_among b_is_among .nil passL (pa_cons (pe_ix ix_tup (pv 0) pe_int (fun _ _ => rfl)) (pa_cons pe_int (pa_cons (pe_glob (v := .int 100) (by rfl) T.c_MOST_STEPS.choose_spec ⟨_, rfl⟩) pa_nil))))))
        pss_nil)
        (pss_one (ps_ret (pe_and (pe_or (pe_cmpR op_eq (pe_ix ix_tup (pv 0) pe_int (fun _ _ => rfl)) pe_str (nomark _)) (pe_one (pe_cmpR op_eq (pe_ix ix_tup (pv 0) pe_int (fun _ _ => rfl)) pe_str (nomark _)))) (pe_one (pe_call G_is_among (hr.mono (by decide)) (by rfl) m_is_among k_is_among b_is_among .nil passL (pa_cons (pe_ix ix_tup (pv 0) pe_int (fun _ _ => rfl)) (pa_cons pe_int (pa_cons (pe_glob (v := .int 100) (by rfl) T.c_MOST_STEPS.choose_spec ⟨_, rfl⟩) pa_nil)))))))))))), ?_⟩
    refine ⟨fun σ H' => H' = H ∧ σ = [some x] ∧ ∃ q w r, x = .ref q ∧ H q = some (.tup (.str w :: r)) ∧ DTail K H w r b, ?_, ?_⟩
    · have body : ∀ q w r, H q = some (.tup (.str w :: r)) → DTail K H w r b → x = .ref q → (tIfS (tOr (tNot (tB (tCB (rIsi K) (tCons (tVar 0) (tCons (tC (.ty "tuple")) tNil))))) (tOr (tTest (tOp rEq (tCB (fun xs H Q => ∃ p ys, xs = [V.ref p] ∧ (SqL K H p ys ∨ SqT K H p ys) ∧ Q (V.int ys.length) H) (tCons (tVar 0) tNil)) (tC (.int 0)))) (tNot (tB (tCB (rIsi K) (tCons (tOp (rIxT K) (tVar 0) (tC (.int 0))) (tCons (tC (.ty "str")) tNil))))))) (tRet (tC (.bl false))) tNext)
          { nx := fun σ H' => H' = H ∧ σ = [some x] ∧ ∃ q w r, x = .ref q ∧ H q = some (.tup (.str w :: r)) ∧ DTail K H w r b, rt := Q } [some x] H := fun q w r hq tl hx => by
        refine ⟨_, rfl, x, _, _, _, true, rfl, .ty "tuple", by rw [hx]; exact .base (.tup hq), kit_ty (by decide +kernel), true, rfl, iteF ?_⟩
        refine ⟨_, rfl, q, _, by rw [hx], .inr (SqT.of hq), rfl, _, rfl, ?_⟩
        rw [len_ne0D]
        refine iteF ?_
        exact ⟨_, rfl, q, _, _, .str w, hx, rfl, SqT.of hq, atI_nat (j := 0) rfl, .str w, _, _, _, true, rfl, .ty "str", .base (.str _), kit_ty (by decide +kernel), true, rfl, iteF ⟨rfl, rfl, q, w, r, hx, hq, tl⟩⟩
      cases th with
      | ntup ty ni =>
        exact ⟨_, rfl, x, _, _, _, false, rfl, .ty "tuple", ty, ni, false, rfl, iteT k⟩
      | @nil q hq =>
        refine ⟨_, rfl, .ref q, _, _, _, true, rfl, .ty "tuple", .base (.tup hq), kit_ty (by decide +kernel), true, rfl, iteF ?_⟩
        exact ⟨_, rfl, q, _, rfl, .inr (SqT.of hq), rfl, _, rfl, iteT k⟩
      | @nstr q v r t hq ty ni =>
        refine ⟨_, rfl, .ref q, _, _, _, true, rfl, .ty "tuple", .base (.tup hq), kit_ty (by decide +kernel), true, rfl, iteF ?_⟩
        refine ⟨_, rfl, q, _, rfl, .inr (SqT.of hq), rfl, _, rfl, ?_⟩
        rw [len_ne0D]
        refine iteF ?_
        exact ⟨_, rfl, q, _, _, v, rfl, rfl, SqT.of hq, atI_nat (j := 0) rfl, v, _, _, _, false, rfl, .ty "str", ty, ni, false, rfl, iteT k⟩
      | @one q w r _ hq hw hb => exact body q w r hq (.inl ⟨hw, hb⟩) rfl
      | @two q w r hq h1 h2 hl => exact body q w r hq (.inr (.inl ⟨h1, h2, hl, rfl⟩)) rfl
      | @num q w v o _ hq h1 h2 th hb => exact body q w [v] hq (.inr (.inr ⟨v, o, h1, h2, rfl, th, hb⟩)) rfl
    rintro σ H' ⟨rfl, rfl, q, w, r, rfl, hq, tl⟩
    have lenq : ∀ n : Nat, decide (V.int ((V.str w :: r).length : Int) = V.int (n : Int)) = decide (r.length + 1 = n) := fun n => decide_eq_decide.mpr ⟨fun z => by
      have := V.int.inj z
      rw [List.length_cons] at this
      omega, fun z => by rw [List.length_cons, z]⟩
    refine ⟨fun σ H1 => H1 = H' ∧ σ = [some (.ref q)] ∧ w ≠ "keep" ∧ w ≠ "meet", ?_, ?_⟩
    · have go : (w = "keep" ∨ w = "meet") → Q (.bl (decide (V.int ((V.str w :: r).length : Int) = V.int 1))) H' := fun hw => by
        rcases tl with ⟨_, hb⟩ | ⟨h1, h2, _⟩ | ⟨v, o, h1, h2, _⟩
        · rw [show (decide (V.int ((V.str w :: r).length : Int) = V.int 1)) = decide (r = []) from (lenq 1).trans (decide_eq_decide.mpr ⟨fun z => List.length_eq_zero_iff.mp (by omega), fun z => by rw [z] <;> rfl⟩), ← hb]
          exact k
        · exact absurd hw (fun z => z.elim h1 h2)
        · exact absurd hw (fun z => z.elim h1 h2)
      refine ⟨_, rfl, q, _, _, .str w, rfl, rfl, SqT.of hq, atI_nat (j := 0) rfl, rfl, _, rfl, ?_⟩
      rw [str_eqD]
      refine ite2 (fun c => ?_) (fun c => ?_)
      · exact iteT ⟨_, rfl, q, _, rfl, .inr (SqT.of hq), rfl, go (.inl (of_decide_eq_true c))⟩
      · refine ⟨_, rfl, q, _, _, .str w, rfl, rfl, SqT.of hq, atI_nat (j := 0) rfl, rfl, _, rfl, ?_⟩
        rw [str_eqD]
        refine ite2 (fun c2 => ?_) (fun c2 => ?_)
        · exact ⟨_, rfl, q, _, rfl, .inr (SqT.of hq), rfl, go (.inr (of_decide_eq_true c2))⟩
        · exact ⟨rfl, rfl, fun z => c (decide_eq_true z), fun z => c2 (decide_eq_true z)⟩
    rintro σ H1 ⟨rfl, rfl, h1, h2⟩
    refine ⟨_, rfl, q, _, rfl, .inr (SqT.of hq), rfl, _, rfl, ?_⟩
    rw [show (decide (V.int ((V.str w :: r).length : Int) = V.int 2)) = decide (r.length + 1 = 2) from lenq 2]
    rcases tl with ⟨hw, _⟩ | ⟨_, _, hl, hb⟩ | ⟨v, o, _, _, rfl, th, hb⟩
    · exact absurd hw (fun z => z.elim h1 h2)
    · rw [decide_eq_false (show ¬ (r.length + 1 = 2) by omega)]
      rw [hb] at k
      exact iteT k
    · refine iteF ?_
      refine ⟨_, rfl, q, _, _, .str w, rfl, rfl, SqT.of hq, atI_nat (j := 0) rfl, rfl, _, rfl, ?_⟩
      rw [str_eqD]
      by_cases cg : w = "go"
      · rw [decide_eq_true cg]
        rw [if_pos cg] at hb
        rw [hb] at k
        exact iteT ⟨_, rfl, q, _, _, v, rfl, rfl, SqT.of hq, atI_nat (j := 1) rfl, v, 1, 100, o, rfl, th, k⟩
      · rw [decide_eq_false cg]
        rw [if_neg cg] at hb
        rw [hb] at k
        refine iteF ?_
        have last : ∀ c : Bool, c = (decide (w = "take") || decide (w = "drop")) → (if c = true then (tCall (sp_is_among K) [] E0 (tCons (tOp (rIxT K) (tVar 0) (tC (.int 1))) (tCons (tC (.int 0)) (tCons (tC (.int 100)) tNil)))) [some (.ref q)] H1 (fun v H2 => Q v H2) else Q (.bl false) H1) := fun c hc => by
          rw [← hc] at k
          cases c with
          | true =>
            rw [Bool.true_and] at k
            exact iteT ⟨_, rfl, q, _, _, v, rfl, rfl, SqT.of hq, atI_nat (j := 1) rfl, v, 0, 100, o, rfl, th, k⟩
          | false =>
            rw [Bool.false_and] at k
            exact iteF k
        refine ⟨_, rfl, q, _, _, .str w, rfl, rfl, SqT.of hq, atI_nat (j := 0) rfl, rfl, _, rfl, ?_⟩
        rw [str_eqD]
        refine ite2 (fun c => ?_) (fun c => ?_)
        · exact ⟨true, rfl, last true (by rw [c, Bool.true_or])⟩
        · refine ⟨_, rfl, q, _, _, .str w, rfl, rfl, SqT.of hq, atI_nat (j := 0) rfl, rfl, ?_⟩
          rw [str_eqD]
          exact ⟨_, rfl, last _ (by rw [Bool.eq_false_iff.mpr c, Bool.false_or])⟩
-- @@ Walker.__init__
def InitBad (K : PySem.W.Frag) (C1 C2 : Addr) (H : Hp) (fx y rm : V) (E : XK) : Prop := ∃ o b o3, Thg K H fx o ∧ ListTh K H y b ∧ Thg K H rm o3 ∧
  ((among o 0 999982 = false ∧ E (.ref C1) none H) ∨ (among o 0 999982 = true ∧ b = false ∧ E (.ref C2) none H) ∨ (among o 0 999982 = true ∧ b = true ∧ among o3 1 12 = false ∧ E (.ref C1) none H))
def sp_Walker_init (K : PySem.W.Frag) (C C1 C2 : Addr) : Sp := fun vs H Q E =>
  (∃ (x dx p : Addr) (f R : Nat) (rs : List (Addr × Rule)), vs = [.ref x, .int (f : Int), .ref p, .int (R : Int)] ∧ H x = some (.ins C dx []) ∧ H p = some (.lst (refsR rs)) ∧ RS H rs ∧ f < 999983 ∧ rs.length ≤ 100 ∧ 1 ≤ R ∧ R ≤ 12 ∧
    ∀ (A : WA) (H' : Hp), A.x = x → A.dx = dx → H A.rl = none → H A.md = none → H A.sn = none → (∀ b o, H b = some o → b ≠ x → H' b = some o) → WAt C H' A rs R (wk0 f rs.length) → Q .non H') ∨
  (∃ (x : Addr) (fx y rm : V), vs = [.ref x, fx, y, rm] ∧ InitBad K C1 C2 H fx y rm E)
theorem InitBad.up {K : PySem.W.Frag} {C1 C2 : Addr} {H H0 : Hp} {fx y rm : V} {E : XK} (e : Same H H0) (h : InitBad K C1 C2 H fx y rm (fun c d _ => ∀ H', Same H H' → E c d H')) : InitBad K C1 C2 H0 fx y rm E := by
  obtain ⟨o, b, o3, t1, t2, t3, bad⟩ := h
  have lt : ListTh K H0 y b := by
    cases t2 with
    | nlist ty ni => exact .nlist (tyX_same e ty) ni
    | big h hl => exact .big (e _ _ h) hl
    | all h hl hb ht => exact .all (e _ _ h) hl hb fun i x b hx hb => (ht i x b hx hb).same e
  refine ⟨o, b, o3, t1.same e, lt, t3.same e, ?_⟩
  rcases bad with ⟨a, z⟩ | ⟨a, b', z⟩ | ⟨a, b', c, z⟩
  · exact .inl ⟨a, z _ e⟩
  · exact .inr (.inl ⟨a, b', z _ e⟩)
  · exact .inr (.inr ⟨a, b', c, z _ e⟩)
theorem ok_Walker_init (T : Txt K mg) : OkI P w K mg base T.aWalker "__init__" 5 ["self", "first", "rules", "room"] (sp_Walker_init K T.aWalker T.aBadCount T.aBadRule) := by
  obtain ⟨f_need_row, fd_need_row, m_need_row, k_need_row, b_need_row, G_need_row⟩ := ok_need_row (P := P) (w := w) (base := base) T
  obtain ⟨f_is_among, fd_is_among, m_is_among, k_is_among, b_is_among, G_is_among⟩ := ok_is_among (P := P) (w := w) (base := base) T
  refine oki T.d_Walker_init sc_Walker_init (fun vs H Q E h => ?_) (fun f cdv A outer s H vs Q E hr h => ?_)
  · rcases h with ⟨x, dx, p, f, R, rs, rfl, _⟩ | ⟨x, fx, y, rm, rfl, _⟩ <;> rfl
  · skip
    refine ⟨_, (pss_cons (ps_expr (pe_call G_need_row (hr.mono (by decide)) (by rfl) m_need_row k_need_row b_need_row .nil (passes_call (W := fun cls d _ H => E cls d H) (takes_of rfl rfl rfl rfl) (fun _ _ _ _ h => h)) (pa_cons (pv 1) (pa_cons (pv 2) pa_nil))))
        (pss_cons (ps_if (pt_not (pt_val (pe_call G_is_among (hr.mono (by decide)) (by rfl) m_is_among k_is_among b_is_among .nil passL (pa_cons (pv 3) (pa_cons pe_int (pa_cons (pe_glob (v := .int 12) (by rfl) T.c_MOST_ROOM.choose_spec ⟨_, rfl⟩) pa_nil))))))
        (pss_one (ps_raise rfl (takes_of rfl rfl rfl rfl) (pmk_own PySem.F.excBase_ValueError T.x_BadCount.x T.x_BadCount.g T.x_BadCount.k (raises_own T.x_BadCount.b T.x_BadCount.t) rfl)))
        pss_nil)
        (pss_cons (ps_fld (pv 0) (pe_callTy (T := "list") (r := rListOf K) call_list_of (by rfl) T.n_list (by decide +kernel) (pa_cons (pv 2) pa_nil)) rfl)
        (pss_cons (ps_fld (pv 0) (pv 3) rfl)
        (pss_cons (ps_fld (pv 0) pe_int rfl)
        (pss_cons (ps_fld (pv 0) (pv 1) rfl)
        (pss_cons (ps_fld (pv 0) pe_int rfl)
        (pss_cons (ps_fld (pv 0) (pe_callB call_len_seq (by rfl) T.n_len PySem.boot_len (pa_cons (pv 2) pa_nil)) rfl)
        (pss_cons (ps_fld (pv 0) pe_dnewK rfl)
        (pss_one (ps_fld (pv 0) (pe_lst pa_nil) rfl))))))))))), ?_⟩
    rcases h with ⟨x, dx, p, f, R, rs, rfl, hx, hP, hR, hf, hl, r1, r2, k⟩ | ⟨x, fx, y, rm, rfl, o, b, o3, t1, t2, t3, bad⟩
    case inr =>
      refine ⟨_, rfl, _, rfl, fx, y, o, b, rfl, t1, t2, fun c => ?_, fun c c2 => ?_, fun c c2 => ?_⟩
      · rcases bad with ⟨_, e⟩ | ⟨c', _⟩ | ⟨c', _⟩
        · exact e
        · rw [c] at c'; cases c'
        · rw [c] at c'; cases c'
      · rcases bad with ⟨c', _⟩ | ⟨_, _, e⟩ | ⟨_, c', _⟩
        · rw [c] at c'; cases c'
        · exact e
        · rw [c2] at c'; cases c'
      · rcases bad with ⟨c', _⟩ | ⟨_, c', _⟩ | ⟨_, _, c3, e⟩
        · rw [c] at c'; cases c'
        · rw [c2] at c'; cases c'
        · refine ⟨_, rfl, rm, 1, 12, o3, rfl, t3, _, rfl, ?_⟩
          rw [c3]
          exact iteT e
    have cl := T.o_Walker.cl
    have am : among (some (f : Int)) 0 999982 = true := among_of (by omega) (by omega)
    refine ⟨_, rfl, _, rfl, .int (f : Int), .ref p, some _, true, rfl, .int _, ListTh.good hP hR hl, fun c => absurd c (by rw [am]; decide), fun _ c => absurd c (by decide), fun _ _ => ?_⟩
    have am2 : among (some (R : Int)) 1 12 = true := among_of (by omega) (by omega)
    refine ⟨_, rfl, .int (R : Int), 1, 12, some _, rfl, .int _, _, rfl, ?_⟩
    rw [am2]
    refine iteF ?_
    refine ⟨_, rfl, p, _, rfl, .inl (SqL.of hP), fun l hl1 => ?_⟩
    have nxl : x ≠ l := ne_of_none hx hl1
    refine ⟨_, rfl, x, T.aWalker, dx, [], rfl, by rw [upd_ne nxl]; exact hx, cl, T.o_Walker.nru, by show 0 < 1000; decide, ?_⟩
    refine ⟨_, rfl, _, rfl, x, T.aWalker, dx, _, rfl, upd_same, cl, T.o_Walker.nro, by show 1 < 1000; decide, ?_⟩
    refine ⟨_, rfl, x, T.aWalker, dx, _, rfl, upd_same, cl, T.o_Walker.npl, by show 2 < 1000; decide, ?_⟩
    refine ⟨_, rfl, _, rfl, x, T.aWalker, dx, _, rfl, upd_same, cl, T.o_Walker.nst, by show 3 < 1000; decide, ?_⟩
    refine ⟨_, rfl, x, T.aWalker, dx, _, rfl, upd_same, cl, T.o_Walker.ndn, by show 4 < 1000; decide, ?_⟩
    have npx : p ≠ x := ne_of hP hx (by intro z; cases z)
    have npl : p ≠ l := ne_of_none hP hl1
    refine ⟨_, rfl, p, _, rfl, .inl (SqL.of (by rw [upd_ne npx, upd_ne npx, upd_ne npx, upd_ne npx, upd_ne npx, upd_ne npl]; exact hP)), _, rfl, x, T.aWalker, dx, _, rfl, upd_same, cl, T.o_Walker.nwa, by show 5 < 1000; decide, ?_⟩
    refine fun m hm => ?_
    have nxm : x ≠ m := ne_of_none upd_same hm
    refine ⟨_, rfl, x, T.aWalker, dx, _, rfl, by rw [upd_ne nxm]; exact upd_same, cl, T.o_Walker.nma, by show 6 < 1000; decide, ?_⟩
    refine ⟨by show 0 ≤ sizeLine; decide, fun n hn => ?_⟩
    have nxn : x ≠ n := ne_of_none upd_same hn
    refine ⟨_, rfl, x, T.aWalker, dx, _, rfl, by rw [upd_ne nxn]; exact upd_same, cl, T.o_Walker.nse, by show 7 < 1000; decide, ?_⟩
    have hm0 : (upd H l (.lst (refsR rs))) m = none := by
      simpa only [upd_ne nxm.symm] using hm
    have nlm : l ≠ m := ne_of_none upd_same hm0
    have hn0 : (upd (upd H l (.lst (refsR rs))) m (.dK [])) n = none := by
      have z := hn
      rw [upd_ne nxn.symm] at z
      by_cases e : n = m
      · rw [e, upd_same] at z; cases z
      · rw [upd_ne e] at z ⊢
        simpa only [upd_ne nxn.symm] using z
    have nmn : m ≠ n := ne_of_none upd_same hn0
    have nln : l ≠ n := ne_of_none (o := .lst (refsR rs)) (by rw [upd_ne nlm]; exact upd_same) hn0
    have keepl : ∀ b o, b ≠ x → (upd H l (.lst (refsR rs))) b = some o → b ≠ m → b ≠ n → upd (upd (upd (upd (upd (upd (upd (upd (upd (upd (upd H l (.lst (refsR rs))) x (.ins T.aWalker dx (putF "rules" (.ref l) []))) x (.ins T.aWalker dx (putF "room" (.int (R : Int)) (putF "rules" (.ref l) [])))) x (.ins T.aWalker dx (putF "place" (.int 0) (putF "room" (.int (R : Int)) (putF "rules" (.ref l) []))))) x (.ins T.aWalker dx (putF "state" (.int (f : Int)) (putF "place" (.int 0) (putF "room" (.int (R : Int)) (putF "rules" (.ref l) [])))))) x (.ins T.aWalker dx (putF "done" (.int 0) (putF "state" (.int (f : Int)) (putF "place" (.int 0) (putF "room" (.int (R : Int)) (putF "rules" (.ref l) []))))))) x (.ins T.aWalker dx (putF "wanted" (.int ((refsR rs).length : Int)) (putF "done" (.int 0) (putF "state" (.int (f : Int)) (putF "place" (.int 0) (putF "room" (.int (R : Int)) (putF "rules" (.ref l) [])))))))) m (.dK [])) x (.ins T.aWalker dx (putF "marks" (.ref m) (putF "wanted" (.int ((refsR rs).length : Int)) (putF "done" (.int 0) (putF "state" (.int (f : Int)) (putF "place" (.int 0) (putF "room" (.int (R : Int)) (putF "rules" (.ref l) []))))))))) n (.lst [])) x (.ins T.aWalker dx (putF "seen" (.ref n) (putF "marks" (.ref m) (putF "wanted" (.int ((refsR rs).length : Int)) (putF "done" (.int 0) (putF "state" (.int (f : Int)) (putF "place" (.int 0) (putF "room" (.int (R : Int)) (putF "rules" (.ref l) [])))))))))  b = some o := fun b o hb h n1 n2 => by
      rw [upd_ne hb, upd_ne n2, upd_ne hb, upd_ne n1, upd_ne hb, upd_ne hb, upd_ne hb, upd_ne hb, upd_ne hb, upd_ne hb]
      exact h
    refine k ⟨x, dx, l, m, n⟩ _ rfl rfl hl1 ((Same.new hl1).free hm0) ((Same.new hl1).free ((Same.new hm0).free hn0)) (fun b o h hb => ?_) ?_
    · have h1 := (Same.new (o := .lst (refsR rs)) hl1) _ _ h
      have h2 := (Same.new (o := .dK []) hm0) _ _ h1
      exact keepl b o hb h1 (ne_of_none h1 hm0) (ne_of_none h2 hn0)
    · refine ⟨?_, keepl l _ nxl.symm upd_same nlm nln, ?_, ?_, nln⟩
      · show upd _ x _ x = _
        rw [upd_same, wF_made, refsR_len] <;> rfl
      · show upd _ x _ m = _
        rw [upd_ne nxm.symm, upd_ne nmn, upd_ne nxm.symm, upd_same] <;> rfl
      · show upd _ x _ n = _
        rw [upd_ne nxn.symm, upd_same] <;> rfl
-- @@ Walker.keep
theorem cut_rules (rs : List (Addr × Rule)) (i m : Nat) : cutV (refsR rs) (some (i : Int)) (some ((i : Int) + (m : Int))) = refsR ((rs.drop i).take m) := by
  unfold cutV refsR
  have e1 : ∀ (n j d : Nat), HT.sIx n d (some (j : Int)) = min j n := fun n j d => by
    unfold HT.sIx
    first | rfl | (simp; omega) | (split <;> simp <;> omega)
  rw [show ((i : Int) + (m : Int)) = ((i + m : Nat) : Int) from rfl, e1, e1, List.length_map]
  by_cases c : i ≤ rs.length
  · rw [Nat.min_eq_left c, ← List.map_drop, ← List.map_take]
    congr 1
    by_cases c2 : i + m ≤ rs.length
    · rw [Nat.min_eq_left c2, show i + m - i = m by omega]
    · rw [Nat.min_eq_right (by omega), List.take_of_length_le (by rw [List.length_drop]; omega), List.take_of_length_le (by rw [List.length_drop]; omega)]
  · rw [Nat.min_eq_right (by omega), Nat.min_eq_right (by omega), List.drop_of_length_le (by rw [List.length_map]; omega), List.drop_of_length_le (by omega), List.take_nil, List.take_nil] <;> rfl
def sp_Walker_keep (K : PySem.W.Frag) (C : Addr) (c8 : Nat → Addr) : Sp := fun vs H Q E => ∃ (A : WA) (rs : List (Addr × Rule)) (R : Nat) (w : WK), vs = [.ref A.x] ∧ StepP K C c8 H A rs R w .keep Q E
theorem ok_Walker_keep (T : Txt K mg) : OkM P w K mg base T.aWalker "keep" 1 ["self"] (sp_Walker_keep K T.aWalker T.w8) := by
  refine okm T.d_Walker_keep sc_Walker_keep (fun vs H Q E h => ?_) (fun f cdv A outer s H vs Q E hr h => ?_)
  · obtain ⟨A, rs, R, w', rfl, W, hR, ok, hl, hm, hs, kg, kb⟩ := h
    rfl
  · obtain ⟨A, rs, R, w', rfl, W, hR, ok, hl, hm, hs, kg, kb⟩ := h
    refine ⟨_, (pss_cons (ps_if (pt_cmp (pc_din (hu_of hr) (pe_fld (pv 0) rfl) (pe_fld (pv 0) rfl)))
        (pss_one (ps_raise rfl (takes_of rfl rfl rfl rfl) (pmk_own PySem.F.excBase_ValueError T.x_Twice.x T.x_Twice.g T.x_Twice.k (raises_own T.x_Twice.b T.x_Twice.t) rfl)))
        pss_nil)
        (pss_cons (ps_if (pt_cmpR op_eq (pe_callB call_lenD (by rfl) T.n_len PySem.boot_len (pa_cons (pe_fld (pv 0) rfl) pa_nil)) (pe_fld (pv 0) rfl) (nomark _))
        (pss_one (ps_raise rfl (takes_of rfl rfl rfl rfl) (pmk_own PySem.F.excBase_ValueError T.x_Full.x T.x_Full.g T.x_Full.k (raises_own T.x_Full.b T.x_Full.t) rfl)))
        pss_nil)
        (pss_one (ps_dput (hu_of hr) (pe_fld (pv 0) rfl) (pe_fld (pv 0) rfl) (pe_fld (pv 0) rfl) rfl)))), ?_⟩
    have hu := hu_of hr
    have cl := T.o_Walker.cl
    have O := T.o_Walker
    refine ⟨_, rfl, A.x, T.aWalker, A.dx, _, _, rfl, W.ob, cl, O.npl, wF_place .., _, rfl, A.x, T.aWalker, A.dx, _, _, rfl, W.ob, cl, O.nma, wF_marks .., A.md, _, rfl, DGet.k (k := Sum.inl (w'.pl : Int)) W.ma, _, rfl, ?_⟩
    rw [mkK_val]
    cases e : stOf w'.mks w'.pl with
    | some s =>
      refine iteT ?_
      refine kb 4 ?_
      show (if (stOf w'.mks w'.pl).isSome = true then Except.error 4 else _) = Except.error 4
      rw [e] <;> rfl
    | none =>
      refine iteF ?_
      refine ⟨_, rfl, A.x, T.aWalker, A.dx, _, _, rfl, W.ob, cl, O.nma, wF_marks .., A.md, _, rfl, W.ma, _, rfl, A.x, T.aWalker, A.dx, _, _, rfl, W.ob, cl, O.nro, wF_room .., rfl, _, rfl, ?_⟩
      have eq : decide (V.int ((mkK w'.mks).length : Int) = V.int (R : Int)) = decide (w'.mks.length = R) := decide_eq_decide.mpr ⟨fun z => by
        have := V.int.inj z
        rw [mkK_len] at this
        omega, fun z => by rw [mkK_len, z]⟩
      rw [eq]
      refine ite2 (fun c => ?_) (fun c => ?_)
      · refine kb 3 ?_
        show (if (stOf w'.mks w'.pl).isSome = true then Except.error 4 else if w'.mks.length = R then Except.error 3 else _) = Except.error 3
        rw [e, if_neg (by decide), if_pos (of_decide_eq_true c)]
      · refine ⟨_, rfl, A.x, T.aWalker, A.dx, _, _, rfl, W.ob, cl, O.nst, wF_state .., _, rfl, A.x, T.aWalker, A.dx, _, _, rfl, W.ob, cl, O.nma, wF_marks .., _, rfl, A.x, T.aWalker, A.dx, _, _, rfl, W.ob, cl, O.npl, wF_place .., A.md, _, rfl, DPut.k (k := Sum.inl (w'.pl : Int)) W.ma (small1000 (by rw [mkK_len]; exact hm)), ?_⟩
        rw [mkK_put e]
        refine kg { w' with mks := w'.mks ++ [(w'.pl, w'.st)] } ?_ _ But.upd_mk ⟨?_, ?_, upd_same, ?_, W.n1⟩
        · show (if (stOf w'.mks w'.pl).isSome = true then Except.error 4 else if w'.mks.length = R then Except.error 3 else _) = _
          rw [e, if_neg (by decide), if_neg (fun z => c (decide_eq_true z))]
        · rw [upd_ne W.xm]
          exact W.ob
        · rw [upd_ne W.rm]
          exact W.ru
        · rw [upd_ne W.ms.symm]
          exact W.se
-- @@ Walker.meet
def sp_Walker_meet (K : PySem.W.Frag) (C : Addr) (c8 : Nat → Addr) : Sp := fun vs H Q E => ∃ (A : WA) (rs : List (Addr × Rule)) (R : Nat) (w : WK), vs = [.ref A.x] ∧ StepP K C c8 H A rs R w .meet Q E
theorem ok_Walker_meet (T : Txt K mg) : OkM P w K mg base T.aWalker "meet" 1 ["self"] (sp_Walker_meet K T.aWalker T.w8) := by
  refine okm T.d_Walker_meet sc_Walker_meet (fun vs H Q E h => ?_) (fun f cdv A outer s H vs Q E hr h => ?_)
  · obtain ⟨A, rs, R, w', rfl, W, hR, ok, hl, hm, hs, kg, kb⟩ := h
    rfl
  · obtain ⟨A, rs, R, w', rfl, W, hR, ok, hl, hm, hs, kg, kb⟩ := h
    refine ⟨_, (pss_cons (ps_if (pt_cmpR op_ne (pe_fld (pv 0) rfl) (pe_fld (pv 0) rfl) (nomark _))
        (pss_one (ps_raise rfl (takes_of rfl rfl rfl rfl) (pmk_own PySem.F.excBase_ValueError T.x_NotWanted.x T.x_NotWanted.g T.x_NotWanted.k (raises_own T.x_NotWanted.b T.x_NotWanted.t) rfl)))
        pss_nil)
        (pss_cons (ps_expr (pe_bm PySem.F.plainAttrs_list PySem.F.slot_list_append PySem.F.type_list_append mt_append (pe_fld (pv 0) rfl) (pa_cons (pe_fld (pv 0) rfl) pa_nil)))
        (pss_one (ps_fld (pv 0) (pe_ifExp (pt_cmpR op_eq (pe_fld (pv 0) rfl) pe_int (nomark _)) pe_non (pe_op op_sub (pe_fld (pv 0) rfl) pe_int)) rfl)))), ?_⟩
    have cl := T.o_Walker.cl
    have O := T.o_Walker
    have eq : decide (V.int (w'.pl : Int) = oW w'.wa) = decide (some w'.pl = w'.wa) := decide_eq_decide.mpr (by
      cases w'.wa with
      | none => exact ⟨fun z => (by cases z), fun z => (by cases z)⟩
      | some n => exact ⟨fun z => by have := V.int.inj z; congr 1; omega, fun z => by rw [Option.some.inj z] <;> rfl⟩)
    have D : WAt T.aWalker H A rs R w' := W
    refine ⟨_, rfl, A.x, T.aWalker, A.dx, _, _, rfl, W.ob, cl, O.npl, wF_place .., _, rfl, A.x, T.aWalker, A.dx, _, _, rfl, W.ob, cl, O.nwa, wF_wanted .., ?_⟩
    refine ⟨by cases w'.wa <;> rfl, _, rfl, ?_⟩
    rw [eq]
    refine ite2 (fun c => ?_) (fun c => ?_)
    · refine kb 7 ?_
      show (if some w'.pl = w'.wa then _ else Except.error 7) = Except.error 7
      rw [if_neg (fun z => by rw [decide_eq_true z] at c; exact absurd c (by decide))]
    have c' : some w'.pl = w'.wa := by
      by_cases z : some w'.pl = w'.wa
      · exact z
      · exact absurd (by rw [decide_eq_false z] <;> rfl) c
    refine ⟨_, rfl, A.x, T.aWalker, A.dx, _, _, rfl, W.ob, cl, O.nse, wF_seen .., .inl ⟨rfl, _, SqL.of W.se⟩, _, rfl, A.x, T.aWalker, A.dx, _, _, rfl, W.ob, cl, O.nst, wF_state .., A.sn, _, _, rfl, rfl, W.se, sz5' (by rw [List.length_map]; omega), ?_⟩
    have hob : (upd H A.sn (.lst (w'.sn.map (fun (s : Nat) => V.int (s : Int)) ++ [V.int (w'.st : Int)]))) A.x = some (.ins T.aWalker A.dx (wF A.rl (R : Int) (w'.pl : Int) (w'.st : Int) (w'.dn : Int) (oW w'.wa) A.md A.sn)) := by
      rw [upd_ne W.xs]
      exact W.ob
    have fin : ∀ wa', wa' = (if w'.pl = 0 then none else some (w'.pl - 1)) → Q .non (upd (upd H A.sn (.lst (w'.sn.map (fun (s : Nat) => V.int (s : Int)) ++ [V.int (w'.st : Int)]))) A.x (.ins T.aWalker A.dx (putF "wanted" (oW wa') (wF A.rl (R : Int) (w'.pl : Int) (w'.st : Int) (w'.dn : Int) (oW w'.wa) A.md A.sn)))) := fun wa' hwa => by
      rw [wF_sw]
      refine kg { w' with sn := w'.sn ++ [w'.st], wa := if w'.pl = 0 then none else some (w'.pl - 1) } ?_ _ (But.upd_sn.trans But.upd_x) ⟨?_, ?_, ?_, ?_, W.n1⟩
      · show (if some w'.pl = w'.wa then _ else Except.error 7) = _
        rw [if_pos c']
      · rw [upd_same, hwa]
      · rw [upd_ne W.xr.symm, upd_ne W.n1]
        exact W.ru
      · rw [upd_ne W.xm.symm, upd_ne W.ms]
        exact W.ma
      · rw [upd_ne W.xs.symm, upd_same, List.map_append] <;> rfl
    refine ⟨_, rfl, A.x, T.aWalker, A.dx, _, _, rfl, hob, cl, O.npl, wF_place .., rfl, _, rfl, ?_⟩
    refine ite2 (fun z => ?_) (fun z => ?_)
    · have z' : w'.pl = 0 := by
        have := V.int.inj (of_decide_eq_true z)
        omega
      exact ⟨_, rfl, A.x, T.aWalker, A.dx, _, rfl, hob, cl, O.nwa, wF_len .., fin none (by rw [if_pos z'])⟩
    · have z' : ¬ w'.pl = 0 := fun q => z (decide_eq_true (by rw [q] <;> rfl))
      refine ⟨_, rfl, A.x, T.aWalker, A.dx, _, _, rfl, hob, cl, O.npl, wF_place .., _, _, rfl, rfl, _, rfl, A.x, T.aWalker, A.dx, _, rfl, hob, cl, O.nwa, wF_len .., ?_⟩
      have f := fin (some (w'.pl - 1)) (by rw [if_neg z'])
      have e1 : ((w'.pl : Int) - 1) = ((w'.pl - 1 : Nat) : Int) := by omega
      show Q .non (upd _ A.x (.ins T.aWalker A.dx (putF "wanted" (.int ((w'.pl : Int) - 1)) _)))
      rw [e1]
      exact f
-- @@ Walker.go
def sp_Walker_go (K : PySem.W.Frag) (C : Addr) (c8 : Nat → Addr) : Sp := fun vs H Q E => ∃ (A : WA) (rs : List (Addr × Rule)) (R : Nat) (w : WK) (m : Nat), vs = [.ref A.x, .int (m : Int)] ∧ StepP K C c8 H A rs R w (.go m) Q E
theorem ok_Walker_go (T : Txt K mg) : OkM P w K mg base T.aWalker "go" 2 ["self", "many"] (sp_Walker_go K T.aWalker T.w8) := by
  obtain ⟨f_forth, fd_forth, m_forth, k_forth, b_forth, G_forth⟩ := ok_forth (P := P) (w := w) (base := base) T
  refine okm T.d_Walker_go sc_Walker_go (fun vs H Q E h => ?_) (fun f cdv A outer s H vs Q E hr h => ?_)
  · obtain ⟨A, rs, R, w', m, rfl, W, hR, ok, hl, hm, hs, kg, kb⟩ := h
    rfl
  · obtain ⟨A, rs, R, w', m, rfl, W, hR, ok, hl, hm, hs, kg, kb⟩ := h
    refine ⟨_, (pss_cons (ps_if (pt_cmpR op_gt (pe_op op_add (pe_fld (pv 0) rfl) (pv 1)) (pe_callB call_len_seq (by rfl) T.n_len PySem.boot_len (pa_cons (pe_fld (pv 0) rfl) pa_nil)) (nomark _))
        (pss_one (ps_raise rfl (takes_of rfl rfl rfl rfl) (pmk_own PySem.F.excBase_ValueError T.x_AtEnd.x T.x_AtEnd.g T.x_AtEnd.k (raises_own T.x_AtEnd.b T.x_AtEnd.t) rfl)))
        pss_nil)
        (pss_cons (ps_for (passes_of rfl) rfl (pi_list (pe_slice sl_list (pe_fld (pv 0) rfl) (po_some (pe_fld (pv 0) rfl)) (po_some (pe_op op_add (pe_fld (pv 0) rfl) (pv 1))))) (pg_name (i := 2) sc_Walker_go.nd rfl (Or.inl rfl))
        (pss_one (ps_fld (pv 0) (pe_call G_forth (hr.mono (by decide)) (by rfl) m_forth k_forth b_forth .nil passL (pa_cons (pv 2) (pa_cons (pe_fld (pv 0) rfl) pa_nil))) rfl)))
        (pss_cons (ps_fld (pv 0) (pe_op op_add (pe_fld (pv 0) rfl) (pv 1)) rfl)
        (pss_one (ps_fld (pv 0) (pe_op op_add (pe_fld (pv 0) rfl) (pv 1)) rfl))))), ?_⟩
    have cl := T.o_Walker.cl
    have O := T.o_Walker
    refine ⟨_, rfl, A.x, T.aWalker, A.dx, _, _, rfl, W.ob, cl, O.npl, wF_place .., _, rfl, _, _, rfl, rfl, _, rfl, A.x, T.aWalker, A.dx, _, _, rfl, W.ob, cl, O.nru, wF_rules .., A.rl, _, rfl, .inl (SqL.of W.ru), _, _, rfl, rfl, _, rfl, ?_⟩
    have el : (rs.map (·.2)).length = rs.length := List.length_map ..
    rw [refsR_len]
    refine ite2 (fun c => ?_) (fun c => ?_)
    · refine kb 6 ?_
      have := of_decide_eq_true c
      show (if w'.pl + m > (rs.map (·.2)).length then Except.error 6 else _) = Except.error 6
      rw [if_pos (by rw [el]; omega)]
    have c' : ¬ w'.pl + m > rs.length := fun z => c (decide_eq_true (by omega))
    refine ⟨_, rfl, A.x, T.aWalker, A.dx, _, _, rfl, W.ob, cl, O.nru, wF_rules .., ?_⟩
    refine ⟨_, rfl, A.x, T.aWalker, A.dx, _, _, rfl, W.ob, cl, O.npl, wF_place .., _, rfl, ?_⟩
    refine ⟨_, rfl, A.x, T.aWalker, A.dx, _, _, rfl, W.ob, cl, O.npl, wF_place .., _, rfl, _, _, rfl, rfl, _, rfl, ?_⟩
    refine ⟨A.rl, _, rfl, SqL.of W.ru, fun p hp => ?_⟩
    rw [cut_rules]
    have W1 := W.same (Same.new (o := .lst (refsR ((rs.drop w'.pl).take m))) hp)
    have nxp : A.x ≠ p := ne_of_none W.ob hp
    refine ⟨p, rfl, ⟨_, SqL.of upd_same⟩, ?_⟩
    refine for_list (K := K) (a := p) (xs := refsR ((rs.drop w'.pl).take m)) (fun i σ H' => (∃ u, σ = [some (.ref A.x), some (.int (m : Int)), u]) ∧ But A H H' ∧ H' p = some (.lst (refsR ((rs.drop w'.pl).take m))) ∧
        WAt T.aWalker H' A rs R { w' with st := lastN w'.st ((((rs.drop w'.pl).take m).take i).map (·.2)) }) ⟨⟨none, rfl⟩, Same.but (Same.new hp), upd_same, W1⟩ (fun i σ H' _ ⟨_, _, h, _⟩ => SqL.of h) ?_ ?_
    · rintro i y σ H' hi ⟨⟨u, rfl⟩, bt, hP, W2⟩
      obtain ⟨q, hq, rfl⟩ := get_map hi
      have hqm : q ∈ rs := List.mem_of_mem_drop (List.mem_of_mem_take (List.mem_of_getElem? hq))
      obtain ⟨hqt, hqo⟩ := (RS.but W bt hR) q hqm
      refine ⟨_, rfl, _, rfl, A.x, T.aWalker, A.dx, _, _, rfl, W2.ob, cl, O.nst, wF_state .., q.1, q.2, _, rfl, hqt, hqo, lastN_lt ok.st, ?_⟩
      refine ⟨_, rfl, A.x, T.aWalker, A.dx, _, rfl, W2.ob, cl, O.nst, wF_len .., ?_⟩
      rw [wF_ss]
      refine ⟨⟨_, rfl⟩, bt.trans But.upd_x, by rw [upd_ne nxp.symm]; exact hP, ⟨?_, ?_, ?_, ?_, W.n1⟩⟩
      · rw [upd_same, take_succ hq, List.map_append, List.map_cons, List.map_nil, lastN_snoc]
      · rw [upd_ne W.xr.symm]
        exact W2.ru
      · rw [upd_ne W.xm.symm]
        exact W2.ma
      · rw [upd_ne W.xs.symm]
        exact W2.se
    · rintro σ H' ⟨⟨u, rfl⟩, bt, hP, W2⟩
      rw [refsR_len, List.take_length] at W2
      refine ⟨_, rfl, A.x, T.aWalker, A.dx, _, _, rfl, W2.ob, cl, O.npl, wF_place .., _, rfl, _, _, rfl, rfl, _, rfl, A.x, T.aWalker, A.dx, _, rfl, W2.ob, cl, O.npl, wF_len .., ?_⟩
      rw [wF_sp]
      refine ⟨_, rfl, A.x, T.aWalker, A.dx, _, _, rfl, upd_same, cl, O.ndn, wF_done .., _, rfl, _, _, rfl, rfl, _, rfl, A.x, T.aWalker, A.dx, _, rfl, upd_same, cl, O.ndn, wF_len .., ?_⟩
      rw [wF_sd]
      refine kg { w' with pl := w'.pl + m, st := lastN w'.st (((rs.map (·.2)).drop w'.pl).take m), dn := w'.dn + m } ?_ _ ((bt.trans But.upd_x).trans But.upd_x) ⟨?_, ?_, ?_, ?_, W.n1⟩
      · show (if w'.pl + m > (rs.map (·.2)).length then Except.error 6 else _) = _
        rw [if_neg (by rw [el]; exact c')]
      · rw [upd_same, ← List.map_drop, ← List.map_take, Int.natCast_add, Int.natCast_add]
      · rw [upd_ne W.xr.symm, upd_ne W.xr.symm]
        exact W2.ru
      · rw [upd_ne W.xm.symm, upd_ne W.xm.symm]
        exact W2.ma
      · rw [upd_ne W.xs.symm, upd_ne W.xs.symm]
        exact W2.se
-- @@ Walker.do
def sp_Walker_do (K : PySem.W.Frag) (C : Addr) (c8 : Nat → Addr) : Sp := fun vs H Q E => ∃ (A : WA) (x : V), vs = [.ref A.x, x] ∧
  ((DeedTh K H x false ∧ E (.ref (c8 2)) none H) ∨ (∃ (a : Addr) (d : Deed) (rs : List (Addr × Rule)) (R : Nat) (w : WK), x = .ref a ∧ H a = some (.tup d.vs) ∧ d.ok ∧ StepP K C c8 H A rs R w d Q E))
theorem ok_Walker_do (T : Txt K mg) : OkM P w K mg base T.aWalker "do" 3 ["self", "deed"] (sp_Walker_do K T.aWalker T.w8) := by
  obtain ⟨f_is_deed, fd_is_deed, m_is_deed, k_is_deed, b_is_deed, G_is_deed⟩ := ok_is_deed (P := P) (w := w) (base := base) T
  obtain ⟨f_Walker_keep, fd_Walker_keep, M_Walker_keep, b_Walker_keep, G_Walker_keep⟩ := ok_Walker_keep (P := P) (w := w) (base := base) T
  obtain ⟨f_Walker_meet, fd_Walker_meet, M_Walker_meet, b_Walker_meet, G_Walker_meet⟩ := ok_Walker_meet (P := P) (w := w) (base := base) T
  obtain ⟨f_Walker_go, fd_Walker_go, M_Walker_go, b_Walker_go, G_Walker_go⟩ := ok_Walker_go (P := P) (w := w) (base := base) T
  refine okm T.d_Walker_do sc_Walker_do (fun vs H Q E h => ?_) (fun f cdv A outer s H vs Q E hr h => ?_)
  · obtain ⟨A, x, rfl, h⟩ := h
    rfl
  · obtain ⟨A, x, rfl, h⟩ := h
    refine ⟨_, (pss_cons (ps_if (pt_not (pt_val (pe_call G_is_deed (hr.mono (by decide)) (by rfl) m_is_deed k_is_deed b_is_deed .nil passL (pa_cons (pv 1) pa_nil))))
        (pss_one (ps_raise rfl (takes_of rfl rfl rfl rfl) (pmk_own PySem.F.excBase_ValueError T.x_BadDeed.x T.x_BadDeed.g T.x_BadDeed.k (raises_own T.x_BadDeed.b T.x_BadDeed.t) rfl)))
        pss_nil)
        (pss_one (ps_if (pt_cmpR op_eq (pe_ix ix_tup (pv 1) pe_int (fun _ _ => rfl)) pe_str (nomark _))
        (pss_one (ps_expr (pe_meth0 (pv 0) T.o_Walker.cl M_Walker_keep G_Walker_keep (hr.mono (by decide)) b_Walker_keep .nil (passes_call (W := fun cls d _ H => E cls d H) (takes_of rfl rfl rfl rfl) (fun _ _ _ _ h => h)))))
        (pss_one (ps_if (pt_cmpR op_eq (pe_ix ix_tup (pv 1) pe_int (fun _ _ => rfl)) pe_str (nomark _))
        (pss_one (ps_expr (pe_meth0 (pv 0) T.o_Walker.cl M_Walker_meet G_Walker_meet (hr.mono (by decide)) b_Walker_meet .nil (passes_call (W := fun cls d _ H => E cls d H) (takes_of rfl rfl rfl rfl) (fun _ _ _ _ h => h)))))
        (pss_one (ps_if (pt_cmpR op_eq (pe_ix ix_tup (pv 1) pe_int (fun _ _ => rfl)) pe_str (nomark _))
        (pss_one (ps_expr (pe_meth (pv 0) T.o_Walker.cl M_Walker_go G_Walker_go (hr.mono (by decide)) b_Walker_go .nil (passes_call (W := fun cls d _ H => E cls d H) (takes_of rfl rfl rfl rfl) (fun _ _ _ _ h => h)) (pa_cons (pe_ix ix_tup (pv 1) pe_int (fun _ _ => rfl)) pa_nil))))
        (pss_cons (ps_if (pt_cmp (pc_dnotin (hu_of hr) (pe_ix ix_tup (pv 1) pe_int (fun _ _ => rfl)) (pe_fld (pv 0) rfl)))
        (pss_one (ps_raise rfl (takes_of rfl rfl rfl rfl) (pmk_own PySem.F.excBase_ValueError T.x_NotKept.x T.x_NotKept.g T.x_NotKept.k (raises_own T.x_NotKept.b T.x_NotKept.t) rfl)))
        pss_nil)
        (pss_one (ps_if (pt_cmpR op_eq (pe_ix ix_tup (pv 1) pe_int (fun _ _ => rfl)) pe_str (nomark _))
        (pss_one (ps_expr (pe_dpop1 (pe_fld (pv 0) rfl) (pe_ix ix_tup (pv 1) pe_int (fun _ _ => rfl)) ⟨rfl, rfl, rfl, rfl⟩)))
        (pss_cons (ps_fld (pv 0) (pe_ix ix_tup (pv 1) pe_int (fun _ _ => rfl)) rfl)
        (pss_one (ps_fld (pv 0) (pe_dget (hu_of hr) (pe_fld (pv 0) rfl) (pe_ix ix_tup (pv 1) pe_int (fun _ _ => rfl)) (fun _ _ => rfl)) rfl))))))))))))), ?_⟩
    have hu := hu_of hr
    have cl := T.o_Walker.cl
    have O := T.o_Walker
    rcases h with ⟨th, e⟩ | ⟨a, d, rs, R, w', rfl, ha, dok, SP⟩
    · exact ⟨_, rfl, x, false, rfl, th, _, rfl, iteT e⟩
    have W := SP.1
    refine ⟨_, rfl, .ref a, true, rfl, d.th dok ha, _, rfl, iteF ?_⟩
    refine ⟨_, rfl, a, _, _, .str d.word, rfl, rfl, SqT.of ha, d.at0, rfl, _, rfl, ?_⟩
    cases d with
    | keep =>
      refine iteT ?_
      exact ⟨_, rfl, A.x, A.dx, _, rfl, W.ob, wF_keep .., A, rs, R, w', rfl, SP⟩
    | meet =>
      rw [show decide (V.str Deed.meet.word = V.str "keep") = false by decide +kernel]
      refine iteF ?_
      refine ⟨_, rfl, a, _, _, .str "meet", rfl, rfl, SqT.of ha, rfl, rfl, _, rfl, iteT ?_⟩
      exact ⟨_, rfl, A.x, A.dx, _, rfl, W.ob, wF_meet .., A, rs, R, w', rfl, SP⟩
    | go m =>
      rw [show decide (V.str (Deed.go m).word = V.str "keep") = false from (by decide +kernel : decide (V.str "go" = V.str "keep") = false)]
      refine iteF ?_
      refine ⟨_, rfl, a, _, _, .str "go", rfl, rfl, SqT.of ha, rfl, rfl, _, rfl, ?_⟩
      rw [show decide (V.str "go" = V.str "meet") = false by decide +kernel]
      refine iteF ?_
      refine ⟨_, rfl, a, _, _, .str "go", rfl, rfl, SqT.of ha, rfl, rfl, _, rfl, iteT ?_⟩
      exact ⟨_, rfl, A.x, A.dx, _, rfl, W.ob, wF_go .., _, rfl, a, _, _, .int (m : Int), rfl, rfl, SqT.of ha, rfl, A, rs, R, w', m, rfl, SP⟩
    | take p =>
      obtain ⟨_, hR, ok, hl, hm, hs, kg, kb⟩ := SP
      rw [show decide (V.str (Deed.take p).word = V.str "keep") = false from (by decide +kernel : decide (V.str "take" = V.str "keep") = false)]
      refine iteF ?_
      refine ⟨_, rfl, a, _, _, .str "take", rfl, rfl, SqT.of ha, rfl, rfl, _, rfl, ?_⟩
      rw [show decide (V.str "take" = V.str "meet") = false by decide +kernel]
      refine iteF ?_
      refine ⟨_, rfl, a, _, _, .str "take", rfl, rfl, SqT.of ha, rfl, rfl, _, rfl, ?_⟩
      rw [show decide (V.str "take" = V.str "go") = false by decide +kernel]
      refine iteF ?_
      refine ⟨_, rfl, a, _, _, .int (p : Int), rfl, rfl, SqT.of ha, rfl, _, rfl, A.x, T.aWalker, A.dx, _, _, rfl, W.ob, cl, O.nma, wF_marks .., A.md, _, rfl, DGet.k (k := Sum.inl (p : Int)) W.ma, _, rfl, ?_⟩
      have mv := mkK_val w'.mks p
      rw [mv]
      cases e : stOf w'.mks p with
      | none =>
        refine iteT ?_
        refine kb 5 ?_
        show (match stOf w'.mks p with | none => Except.error 5 | some s => _) = Except.error 5
        rw [e]
      | some s' =>
        refine iteF ?_
        rw [e] at mv
        refine ⟨_, rfl, a, _, _, .str "take", rfl, rfl, SqT.of ha, rfl, rfl, _, rfl, ?_⟩
        rw [show decide (V.str "take" = V.str "drop") = false by decide +kernel]
        refine iteF ?_
        refine ⟨_, rfl, a, _, _, .int (p : Int), rfl, rfl, SqT.of ha, rfl, _, rfl, A.x, T.aWalker, A.dx, _, rfl, W.ob, cl, O.npl, wF_len .., ?_⟩
        rw [wF_sp]
        have nax : a ≠ A.x := ne_of ha W.ob (by intro z; cases z)
        have ha1 : (upd H A.x (.ins T.aWalker A.dx (wF A.rl (R : Int) (p : Int) (w'.st : Int) (w'.dn : Int) (oW w'.wa) A.md A.sn))) a = some (.tup (Deed.take p).vs) := by
          rw [upd_ne nax]
          exact ha
        have hm1 : (upd H A.x (.ins T.aWalker A.dx (wF A.rl (R : Int) (p : Int) (w'.st : Int) (w'.dn : Int) (oW w'.wa) A.md A.sn))) A.md = some (.dK (mkK w'.mks)) := by
          rw [upd_ne W.xm.symm]
          exact W.ma
        refine ⟨_, rfl, A.x, T.aWalker, A.dx, _, _, rfl, upd_same, cl, O.nma, wF_marks .., _, rfl, a, _, _, .int (p : Int), rfl, rfl, SqT.of ha1, rfl, A.md, .int (s' : Int), rfl, ?_, ?_⟩
        · have g := DGet.k (k := Sum.inl (p : Int)) hm1
          rw [mv] at g
          exact g
        refine ⟨_, rfl, A.x, T.aWalker, A.dx, _, rfl, upd_same, cl, O.nst, wF_len .., ?_⟩
        rw [wF_ss]
        refine kg { w' with pl := p, st := s' } ?_ _ (But.upd_x.trans But.upd_x) ⟨upd_same, ?_, ?_, ?_, W.n1⟩
        · show (match stOf w'.mks p with | none => Except.error 5 | some s => _) = _
          rw [e]
        · rw [upd_ne W.xr.symm, upd_ne W.xr.symm]
          exact W.ru
        · rw [upd_ne W.xm.symm]
          exact hm1
        · rw [upd_ne W.xs.symm, upd_ne W.xs.symm]
          exact W.se
    | drop p =>
      obtain ⟨_, hR, ok, hl, hm, hs, kg, kb⟩ := SP
      rw [show decide (V.str (Deed.drop p).word = V.str "keep") = false from (by decide +kernel : decide (V.str "drop" = V.str "keep") = false)]
      refine iteF ?_
      refine ⟨_, rfl, a, _, _, .str "drop", rfl, rfl, SqT.of ha, rfl, rfl, _, rfl, ?_⟩
      rw [show decide (V.str "drop" = V.str "meet") = false by decide +kernel]
      refine iteF ?_
      refine ⟨_, rfl, a, _, _, .str "drop", rfl, rfl, SqT.of ha, rfl, rfl, _, rfl, ?_⟩
      rw [show decide (V.str "drop" = V.str "go") = false by decide +kernel]
      refine iteF ?_
      refine ⟨_, rfl, a, _, _, .int (p : Int), rfl, rfl, SqT.of ha, rfl, _, rfl, A.x, T.aWalker, A.dx, _, _, rfl, W.ob, cl, O.nma, wF_marks .., A.md, _, rfl, DGet.k (k := Sum.inl (p : Int)) W.ma, _, rfl, ?_⟩
      have mv := mkK_val w'.mks p
      rw [mv]
      cases e : stOf w'.mks p with
      | none =>
        refine iteT ?_
        refine kb 5 ?_
        show (match stOf w'.mks p with | none => Except.error 5 | some s => _) = Except.error 5
        rw [e]
      | some s' =>
        refine iteF ?_
        rw [e] at mv
        refine ⟨_, rfl, a, _, _, .str "drop", rfl, rfl, SqT.of ha, rfl, rfl, _, rfl, iteT ?_⟩
        refine ⟨_, rfl, A.x, T.aWalker, A.dx, _, _, rfl, W.ob, cl, O.nma, wF_marks .., A.md, rfl, .inl ⟨_, .inl W.ma⟩, _, rfl, a, _, _, .int (p : Int), rfl, rfl, SqT.of ha, rfl, _, Sum.inl (p : Int), .int (s' : Int), W.ma, rfl, mv, ?_⟩
        rw [mkK_drop]
        refine kg { w' with mks := w'.mks.filter fun q => q.1 != p } ?_ _ But.upd_mk ⟨?_, ?_, upd_same, ?_, W.n1⟩
        · show (match stOf w'.mks p with | none => Except.error 5 | some s => _) = _
          rw [e]
        · rw [upd_ne W.xm]
          exact W.ob
        · rw [upd_ne W.rm]
          exact W.ru
        · rw [upd_ne W.ms.symm]
          exact W.se
-- @@ Walker.kept
def refsM (ts : List (Addr × Nat × Nat)) : List V := ts.map fun q => V.ref q.1
def sp_Walker_kept (K : PySem.W.Frag) (C : Addr) : Sp := fun vs H Q E => ∃ (A : WA) (rs : List (Addr × Rule)) (R : Nat) (w : WK), vs = [.ref A.x] ∧ WAt C H A rs R w ∧ w.mks.length < 64 ∧
  ∀ (p : Addr) (H' : Hp) (ts : List (Addr × Nat × Nat)), H p = none → Same H H' → H' p = some (.lst (refsM ts)) → (∀ q ∈ ts, H' q.1 = some (.tup [.int (q.2.1 : Int), .int (q.2.2 : Int)]) ∧ stOf w.mks q.2.1 = some q.2.2 ∧ H q.1 = none) →
    (ts.map fun q => ((q.2.1 : Nat) : Int)).Perm (w.mks.map fun q => ((q.1 : Nat) : Int)) → (ts.map fun q => ((q.2.1 : Nat) : Int)).Pairwise (· ≤ ·) → Q (.ref p) H'
theorem ok_Walker_kept (T : Txt K mg) : OkM P w K mg base T.aWalker "kept" 1 ["self"] (sp_Walker_kept K T.aWalker) := by
  refine okm T.d_Walker_kept sc_Walker_kept (fun vs H Q E h => ?_) (fun f cdv A outer s H vs Q E hr h => ?_)
  · obtain ⟨A, rs, R, w', rfl, W, hm, k⟩ := h
    rfl
  · obtain ⟨A, rs, R, w', rfl, W, hm, k⟩ := h
    refine ⟨_, (pss_one (ps_ret (pe_lc (own := [("place", 1)]) rfl sc_Walker_kept.nd (pi_list (pe_callB (call_sortedDI rfl) (by rfl) T.n_sorted (by decide +kernel) (pa_cons (pe_fld (pv 0) rfl) pa_nil))) (blkOk_by (own := [("place", 1)]) (N := ["self", "place"]) (sc := defScope s_Walker_kept) (by decide +kernel)) (fun _ _ _ _ _ => (pg_name (i := 1) sc_Walker_kept.nd rfl (Or.inl rfl))) (fun _ _ _ _ _ => pts_nil) (fun _ _ _ _ _ => (pe_tup (pa_cons (pv 1) (pa_cons (pe_dget (hu_of hr) (pe_fldK (K := K) rfl (pv 0) rfl) (pv 1) (fun _ _ => rfl)) pa_nil))))))), ?_⟩
    have cl := T.o_Walker.cl
    have O := T.o_Walker
    have hkeys : (mkK w'.mks).map (·.1) = (w'.mks.map fun q => ((q.1 : Nat) : Int)).map Sum.inl := by
      unfold mkK
      rw [List.map_map, List.map_map] <;> rfl
    refine ⟨_, rfl, A.x, T.aWalker, A.dx, _, _, rfl, W.ob, cl, O.nma, wF_marks .., A.md, _, _, rfl, .inl W.ma, hkeys, by rw [List.length_map]; exact hm, fun ys l hperm hsort hl => ?_⟩
    have w1 := Same.new (o := .lst (ys.map V.int)) hl
    refine ⟨l, rfl, ⟨_, SqL.of upd_same⟩, fun D hD => ?_⟩
    have hlen : ys.length = w'.mks.length := by rw [hperm.length_eq, List.length_map]
    refine lc_list (K := K) (a := l) (xs := ys.map V.int) (fun i H' => Same (upd H l (.lst (ys.map V.int))) H' ∧ ∃ ts : List (Addr × Nat × Nat), ts.map (fun q => ((q.2.1 : Nat) : Int)) = ys.take i ∧ H' D = some (.lst (refsM ts)) ∧ ∀ q ∈ ts, H' q.1 = some (.tup [.int (q.2.1 : Int), .int (q.2.2 : Int)]) ∧ stOf w'.mks q.2.1 = some q.2.2 ∧ H q.1 = none)
      ⟨Same.new hD, [], rfl, upd_same, fun q hq => (nomatch hq)⟩ (fun i H' _ ⟨s2, _⟩ => SqL.of (s2 _ _ upd_same)) ?_ ?_
    · rintro i y H' hi ⟨s2, ts, hts, hQ, hT⟩
      obtain ⟨z, hz, rfl⟩ := get_map hi
      have hil := (List.getElem?_eq_some_iff.mp hz).1
      have hzm : z ∈ w'.mks.map fun q => ((q.1 : Nat) : Int) := hperm.mem_iff.mp (List.mem_of_getElem? hz)
      obtain ⟨q, hq, rfl⟩ := List.mem_map.mp hzm
      obtain ⟨st, hst⟩ := stOf_some (ms := w'.mks) (p := q.1) (List.mem_map.mpr ⟨q, hq, rfl⟩)
      have W2 := W.same (w1.trans s2)
      have g := DGet.k (k := Sum.inl (q.1 : Int)) W2.ma
      rw [mkK_val, hst] at g
      have lt : ts.length = i := by
        have e := congrArg List.length hts
        rw [List.length_map, List.length_take] at e
        omega
      refine ⟨rfl, ?_⟩
      refine ⟨_, rfl, _, rfl, A.x, T.aWalker, A.dx, _, _, rfl, W2.ob, cl, O.nma, wF_marks .., _, rfl, A.md, .int (st : Int), rfl, g, by show 2 ≤ sizeLine; decide, fun t ht => ?_⟩
      have w3 := Same.new (o := .tup [.int (q.1 : Int), .int (st : Int)]) ht
      have hQ3 := w3 _ _ hQ
      refine ⟨_, hQ3, sz5' (by rw [show (refsM ts).length = ts.length from List.length_map ..]; omega), Same.mut (s2.trans w3) hD, ts ++ [(t, q.1, st)], ?_, ?_, fun r hr => ?_⟩
      · rw [List.map_append, hts, take_succ hz] <;> rfl
      · rw [upd_same]
        unfold refsM
        rw [List.map_append] <;> rfl
      · rcases List.mem_append.mp hr with z | z
        · have e := w3 _ _ (hT r z).1
          refine ⟨?_, (hT r z).2⟩
          rw [upd_ne (ne_of e hQ3 (by intro z; cases z))]
          exact e
        · rw [List.mem_singleton.mp z]
          refine ⟨?_, hst, w1.free (s2.free ht)⟩
          show upd _ D _ t = _
          rw [upd_ne (ne_of upd_same hQ3 (by intro z; cases z))]
          exact upd_same
    · rintro H' ⟨s2, ts, hts, hQ, hT⟩
      have e0 : ys.take (ys.map V.int).length = ys := by rw [List.length_map, List.take_length]
      rw [e0] at hts
      exact k D H' ts (w1.free hD) (w1.trans s2) hQ hT (by rw [hts]; exact hperm) (by rw [hts]; exact hsort)

-- @@ Walker.met
def sp_Walker_met (K : PySem.W.Frag) (C : Addr) : Sp := fun vs H Q E => ∃ (A : WA) (rs : List (Addr × Rule)) (R : Nat) (w : WK), vs = [.ref A.x] ∧ WAt C H A rs R w ∧ ∀ (p : Addr) (H' : Hp), H p = none → Same H H' → H' p = some (.lst (w.sn.map fun (s : Nat) => V.int (s : Int))) → Q (.ref p) H'
theorem ok_Walker_met (T : Txt K mg) : OkM P w K mg base T.aWalker "met" 1 ["self"] (sp_Walker_met K T.aWalker) := by
  refine okm T.d_Walker_met sc_Walker_met (fun vs H Q E h => ?_) (fun f cdv A outer s H vs Q E hr h => ?_)
  · obtain ⟨A, rs, R, w', rfl, W, k⟩ := h
    rfl
  · obtain ⟨A, rs, R, w', rfl, W, k⟩ := h
    refine ⟨_, (pss_one (ps_ret (pe_callTy (T := "list") (r := rListOf K) call_list_of (by rfl) T.n_list (by decide +kernel) (pa_cons (pe_fld (pv 0) rfl) pa_nil)))), ?_⟩
    exact ⟨_, rfl, A.x, T.aWalker, A.dx, _, _, rfl, W.ob, T.o_Walker.cl, T.o_Walker.nse, wF_seen .., A.sn, _, rfl, .inl (SqL.of W.se), fun l hl => k l _ hl (Same.new hl) upd_same⟩
-- @@ _law_cell_at
/-- _law_cell_at(script, k): the k-th number, or 0 -/
def cellAt (ns : List Int) (k : Nat) : Int := ns.getD k 0
def sp_l_cell_at (K : PySem.W.Frag) : Sp := fun vs H Q _ => ∃ (a : Addr) (ns : List Int) (j : Nat), vs = [.ref a, .int (j : Int)] ∧ SqL K H a (ns.map V.int) ∧ Q (.int (cellAt ns j)) H
theorem ok_l_cell_at (T : Txt K mg) : OkF P w K mg base "_law_cell_at" 1 ["_law_script", "_law_k"] (sp_l_cell_at K) := by
  refine okf T.d_l_cell_at sc_l_cell_at (fun vs H Q E h => ?_) (fun f cdv A outer s H vs Q E hr h => ?_)
  · obtain ⟨a, ns, j, rfl, hS, k⟩ := h
    rfl
  · obtain ⟨a, ns, j, rfl, hS, k⟩ := h
    refine ⟨_, (pss_cons (ps_if (pt_cmpR op_lt (pv 1) (pe_callB call_len_seq (by rfl) T.n_len PySem.boot_len (pa_cons (pv 0) pa_nil)) (nomark _))
        (pss_one (ps_ret (pe_ix ix_list (pv 0) (pv 1) (fun _ _ => rfl))))
        pss_nil)
        (pss_one (ps_ret pe_int))), ?_⟩
    refine ⟨_, rfl, _, rfl, a, _, rfl, .inl hS, _, _, rfl, rfl, _, rfl, ?_⟩
    refine ite2 (fun c => ?_) (fun c => ?_)
    · have c' := of_decide_eq_true c
      rw [List.length_map] at c'
      have hj : j < ns.length := by omega
      refine ⟨_, rfl, _, rfl, a, _, _, .int (cellAt ns j), rfl, rfl, hS, ?_, k⟩
      refine at_map rfl ?_
      unfold cellAt
      rw [List.getElem?_eq_getElem hj, List.getD_eq_getElem?_getD, List.getElem?_eq_getElem hj] <;> rfl
    · have c' : ¬ ((j : Int) < ((ns.map V.int).length : Int)) := fun z => c (decide_eq_true z)
      rw [List.length_map] at c'
      have e : cellAt ns j = 0 := by
        unfold cellAt
        rw [List.getD_eq_getElem?_getD, List.getElem?_eq_none (by omega)] <;> rfl
      rw [e] at k
      exact k

-- @@ _law_number
def numN (ns : List Int) (j : Nat) : Int := if ns = [] then 5003 * (j : Int) else (ns.getD (j % ns.length) 0 + 7919 * ((j / ns.length : Nat) : Int) + 101 * (j : Int)) * 48271 % 2147483647
theorem num_nn (ns : List Int) (j : Nat) : 0 ≤ numN ns j := by
  unfold numN
  split
  · omega
  · exact Int.emod_nonneg _ (by decide)
def sp_l_number (K : PySem.W.Frag) : Sp := fun vs H Q _ => ∃ (a : Addr) (ns : List Int) (j : Nat), vs = [.ref a, .int (j : Int)] ∧ SqL K H a (ns.map V.int) ∧ ns.length ≤ 63 ∧ j < 100000 ∧ Q (.int (numN ns j)) H
theorem ok_l_number (T : Txt K mg) : OkF P w K mg base "_law_number" 1 ["_law_script", "_law_k"] (sp_l_number K) := by
  refine okf T.d_l_number sc_l_number (fun vs H Q E h => ?_) (fun f cdv A outer s H vs Q E hr h => ?_)
  · obtain ⟨a, ns, j, rfl, hS, hl, hj, k⟩ := h
    rfl
  · obtain ⟨a, ns, j, rfl, hS, hl, hj, k⟩ := h
    refine ⟨_, (pss_cons (ps_if (pt_cmpR op_eq (pe_callB call_len_seq (by rfl) T.n_len PySem.boot_len (pa_cons (pv 0) pa_nil)) pe_int (nomark _))
        (pss_one (ps_ret (pe_op op_mul pe_int (pv 1))))
        pss_nil)
        (pss_cons (ps_set (i := 2) sc_l_number.nd rfl (Or.inl rfl) (pe_op op_add (pe_op op_add (pe_ix ix_list (pv 0) (pe_op op_mod (pv 1) (pe_callB call_len_seq (by rfl) T.n_len PySem.boot_len (pa_cons (pv 0) pa_nil))) (fun _ _ => rfl)) (pe_op op_mul pe_int (pe_op op_fdiv (pv 1) (pe_callB call_len_seq (by rfl) T.n_len PySem.boot_len (pa_cons (pv 0) pa_nil))))) (pe_op op_mul pe_int (pv 1))))
        (pss_one (ps_ret (pe_op op_mod (pe_op op_mul (pv 2) pe_int) pe_int))))), ?_⟩
    refine ⟨_, rfl, a, _, rfl, .inl hS, rfl, _, rfl, ?_⟩
    refine ite2 (fun c => ?_) (fun c => ?_)
    · have e : ns = [] := by
        have := V.int.inj (of_decide_eq_true c)
        rw [List.length_map] at this
        exact List.length_eq_zero_iff.mp (by omega)
      have en : numN ns j = 5003 * (j : Int) := by
        unfold numN
        rw [if_pos e]
      rw [en] at k
      exact ⟨_, rfl, _, _, rfl, rfl, .inl ⟨by decide, by decide⟩, k⟩
    · have hp : 0 < ns.length := by
        by_cases z : ns.length = 0
        · exact absurd (decide_eq_true (by rw [List.length_map, z] <;> rfl)) c
        · omega
      have en : numN ns j = (ns.getD (j % ns.length) 0 + 7919 * ((j / ns.length : Nat) : Int) + 101 * (j : Int)) * 48271 % 2147483647 := by
        unfold numN
        rw [if_neg (fun z => by rw [z] at hp; exact absurd hp (by decide))]
      have el : ((ns.map V.int).length : Int) = (ns.length : Int) := by rw [List.length_map]
      have hm := Nat.mod_lt j hp
      refine ⟨_, rfl, _, rfl, _, rfl, a, _, rfl, .inl hS, _, _, rfl, rfl, by rw [el]; show (0 : Int) < (ns.length : Int); omega, a, _, _, .int (ns.getD (j % ns.length) 0), rfl, rfl, hS, ?_, ?_⟩
      · refine at_map (j := j % ns.length) ?_ ?_
        · rw [el, Int.natCast_emod]
        · rw [List.getElem?_eq_getElem hm, List.getD_eq_getElem?_getD, List.getElem?_eq_getElem hm] <;> rfl
      refine ⟨_, rfl, _, rfl, a, _, rfl, .inl hS, _, _, rfl, rfl, ⟨by rw [el]; omega, by rw [el]; omega⟩, _, _, rfl, rfl, .inl ⟨by decide, by decide⟩, _, _, rfl, rfl, _, rfl, _, _, rfl, rfl, .inl ⟨by decide, by decide⟩, _, _, rfl, rfl, ?_⟩
      refine ⟨_, rfl, _, _, rfl, rfl, .inr ⟨by decide, by decide⟩, _, _, rfl, rfl, by show (0 : Int) < 2147483647; decide, ?_⟩
      rw [en, Int.natCast_ediv, ← el] at k
      exact k
-- @@ _law_whole
def sp_l_whole (K : PySem.W.Frag) : Sp := fun vs H Q _ => ∃ (x : V) (o : Option Int), vs = [x] ∧ Thg K H x o ∧ Q (.bl (whole o)) H
theorem ok_l_whole (T : Txt K mg) : OkF P w K mg base "_law_whole" 1 ["_law_found"] (sp_l_whole K) := by
  refine okf T.d_l_whole sc_l_whole (fun vs H Q E h => ?_) (fun f cdv A outer s H vs Q E hr h => ?_)
  · obtain ⟨x, o, rfl, th, k⟩ := h
    rfl
  · obtain ⟨x, o, rfl, th, k⟩ := h
    refine ⟨_, (pss_one (ps_ret (pe_and (pe_callB call_isi (by rfl) T.n_isinstance (by decide +kernel) (pa_cons (pv 0) (pa_cons (pe_bltn (v := .ty "int") (by rfl) T.n_int (by decide +kernel) rfl) pa_nil))) (pe_one (pe_not (pe_callB call_isi (by rfl) T.n_isinstance (by decide +kernel) (pa_cons (pv 0) (pa_cons (pe_bltn (v := .ty "bool") (by rfl) T.n_bool (by decide +kernel) rfl) pa_nil)))))))), ?_⟩
    refine ⟨_, rfl, ?_⟩
    cases th with
    | int i =>
      refine ⟨_, _, _, _, true, rfl, .ty "int", .base (.int i), kit_ty (by decide +kernel), true, rfl, iteT ?_⟩
      exact ⟨_, rfl, _, _, _, _, false, rfl, .ty "bool", .base (.int i), kit_ty (by decide +kernel), false, rfl, k⟩
    | bl b =>
      refine ⟨_, _, _, _, true, rfl, .ty "int", .base (.bl b), kit_ty (by decide +kernel), true, rfl, iteT ?_⟩
      exact ⟨_, rfl, _, _, _, _, true, rfl, .ty "bool", .base (.bl b), kit_ty (by decide +kernel), true, rfl, k⟩
    | oth ty ni =>
      refine ⟨_, _, _, _, false, rfl, .ty "int", ty, ni, false, rfl, iteF ?_⟩
      exact k
-- @@ _law_rule
def sp_l_rule : Sp := fun vs H Q _ => ∃ n : Int, vs = [.int n] ∧ 0 ≤ n ∧ RetR H Q
theorem ok_l_rule (T : Txt K mg) : OkF P w K mg base "_law_rule" 1 ["_law_number_here"] (sp_l_rule) := by
  refine okf T.d_l_rule sc_l_rule (fun vs H Q E h => ?_) (fun f cdv A outer s H vs Q E hr h => ?_)
  · obtain ⟨n, rfl, hn, k⟩ := h
    rfl
  · obtain ⟨n, rfl, hn, k⟩ := h
    refine ⟨_, (Evl.pss_cut (ps_set (i := 1) sc_l_rule.nd rfl (Or.inl rfl) (pe_op op_mod (pe_op op_fdiv (pv 0) pe_int) pe_int))
        (Evl.pss_cut (ps_if (pt_cmpR op_eq (pe_op op_mod (pe_op op_fdiv (pv 0) pe_int) pe_int) pe_int (nomark _))
        (pss_one (ps_set (i := 1) sc_l_rule.nd rfl (Or.inl rfl) (pe_ix ix_list (pe_lst (pa_cons pe_int (pa_cons pe_int (pa_cons pe_int (pa_cons pe_int (pa_cons pe_int pa_nil)))))) (pe_op op_mod (pe_op op_fdiv (pv 0) pe_int) pe_int) (fun _ _ => rfl))))
        pss_nil)
        (pss_cons (ps_if (pt_cmpR op_lt (pe_op op_mod (pv 0) pe_int) pe_int (nomark _))
        (pss_one (ps_ret (pe_tup (pa_cons pe_str (pa_cons (pv 1) pa_nil)))))
        pss_nil)
        (pss_cons (ps_if (pt_cmpR op_eq (pe_op op_mod (pv 0) pe_int) pe_int (nomark _))
        (pss_one (ps_ret (pe_tup (pa_cons pe_str (pa_cons (pv 1) pa_nil)))))
        pss_nil)
        (pss_one (ps_ret (pe_tup (pa_cons (pe_ix ix_list (pe_lst (pa_cons pe_str (pa_cons pe_str pa_nil))) (pe_op op_sub (pe_op op_mod (pv 0) pe_int) pe_int) (fun _ _ => rfl)) pa_nil)))))))), ?_⟩
    refine ⟨fun σ H' => H' = H ∧ ∃ j : Nat, j < 999983 ∧ σ = [some (.int n), some (.int (j : Int))], ?_, ?_⟩
    · obtain ⟨j, hj, ej⟩ := rem_nat (z := n / 5) (m := 999983) (by decide)
      refine ⟨_, rfl, _, _, rfl, rfl, ⟨by decide, by decide⟩, _, _, rfl, rfl, by show (0 : Int) < 999983; decide, rfl, j, by omega, ?_⟩
      rw [← ej] <;> rfl
    rintro σ H' ⟨rfl, j, hj, rfl⟩
    refine ⟨fun σ H1 => Same H' H1 ∧ ∃ j : Nat, j < 999983 ∧ σ = [some (.int n), some (.int (j : Int))], ?_, ?_⟩
    · refine ⟨_, rfl, _, _, rfl, rfl, ⟨by decide, by decide⟩, _, _, rfl, rfl, by show (0 : Int) < 3; decide, rfl, _, rfl, ?_⟩
      refine ite2 (fun _ => ?_) (fun _ => ?_)
      · refine ⟨by show 5 ≤ sizeLine; decide, fun l hl => ?_⟩
        obtain ⟨i, hi, ei⟩ := rem_nat (z := n / 15) (m := 5) (by decide)
        obtain ⟨v, hv, m, rfl, hm⟩ := pick (P := fun v => ∃ m : Nat, v = V.int (m : Int) ∧ m < 999983) (xs := [.int 0, .int 1, .int 2, .int 999982, .int 999981]) (fun v hv => by
          simp only [List.mem_cons, List.not_mem_nil, or_false] at hv
          rcases hv with rfl | rfl | rfl | rfl | rfl
          · exact ⟨0, rfl, by decide⟩
          · exact ⟨1, rfl, by decide⟩
          · exact ⟨2, rfl, by decide⟩
          · exact ⟨999982, rfl, by decide⟩
          · exact ⟨999981, rfl, by decide⟩) (j := i) (by show i < 5; omega)
        exact ⟨_, rfl, _, _, rfl, rfl, ⟨by decide, by decide⟩, _, _, rfl, rfl, by show (0 : Int) < 5; decide, l, _, _, .int (m : Int), rfl, rfl, SqL.of upd_same, at_of ei hv, Same.new hl, m, hm, rfl⟩
      · exact ⟨Same.refl _, j, hj, rfl⟩
    rintro σ H1 ⟨s1, j, hj, rfl⟩
    have e5 : 0 ≤ n % 5 ∧ n % 5 < 5 := ⟨Int.emod_nonneg _ (by decide), Int.emod_lt_of_pos _ (by decide)⟩
    refine ⟨_, rfl, _, _, rfl, rfl, by show (0 : Int) < 5; decide, _, _, rfl, rfl, _, rfl, ?_⟩
    refine ite2 (fun c => ?_) (fun c => ?_)
    · refine ⟨_, rfl, by show 2 ≤ sizeLine; decide, fun t ht => ?_⟩
      exact k (.add j) t _ hj (s1.free ht) (s1.trans (Same.new ht)) upd_same
    · have c' : ¬ n % 5 < 2 := fun z => c (decide_eq_true z)
      refine ⟨_, rfl, _, _, rfl, rfl, by show (0 : Int) < 5; decide, rfl, _, rfl, ?_⟩
      refine ite2 (fun c2 => ?_) (fun c2 => ?_)
      · refine ⟨_, rfl, by show 2 ≤ sizeLine; decide, fun t ht => ?_⟩
        exact k (.times j) t _ hj (s1.free ht) (s1.trans (Same.new ht)) upd_same
      · have c3 : ¬ n % 5 = 2 := fun z => c2 (decide_eq_true (by show V.int (n % 5) = V.int 2; rw [z]))
        refine ⟨by show 2 ≤ sizeLine; decide, fun l hl => ?_⟩
        obtain ⟨i, hi, ei⟩ : ∃ i : Nat, i < 2 ∧ n % 5 - 3 = (i : Int) := ⟨(n % 5 - 3).toNat, by omega, by omega⟩
        obtain ⟨v, hv, r, rfl, hr1, hr2⟩ := pick (P := fun v => ∃ r : Rule, v = V.str r.word ∧ r.vs = [V.str r.word] ∧ r.ok) (xs := [.str "square", .str "half"]) (fun v hv => by
          simp only [List.mem_cons, List.not_mem_nil, or_false] at hv
          rcases hv with rfl | rfl
          · exact ⟨.square, rfl, rfl, trivial⟩
          · exact ⟨.half, rfl, rfl, trivial⟩) (j := i) (by show i < 2; omega)
        refine ⟨_, rfl, _, _, rfl, rfl, by show (0 : Int) < 5; decide, _, _, rfl, rfl, l, _, _, .str r.word, rfl, rfl, SqL.of upd_same, at_of ei hv, by show 1 ≤ sizeLine; decide, fun t ht => ?_⟩
        refine k r t _ hr2 (s1.free ((Same.new hl).free ht)) ((s1.trans (Same.new hl)).trans (Same.new ht)) ?_
        rw [upd_same, hr1]

-- @@ _law_forth
def sp_l_forth (K : PySem.W.Frag) : Sp := fun vs H Q _ => ∃ (q : Addr) (r : Rule) (s : Nat), vs = [.ref q, .int (s : Int)] ∧ H q = some (.tup r.vs) ∧ r.ok ∧ s < 999983 ∧ Q (.int (forthN r s : Int)) H
theorem ok_l_forth (T : Txt K mg) : OkF P w K mg base "_law_forth" 1 ["_law_rule_here", "_law_state"] (sp_l_forth K) := by
  refine okf T.d_l_forth sc_l_forth (fun vs H Q E h => ?_) (fun f cdv A outer s H vs Q E hr h => ?_)
  · obtain ⟨q, r, s', rfl, hq, ok, hs, k⟩ := h
    rfl
  · obtain ⟨q, r, s', rfl, hq, ok, hs, k⟩ := h
    refine ⟨_, (pss_cons (ps_if (pt_cmpR op_eq (pe_ix ix_tup (pv 0) pe_int (fun _ _ => rfl)) pe_str (nomark _))
        (pss_one (ps_ret (pe_op op_mod (pe_op op_add (pv 1) (pe_ix ix_tup (pv 0) pe_int (fun _ _ => rfl))) pe_int)))
        pss_nil)
        (pss_cons (ps_if (pt_cmpR op_eq (pe_ix ix_tup (pv 0) pe_int (fun _ _ => rfl)) pe_str (nomark _))
        (pss_one (ps_ret (pe_op op_mod (pe_op op_mul (pv 1) (pe_ix ix_tup (pv 0) pe_int (fun _ _ => rfl))) pe_int)))
        pss_nil)
        (pss_cons (ps_if (pt_cmpR op_eq (pe_ix ix_tup (pv 0) pe_int (fun _ _ => rfl)) pe_str (nomark _))
        (pss_one (ps_ret (pe_op op_mod (pe_op op_mul (pv 1) (pv 1)) pe_int)))
        pss_nil)
        (pss_one (ps_ret (pe_op op_fdiv (pv 1) pe_int)))))), ?_⟩
    refine ⟨_, rfl, q, _, _, .str r.word, rfl, rfl, SqT.of hq, r.at0, rfl, _, rfl, ?_⟩
    have ne : ∀ {a b : Str}, a ≠ b → decide (V.str a = V.str b) = false := fun h => decide_eq_false fun z => h (V.str.inj z)
    cases r with
    | add j =>
      have hj : j < 999983 := ok
      refine iteT ?_
      refine ⟨_, rfl, _, rfl, q, _, _, .int (j : Int), rfl, rfl, SqT.of hq, rfl, _, _, rfl, rfl, _, _, rfl, rfl, by show (0 : Int) < 999983; decide, ?_⟩
      have e : ((s' : Int) + (j : Int)) % 999983 = (forthN (.add j) s' : Int) := by
        show _ = (((s' + j) % 999983 : Nat) : Int)
        omega
      show Q (V.int (((s' : Int) + (j : Int)) % 999983)) H
      rw [e]
      exact k
    | times j =>
      have hj : j < 999983 := ok
      rw [ne (show Rule.word (.times j) ≠ "add" from (by decide +kernel : ("times" : Str) ≠ "add"))]
      refine iteF ?_
      refine ⟨_, rfl, q, _, _, .str "times", rfl, rfl, SqT.of hq, rfl, rfl, _, rfl, iteT ?_⟩
      refine ⟨_, rfl, _, rfl, q, _, _, .int (j : Int), rfl, rfl, SqT.of hq, rfl, _, _, rfl, rfl, .inl ⟨by omega, by omega⟩, _, _, rfl, rfl, by show (0 : Int) < 999983; decide, ?_⟩
      have e : ((s' : Int) * (j : Int)) % 999983 = (forthN (.times j) s' : Int) := by
        show _ = ((s' * j % 999983 : Nat) : Int)
        rw [Int.natCast_emod, Int.natCast_mul] <;> rfl
      show Q (V.int (((s' : Int) * (j : Int)) % 999983)) H
      rw [e]
      exact k
    | square =>
      rw [ne (show Rule.word .square ≠ "add" from (by decide +kernel : ("square" : Str) ≠ "add"))]
      refine iteF ?_
      refine ⟨_, rfl, q, _, _, .str "square", rfl, rfl, SqT.of hq, rfl, rfl, _, rfl, ?_⟩
      rw [ne (show ("square" : Str) ≠ "times" by decide +kernel)]
      refine iteF ?_
      refine ⟨_, rfl, q, _, _, .str "square", rfl, rfl, SqT.of hq, rfl, rfl, _, rfl, iteT ?_⟩
      refine ⟨_, rfl, _, rfl, _, _, rfl, rfl, .inl ⟨by omega, by omega⟩, _, _, rfl, rfl, by show (0 : Int) < 999983; decide, ?_⟩
      have e : ((s' : Int) * (s' : Int)) % 999983 = (forthN .square s' : Int) := by
        show _ = ((s' * s' % 999983 : Nat) : Int)
        rw [Int.natCast_emod, Int.natCast_mul] <;> rfl
      show Q (V.int (((s' : Int) * (s' : Int)) % 999983)) H
      rw [e]
      exact k
    | half =>
      rw [ne (show Rule.word .half ≠ "add" from (by decide +kernel : ("half" : Str) ≠ "add"))]
      refine iteF ?_
      refine ⟨_, rfl, q, _, _, .str "half", rfl, rfl, SqT.of hq, rfl, rfl, _, rfl, ?_⟩
      rw [ne (show ("half" : Str) ≠ "times" by decide +kernel)]
      refine iteF ?_
      refine ⟨_, rfl, q, _, _, .str "half", rfl, rfl, SqT.of hq, rfl, rfl, _, rfl, ?_⟩
      rw [ne (show ("half" : Str) ≠ "square" by decide +kernel)]
      refine iteF ?_
      refine ⟨_, rfl, _, _, rfl, rfl, ⟨by decide, by decide⟩, ?_⟩
      have e : (s' : Int) / 2 = (forthN .half s' : Int) := by
        show _ = ((s' / 2 : Nat) : Int)
        omega
      show Q (V.int ((s' : Int) / 2)) H
      rw [e]
      exact k
-- @@ _law_row
def sp_l_row (K : PySem.W.Frag) : Sp := fun vs H Q _ => ∃ (a : Addr) (ns : List Int) (j m : Nat), vs = [.ref a, .int (j : Int), .int (m : Int)] ∧ SqL K H a (ns.map V.int) ∧ ns.length ≤ 63 ∧ j ≤ 1000 ∧ m ≤ 1000 ∧
  ∀ (t l : Addr) (f : Nat) (rs : List (Addr × Rule)) (H' : Hp), H t = none → H l = none → (∀ q ∈ rs, H q.1 = none) → Same H H' → H' t = some (.tup [.int (f : Int), .ref l]) → H' l = some (.lst (refsR rs)) → RS H' rs → f < 999983 → rs.length ≤ m → Q (.ref t) H'
theorem ok_l_row (T : Txt K mg) : OkF P w K mg base "_law_row" 2 ["_law_script", "_law_start", "_law_most"] (sp_l_row K) := by
  obtain ⟨f_l_number, fd_l_number, m_l_number, k_l_number, b_l_number, G_l_number⟩ := ok_l_number (P := P) (w := w) (base := base) T
  obtain ⟨f_l_rule, fd_l_rule, m_l_rule, k_l_rule, b_l_rule, G_l_rule⟩ := ok_l_rule (P := P) (w := w) (base := base) T
  refine okf T.d_l_row sc_l_row (fun vs H Q E h => ?_) (fun f cdv A outer s H vs Q E hr h => ?_)
  · obtain ⟨a, ns, j, m, rfl, hS, hl, hj, hm, k⟩ := h
    rfl
  · obtain ⟨a, ns, j, m, rfl, hS, hl, hj, hm, k⟩ := h
    refine ⟨_, (Evl.pss_cut (ps_set (i := 3) sc_l_row.nd rfl (Or.inl rfl) (pe_ix ix_list (pe_lst (pa_cons pe_int (pa_cons pe_int (pa_cons pe_int (pa_cons (pe_op op_mod (pe_op op_fdiv (pe_call G_l_number (hr.mono (by decide)) (by rfl) m_l_number k_l_number b_l_number .nil passL (pa_cons (pv 0) (pa_cons (pv 1) pa_nil))) pe_int) pe_int) pa_nil))))) (pe_op op_mod (pe_call G_l_number (hr.mono (by decide)) (by rfl) m_l_number k_l_number b_l_number .nil passL (pa_cons (pv 0) (pa_cons (pv 1) pa_nil))) pe_int) (fun _ _ => rfl)))
        (Evl.pss_cut (ps_set (i := 4) sc_l_row.nd rfl (Or.inl rfl) (pe_op op_mod (pe_call G_l_number (hr.mono (by decide)) (by rfl) m_l_number k_l_number b_l_number .nil passL (pa_cons (pv 0) (pa_cons (pe_op op_add (pv 1) pe_int) pa_nil))) (pe_op op_add (pv 2) pe_int)))
        (pss_one (ps_ret (pe_tup (pa_cons (pv 3) (pa_cons (pe_lc (own := [("_law_k", 5)]) rfl sc_l_row.nd (pi_range1 (by rfl) T.n_range (pa_cons (pv 4) pa_nil)) (blkOk_by (own := [("_law_k", 5)]) (N := ["_law_script", "_law_start", "_law_most", "_law_first", "_law_many", "_law_k"]) (sc := defScope s_l_row) (by decide +kernel)) (fun _ _ _ _ _ => (pg_name (i := 5) sc_l_row.nd rfl (Or.inl rfl))) (fun _ _ _ _ _ => pts_nil) (fun _ _ _ _ _ => (pe_call G_l_rule (hr.mono (by decide)) (by rfl) m_l_rule k_l_rule b_l_rule .nil passL (pa_cons (pe_call G_l_number (hr.mono (by decide)) (by rfl) m_l_number k_l_number b_l_number .nil passL (pa_cons (pv 0) (pa_cons (pe_op op_add (pe_op op_add (pv 1) pe_int) (pv 5)) pa_nil))) pa_nil)))) pa_nil))))))), ?_⟩
    refine ⟨fun σ H' => Same H H' ∧ ∃ f : Nat, f < 999983 ∧ σ = [some (.ref a), some (.int (j : Int)), some (.int (m : Int)), some (.int (f : Int)), none, none], ?_, ?_⟩
    · obtain ⟨f0, hf0, ef0⟩ := rem_nat (z := numN ns j / 4) (m := 999983) (by decide)
      obtain ⟨i, hi, ei⟩ := rem_nat (z := numN ns j) (m := 4) (by decide)
      obtain ⟨v, hv, f, rfl, hf⟩ := pick (P := fun v => ∃ f : Nat, v = V.int (f : Int) ∧ f < 999983) (xs := [.int 0, .int 1, .int 999982, .int (numN ns j / 4 % 999983)]) (fun v hv => by
        simp only [List.mem_cons, List.not_mem_nil, or_false] at hv
        rcases hv with rfl | rfl | rfl | rfl
        · exact ⟨0, rfl, by decide⟩
        · exact ⟨1, rfl, by decide⟩
        · exact ⟨999982, rfl, by decide⟩
        · exact ⟨f0, by rw [ef0], by omega⟩) (j := i) (by show i < 4; omega)
      refine ⟨_, rfl, _, rfl, a, ns, j, rfl, hS, hl, by omega, _, _, rfl, rfl, ⟨by decide, by decide⟩, _, _, rfl, rfl, by show (0 : Int) < 999983; decide, by show 4 ≤ sizeLine; decide, fun l hl0 => ?_⟩
      refine ⟨_, rfl, _, rfl, a, ns, j, rfl, (Same.new hl0).seq hS, hl, by omega, _, _, rfl, rfl, by show (0 : Int) < 4; decide, l, _, _, .int (f : Int), rfl, rfl, SqL.of upd_same, at_of ei hv, Same.new hl0, f, hf, rfl⟩
    rintro σ H1 ⟨s1, f, hf, rfl⟩
    refine ⟨fun σ H' => H' = H1 ∧ ∃ c : Nat, c ≤ m ∧ σ = [some (.ref a), some (.int (j : Int)), some (.int (m : Int)), some (.int (f : Int)), some (.int (c : Int)), none], ?_, ?_⟩
    · obtain ⟨c, hc, ec⟩ := rem_nat (z := numN ns (j + 1)) (m := (m : Int) + 1) (by omega)
      refine ⟨_, rfl, _, rfl, _, _, rfl, rfl, a, ns, j + 1, rfl, s1.seq hS, hl, by omega, _, rfl, _, _, rfl, rfl, _, _, rfl, rfl, by show (0 : Int) < (m : Int) + 1; omega, rfl, c, by omega, ?_⟩
      rw [← ec] <;> rfl
    rintro σ H2 ⟨rfl, c, hc, rfl⟩
    refine ⟨_, rfl, _, rfl, _, rfl, by omega, by omega, fun D hD => ?_⟩
    have e0 : (c : Int).toNat = c := by omega
    refine lc_range (lo := 0) (n := (c : Int).toNat) (fun i H' => Same H2 H' ∧ ∃ rs : List (Addr × Rule), rs.length = i ∧ H' D = some (.lst (refsR rs)) ∧ RS H' rs ∧ ∀ q ∈ rs, H2 q.1 = none) ⟨Same.new hD, [], rfl, upd_same, fun q hq => (nomatch hq), fun q hq => (nomatch hq)⟩ ?_ ?_
    · rintro i H' hi ⟨sm, rs, hrs, hP, hR, hN⟩
      rw [e0] at hi
      have ei : (0 : Int) + (i : Int) = (i : Int) := Int.zero_add _
      rw [ei]
      refine ⟨rfl, ?_⟩
      refine ⟨_, rfl, _, rfl, _, _, rfl, rfl, _, rfl, _, _, rfl, rfl, a, ns, j + 2 + i, rfl, (s1.trans sm).seq hS, hl, by omega, _, rfl, num_nn _ _, fun r p H3 ok hp s3 hp3 => ?_⟩
      have nDp : D ≠ p := ne_of_none hP hp
      have sD : ∀ b o, b ≠ D → H3 b = some o → upd H3 D (.lst (refsR rs ++ [.ref p])) b = some o := fun b o hb h => by rw [upd_ne hb]; exact h
      refine ⟨_, s3 _ _ hP, sz5' (by rw [refsR_len]; omega), Same.mut (sm.trans s3) hD, rs ++ [(p, r)], by rw [List.length_append, hrs] <;> rfl, ?_, fun q hq => ?_, fun q hq => ?_⟩
      · rw [upd_same]
        unfold refsR
        rw [List.map_append] <;> rfl
      · rcases List.mem_append.mp hq with z | z
        · have e := (hR.same s3 q z).1
          refine ⟨sD _ _ (fun y => ?_) e, (hR q z).2⟩
          rw [y, s3 _ _ hP] at e
          cases e
        · rw [List.mem_singleton.mp z]
          exact ⟨sD _ _ nDp.symm hp3, ok⟩
      · rcases List.mem_append.mp hq with z | z
        · exact hN q z
        · rw [List.mem_singleton.mp z]
          exact sm.free hp
    · rintro H3 ⟨s3, rs, hrs, hP, hR, hN⟩
      refine ⟨by show 2 ≤ sizeLine; decide, fun t ht => ?_⟩
      exact k t D f rs _ (s1.free (s3.free ht)) (s1.free hD) (fun q hq => s1.free (hN q hq)) ((s1.trans s3).trans (Same.new ht)) upd_same ((Same.new ht) _ _ hP) (hR.same (Same.new ht)) hf (by omega)
-- @@ _law_states
def sp_l_states (K : PySem.W.Frag) : Sp := fun vs H Q _ => ∃ (p : Addr) (f : Nat) (rs : List (Addr × Rule)), vs = [.int (f : Int), .ref p] ∧ SqL K H p (refsR rs) ∧ RS H rs ∧ f < 999983 ∧ rs.length ≤ 100 ∧ RetL H ((rowN f (rs.map (·.2))).map fun (s : Nat) => V.int (s : Int)) Q
theorem ok_l_states (T : Txt K mg) : OkF P w K mg base "_law_states" 2 ["_law_first", "_law_rules"] (sp_l_states K) := by
  obtain ⟨f_l_forth, fd_l_forth, m_l_forth, k_l_forth, b_l_forth, G_l_forth⟩ := ok_l_forth (P := P) (w := w) (base := base) T
  refine okf T.d_l_states sc_l_states (fun vs H Q E h => ?_) (fun f cdv A outer s H vs Q E hr h => ?_)
  · obtain ⟨p, f, rs, rfl, hP, hR, hf, hl, k⟩ := h
    rfl
  · obtain ⟨p, f, rs, rfl, hP, hR, hf, hl, k⟩ := h
    refine ⟨_, (pss_cons (ps_set (i := 2) sc_l_states.nd rfl (Or.inl rfl) (pe_lst (pa_cons (pv 0) pa_nil)))
        (pss_cons (ps_for (passes_of rfl) rfl (pi_list (pv 1)) (pg_name (i := 3) sc_l_states.nd rfl (Or.inl rfl))
        (pss_one (ps_expr (pe_bm PySem.F.plainAttrs_list PySem.F.slot_list_append PySem.F.type_list_append mt_append (pv 2) (pa_cons (pe_call G_l_forth (hr.mono (by decide)) (by rfl) m_l_forth k_l_forth b_l_forth .nil passL (pa_cons (pv 3) (pa_cons (pe_ix ix_list (pv 2) (pe_un un_neg pe_int) (fun _ _ => rfl)) pa_nil))) pa_nil)))))
        (pss_one (ps_ret (pv 2))))), ?_⟩
    refine ⟨_, rfl, by show 1 ≤ sizeLine; decide, fun l hl0 => ?_⟩
    refine ⟨_, rfl, p, rfl, ⟨_, (Same.new hl0).seq hP⟩, ?_⟩
    refine for_list (K := K) (a := p) (xs := refsR rs) (fun i σ H' => ∃ u, σ = [some (.int (f : Int)), some (.ref p), some (.ref l), u] ∧ Same H H' ∧ H' l = some (.lst ((rowN f ((rs.take i).map (·.2))).map fun (s : Nat) => V.int (s : Int)))) ⟨none, rfl, Same.new hl0, upd_same⟩ (fun i σ H' _ ⟨_, _, s1, _⟩ => s1.seq hP) ?_ ?_
    · rintro i y σ H' hi ⟨u, rfl, s1, hQ⟩
      obtain ⟨q, hq, rfl⟩ := get_map hi
      have hil := (List.getElem?_eq_some_iff.mp hq).1
      have lt : ((rs.take i).map (·.2)).length = i := by rw [List.length_map, List.length_take]; omega
      have hla := rowN_last f ((rs.take i).map (·.2))
      refine ⟨_, rfl, .inl ⟨rfl, _, SqL.of hQ⟩, _, rfl, _, rfl, _, rfl, l, _, _, _, rfl, rfl, SqL.of hQ, atI_end (v := V.int (lastN f ((rs.take i).map (·.2)) : Int)) ?_, q.1, q.2, _, rfl, s1 _ _ (hR q (List.mem_of_getElem? hq)).1, (hR q (List.mem_of_getElem? hq)).2, lastN_lt hf, ?_⟩
      · rw [List.length_map, rowN_len, List.getElem?_map, show ((rs.take i).map (·.2)).length + 1 - 1 = ((rs.take i).map (·.2)).length from rfl, hla] <;> rfl
      refine ⟨l, _, _, rfl, rfl, hQ, sz5' (by rw [List.length_map, rowN_len, lt]; omega), _, rfl, Same.mut s1 hl0, ?_⟩
      rw [upd_same, take_succ hq, List.map_append]
      show _ = some (HO.lst ((rowN f ((rs.take i).map (·.2) ++ [q.2])).map _))
      rw [rowN_snoc, List.map_append] <;> rfl
    · rintro σ H' ⟨u, rfl, s1, hQ⟩
      rw [refsR_len, List.take_length] at hQ
      exact ⟨_, rfl, k l H' hl0 s1 hQ⟩

-- @@ _law_class
def kinds8 (i : Nat) : List V := [.bl (decide (0 = i)), .bl (decide (1 = i)), .bl (decide (2 = i)), .bl (decide (3 = i)), .bl (decide (4 = i)), .bl (decide (5 = i)), .bl (decide (6 = i)), .bl (decide (7 = i))]
theorem kinds_count {i : Nat} (h : i < 8) : ((kinds8 i).countP fun z => eqV z (.bl true)) = 1 := eight (P := fun i => ((kinds8 i).countP fun z => eqV z (.bl true)) = 1) h rfl rfl rfl rfl rfl rfl rfl rfl
theorem kinds_at {i : Nat} (h : i < 8) : (kinds8 i)[i]? = some (.bl true) := eight (P := fun i => (kinds8 i)[i]? = some (.bl true)) h rfl rfl rfl rfl rfl rfl rfl rfl
theorem kinds_ahead {i m : Nat} (h : i < 8) (hm : m < i) : (kinds8 i)[m]? = some (.bl false) := by
  have g : ∀ i, i < 8 → ∀ m, m < i → (kinds8 i)[m]? = some (.bl false) := by decide
  exact g i h m hm
theorem words_at {i : Nat} (h : i < 8) : (words8.map V.str)[i]? = some (.str (words8.getD i "")) := eight (P := fun i => (words8.map V.str)[i]? = some (.str (words8.getD i ""))) h rfl rfl rfl rfl rfl rfl rfl rfl
theorem ok_l_class (T : Txt K mg) : ∃ (f : Addr) (fd : FuncData), mg "_law_class" = some (.ref f) ∧ PySem.W.keepIn K (.ref f) = true ∧ Binds K fd ["_law_e"] [] ∧ FnE P w K mg base 1 f fd ["_law_e"] (sp_class K T.c8) := by
  obtain ⟨f, fd, hm, F, hb⟩ := T.d_l_class
  refine ⟨f, fd, hm, F.kp, hb, fn_ofE F sc_l_class (fun a c d vs H Q h => ?_) (fun cdv A outer s H vs Q p c d hz hf hr h => ?_)⟩
  · obtain ⟨rfl, _⟩ := h
    rfl
  · obtain ⟨rfl, D, i, rfl, rfl, KD, k⟩ := h
    refine ⟨_, (pss_cons (ps_set (i := 1) sc_l_class.nd rfl (Or.inl rfl) (pe_lst (pa_cons (pe_callB (call_isP (List.mem_singleton_self _) hz hf) (by rfl) T.n_isinstance (by decide +kernel) (pa_cons (pv 0) (pa_cons (pe_glob (v := .ref T.aBadCount) (by rfl) T.x_BadCount.g rfl) pa_nil))) (pa_cons (pe_callB (call_isP (List.mem_singleton_self _) hz hf) (by rfl) T.n_isinstance (by decide +kernel) (pa_cons (pv 0) (pa_cons (pe_glob (v := .ref T.aBadRule) (by rfl) T.x_BadRule.g rfl) pa_nil))) (pa_cons (pe_callB (call_isP (List.mem_singleton_self _) hz hf) (by rfl) T.n_isinstance (by decide +kernel) (pa_cons (pv 0) (pa_cons (pe_glob (v := .ref T.aBadDeed) (by rfl) T.x_BadDeed.g rfl) pa_nil))) (pa_cons (pe_callB (call_isP (List.mem_singleton_self _) hz hf) (by rfl) T.n_isinstance (by decide +kernel) (pa_cons (pv 0) (pa_cons (pe_glob (v := .ref T.aFull) (by rfl) T.x_Full.g rfl) pa_nil))) pa_nil))))))
    (pss_cons (ps_set (i := 1) sc_l_class.nd rfl (Or.inl rfl) (pe_op op_cat (pv 1) (pe_lst (pa_cons (pe_callB (call_isP (List.mem_singleton_self _) hz hf) (by rfl) T.n_isinstance (by decide +kernel) (pa_cons (pv 0) (pa_cons (pe_glob (v := .ref T.aTwice) (by rfl) T.x_Twice.g rfl) pa_nil))) (pa_cons (pe_callB (call_isP (List.mem_singleton_self _) hz hf) (by rfl) T.n_isinstance (by decide +kernel) (pa_cons (pv 0) (pa_cons (pe_glob (v := .ref T.aNotKept) (by rfl) T.x_NotKept.g rfl) pa_nil))) (pa_cons (pe_callB (call_isP (List.mem_singleton_self _) hz hf) (by rfl) T.n_isinstance (by decide +kernel) (pa_cons (pv 0) (pa_cons (pe_glob (v := .ref T.aAtEnd) (by rfl) T.x_AtEnd.g rfl) pa_nil))) (pa_cons (pe_callB (call_isP (List.mem_singleton_self _) hz hf) (by rfl) T.n_isinstance (by decide +kernel) (pa_cons (pv 0) (pa_cons (pe_glob (v := .ref T.aNotWanted) (by rfl) T.x_NotWanted.g rfl) pa_nil))) pa_nil)))))))
    (pss_cons (ps_if (PW.pt (pw_or (pt_cmpR op_ne (pe_bm PySem.F.plainAttrs_list PySem.F.slot_list_count PySem.F.type_list_count mt_countV (pv 1) (pa_cons pe_bl pa_nil)) pe_int (nomark _)) (pw_or1 (pt_not (pt_val (pe_callB (call_isP (List.mem_singleton_self _) hz hf) (by rfl) T.n_isinstance (by decide +kernel) (pa_cons (pv 0) (pa_cons (pe_bltn (v := .ty "ValueError") (by rfl) T.n_ValueError (by decide +kernel) rfl) pa_nil))))))))
    (pss_one (ps_ret (pe_tup (pa_cons pe_str (pa_cons pe_str pa_nil)))))
    pss_nil)
    (pss_cons (ps_set (i := 2) sc_l_class.nd rfl (Or.inl rfl) (pe_lst (pa_cons pe_str (pa_cons pe_str (pa_cons pe_str (pa_cons pe_str (pa_cons pe_str (pa_cons pe_str (pa_cons pe_str (pa_cons pe_str pa_nil))))))))))
    (pss_one (ps_ret (pe_tup (pa_cons pe_str (pa_cons (pe_ix ix_list (pv 2) (pe_bm PySem.F.plainAttrs_list PySem.F.slot_list_index PySem.F.type_list_index mt_index (pv 1) (pa_cons pe_bl pa_nil)) (fun _ _ => rfl)) pa_nil))))))))), ?_⟩
    refine ⟨_, rfl, D, .ref _, .ref _, _, rfl, rfl, KD.ex, rfl, fun u r => r, KD.is 0 (by decide), _, rfl, D, .ref _, .ref _, _, rfl, rfl, KD.ex, rfl, fun u r => r, KD.is 1 (by decide), _, rfl, D, .ref _, .ref _, _, rfl, rfl, KD.ex, rfl, fun u r => r, KD.is 2 (by decide), _, rfl, D, .ref _, .ref _, _, rfl, rfl, KD.ex, rfl, fun u r => r, KD.is 3 (by decide), by show 4 ≤ sizeLine; decide, fun p1 h1 => ?_⟩
    refine ⟨_, rfl, ?_⟩
    refine ⟨_, rfl, D, .ref _, .ref _, _, rfl, rfl, KD.ex, rfl, fun u r => r, KD.is 4 (by decide), _, rfl, D, .ref _, .ref _, _, rfl, rfl, KD.ex, rfl, fun u r => r, KD.is 5 (by decide), _, rfl, D, .ref _, .ref _, _, rfl, rfl, KD.ex, rfl, fun u r => r, KD.is 6 (by decide), _, rfl, D, .ref _, .ref _, _, rfl, rfl, KD.ex, rfl, fun u r => r, KD.is 7 (by decide), by show 4 ≤ sizeLine; decide, fun p2 h2 => ?_⟩
    have n12 : p1 ≠ p2 := ne_of_none upd_same h2
    refine ⟨p1, p2, _, _, rfl, rfl, by rw [upd_ne n12]; exact upd_same, upd_same, by show 8 ≤ sizeLine; decide, fun p3 h3 => ?_⟩
    have sm := fun (o : HO) => ((Same.new h1).trans (Same.new h2)).trans (Same.new (o := o) h3)
    -- the two refusals of the shape
    refine ⟨_, rfl, .inl ⟨rfl, _, SqL.of upd_same⟩, p3, kinds8 i, .bl true, rfl, rfl, SqL.of upd_same, rfl, rfl, ?_⟩
    rw [kinds_count KD.lt]
    refine ⟨rfl, _, rfl, iteNS rfl ?_⟩
    refine ⟨_, rfl, D, .ty "ValueError", .type "ValueError", _, rfl, rfl, KD.ex, rfl, fun u r => r, KD.ve, _, rfl, iteF ?_⟩
    refine ⟨by show 8 ≤ sizeLine; decide, fun p4 h4 => ?_⟩
    have n34 : p3 ≠ p4 := ne_of_none upd_same h4
    refine ⟨_, rfl, _, rfl, .inl ⟨rfl, _, SqL.of (by rw [upd_ne n34]; exact upd_same)⟩, p3, kinds8 i, .bl true, i, .bl true, rfl, rfl, SqL.of (by rw [upd_ne n34]; exact upd_same), rfl, rfl, kinds_at KD.lt, rfl, fun m z' hm hz' => ?_, ?_⟩
    · rw [kinds_ahead KD.lt hm] at hz'
      cases hz'
      rfl
    refine ⟨p4, words8.map V.str, _, _, rfl, rfl, SqL.of upd_same, atI_nat (words_at KD.lt), by show 2 ≤ sizeLine; decide, fun t ht => ?_⟩
    exact k t _ (((sm _).trans (Same.new h4)).free ht) (((sm _).trans (Same.new h4)).trans (Same.new ht)) upd_same

-- @@ _law_new
def sp_l_new (K : PySem.W.Frag) : Sp := fun vs H Q _ => ∃ (p : Addr) (f R : Nat) (rs : List (Addr × Rule)), vs = [.int (f : Int), .ref p, .int (R : Int)] ∧ SqL K H p (refsR rs) ∧ RS H rs ∧ f < 999983 ∧ rs.length ≤ 100 ∧
  ∀ (m : Addr) (L : MA) (H' : Hp), H m = none → H L.sa = none → H L.ka = none → H L.ta = none → Same H H' → MAt H' m L f R (rs.map (·.2)) (wk0 f rs.length) [] → Q (.ref m) H'
theorem ok_l_new (T : Txt K mg) : OkF P w K mg base "_law_new" 3 ["_law_first", "_law_rules", "_law_room_here"] (sp_l_new K) := by
  obtain ⟨f_l_states, fd_l_states, m_l_states, k_l_states, b_l_states, G_l_states⟩ := ok_l_states (P := P) (w := w) (base := base) T
  refine okf T.d_l_new sc_l_new (fun vs H Q E h => ?_) (fun f cdv A outer s H vs Q E hr h => ?_)
  · obtain ⟨p, f, R, rs, rfl, hP, hR, hf, hl, k⟩ := h
    rfl
  · obtain ⟨p, f, R, rs, rfl, hP, hR, hf, hl, k⟩ := h
    refine ⟨_, (pss_cons (ps_set (i := 3) sc_l_new.nd rfl (Or.inl rfl) (pe_disp (pps_cons pe_str (pe_call G_l_states (hr.mono (by decide)) (by rfl) m_l_states k_l_states b_l_states .nil passL (pa_cons (pv 0) (pa_cons (pv 1) pa_nil))) (pps_cons pe_str (pv 2) (pps_cons pe_str pe_int (pps_cons pe_str pe_int pps_nil)))) (by rfl) (by rfl) (fun z => by cases z) (by decide)))
        (pss_cons (ps_dput (hu_of hr) (pv 3) pe_str (pe_callB call_len_seq (by rfl) T.n_len PySem.boot_len (pa_cons (pv 1) pa_nil)) rfl)
        (pss_cons (ps_dput (hu_of hr) (pv 3) pe_str (pe_lst pa_nil) rfl)
        (pss_cons (ps_dput (hu_of hr) (pv 3) pe_str (pe_lst pa_nil) rfl)
        (pss_one (ps_ret (pv 3))))))), ?_⟩
    refine fun m hm => ⟨_, rfl, _, rfl, p, f, rs, rfl, (Same.new hm).seq hP, hR.same (Same.new hm), hf, hl, fun sa H1 hsa s1 hSa => ⟨_, rfl, s1 _ _ upd_same, [((Sum.inr "states" : Key), V.ref sa), (Sum.inr "room", .int (R : Int)), (Sum.inr "place", .int 0), (Sum.inr "done", .int 0)], rfl, by show 4 ≤ 15; decide, ?_⟩⟩
    rw [mF4]
    have w0 := Same.new (o := .dK []) hm
    have nms : m ≠ sa := ne_of_none upd_same hsa
    have s01 := w0.trans s1
    have v1 := Same.mut (o := .dK [((Sum.inr "states" : Key), V.ref sa), (Sum.inr "room", .int (R : Int)), (Sum.inr "place", .int 0), (Sum.inr "done", .int 0)]) s01 hm
    refine ⟨_, rfl, p, _, rfl, .inl (v1.seq hP), _, rfl, m, _, rfl, DPut.k (k := Sum.inr "wanted") upd_same (by show 4 < sizeLine; decide), ?_⟩
    rw [mF5]
    refine ⟨by show 0 ≤ sizeLine; decide, fun ka hka => ?_⟩
    have nmk : m ≠ ka := ne_of_none upd_same hka
    refine ⟨_, rfl, m, _, rfl, DPut.k (k := Sum.inr "marks") (by rw [upd_ne nmk]; exact upd_same) (by show 5 < sizeLine; decide), ?_⟩
    rw [mF6]
    refine ⟨by show 0 ≤ sizeLine; decide, fun ta hta => ?_⟩
    have nmt : m ≠ ta := ne_of_none upd_same hta
    refine ⟨_, rfl, m, _, rfl, DPut.k (k := Sum.inr "met") (by rw [upd_ne nmt]; exact upd_same) (by show 6 < sizeLine; decide), ?_⟩
    rw [mF7]
    have hka2 : H ka = none := by
      refine (v1.trans (H2 := _) (Same.refl _)).free ?_
      by_cases e : ka = m
      · exact absurd e nmk.symm
      · rw [upd_ne e] at hka
        rw [upd_ne e]
        rw [upd_ne e] at hka
        exact hka
    have hta1 := hta
    rw [upd_ne nmt.symm] at hta1
    have nkt : ka ≠ ta := ne_of_none (o := .lst []) (by rw [upd_ne nmk.symm]; exact upd_same) hta
    have hta2 : H ta = none := by
      rw [upd_ne nkt.symm, upd_ne nmt.symm, upd_ne nmt.symm] at hta1
      exact s01.free hta1
    have nsk : sa ≠ ka := ne_of_none (o := .lst (nV (rowN f (rs.map (·.2))))) (by rw [upd_ne nms.symm, upd_ne nms.symm]; exact hSa) hka
    have nst : sa ≠ ta := ne_of_none (o := .lst (nV (rowN f (rs.map (·.2))))) (by rw [upd_ne nms.symm, upd_ne nsk, upd_ne nms.symm, upd_ne nms.symm]; exact hSa) hta
    refine ⟨_, rfl, k m ⟨sa, ka, ta⟩ _ hm (w0.free hsa) hka2 hta2 (fun b o e => ?_) ⟨?_, ?_, ?_, ?_, .nil, .nil⟩⟩
    · have nb : b ≠ m := ne_of_none e hm
      rw [upd_ne nb, upd_ne (ne_of_none e hta2), upd_ne nb, upd_ne (ne_of_none e hka2), upd_ne nb, upd_ne nb]
      exact s01 b o e
    · rw [upd_same, refsR_len] <;> rfl
    · show upd _ _ _ sa = _
      rw [upd_ne nms.symm, upd_ne nst, upd_ne nms.symm, upd_ne nsk, upd_ne nms.symm, upd_ne nms.symm]
      exact hSa
    · show upd _ _ _ ka = _
      rw [upd_ne nmk.symm, upd_ne nkt, upd_ne nmk.symm, upd_same] <;> rfl
    · show upd _ _ _ ta = _
      rw [upd_ne nmt.symm, upd_same] <;> rfl
-- @@ _law_do
def sp_l_do (K : PySem.W.Frag) : Sp := fun vs H Q _ => ∃ (m a : Addr) (L : MA) (f R : Nat) (rs : List Rule) (w : WK) (ks : List Int) (d : Deed), vs = [.ref m, .ref a] ∧ H a = some (.tup d.vs) ∧ MAt H m L f R rs w ks ∧ rs.length ≤ 100 ∧ w.Ok rs.length ∧ w.Ok2 rs.length R ∧ w.Tr rs f ∧ R ≤ 12 ∧
  (∀ v, stepK rs R w d = .ok v → ∀ (H' : Hp) (L' : MA) (ks' : List Int), Chg [m] H H' → MAt H' m L' f R rs v ks' → L'.sa = L.sa → (L'.ka = L.ka ∨ H L'.ka = none) → (L'.ta = L.ta ∨ H L'.ta = none) → Q .non H') ∧
  ∀ i, stepK rs R w d = .error i → RetT H [.str "refused", .str (words8.getD i "")] Q
theorem nV_len (l : List Nat) : (nV l).length = l.length := List.length_map ..
theorem MAt.len {H : Hp} {m : Addr} {L : MA} {f R : Nat} {rs : List Rule} {w : WK} {ks : List Int} (h : MAt H m L f R rs w ks) : ks.length = w.mks.length := by
  rw [h.pm.length_eq]
  exact List.length_map ..
theorem MAt.mem {H : Hp} {m : Addr} {L : MA} {f R : Nat} {rs : List Rule} {w : WK} {ks : List Int} (h : MAt H m L f R rs w ks) (p : Nat) : inV (.int (p : Int)) (ks.map V.int) = (stOf w.mks p).isSome := by
  rw [inV_ints, stOf_isSome]
  exact decide_eq_decide.mpr h.pm.mem_iff
theorem geI (a b n : Nat) : decide ((a : Int) + (b : Int) ≥ ((n : Nat) : Int)) = decide (n ≤ a + b) := decide_eq_decide.mpr ⟨fun h => by omega, fun h => by omega⟩
theorem ok_l_do (T : Txt K mg) : OkF P w K mg base "_law_do" 1 ["_law_m", "_law_deed_here"] (sp_l_do K) := by
  refine okf T.d_l_do sc_l_do (fun vs H Q E h => ?_) (fun f cdv A outer s H vs Q E hr h => ?_)
  · obtain ⟨m, a, L, f, R, rs, w', ks, d, rfl, ha, M, hn, ok, ok2, tr, hR, kg, kb⟩ := h
    rfl
  · obtain ⟨m, a, L, f, R, rs, w', ks, d, rfl, ha, M, hn, ok, ok2, tr, hR, kg, kb⟩ := h
    refine ⟨_, (pss_cons (ps_set (i := 2) sc_l_do.nd rfl (Or.inl rfl) (pe_ix ix_tup (pv 1) pe_int (fun _ _ => rfl)))
        (pss_cons (ps_if (pt_cmpR op_eq (pv 2) pe_str (nomark _))
        (pss_cons (ps_if (pt_cmpR op_in_seq (pe_dget (hu_of hr) (pv 0) pe_str (fun _ _ => rfl)) (pe_dget (hu_of hr) (pv 0) pe_str (fun _ _ => rfl)) (by rfl))
        (pss_one (ps_ret (pe_tup (pa_cons pe_str (pa_cons pe_str pa_nil)))))
        pss_nil)
        (pss_cons (ps_if (pt_cmpR op_eq (pe_callB call_len_seq (by rfl) T.n_len PySem.boot_len (pa_cons (pe_dget (hu_of hr) (pv 0) pe_str (fun _ _ => rfl)) pa_nil)) (pe_dget (hu_of hr) (pv 0) pe_str (fun _ _ => rfl)) (nomark _))
        (pss_one (ps_ret (pe_tup (pa_cons pe_str (pa_cons pe_str pa_nil)))))
        pss_nil)
        (pss_one (ps_dput (hu_of hr) (pv 0) pe_str (pe_callB cr_sorted (by rfl) T.n_sorted (by decide +kernel) (pa_cons (pe_op op_cat (pe_dget (hu_of hr) (pv 0) pe_str (fun _ _ => rfl)) (pe_lst (pa_cons (pe_dget (hu_of hr) (pv 0) pe_str (fun _ _ => rfl)) pa_nil))) pa_nil)) rfl))))
        (pss_one (ps_if (pt_cmpR op_eq (pv 2) pe_str (nomark _))
        (pss_cons (ps_if (pt_cmpR op_ge (pe_op op_add (pe_dget (hu_of hr) (pv 0) pe_str (fun _ _ => rfl)) (pe_ix ix_tup (pv 1) pe_int (fun _ _ => rfl))) (pe_callB call_len_seq (by rfl) T.n_len PySem.boot_len (pa_cons (pe_dget (hu_of hr) (pv 0) pe_str (fun _ _ => rfl)) pa_nil)) (nomark _))
        (pss_one (ps_ret (pe_tup (pa_cons pe_str (pa_cons pe_str pa_nil)))))
        pss_nil)
        (pss_cons (ps_dput (hu_of hr) (pv 0) pe_str (pe_op op_add (pe_dget (hu_of hr) (pv 0) pe_str (fun _ _ => rfl)) (pe_ix ix_tup (pv 1) pe_int (fun _ _ => rfl))) rfl)
        (pss_one (ps_dput (hu_of hr) (pv 0) pe_str (pe_op op_add (pe_dget (hu_of hr) (pv 0) pe_str (fun _ _ => rfl)) (pe_ix ix_tup (pv 1) pe_int (fun _ _ => rfl))) rfl))))
        (pss_one (ps_if (pt_cmpR op_eq (pv 2) pe_str (nomark _))
        (pss_cons (ps_if (pt_cmpR op_ne (pe_dget (hu_of hr) (pv 0) pe_str (fun _ _ => rfl)) (pe_dget (hu_of hr) (pv 0) pe_str (fun _ _ => rfl)) (nomark _))
        (pss_one (ps_ret (pe_tup (pa_cons pe_str (pa_cons pe_str pa_nil)))))
        pss_nil)
        (pss_cons (ps_dput (hu_of hr) (pv 0) pe_str (pe_op op_cat (pe_dget (hu_of hr) (pv 0) pe_str (fun _ _ => rfl)) (pe_lst (pa_cons (pe_ix ix_list (pe_dget (hu_of hr) (pv 0) pe_str (fun _ _ => rfl)) (pe_dget (hu_of hr) (pv 0) pe_str (fun _ _ => rfl)) (fun _ _ => rfl)) pa_nil))) rfl)
        (pss_one (ps_dput (hu_of hr) (pv 0) pe_str (pe_op op_sub (pe_dget (hu_of hr) (pv 0) pe_str (fun _ _ => rfl)) pe_int) rfl))))
        (pss_one (ps_if (pt_cmpR op_notIn_seq (pe_ix ix_tup (pv 1) pe_int (fun _ _ => rfl)) (pe_dget (hu_of hr) (pv 0) pe_str (fun _ _ => rfl)) (by rfl))
        (pss_one (ps_ret (pe_tup (pa_cons pe_str (pa_cons pe_str pa_nil)))))
        (pss_one (ps_if (pt_cmpR op_eq (pv 2) pe_str (nomark _))
        (pss_one (ps_dput (hu_of hr) (pv 0) pe_str (pe_ix ix_tup (pv 1) pe_int (fun _ _ => rfl)) rfl))
        (pss_one (ps_dput (hu_of hr) (pv 0) pe_str (pe_lc (own := [("_law_mark", 3)]) rfl sc_l_do.nd (pi_list (pe_dget (hu_of hr) (pv 0) pe_str (fun _ _ => rfl))) (blkOk_by (own := [("_law_mark", 3)]) (N := ["_law_m", "_law_deed_here", "_law_word", "_law_mark"]) (sc := defScope s_l_do) (by decide +kernel)) (fun _ _ _ _ _ => (pg_name (i := 3) sc_l_do.nd rfl (Or.inl rfl))) (fun _ _ _ _ _ => (pts_one (pt_cmpR op_ne (pv 3) (pe_ix (r := rIxT K) ix_tup (pv 1) pe_int (fun _ _ => rfl)) (nomark _)))) (fun _ _ _ _ _ => (pv 3))) rfl)))))))))))
        (pss_one (ps_ret pe_non)))), ?_⟩
    have hu := hu_of hr
    have ob := M.ob
    have nam : a ≠ m := ne_of ha ob (by intro z; cases z)
    have nsm : L.sa ≠ m := ne_of M.sa ob (by intro z; cases z)
    have nkm : L.ka ≠ m := ne_of M.ka ob (by intro z; cases z)
    have ntm : L.ta ≠ m := ne_of M.ta ob (by intro z; cases z)
    have lks := M.len
    refine ⟨_, rfl, a, _, _, .str d.word, rfl, rfl, SqT.of ha, d.at0, ?_⟩
    have swap : ∀ {H1 : Hp}, Same H H1 → ∀ o, Chg [m] H (upd H1 m o) := fun e o => (Chg.of_same e).trans Chg.upd
    cases d with
    | keep =>
      refine ⟨_, rfl, rfl, _, rfl, iteT ?_⟩
      refine ⟨_, rfl, m, _, rfl, dg_place ob, _, rfl, m, _, rfl, dg_marks ob, L.ka, _, rfl, .inl (SqL.of M.ka), rfl, flat_ints ks, _, rfl, ?_⟩
      show (if inV (.int (w'.pl : Int)) (ks.map V.int) = true then _ else _)
      rw [M.mem]
      cases e : (stOf w'.mks w'.pl).isSome with
      | true =>
        refine iteT ⟨by show 2 ≤ sizeLine; decide, fun t ht => kb 4 ?_ t _ ht (Same.new ht) upd_same⟩
        show (if (stOf w'.mks w'.pl).isSome = true then Except.error 4 else _) = _
        rw [if_pos e]
      | false =>
        refine iteF ?_
        refine ⟨_, rfl, m, _, rfl, dg_marks ob, L.ka, _, rfl, .inl (SqL.of M.ka), _, rfl, m, _, rfl, dg_room ob, rfl, _, rfl, ?_⟩
        have eq : decide (V.int ((ks.map V.int).length : Int) = V.int (R : Int)) = decide (w'.mks.length = R) := decide_eq_decide.mpr ⟨fun z => by
          have := V.int.inj z
          rw [List.length_map] at this
          omega, fun z => by rw [List.length_map, lks, z]⟩
        rw [eq]
        by_cases c : w'.mks.length = R
        · rw [decide_eq_true c]
          refine iteT ⟨by show 2 ≤ sizeLine; decide, fun t ht => kb 3 ?_ t _ ht (Same.new ht) upd_same⟩
          show (if (stOf w'.mks w'.pl).isSome = true then Except.error 4 else if w'.mks.length = R then Except.error 3 else _) = _
          rw [if_neg (by rw [e]; decide), if_pos c]
        · rw [decide_eq_false c]
          refine iteF ?_
          refine ⟨_, rfl, m, _, rfl, dg_marks ob, _, rfl, m, _, rfl, dg_place ob, by show 1 ≤ sizeLine; decide, fun l1 h1 => ?_⟩
          have v1 := Same.new (o := .lst [V.int (w'.pl : Int)]) h1
          have := ok2.mo
          refine ⟨L.ka, l1, _, _, rfl, rfl, v1 _ _ M.ka, upd_same, sz5 (by rw [List.length_map]; show ks.length + 1 ≤ 100000; omega), fun l2 h2 => ?_⟩
          have v2 := Same.new (o := .lst (ks.map V.int ++ [V.int (w'.pl : Int)])) h2
          refine ⟨l2, ks ++ [(w'.pl : Int)], rfl, SqL.of (by rw [upd_same, List.map_append] <;> rfl), by rw [List.length_append]; show ks.length + 1 < 64; omega, fun ks' l3 hpm hso h3 => ?_⟩
          have v3 := Same.new (o := .lst (ks'.map V.int)) h3
          have s13 := v1.trans (v2.trans v3)
          refine ⟨_, rfl, m, _, rfl, dp_marks l3 (s13 _ _ ob), kg { w' with mks := w'.mks ++ [(w'.pl, w'.st)] } ?_ _ ⟨L.sa, l3, L.ta⟩ ks' (swap s13 _) ⟨upd_same, ?_, ?_, ?_, ?_, hso⟩ rfl (.inr (v1.free (v2.free h3))) (.inl rfl)⟩
          · show (if (stOf w'.mks w'.pl).isSome = true then Except.error 4 else if w'.mks.length = R then Except.error 3 else _) = _
            rw [if_neg (by rw [e]; decide), if_neg c]
          · rw [upd_ne nsm]
            exact s13 _ _ M.sa
          · rw [upd_ne (ne_of_none (v2 _ _ (v1 _ _ ob)) h3).symm]
            exact upd_same
          · rw [upd_ne ntm]
            exact s13 _ _ M.ta
          · refine hpm.trans ?_
            show (ks ++ [(w'.pl : Int)]).Perm (mKey (w'.mks ++ [(w'.pl, w'.st)]))
            unfold mKey
            rw [List.map_append]
            exact M.pm.append_right _
    | go j =>
      refine ⟨_, rfl, rfl, _, rfl, ?_⟩
      rw [show decide (V.str (Deed.go j).word = V.str "keep") = false from (by decide +kernel : decide (V.str "go" = V.str "keep") = false)]
      refine iteF ?_
      refine ⟨_, rfl, rfl, _, rfl, iteT ?_⟩
      refine ⟨_, rfl, m, _, rfl, dg_place ob, _, rfl, a, _, _, .int (j : Int), rfl, rfl, SqT.of ha, rfl, _, _, rfl, rfl, _, rfl, m, _, rfl, dg_states ob, L.sa, _, rfl, .inl (SqL.of M.sa), _, _, rfl, rfl, _, rfl, ?_⟩
      rw [geI, nV_len, rowN_len]
      by_cases c : rs.length + 1 ≤ w'.pl + j
      · rw [decide_eq_true c]
        refine iteT ⟨by show 2 ≤ sizeLine; decide, fun t ht => kb 6 ?_ t _ ht (Same.new ht) upd_same⟩
        show (if w'.pl + j > rs.length then Except.error 6 else _) = _
        rw [if_pos (by omega)]
      · rw [decide_eq_false c]
        refine iteF ?_
        refine ⟨_, rfl, m, _, rfl, dg_place ob, _, rfl, a, _, _, .int (j : Int), rfl, rfl, SqT.of ha, rfl, _, _, rfl, rfl, _, rfl, m, _, rfl, dp_place _ ob, ?_⟩
        have ha1 : ∀ o, (upd H m o) a = some (.tup (Deed.go j).vs) := fun o => by rw [upd_ne nam]; exact ha
        refine ⟨_, rfl, m, _, rfl, dg_done upd_same, _, rfl, a, _, _, .int (j : Int), rfl, rfl, SqT.of (ha1 _), rfl, _, _, rfl, rfl, _, rfl, m, _, rfl, dp_done _ upd_same, ?_⟩
        refine kg { w' with pl := w'.pl + j, st := lastN w'.st ((rs.drop w'.pl).take j), dn := w'.dn + j } ?_ _ L ks (Chg.upd.trans Chg.upd) ⟨?_, ?_, ?_, ?_, M.pm, M.so⟩ rfl (.inl rfl) (.inl rfl)
        · show (if w'.pl + j > rs.length then Except.error 6 else _) = _
          rw [if_neg (by omega)]
        · rw [upd_same, Int.natCast_add, Int.natCast_add]
        · rw [upd_ne nsm, upd_ne nsm]
          exact M.sa
        · rw [upd_ne nkm, upd_ne nkm]
          exact M.ka
        · rw [upd_ne ntm, upd_ne ntm]
          exact M.ta
    | meet =>
      refine ⟨_, rfl, rfl, _, rfl, ?_⟩
      rw [show decide (V.str Deed.meet.word = V.str "keep") = false by decide +kernel]
      refine iteF ?_
      refine ⟨_, rfl, rfl, _, rfl, ?_⟩
      rw [show decide (V.str Deed.meet.word = V.str "go") = false by decide +kernel]
      refine iteF ?_
      refine ⟨_, rfl, rfl, _, rfl, iteT ?_⟩
      refine ⟨_, rfl, m, _, rfl, dg_place ob, _, rfl, m, _, rfl, dg_wanted ob, rfl, _, rfl, ?_⟩
      have eq : decide (V.int (w'.pl : Int) = V.int (waI w'.wa)) = decide (some w'.pl = w'.wa) := decide_eq_decide.mpr (by
        cases w'.wa with
        | none => exact ⟨fun z => by have z : (w'.pl : Int) = -1 := V.int.inj z; omega, fun z => (by cases z)⟩
        | some n => exact ⟨fun z => by have z : (w'.pl : Int) = (n : Int) := V.int.inj z; congr 1; omega, fun z => by rw [Option.some.inj z] <;> rfl⟩)
      rw [eq]
      by_cases c : some w'.pl = w'.wa
      case neg =>
        rw [decide_eq_false c]
        refine iteT ⟨by show 2 ≤ sizeLine; decide, fun t ht => kb 7 ?_ t _ ht (Same.new ht) upd_same⟩
        show (if some w'.pl = w'.wa then _ else Except.error 7) = _
        rw [if_neg c]
      rw [decide_eq_true c]
      refine iteF ?_
      have hat : atI (nV (rowN f rs)) (w'.pl : Int) = some (V.int (w'.st : Int)) := atI_nat (by
        unfold nV
        rw [List.getElem?_map, rowN_at ok.pl, tr.st] <;> rfl)
      refine ⟨_, rfl, m, _, rfl, dg_met ob, _, rfl, m, _, rfl, dg_states ob, _, rfl, m, _, rfl, dg_place ob, L.sa, _, _, .int (w'.st : Int), rfl, rfl, SqL.of M.sa, hat, by show 1 ≤ sizeLine; decide, fun l1 h1 => ?_⟩
      have v1 := Same.new (o := .lst [V.int (w'.st : Int)]) h1
      have hsn := ok2.sn_le hn
      refine ⟨L.ta, l1, _, _, rfl, rfl, v1 _ _ M.ta, upd_same, sz5 (by rw [nV_len]; show w'.sn.length + 1 ≤ 100000; omega), fun l2 h2 => ?_⟩
      have v2 := Same.new (o := .lst (nV w'.sn ++ [V.int (w'.st : Int)])) h2
      have s12 := v1.trans v2
      have n2m : l2 ≠ m := (ne_of_none (v1 _ _ ob) h2).symm
      refine ⟨_, rfl, m, _, rfl, dp_met l2 (s12 _ _ ob), ?_⟩
      refine ⟨_, rfl, m, _, rfl, dg_place upd_same, _, _, rfl, rfl, _, rfl, m, _, rfl, dp_wanted _ upd_same, ?_⟩
      refine kg { w' with sn := w'.sn ++ [w'.st], wa := if w'.pl = 0 then none else some (w'.pl - 1) } ?_ _ ⟨L.sa, L.ka, l2⟩ ks ((swap s12 _).trans Chg.upd) ⟨?_, ?_, ?_, ?_, M.pm, M.so⟩ rfl (.inl rfl) (.inr (v1.free h2))
      · show (if some w'.pl = w'.wa then _ else Except.error 7) = _
        rw [if_pos c]
      · have ew : waI (if w'.pl = 0 then none else some (w'.pl - 1)) = (w'.pl : Int) - 1 := by
          by_cases z : w'.pl = 0
          · rw [if_pos z, z] <;> rfl
          · rw [if_neg z]
            show ((w'.pl - 1 : Nat) : Int) = _
            omega
        show upd _ m _ m = some (.dK (mF L.sa (R : Int) (w'.pl : Int) (w'.dn : Int) (waI (if w'.pl = 0 then none else some (w'.pl - 1))) L.ka l2))
        rw [upd_same, ew]
      · rw [upd_ne nsm, upd_ne nsm]
        exact s12 _ _ M.sa
      · rw [upd_ne nkm, upd_ne nkm]
        exact s12 _ _ M.ka
      · rw [upd_ne n2m, upd_ne n2m, upd_same]
        unfold nV
        rw [List.map_append] <;> rfl
    | take p =>
      refine ⟨_, rfl, rfl, _, rfl, ?_⟩
      rw [show decide (V.str (Deed.take p).word = V.str "keep") = false from (by decide +kernel : decide (V.str "take" = V.str "keep") = false)]
      refine iteF ?_
      refine ⟨_, rfl, rfl, _, rfl, ?_⟩
      rw [show decide (V.str (Deed.take p).word = V.str "go") = false from (by decide +kernel : decide (V.str "take" = V.str "go") = false)]
      refine iteF ?_
      refine ⟨_, rfl, rfl, _, rfl, ?_⟩
      rw [show decide (V.str (Deed.take p).word = V.str "meet") = false from (by decide +kernel : decide (V.str "take" = V.str "meet") = false)]
      refine iteF ?_
      refine ⟨_, rfl, a, _, _, .int (p : Int), rfl, rfl, SqT.of ha, rfl, _, rfl, m, _, rfl, dg_marks ob, L.ka, _, rfl, .inl (SqL.of M.ka), rfl, flat_ints ks, _, rfl, ?_⟩
      show (if (!inV (.int (p : Int)) (ks.map V.int)) = true then _ else _)
      rw [M.mem]
      cases e : stOf w'.mks p with
      | none =>
        refine iteT ⟨by show 2 ≤ sizeLine; decide, fun t ht => kb 5 ?_ t _ ht (Same.new ht) upd_same⟩
        show (match stOf w'.mks p with | none => Except.error 5 | some s => _) = _
        rw [e]
      | some s' =>
        refine iteF ?_
        refine ⟨_, rfl, rfl, _, rfl, iteT ?_⟩
        refine ⟨_, rfl, a, _, _, .int (p : Int), rfl, rfl, SqT.of ha, rfl, _, rfl, m, _, rfl, dp_place _ ob, ?_⟩
        refine kg { w' with pl := p, st := s' } ?_ _ L ks Chg.upd ⟨upd_same, ?_, ?_, ?_, M.pm, M.so⟩ rfl (.inl rfl) (.inl rfl)
        · show (match stOf w'.mks p with | none => Except.error 5 | some s => _) = _
          rw [e]
        · rw [upd_ne nsm]
          exact M.sa
        · rw [upd_ne nkm]
          exact M.ka
        · rw [upd_ne ntm]
          exact M.ta
    | drop p =>
      refine ⟨_, rfl, rfl, _, rfl, ?_⟩
      rw [show decide (V.str (Deed.drop p).word = V.str "keep") = false from (by decide +kernel : decide (V.str "drop" = V.str "keep") = false)]
      refine iteF ?_
      refine ⟨_, rfl, rfl, _, rfl, ?_⟩
      rw [show decide (V.str (Deed.drop p).word = V.str "go") = false from (by decide +kernel : decide (V.str "drop" = V.str "go") = false)]
      refine iteF ?_
      refine ⟨_, rfl, rfl, _, rfl, ?_⟩
      rw [show decide (V.str (Deed.drop p).word = V.str "meet") = false from (by decide +kernel : decide (V.str "drop" = V.str "meet") = false)]
      refine iteF ?_
      refine ⟨_, rfl, a, _, _, .int (p : Int), rfl, rfl, SqT.of ha, rfl, _, rfl, m, _, rfl, dg_marks ob, L.ka, _, rfl, .inl (SqL.of M.ka), rfl, flat_ints ks, _, rfl, ?_⟩
      show (if (!inV (.int (p : Int)) (ks.map V.int)) = true then _ else _)
      rw [M.mem]
      cases e : stOf w'.mks p with
      | none =>
        refine iteT ⟨by show 2 ≤ sizeLine; decide, fun t ht => kb 5 ?_ t _ ht (Same.new ht) upd_same⟩
        show (match stOf w'.mks p with | none => Except.error 5 | some s => _) = _
        rw [e]
      | some s' =>
        refine iteF ?_
        refine ⟨_, rfl, rfl, _, rfl, ?_⟩
        rw [show decide (V.str (Deed.drop p).word = V.str "take") = false from (by decide +kernel : decide (V.str "drop" = V.str "take") = false)]
        refine iteF ?_
        refine ⟨_, rfl, m, _, rfl, dg_marks ob, L.ka, rfl, ⟨_, SqL.of M.ka⟩, fun D hD => ?_⟩
        have := ok2.mo
        refine lc_list (K := K) (a := L.ka) (xs := ks.map V.int) (fun i H' => Same H H' ∧ H' D = some (.lst (((ks.take i).filter (· ≠ (p : Int))).map V.int))) ⟨Same.new hD, upd_same⟩ (fun i H' _ ⟨s1, _⟩ => SqL.of (s1 _ _ M.ka)) ?_ ?_
        · rintro i y H' hi ⟨s1, hQ⟩
          obtain ⟨k0, hk0, rfl⟩ := get_map hi
          have fs := filt_snoc (p := (p : Int)) hk0
          refine ⟨rfl, ?_⟩
          refine ⟨_, rfl, _, rfl, a, _, _, .int (p : Int), rfl, rfl, SqT.of (s1 _ _ ha), rfl, rfl, _, rfl, ?_⟩
          rw [show decide (V.int k0 = V.int (p : Int)) = decide (k0 = (p : Int)) from decide_eq_decide.mpr ⟨V.int.inj, fun z => by rw [z]⟩]
          by_cases c : k0 = (p : Int)
          · rw [decide_eq_true c]
            rw [if_pos c, List.append_nil] at fs
            exact iteF ⟨s1, by rw [fs]; exact hQ⟩
          · rw [decide_eq_false c]
            rw [if_neg c] at fs
            refine iteT ⟨_, rfl, _, hQ, sz5' ?_, Same.mut s1 hD, ?_⟩
            · rw [List.length_map]
              have := List.length_filter_le (· ≠ (p : Int)) (ks.take i)
              rw [List.length_take] at this
              omega
            · rw [upd_same, fs, List.map_append] <;> rfl
        · rintro H1 ⟨s1, hQ⟩
          rw [List.length_map, List.take_length] at hQ
          have nDm : D ≠ m := (ne_of_none ob hD).symm
          refine ⟨_, rfl, m, _, rfl, dp_marks D (s1 _ _ ob), ?_⟩
          refine kg { w' with mks := w'.mks.filter fun q => q.1 != p } ?_ _ ⟨L.sa, D, L.ta⟩ (ks.filter (· ≠ (p : Int))) (swap s1 _) ⟨upd_same, ?_, ?_, ?_, ?_, ?_⟩ rfl (.inr hD) (.inl rfl)
          · show (match stOf w'.mks p with | none => Except.error 5 | some s => _) = _
            rw [e]
          · rw [upd_ne nsm]
            exact s1 _ _ M.sa
          · rw [upd_ne nDm]
            exact hQ
          · rw [upd_ne ntm]
            exact s1 _ _ M.ta
          · show (ks.filter (· ≠ (p : Int))).Perm (mKey (w'.mks.filter fun q => q.1 != p))
            rw [key_filter]
            exact M.pm.filter _
          · exact M.so.sublist List.filter_sublist
-- @@ _law_deed
def OddP (w : Str) (v : V) : Prop := (w = "go" ∧ v = .int 0) ∨ (w = "go" ∧ v = .int 101) ∨ (w = "take" ∧ v = .int (-1)) ∨ (w = "keep" ∧ v = .int 1) ∨ (w = "go" ∧ v = .str "1")
inductive Bad5 (K : PySem.W.Frag) (H : Hp) : V → Prop where
  | ntup {x : V} {t : Value} (ty : TyX K H x t) (ni : PySem.W.kitOne K t (.type "tuple") = some false) : Bad5 K H x
  | nstr {a : Addr} {v : V} {r : List V} {t : Value} (h : H a = some (.tup (v :: r))) (ty : TyX K H v t) (ni : PySem.W.kitOne K t (.type "str") = some false) : Bad5 K H (.ref a)
  | odd {a : Addr} {w : Str} {v : V} (h : H a = some (.tup [.str w, v])) (o : OddP w v) : Bad5 K H (.ref a)
  | tru {a : Addr} (h : H a = some (.tup [.str "drop", .bl true])) : Bad5 K H (.ref a)
theorem Bad5.same {K : PySem.W.Frag} {H H' : Hp} {x : V} (e : Same H H') (h : Bad5 K H x) : Bad5 K H' x := by
  cases h with
  | ntup ty ni => exact .ntup (tyX_same e ty) ni
  | nstr h ty ni => exact .nstr (e _ _ h) (tyX_same e ty) ni
  | odd h o => exact .odd (e _ _ h) o
  | tru h => exact .tru (e _ _ h)
theorem Bad5.th {K : PySem.W.Frag} {H : Hp} {x : V} (h : Bad5 K H x) : DeedTh K H x false := by
  cases h with
  | ntup ty ni => exact .ntup ty ni
  | nstr h ty ni => exact .nstr h ty ni
  | odd h o =>
    rcases o with ⟨rfl, rfl⟩ | ⟨rfl, rfl⟩ | ⟨rfl, rfl⟩ | ⟨rfl, rfl⟩ | ⟨rfl, rfl⟩
    · exact .num h (by decide +kernel) (by decide +kernel) (.int _) (by decide +kernel)
    · exact .num h (by decide +kernel) (by decide +kernel) (.int _) (by decide +kernel)
    · exact .num h (by decide +kernel) (by decide +kernel) (.int _) (by decide +kernel)
    · exact .one h (.inl rfl) (by decide +kernel)
    · exact .num h (by decide +kernel) (by decide +kernel) (.str _) (by decide +kernel)
  | tru h => exact .num h (by decide +kernel) (by decide +kernel) (.bl _) (by decide +kernel)
def Drawn5 (K : PySem.W.Frag) (H : Hp) (x : V) : Prop := (∃ (a : Addr) (d : Deed), x = .ref a ∧ H a = some (.tup d.vs) ∧ d.ok) ∨ Bad5 K H x
def sp_l_deed (K : PySem.W.Frag) : Sp := fun vs H Q _ => ∃ (m : Addr) (c : Int) (L : MA) (f R : Nat) (rs : List Rule) (w : WK) (ks : List Int), vs = [.ref m, .int c] ∧ MAt H m L f R rs w ks ∧ rs.length ≤ 12 ∧ w.Ok rs.length ∧
  ∀ (x : V) (H' : Hp), Same H H' → Drawn5 K H' x → Q x H'
theorem word_two {w : Str} (hw : w = "take" ∨ w = "drop") {p : Nat} (hp : p ≤ 100) : ∃ d : Deed, d.vs = [.str w, .int (p : Int)] ∧ d.ok := by
  rcases hw with rfl | rfl
  · exact ⟨.take p, rfl, hp⟩
  · exact ⟨.drop p, rfl, hp⟩
theorem ok_l_deed (T : Txt K mg) : OkF P w K mg base "_law_deed" 1 ["_law_m", "_law_number_here"] (sp_l_deed K) := by
  refine okf T.d_l_deed sc_l_deed (fun vs H Q E h => ?_) (fun f cdv A outer s H vs Q E hr h => ?_)
  · obtain ⟨m, c, L, f, R, rs, w', ks, rfl, M, hn, ok, k⟩ := h
    rfl
  · obtain ⟨m, c, L, f, R, rs, w', ks, rfl, M, hn, ok, k⟩ := h
    refine ⟨_, (Evl.pss_cut (ps_set (i := 2) sc_l_deed.nd rfl (Or.inl rfl) (pe_op op_mod (pv 1) pe_int))
        (pss_cons (ps_if (pt_cmpR op_lt (pv 2) pe_int (nomark _))
        (pss_one (ps_ret (pe_tup (pa_cons pe_str pa_nil))))
        pss_nil)
        (Evl.pss_cut (ps_if (pt_cmpR op_lt (pv 2) pe_int (nomark _))
        (pss_one (ps_ret (pe_tup (pa_cons pe_str pa_nil))))
        pss_nil)
        (Evl.pss_cut (ps_if (PW.pt (pw_and (pt_cmpR op_eq (pv 2) pe_int (nomark _)) (pw_and1 (pt_cmpR op_gt (pe_dget (hu_of hr) (pv 0) pe_str (fun _ _ => rfl)) (pe_dget (hu_of hr) (pv 0) pe_str (fun _ _ => rfl)) (nomark _)))))
        (pss_one (ps_ret (pe_tup (pa_cons pe_str (pa_cons (pe_op op_sub (pe_dget (hu_of hr) (pv 0) pe_str (fun _ _ => rfl)) (pe_dget (hu_of hr) (pv 0) pe_str (fun _ _ => rfl))) pa_nil)))))
        pss_nil)
        (Evl.pss_cut (ps_if (pt_cmpR op_lt (pv 2) pe_int (nomark _))
        (pss_one (ps_ret (pe_tup (pa_cons pe_str (pa_cons (pe_op op_add pe_int (pe_op op_mod (pe_op op_fdiv (pv 1) pe_int) pe_int)) pa_nil)))))
        pss_nil)
        (Evl.pss_cut (ps_if (PW.pt (pw_and (pt_cmpR op_lt (pv 2) pe_int (nomark _)) (pw_and1 (pt_cmpR (op_neD hr.units) (pe_dget (hu_of hr) (pv 0) pe_str (fun _ _ => rfl)) (pe_lst pa_nil) (nomark _)))))
        (Evl.pss_cut (ps_set (i := 3) sc_l_deed.nd rfl (Or.inl rfl) (pe_ix ix_list (pe_dget (hu_of hr) (pv 0) pe_str (fun _ _ => rfl)) (pe_op op_mod (pe_op op_fdiv (pv 1) pe_int) (pe_callB call_len_seq (by rfl) T.n_len PySem.boot_len (pa_cons (pe_dget (hu_of hr) (pv 0) pe_str (fun _ _ => rfl)) pa_nil))) (fun _ _ => rfl)))
        (pss_one (ps_ret (pe_tup (pa_cons (pe_ix ix_list (pe_lst (pa_cons pe_str (pa_cons pe_str (pa_cons pe_str pa_nil)))) (pe_op op_sub (pv 2) pe_int) (fun _ _ => rfl)) (pa_cons (pv 3) pa_nil))))))
        pss_nil)
        (Evl.pss_cut (ps_if (pt_cmpR op_eq (pv 2) pe_int (nomark _))
        (pss_one (ps_ret (pe_tup (pa_cons (pe_ix ix_list (pe_lst (pa_cons pe_str (pa_cons pe_str pa_nil))) (pe_op op_mod (pe_op op_fdiv (pv 1) pe_int) pe_int) (fun _ _ => rfl)) (pa_cons (pe_op op_mod (pe_op op_fdiv (pv 1) pe_int) pe_int) pa_nil)))))
        pss_nil)
        (Evl.pss_cut (ps_set (i := 4) sc_l_deed.nd rfl (Or.inl rfl) (pe_lst (pa_cons (pe_tup (pa_cons pe_str (pa_cons pe_int pa_nil))) (pa_cons (pe_tup (pa_cons pe_str (pa_cons pe_int pa_nil))) (pa_cons (pe_tup (pa_cons pe_str (pa_cons (pe_un un_neg pe_int) pa_nil))) (pa_cons (pe_tup (pa_cons pe_str (pa_cons pe_bl pa_nil))) (pa_cons (pe_tup (pa_cons pe_str (pa_cons pe_int pa_nil))) (pa_cons (pe_lst (pa_cons pe_str pa_nil)) (pa_cons pe_non (pa_cons pe_str (pa_cons (pe_tup (pa_cons pe_str (pa_cons pe_str pa_nil))) pa_nil)))))))))))
        (pss_one (ps_ret (pe_ix ix_list (pe_op op_cat (pv 4) (pe_lst (pa_cons (pe_tup (pa_cons (pe_lst (pa_cons pe_str pa_nil)) pa_nil)) (pa_cons (pe_tup (pa_cons pe_dnewK (pa_cons pe_int pa_nil))) (pa_cons (pe_tup (pa_cons (pe_lst (pa_cons pe_str pa_nil)) (pa_cons pe_int pa_nil))) pa_nil))))) (pe_op op_mod (pe_op op_fdiv (pv 1) pe_int) pe_int) (fun _ _ => rfl)))))))))))), ?_⟩
    have hu := hu_of hr
    have ob := M.ob
    have one : ∀ (d : Deed) (t : Addr) (H1 : Hp), d.ok → Same H H1 → H1 t = none → Q (.ref t) (upd H1 t (.tup d.vs)) := fun d t H1 dk s ht => k _ _ (s.trans (Same.new ht)) (.inl ⟨t, d, rfl, upd_same, dk⟩)
    refine ⟨fun σ H' => H' = H ∧ ∃ j : Nat, j < 12 ∧ σ = [some (.ref m), some (.int c), some (.int (j : Int)), none, none], ?_, ?_⟩
    · obtain ⟨j, hj, ej⟩ := rem_nat (z := c) (m := 12) (by decide)
      refine ⟨_, rfl, _, _, rfl, rfl, by show (0 : Int) < 12; decide, rfl, j, by omega, ?_⟩
      rw [← ej] <;> rfl
    rintro σ H0 ⟨rfl, j, hj, rfl⟩
    refine ⟨_, rfl, _, _, rfl, rfl, _, rfl, ?_⟩
    refine ite2 (fun _ => ⟨by show 1 ≤ sizeLine; decide, fun t ht => one .keep t _ trivial (Same.refl _) ht⟩) (fun _ => ?_)
    refine ⟨fun σ H' => H' = H0 ∧ σ = [some (.ref m), some (.int c), some (.int (j : Int)), none, none], ?_, ?_⟩
    · refine ⟨_, rfl, _, _, rfl, rfl, _, rfl, ?_⟩
      exact ite2 (fun _ => ⟨by show 1 ≤ sizeLine; decide, fun t ht => one .meet t _ trivial (Same.refl _) ht⟩) (fun _ => ⟨rfl, rfl⟩)
    rintro σ H1 ⟨rfl, rfl⟩
    refine ⟨fun σ H' => H' = H1 ∧ σ = [some (.ref m), some (.int c), some (.int (j : Int)), none, none], ?_, ?_⟩
    · refine ⟨_, rfl, rfl, _, rfl, ?_⟩
      refine ite2 (fun _ => ?_) (fun _ => iteF ⟨rfl, rfl⟩)
      refine ⟨_, rfl, m, _, rfl, dg_wanted ob, _, rfl, m, _, rfl, dg_place ob, _, _, rfl, rfl, _, rfl, ?_⟩
      refine ite2 (fun q => ?_) (fun _ => ⟨rfl, rfl⟩)
      have q := of_decide_eq_true q
      obtain ⟨n, en⟩ : ∃ n, w'.wa = some n := by
        cases e : w'.wa with
        | none =>
          rw [e] at q
          have q : (-1 : Int) > (w'.pl : Int) := q
          omega
        | some n => exact ⟨n, rfl⟩
      rw [en] at q
      have q : (n : Int) > (w'.pl : Int) := q
      have hn2 := ok.wa n en
      refine ⟨_, rfl, m, _, rfl, dg_wanted ob, _, rfl, m, _, rfl, dg_place ob, _, _, rfl, rfl, by show 2 ≤ sizeLine; decide, fun t ht => ?_⟩
      have e1 : waI w'.wa - (w'.pl : Int) = ((n - w'.pl : Nat) : Int) := by
        rw [en]
        show (n : Int) - (w'.pl : Int) = _
        omega
      show Q (.ref t) (upd H1 t (.tup [.str "go", .int (waI w'.wa - (w'.pl : Int))]))
      rw [e1]
      exact one (.go (n - w'.pl)) t _ ⟨by omega, by omega⟩ (Same.refl _) ht
    rintro σ H2 ⟨rfl, rfl⟩
    refine ⟨fun σ H' => H' = H2 ∧ 7 ≤ j ∧ σ = [some (.ref m), some (.int c), some (.int (j : Int)), none, none], ?_, ?_⟩
    · refine ⟨_, rfl, _, _, rfl, rfl, _, rfl, ?_⟩
      refine ite2 (fun _ => ?_) (fun q => ⟨rfl, by have q : ¬ (j : Int) < 7 := fun z => q (decide_eq_true z); omega, rfl⟩)
      obtain ⟨i, hi, ei⟩ := rem_nat (z := c / 12) (m := 6) (by decide)
      refine ⟨_, rfl, _, _, rfl, rfl, ⟨by decide, by decide⟩, _, _, rfl, rfl, by show (0 : Int) < 6; decide, _, _, rfl, rfl, by show 2 ≤ sizeLine; decide, fun t ht => ?_⟩
      show Q (.ref t) (upd H2 t (.tup [.str "go", .int (1 + c / 12 % 6)]))
      rw [show (1 : Int) + c / 12 % 6 = ((1 + i : Nat) : Int) by omega]
      exact one (.go (1 + i)) t _ ⟨by omega, by omega⟩ (Same.refl _) ht
    rintro σ H3 ⟨rfl, hj7, rfl⟩
    refine ⟨fun σ H' => Same H3 H' ∧ σ = [some (.ref m), some (.int c), some (.int (j : Int)), none, none], ?_, ?_⟩
    · refine ⟨_, rfl, _, _, rfl, rfl, _, rfl, ?_⟩
      refine ite2 (fun j10 => ?_) (fun _ => iteF ⟨Same.refl _, rfl⟩)
      have j10 : (j : Int) < 10 := of_decide_eq_true j10
      refine ⟨_, rfl, m, _, rfl, dg_marks ob, by show 0 ≤ sizeLine; decide, fun e0 he0 => ?_⟩
      have w0 := Same.new (o := .lst []) he0
      refine ⟨.list (ks.map PyData.int), .list [], .lst (SqL.of (w0 _ _ M.ka)) (dp_ints ks), .lst (SqL.of upd_same) .nil, (sh_ints (n := 0) ks).shaped (by decide), by decide, _, rfl, ?_⟩
      cases ks with
      | nil => exact iteF ⟨w0, rfl⟩
      | cons k0 kr =>
        refine iteT ?_
        obtain ⟨i, hi, ei⟩ := rem_nat (z := c / 12) (m := (((k0 :: kr).map V.int).length : Int)) (by rw [List.length_map, List.length_cons]; omega)
        obtain ⟨v, hv, p, rfl, hp⟩ := pick (P := fun v => ∃ p : Nat, v = V.int (p : Int) ∧ p ≤ 100) (xs := (k0 :: kr).map V.int) (fun v hv => by
          obtain ⟨z, hz, rfl⟩ := List.mem_map.mp hv
          obtain ⟨q, hq, rfl⟩ := List.mem_map.mp (M.pm.mem_iff.mp hz)
          exact ⟨q.1, rfl, by have := (ok.mo q hq).1; omega⟩) (j := i) (by omega)
        refine ⟨fun σ H' => σ = [some (.ref m), some (.int c), some (.int (j : Int)), some (.int (p : Int)), none] ∧ Same H3 H', ?_, ?_⟩
        · refine ⟨_, rfl, m, _, rfl, dg_marks (w0 _ _ ob), _, rfl, _, _, rfl, rfl, ⟨by decide, by decide⟩, _, rfl, m, _, rfl, dg_marks (w0 _ _ ob), L.ka, _, rfl, .inl (SqL.of (w0 _ _ M.ka)), _, _, rfl, rfl, by show (0 : Int) < (((k0 :: kr).map V.int).length : Int); rw [List.length_map, List.length_cons]; omega, L.ka, _, _, .int (p : Int), rfl, rfl, SqL.of (w0 _ _ M.ka), at_of ei hv, rfl, w0⟩
        rintro σ H4 ⟨rfl, s4⟩
        refine ⟨by show 3 ≤ sizeLine; decide, fun l hl => ?_⟩
        have w1 := Same.new (o := .lst [.str "take", .str "take", .str "drop"]) hl
        obtain ⟨v2, hv2, w2, rfl, hw2⟩ := pick (P := fun v => ∃ w : Str, v = V.str w ∧ (w = "take" ∨ w = "drop")) (xs := [.str "take", .str "take", .str "drop"]) (fun v hv => by
          simp only [List.mem_cons, List.not_mem_nil, or_false] at hv
          rcases hv with rfl | rfl | rfl
          · exact ⟨_, rfl, .inl rfl⟩
          · exact ⟨_, rfl, .inl rfl⟩
          · exact ⟨_, rfl, .inr rfl⟩) (j := j - 7) (by show j - 7 < 3; omega)
        obtain ⟨d, ed, dk⟩ := word_two hw2 hp
        refine ⟨_, rfl, _, _, rfl, rfl, l, _, _, .str w2, rfl, rfl, SqL.of upd_same, at_of (j := j - 7) (by omega) hv2, _, rfl, by show 2 ≤ sizeLine; decide, fun t ht => ?_⟩
        have q := one d t _ dk (s4.trans w1) ht
        rw [ed] at q
        exact q
    rintro σ H4 ⟨s4, rfl⟩
    refine ⟨fun σ H' => Same H4 H' ∧ σ = [some (.ref m), some (.int c), some (.int (j : Int)), none, none], ?_, ?_⟩
    · refine ⟨_, rfl, rfl, _, rfl, ?_⟩
      refine ite2 (fun _ => ?_) (fun _ => ⟨Same.refl _, rfl⟩)
      refine ⟨by show 2 ≤ sizeLine; decide, fun l hl => ?_⟩
      have w1 := Same.new (o := .lst [.str "take", .str "drop"]) hl
      obtain ⟨i, hi, ei⟩ := rem_nat (z := c / 12) (m := 2) (by decide)
      obtain ⟨i2, hi2, ei2⟩ := rem_nat (z := c / 24) (m := 14) (by decide)
      obtain ⟨v2, hv2, w2, rfl, hw2⟩ := pick (P := fun v => ∃ w : Str, v = V.str w ∧ (w = "take" ∨ w = "drop")) (xs := [.str "take", .str "drop"]) (fun v hv => by
        simp only [List.mem_cons, List.not_mem_nil, or_false] at hv
        rcases hv with rfl | rfl
        · exact ⟨_, rfl, .inl rfl⟩
        · exact ⟨_, rfl, .inr rfl⟩) (j := i) (by show i < 2; omega)
      obtain ⟨d, ed, dk⟩ := word_two hw2 (p := i2) (by omega)
      refine ⟨_, rfl, _, _, rfl, rfl, ⟨by decide, by decide⟩, _, _, rfl, rfl, by show (0 : Int) < 2; decide, l, _, _, .str w2, rfl, rfl, SqL.of upd_same, at_of ei hv2, _, rfl, _, _, rfl, rfl, ⟨by decide, by decide⟩, _, _, rfl, rfl, by show (0 : Int) < 14; decide, by show 2 ≤ sizeLine; decide, fun t ht => ?_⟩
      have q := one d t _ dk (s4.trans w1) ht
      rw [ed, ← ei2] at q
      exact q
    rintro σ H5 ⟨s5, rfl⟩
    refine ⟨fun σ H' => Same H5 H' ∧ ∃ (o : Addr) (xs : List V), σ = [some (.ref m), some (.int c), some (.int (j : Int)), none, some (.ref o)] ∧ H' o = some (.lst xs) ∧ xs.length = 9 ∧ ∀ v ∈ xs, Bad5 K H' v, ?_, ?_⟩
    · refine ⟨by show 2 ≤ sizeLine; decide, fun t1 h1 => ?_⟩
      refine ⟨by show 2 ≤ sizeLine; decide, fun t2 h2 => ?_⟩
      refine ⟨_, rfl, by show 2 ≤ sizeLine; decide, fun t3 h3 => ?_⟩
      refine ⟨by show 2 ≤ sizeLine; decide, fun t4 h4 => ?_⟩
      refine ⟨by show 2 ≤ sizeLine; decide, fun t5 h5 => ?_⟩
      refine ⟨by show 1 ≤ sizeLine; decide, fun t6 h6 => ?_⟩
      refine ⟨by show 2 ≤ sizeLine; decide, fun t7 h7 => ?_⟩
      refine ⟨by show 9 ≤ sizeLine; decide, fun o ho => ?_⟩
      have w1 := Same.new (o := .tup [.str "go", .int 0]) h1
      have w2 := Same.new (o := .tup [.str "go", .int 101]) h2
      have w3 := Same.new (o := .tup [.str "take", .int (-1)]) h3
      have w4 := Same.new (o := .tup [.str "drop", .bl true]) h4
      have w5 := Same.new (o := .tup [.str "keep", .int 1]) h5
      have w6 := Same.new (o := .lst [.str "meet"]) h6
      have w7 := Same.new (o := .tup [.str "go", .str "1"]) h7
      have w8 := Same.new (o := .lst [.ref t1, .ref t2, .ref t3, .ref t4, .ref t5, .ref t6, .non, .str "keep", .ref t7]) ho
      have z7 := w7.trans w8
      have z6 := w6.trans z7
      have z5 := w5.trans z6
      have z4 := w4.trans z5
      have z3 := w3.trans z4
      have z2 := w2.trans z3
      refine ⟨w1.trans z2, o, _, rfl, upd_same, rfl, fun v hv => ?_⟩
      simp only [List.mem_cons, List.not_mem_nil, or_false] at hv
      rcases hv with rfl | rfl | rfl | rfl | rfl | rfl | rfl | rfl | rfl
      · exact .odd (z2 _ _ upd_same) (.inl ⟨rfl, rfl⟩)
      · exact .odd (z3 _ _ upd_same) (.inr (.inl ⟨rfl, rfl⟩))
      · exact .odd (z4 _ _ upd_same) (.inr (.inr (.inl ⟨rfl, rfl⟩)))
      · exact .tru (z5 _ _ upd_same)
      · exact .odd (z6 _ _ upd_same) (.inr (.inr (.inr (.inl ⟨rfl, rfl⟩))))
      · exact .ntup (.base (.lst (z7 _ _ upd_same))) (kit_ty (by decide +kernel))
      · exact .ntup (.base .non) (kit_ty (by decide +kernel))
      · exact .ntup (.base (.str _)) (kit_ty (by decide +kernel))
      · exact .odd (w8 _ _ upd_same) (.inr (.inr (.inr (.inr ⟨rfl, rfl⟩))))
    rintro σ H6 ⟨s6, o, xs, rfl, hO, hx9, hxs⟩
    have s06 := s4.trans (s5.trans s6)
    refine ⟨_, rfl, by show 1 ≤ sizeLine; decide, fun t1 h1 => ?_⟩
    refine ⟨by show 1 ≤ sizeLine; decide, fun t2 h2 => ?_⟩
    refine fun t3 h3 => ?_
    refine ⟨by show 2 ≤ sizeLine; decide, fun t4 h4 => ?_⟩
    refine ⟨by show 1 ≤ sizeLine; decide, fun t5 h5 => ?_⟩
    refine ⟨by show 2 ≤ sizeLine; decide, fun t6 h6 => ?_⟩
    refine ⟨by show 3 ≤ sizeLine; decide, fun o2 ho2 => ?_⟩
    have w1 := Same.new (o := .lst [.str "keep"]) h1
    have w2 := Same.new (o := .tup [.ref t1]) h2
    have w3 := Same.new (o := .dK []) h3
    have w4 := Same.new (o := .tup [.ref t3, .int 1]) h4
    have w5 := Same.new (o := .lst [.str "go"]) h5
    have w6 := Same.new (o := .tup [.ref t5, .int 1]) h6
    have w7 := Same.new (o := .lst [.ref t2, .ref t4, .ref t6]) ho2
    have z6 := w6.trans w7
    have z5 := w5.trans z6
    have z4 := w4.trans z5
    have z3 := w3.trans z4
    have z2 := w2.trans z3
    have z1 := w1.trans z2
    refine ⟨o, o2, _, _, rfl, rfl, z1 _ _ hO, upd_same, sz5 (by rw [hx9]; show 9 + 3 ≤ 100000; decide), fun o3 ho3 => ?_⟩
    have w8 := Same.new (o := .lst (xs ++ [.ref t2, .ref t4, .ref t6])) ho3
    obtain ⟨i, hi, ei⟩ := rem_nat (z := c / 12) (m := 12) (by decide)
    obtain ⟨v, hv, bad⟩ := pick (P := Bad5 K (upd (upd (upd (upd (upd (upd (upd H6 t1 (.lst [.str "keep"])) t2 (.tup [.ref t1])) t3 (.dK [])) t4 (.tup [.ref t3, .int 1])) t5 (.lst [.str "go"])) t6 (.tup [.ref t5, .int 1])) o2 (.lst [.ref t2, .ref t4, .ref t6]))) (xs := xs ++ [.ref t2, .ref t4, .ref t6]) (fun v hv => by
      rcases List.mem_append.mp hv with hv | hv
      · exact (hxs v hv).same z1
      · simp only [List.mem_cons, List.not_mem_nil, or_false] at hv
        rcases hv with rfl | rfl | rfl
        · exact .nstr (z3 _ _ upd_same) (.base (.lst (z2 _ _ upd_same))) (kit_ty (by decide +kernel))
        · exact .nstr (z5 _ _ upd_same) (.base (.dK (z4 _ _ upd_same))) (kit_ty (by decide +kernel))
        · exact .nstr (w7 _ _ upd_same) (.base (.lst (z6 _ _ upd_same))) (kit_ty (by decide +kernel))) (j := i) (by rw [List.length_append, hx9]; show i < 9 + 3; omega)
    exact ⟨_, rfl, _, _, rfl, rfl, ⟨by decide, by decide⟩, _, _, rfl, rfl, by show (0 : Int) < 12; decide, o3, _, _, v, rfl, rfl, SqL.of upd_same, at_of ei hv, k v _ (s06.trans (z1.trans w8)) (.inr (bad.same w8))⟩
-- @@ _law_told
def sp_l_told (K : PySem.W.Frag) (C : Addr) : Sp := fun vs H Q _ => ∃ (A : WA) (x : V) (rs : List (Addr × Rule)) (R : Nat) (w : WK), vs = [.ref A.x, x] ∧ WAt C H A rs R w ∧
  ((DeedTh K H x false ∧ RetT H [.str "refused", .str "deed"] Q) ∨
   (∃ (a : Addr) (d : Deed), x = .ref a ∧ H a = some (.tup d.vs) ∧ d.ok ∧ RS H rs ∧ w.Ok rs.length ∧ rs.length ≤ 100 ∧ w.mks.length ≤ 1000 ∧ w.sn.length ≤ 10000 ∧
     (∀ v, stepK (rs.map (·.2)) R w d = .ok v → ∀ H', But A H H' → WAt C H' A rs R v → Q .non H') ∧ ∀ i, stepK (rs.map (·.2)) R w d = .error i → RetT H [.str "refused", .str (words8.getD i "")] Q))
theorem stepK_err {rs : List Rule} {R : Nat} {w : WK} {d : Deed} {i : Nat} (h : stepK rs R w d = .error i) : 3 ≤ i ∧ i ≤ 7 := by
  cases d <;> simp only [stepK] at h <;> (repeat' split at h) <;> cases h <;> decide
theorem RetT.up {H H' : Hp} {xs : List V} {Q : VK} (e : Same H H') (k : RetT H xs Q) : RetT H' xs Q := fun p H2 hp s h => k p H2 (e.free hp) (e.trans s) h
theorem ok_l_told (T : Txt K mg) : OkF P w K mg base "_law_told" 4 ["_law_walker", "_law_deed_here"] (sp_l_told K T.aWalker) := by
  obtain ⟨f_Walker_do, fd_Walker_do, M_Walker_do, b_Walker_do, G_Walker_do⟩ := ok_Walker_do (P := P) (w := w) (base := base) T
  obtain ⟨f_l_class, fd_l_class, m_l_class, k_l_class, b_l_class, G_l_class⟩ := ok_l_class (P := P) (w := w) (base := base) T
  refine okf T.d_l_told sc_l_told (fun vs H Q E h => ?_) (fun f cdv A outer s H vs Q E hr h => ?_)
  · obtain ⟨A, x, rs, R, w', rfl, W, h⟩ := h
    rfl
  · obtain ⟨A, x, rs, R, w', rfl, W, h⟩ := h
    refine ⟨_, (pss_one (ps_try_as (i := 2) rfl rfl sc_l_told.nd rfl rfl ⟨rfl, by decide, .inl T.x_MarkError.g⟩ takes0 (fun W pn xe tk po => (pss_one (ps_ret (pe_methT (pv 0) T.o_Walker.cl M_Walker_do G_Walker_do (hr.mono (by decide)) b_Walker_do (fun σ => passAt tk σ) (pa_cons (pv 1) pa_nil))))) (fun a oe cls d pn hz hf => (pss_one (ps_ret (pe_hotE G_l_class (hr.mono (by decide)) hz hf (by rfl) m_l_class k_l_class b_l_class (pa_cons (pv 2) pa_nil))))))), ?_⟩
    rcases h with ⟨th, k⟩ | ⟨a, d, rfl, ha, dok, hR, ok, hl, hm, hs, kg, kb⟩
    · refine ⟨_, rfl, A.x, A.dx, _, rfl, W.ob, wF_do .., _, rfl, A, x, rfl, .inl ⟨th, ?_⟩⟩
      exact ⟨true, T.e_BadDeed, fun _ a ha => ⟨_, rfl, rfl, T.aBadDeed, 2, rfl, rfl, T.q_BadDeed, k⟩, fun q => Bool.noConfusion q⟩
    refine ⟨_, rfl, A.x, A.dx, _, rfl, W.ob, wF_do .., _, rfl, A, _, rfl, .inr ⟨a, d, rs, R, w', rfl, ha, dok, W, hR, ok, hl, hm, hs, fun v hv H' bt W' => kg v hv H' bt W', fun i hi => ?_⟩⟩
    have k := kb i hi
    obtain ⟨i3, i7⟩ := stepK_err hi
    match i, i3, i7, k with
    | 3, _, _, k => exact ⟨true, T.e_Full, fun _ a ha => ⟨_, rfl, rfl, T.aFull, 3, rfl, rfl, T.q_Full, k⟩, fun q => Bool.noConfusion q⟩
    | 4, _, _, k => exact ⟨true, T.e_Twice, fun _ a ha => ⟨_, rfl, rfl, T.aTwice, 4, rfl, rfl, T.q_Twice, k⟩, fun q => Bool.noConfusion q⟩
    | 5, _, _, k => exact ⟨true, T.e_NotKept, fun _ a ha => ⟨_, rfl, rfl, T.aNotKept, 5, rfl, rfl, T.q_NotKept, k⟩, fun q => Bool.noConfusion q⟩
    | 6, _, _, k => exact ⟨true, T.e_AtEnd, fun _ a ha => ⟨_, rfl, rfl, T.aAtEnd, 6, rfl, rfl, T.q_AtEnd, k⟩, fun q => Bool.noConfusion q⟩
    | 7, _, _, k => exact ⟨true, T.e_NotWanted, fun _ a ha => ⟨_, rfl, rfl, T.aNotWanted, 7, rfl, rfl, T.q_NotWanted, k⟩, fun q => Bool.noConfusion q⟩
-- @@ _law_right
def oD : Option Nat → PyData
  | none => .none
  | some n => .int (n : Int)
theorem oD_sh (o : Option Nat) : Sh 1 (oD o) := by
  cases o with
  | none => exact .non
  | some n => exact .int _
theorem oD_dp {K : PySem.W.Frag} {H : Hp} (o : Option Nat) : Dp K H (oW o) (oD o) := by
  cases o with
  | none => exact .non
  | some n => exact .int _
theorem oW_thg {K : PySem.W.Frag} {H : Hp} (o : Option Nat) : ∃ t, TyX K H (oW o) t ∧ PySem.W.kitOne K t (.type "bool") = some false := by
  cases o with
  | none => exact ⟨_, .base .non, kit_ty (by decide +kernel)⟩
  | some n => exact ⟨_, .base (.int _), kit_ty (by decide +kernel)⟩
def sp_l_right (K : PySem.W.Frag) (C : Addr) : Sp := fun vs H Q _ => ∃ (A : WA) (m hd : Addr) (L : MA) (f R : Nat) (rs : List (Addr × Rule)) (w : WK) (ks : List Int) (ts : List Addr), vs = [.ref A.x, .ref m, .ref hd] ∧ WAt C H A rs R w ∧ MAt H m L f R (rs.map (·.2)) w ks ∧
  w.Ok rs.length ∧ w.Tr (rs.map (·.2)) f ∧ w.mks.length ≤ 12 ∧ w.sn.length ≤ 10000 ∧ H hd = some (.lst (ts.map V.ref)) ∧ ts.length ≤ 10000 ∧
  ∀ (H' : Hp) (t1 t2 : Addr), Chg [hd] H H' → H' hd = some (.lst ((ts ++ [t1, t2]).map V.ref)) → PairAt (New H H') t1 → PairAt (New H H') t2 → Q (.bl true) H'
theorem lst3_dp {K : PySem.W.Frag} {H : Hp} {l : Addr} {a b c : Int} (h : H l = some (.lst [.int a, .int b, .int c])) : Dp K H (.ref l) (.list [.int a, .int b, .int c]) := .lst (SqL.of h) (.cons (.int _) (.cons (.int _) (.cons (.int _) .nil)))
theorem lst3_sh (a b c : Int) : Sh 1 (.list [.int a, .int b, .int c]) := sh_ints (n := 0) [a, b, c]
theorem ok_l_right (T : Txt K mg) : OkF P w K mg base "_law_right" 2 ["_law_walker", "_law_m", "_law_held"] (sp_l_right K T.aWalker) := by
  obtain ⟨f_l_whole, fd_l_whole, m_l_whole, k_l_whole, b_l_whole, G_l_whole⟩ := ok_l_whole (P := P) (w := w) (base := base) T
  obtain ⟨f_Walker_kept, fd_Walker_kept, M_Walker_kept, b_Walker_kept, G_Walker_kept⟩ := ok_Walker_kept (P := P) (w := w) (base := base) T
  obtain ⟨f_Walker_met, fd_Walker_met, M_Walker_met, b_Walker_met, G_Walker_met⟩ := ok_Walker_met (P := P) (w := w) (base := base) T
  refine okf T.d_l_right sc_l_right (fun vs H Q E h => ?_) (fun f cdv A outer s H vs Q E hr h => ?_)
  · obtain ⟨A, m, hd, L, f, R, rs, w', ks, ts, rfl, W, M, ok, tr, hm12, hsn, hH, hts, k⟩ := h
    rfl
  · obtain ⟨A, m, hd, L, f, R, rs, w', ks, ts, rfl, W, M, ok, tr, hm12, hsn, hH, hts, k⟩ := h
    refine ⟨_, (pss_cons (ps_set (i := 3) sc_l_right.nd rfl (Or.inl rfl) (pe_dget (hu_of hr) (pv 1) pe_str (fun _ _ => rfl)))
        (Evl.pss_cut (ps_if (pt_cmpR op_lt (pv 3) pe_int (nomark _))
        (pss_one (ps_set (i := 3) sc_l_right.nd rfl (Or.inl rfl) pe_non))
        pss_nil)
        (pss_cons (ps_set (i := 4) sc_l_right.nd rfl (Or.inl rfl) (pe_lst (pa_cons (pe_fld (pv 0) rfl) (pa_cons (pe_fld (pv 0) rfl) (pa_cons (pe_fld (pv 0) rfl) pa_nil)))))
        (Evl.pss_cut (ps_set (i := 5) sc_l_right.nd rfl (Or.inl rfl) (pe_lst (pa_cons (pe_dget (hu_of hr) (pv 1) pe_str (fun _ _ => rfl)) (pa_cons (pe_ix ix_list (pe_dget (hu_of hr) (pv 1) pe_str (fun _ _ => rfl)) (pe_dget (hu_of hr) (pv 1) pe_str (fun _ _ => rfl)) (fun _ _ => rfl)) (pa_cons (pe_dget (hu_of hr) (pv 1) pe_str (fun _ _ => rfl)) pa_nil)))))
        (Evl.pss_cut (ps_if (PW.pt (pw_or (pt_cmpR (op_neD hr.units) (pv 4) (pv 5) (nomark _)) (pw_or (pt_not (pt_val (pe_callB (cr_all rfl) (by rfl) T.n_all (by decide +kernel) (pa_cons (pe_lc (own := [("_law_one", 10)]) rfl sc_l_right.nd (pi_list (pv 4)) (blkOk_by (own := [("_law_one", 10)]) (N := ["_law_walker", "_law_m", "_law_held", "_law_wanted", "_law_found", "_law_due", "_law_kept", "_law_met", "_law_pair", "_law_mark", "_law_one"]) (sc := defScope s_l_right) (by decide +kernel)) (fun _ _ _ _ _ => (pg_name (i := 10) sc_l_right.nd rfl (Or.inl rfl))) (fun _ _ _ _ _ => pts_nil) (fun _ _ _ _ _ => (pe_call G_l_whole (hr.mono (by decide)) (by rfl) m_l_whole k_l_whole b_l_whole .nil passL (pa_cons (pv 10) pa_nil)))) pa_nil)))) (pw_or1 (pt_cmpR (op_neD hr.units) (pe_fld (pv 0) rfl) (pv 3) (nomark _))))))
        (pss_one (ps_ret pe_bl))
        pss_nil)
        (Evl.pss_cut (ps_set (i := 6) sc_l_right.nd rfl (Or.inl rfl) (pe_meth0 (pv 0) T.o_Walker.cl M_Walker_kept G_Walker_kept (hr.mono (by decide)) b_Walker_kept .nil passL))
        (Evl.pss_cut (ps_set (i := 7) sc_l_right.nd rfl (Or.inl rfl) (pe_meth0 (pv 0) T.o_Walker.cl M_Walker_met G_Walker_met (hr.mono (by decide)) b_Walker_met .nil passL))
        (Evl.pss_cut (ps_if (PW.pt (pw_or (pt_cmpR (op_neD hr.units) (pv 6) (pe_lc (own := [("_law_mark", 9)]) rfl sc_l_right.nd (pi_list (pe_dget (hu_of hr) (pv 1) pe_str (fun _ _ => rfl))) (blkOk_by (own := [("_law_mark", 9)]) (N := ["_law_walker", "_law_m", "_law_held", "_law_wanted", "_law_found", "_law_due", "_law_kept", "_law_met", "_law_pair", "_law_mark", "_law_one"]) (sc := defScope s_l_right) (by decide +kernel)) (fun _ _ _ _ _ => (pg_name (i := 9) sc_l_right.nd rfl (Or.inl rfl))) (fun _ _ _ _ _ => pts_nil) (fun _ _ _ _ _ => (pe_tup (pa_cons (pv 9) (pa_cons (pe_ix (r := rIxL K) ix_list (pe_dget (hu_of hr) (pv 1) pe_str (fun _ _ => rfl)) (pv 9) (fun _ _ => rfl)) pa_nil))))) (nomark _)) (pw_or1 (pt_cmpR (op_neD hr.units) (pv 7) (pe_dget (hu_of hr) (pv 1) pe_str (fun _ _ => rfl)) (nomark _)))))
        (pss_one (ps_ret pe_bl))
        pss_nil)
        (Evl.pss_cut (ps_if (PW.pt (pw_or (pt_not (pt_val (pe_callB call_isi (by rfl) T.n_isinstance (by decide +kernel) (pa_cons (pv 6) (pa_cons (pe_bltn (v := .ty "list") (by rfl) T.n_list (by decide +kernel) rfl) pa_nil))))) (pw_or (pt_not (pt_val (pe_callB call_isi (by rfl) T.n_isinstance (by decide +kernel) (pa_cons (pv 7) (pa_cons (pe_bltn (v := .ty "list") (by rfl) T.n_list (by decide +kernel) rfl) pa_nil))))) (pw_or1 (pt_val (pe_callB call_isi (by rfl) T.n_isinstance (by decide +kernel) (pa_cons (pe_fld (pv 0) rfl) (pa_cons (pe_bltn (v := .ty "bool") (by rfl) T.n_bool (by decide +kernel) rfl) pa_nil))))))))
        (pss_one (ps_ret pe_bl))
        pss_nil)
        (Evl.pss_cut (ps_for (passes_of rfl) rfl (pi_list (pv 6)) (pg_name (i := 8) sc_l_right.nd rfl (Or.inl rfl))
        (pss_one (ps_if (PW.pt (pw_or (pt_not (pt_val (pe_callB call_isi (by rfl) T.n_isinstance (by decide +kernel) (pa_cons (pv 8) (pa_cons (pe_bltn (v := .ty "tuple") (by rfl) T.n_tuple (by decide +kernel) rfl) pa_nil))))) (pw_or (pt_not (pt_val (pe_call G_l_whole (hr.mono (by decide)) (by rfl) m_l_whole k_l_whole b_l_whole .nil passL (pa_cons (pe_ix ix_tup (pv 8) pe_int (fun _ _ => rfl)) pa_nil)))) (pw_or1 (pt_not (pt_val (pe_call G_l_whole (hr.mono (by decide)) (by rfl) m_l_whole k_l_whole b_l_whole .nil passL (pa_cons (pe_ix ix_tup (pv 8) pe_int (fun _ _ => rfl)) pa_nil))))))))
        (pss_one (ps_ret pe_bl))
        pss_nil)))
        (Evl.pss_cut (ps_if (pt_not (pt_val (pe_callB (cr_all rfl) (by rfl) T.n_all (by decide +kernel) (pa_cons (pe_lc (own := [("_law_one", 10)]) rfl sc_l_right.nd (pi_list (pv 7)) (blkOk_by (own := [("_law_one", 10)]) (N := ["_law_walker", "_law_m", "_law_held", "_law_wanted", "_law_found", "_law_due", "_law_kept", "_law_met", "_law_pair", "_law_mark", "_law_one"]) (sc := defScope s_l_right) (by decide +kernel)) (fun _ _ _ _ _ => (pg_name (i := 10) sc_l_right.nd rfl (Or.inl rfl))) (fun _ _ _ _ _ => pts_nil) (fun _ _ _ _ _ => (pe_call G_l_whole (hr.mono (by decide)) (by rfl) m_l_whole k_l_whole b_l_whole .nil passL (pa_cons (pv 10) pa_nil)))) pa_nil))))
        (pss_one (ps_ret pe_bl))
        pss_nil)
        (Evl.pss_cut (ps_expr (pe_bm PySem.F.plainAttrs_list PySem.F.slot_list_append PySem.F.type_list_append mt_append (pv 2) (pa_cons (pe_tup (pa_cons (pv 6) (pa_cons (pe_op op_cat (pv 6) (pe_lst (pa_cons (pe_tup (pa_cons pe_int (pa_cons pe_int pa_nil))) pa_nil))) pa_nil))) pa_nil)))
        (Evl.pss_cut (ps_expr (pe_bm PySem.F.plainAttrs_list PySem.F.slot_list_append PySem.F.type_list_append mt_append (pv 2) (pa_cons (pe_tup (pa_cons (pv 7) (pa_cons (pe_op op_cat (pv 7) (pe_lst (pa_cons pe_int pa_nil))) pa_nil))) pa_nil)))
        (Evl.pss_cut (ps_expr (pe_bm PySem.F.plainAttrs_list PySem.F.slot_list_append PySem.F.type_list_append mt_append (pv 6) (pa_cons (pe_tup (pa_cons pe_int (pa_cons pe_int pa_nil))) pa_nil)))
        (Evl.pss_cut (ps_expr (pe_bm PySem.F.plainAttrs_list PySem.F.slot_list_append PySem.F.type_list_append mt_append (pv 7) (pa_cons pe_int pa_nil)))
        (pss_one (ps_ret pe_bl))))))))))))))))), ?_⟩
    have hu := hu_of hr
    have cl := T.o_Walker.cl
    have O := T.o_Walker
    have ob := M.ob
    have lrs : (rs.map (·.2)).length = rs.length := List.length_map ..
    refine ⟨_, rfl, m, _, rfl, dg_wanted ob, ?_⟩
    refine ⟨fun σ H' => H' = H ∧ σ = [some (.ref A.x), some (.ref m), some (.ref hd), some (oW w'.wa), none, none, none, none, none, none, none], ?_, ?_⟩
    · refine ⟨_, rfl, _, _, rfl, rfl, _, rfl, ?_⟩
      cases w'.wa with
      | none => exact iteT ⟨rfl, rfl⟩
      | some n =>
        rw [show decide (waI (some n) < 0) = false from decide_eq_false (by show ¬ (n : Int) < 0; omega)]
        exact iteF ⟨rfl, rfl⟩
    rintro σ H0 ⟨rfl, rfl⟩
    have hat : ∀ p, p ≤ rs.length → atI (nV (rowN f (rs.map (·.2)))) (p : Int) = some (V.int (stAt (rs.map (·.2)) f p : Int)) := fun p hp => atI_nat (by
      unfold nV
      rw [List.getElem?_map, rowN_at (by omega)] <;> rfl)
    refine ⟨_, rfl, A.x, T.aWalker, A.dx, _, _, rfl, W.ob, cl, O.npl, wF_place .., _, rfl, A.x, T.aWalker, A.dx, _, _, rfl, W.ob, cl, O.nst, wF_state .., _, rfl, A.x, T.aWalker, A.dx, _, _, rfl, W.ob, cl, O.ndn, wF_done .., by show 3 ≤ sizeLine; decide, fun l1 h1 => ?_⟩
    have v1 := Same.new (o := .lst [.int (w'.pl : Int), .int (w'.st : Int), .int (w'.dn : Int)]) h1
    refine ⟨fun σ H' => ∃ l2, σ = [some (.ref A.x), some (.ref m), some (.ref hd), some (oW w'.wa), some (.ref l1), some (.ref l2), none, none, none, none, none] ∧ Same H0 H' ∧ H' l1 = some (.lst [.int (w'.pl : Int), .int (w'.st : Int), .int (w'.dn : Int)]) ∧ H' l2 = some (.lst [.int (w'.pl : Int), .int (w'.st : Int), .int (w'.dn : Int)]), ?_, ?_⟩
    · have ob1 := v1 _ _ ob
      have e := hat w'.pl ok.pl
      rw [← tr.st] at e
      refine ⟨_, rfl, m, _, rfl, dg_place ob1, _, rfl, m, _, rfl, dg_states ob1, _, rfl, m, _, rfl, dg_place ob1, L.sa, _, _, _, rfl, rfl, SqL.of (v1 _ _ M.sa), e, _, rfl, m, _, rfl, dg_done ob1, by show 3 ≤ sizeLine; decide, fun l2 h2 => ?_⟩
      have v2 := Same.new (o := .lst [.int (w'.pl : Int), .int (w'.st : Int), .int (w'.dn : Int)]) h2
      exact ⟨l2, rfl, v1.trans v2, v2 _ _ upd_same, upd_same⟩
    rintro σ H1 ⟨l2, rfl, s1, hL1, hL2⟩
    refine ⟨fun σ H' => σ = [some (.ref A.x), some (.ref m), some (.ref hd), some (oW w'.wa), some (.ref l1), some (.ref l2), none, none, none, none, none] ∧ Same H1 H', ?_, ?_⟩
    · have sh := lst3_sh (w'.pl : Int) (w'.st : Int) (w'.dn : Int)
      refine ⟨_, rfl, _, rfl, _, _, lst3_dp hL1, lst3_dp hL2, sh.shaped (by decide), sh.shaped (by decide), _, rfl, ?_⟩
      rw [sh.refl]
      refine iteF ?_
      refine ⟨_, rfl, l1, rfl, ⟨_, SqL.of hL1⟩, fun D hD' => ?_⟩
      refine lc_list (K := K) (a := l1) (xs := [.int (w'.pl : Int), .int (w'.st : Int), .int (w'.dn : Int)]) (fun j HB => Same H1 HB ∧ HB D = some (.lst ((List.replicate j true).map V.bl))) ⟨Same.new hD', upd_same⟩ (fun j HB _ ⟨sB, _⟩ => SqL.of (sB _ _ hL1)) ?_ ?_
      · rintro j y HB hj ⟨sB, hQ⟩
        have hj3 := (List.getElem?_eq_some_iff.mp hj).1
        obtain ⟨z, rfl⟩ : ∃ z : Int, y = .int z := by
          have := List.mem_of_getElem? hj
          simp only [List.mem_cons, List.not_mem_nil, or_false] at this
          rcases this with rfl | rfl | rfl <;> exact ⟨_, rfl⟩
        refine ⟨rfl, ?_⟩
        refine ⟨_, rfl, .int z, some z, rfl, .int _, _, hQ, sz5' (by rw [List.length_map, List.length_replicate]; have : j < 3 := hj3; omega), Same.mut sB hD', ?_⟩
        rw [upd_same, List.replicate_succ', List.map_append] <;> rfl
      rintro HB ⟨sB, hQ⟩
      refine ⟨D, _, rfl, SqL.of hQ, true, congrArg V.bl (List.all_eq_true.mpr fun b hb => (List.mem_replicate.mp hb).2), iteF ?_⟩
      have sh2 := oD_sh w'.wa
      refine ⟨_, rfl, A.x, T.aWalker, A.dx, _, _, rfl, sB _ _ (s1 _ _ W.ob), cl, O.nwa, wF_wanted .., _, rfl, _, _, oD_dp _, oD_dp _, sh2.shaped (by decide), sh2.shaped (by decide), _, rfl, ?_⟩
      rw [sh2.refl]
      exact iteF ⟨rfl, sB⟩
    rintro σ H2 ⟨rfl, s2⟩
    have s02 := s1.trans s2
    refine ⟨fun σ H' => ∃ (kp : Addr) (us : List (Addr × Nat × Nat)), σ = [some (.ref A.x), some (.ref m), some (.ref hd), some (oW w'.wa), some (.ref l1), some (.ref l2), some (.ref kp), none, none, none, none] ∧ Same H2 H' ∧ H2 kp = none ∧ H' kp = some (.lst (refsM us)) ∧ (∀ q ∈ us, H' q.1 = some (.tup [.int (q.2.1 : Int), .int (q.2.2 : Int)]) ∧ stOf w'.mks q.2.1 = some q.2.2 ∧ H2 q.1 = none) ∧ us.map (fun q => ((q.2.1 : Nat) : Int)) = ks, ?_, ?_⟩
    · have W2 := W.same s02
      exact ⟨_, rfl, A.x, A.dx, _, rfl, W2.ob, wF_kept .., A, rs, R, w', rfl, W2, by omega, fun kp H' us hp s hP hT hperm hsort => ⟨kp, us, rfl, s, hp, hP, hT, List.Perm.eq_of_pairwise (fun _ _ _ _ a b => Int.le_antisymm a b) hsort M.so (hperm.trans M.pm.symm)⟩⟩
    rintro σ H3 ⟨kp, us, rfl, s3, fk, hK, hU, eks⟩
    have s03 := s02.trans s3
    have lus : us.length ≤ 12 := by
      have e := congrArg List.length eks
      rw [List.length_map, M.len] at e
      omega
    refine ⟨fun σ H' => ∃ mt, σ = [some (.ref A.x), some (.ref m), some (.ref hd), some (oW w'.wa), some (.ref l1), some (.ref l2), some (.ref kp), some (.ref mt), none, none, none] ∧ Same H3 H' ∧ H3 mt = none ∧ H' mt = some (.lst (nV w'.sn)), ?_, ?_⟩
    · have W3 := W.same s03
      exact ⟨_, rfl, A.x, A.dx, _, rfl, W3.ob, wF_met .., A, rs, R, w', rfl, W3, fun mt H' hp s hP => ⟨mt, rfl, s, hp, hP⟩⟩
    rintro σ H4 ⟨mt, rfl, s4, ft, hMt⟩
    have s04 := s03.trans s4
    have hK4 := s4 _ _ hK
    have hU4 : ∀ q ∈ us, H4 q.1 = some (.tup [.int (q.2.1 : Int), .int (q.2.2 : Int)]) := fun q hq => s4 _ _ (hU q hq).1
    have ob4 := s04 _ _ ob
    refine ⟨fun σ H' => σ = [some (.ref A.x), some (.ref m), some (.ref hd), some (oW w'.wa), some (.ref l1), some (.ref l2), some (.ref kp), some (.ref mt), none, none, none] ∧ Same H4 H', ?_, ?_⟩
    · refine ⟨_, rfl, _, rfl, m, _, rfl, dg_marks ob4, L.ka, rfl, ⟨_, SqL.of (s04 _ _ M.ka)⟩, fun D hD => ?_⟩
      refine lc_list (K := K) (a := L.ka) (xs := ks.map V.int) (fun i H' => Same H4 H' ∧ ∃ vs : List (Addr × Nat × Nat), vs.map (·.2) = (us.take i).map (·.2) ∧ H' D = some (.lst (vs.map fun q => V.ref q.1)) ∧ ∀ q ∈ vs, H' q.1 = some (.tup [.int (q.2.1 : Int), .int (q.2.2 : Int)])) ⟨Same.new hD, [], rfl, upd_same, fun q hq => nomatch hq⟩ (fun i H' _ ⟨s, _⟩ => SqL.of (s _ _ (s04 _ _ M.ka))) ?_ ?_
      · rintro i y H' hi ⟨s5, vs, hvs, hQ, hV⟩
        obtain ⟨z, hz, rfl⟩ := get_map hi
        rw [← eks, List.getElem?_map] at hz
        cases eu : us[i]? with
        | none => rw [eu] at hz; cases hz
        | some q =>
          rw [eu] at hz
          have ez : ((q.2.1 : Nat) : Int) = z := Option.some.inj hz
          rw [← ez]
          have qm := List.mem_of_getElem? eu
          have hst := stOf_mem (hU q qm).2.1
          have hq1 := (ok.mo _ hst).1
          have hq2 := tr.ms _ hst
          have lv : vs.length ≤ 12 := by
            have e := congrArg List.length hvs
            rw [List.length_map, List.length_map, List.length_take] at e
            omega
          refine ⟨rfl, ?_⟩
          have e := hat q.2.1 hq1
          rw [← hq2] at e
          refine ⟨_, rfl, _, rfl, m, _, rfl, dg_states (s5 _ _ ob4), _, rfl, L.sa, _, _, _, rfl, rfl, SqL.of (s5 _ _ (s04 _ _ M.sa)), e, by show 2 ≤ sizeLine; decide, fun t ht => ?_⟩
          have w3 := Same.new (o := .tup [.int (q.2.1 : Int), .int (q.2.2 : Int)]) ht
          have hQ3 := w3 _ _ hQ
          refine ⟨_, hQ3, sz5' (by rw [List.length_map]; omega), Same.mut (s5.trans w3) hD, vs ++ [(t, q.2)], ?_, ?_, fun r hr => ?_⟩
          · rw [List.map_append, hvs, take_succ eu, List.map_append] <;> rfl
          · rw [upd_same, List.map_append] <;> rfl
          · rcases List.mem_append.mp hr with z | z
            · have e := w3 _ _ (hV r z)
              rw [upd_ne (ne_of e hQ3 (by intro z; cases z))]
              exact e
            · rw [List.mem_singleton.mp z]
              show upd _ D _ t = _
              rw [upd_ne (ne_of upd_same hQ3 (by intro z; cases z))]
              exact upd_same
      · rintro H5 ⟨s5, vs, hvs, hQ, hV⟩
        have e0 : us.take (ks.map V.int).length = us := List.take_of_length_le (by
          have e := congrArg List.length eks
          rw [List.length_map] at e
          rw [List.length_map]
          omega)
        rw [e0] at hvs
        have sh := pairs_sh (us.map (·.2))
        have dv : Dp K H5 (.ref D) (.list ((us.map (·.2)).map pairD)) := by
          rw [← hvs]
          exact .lst (SqL.of hQ) (pairs_dp hV)
        refine ⟨_, _, .lst (SqL.of (s5 _ _ hK4)) (pairs_dp fun q hq => s5 _ _ (hU4 q hq)), dv, sh.shaped (by decide), sh.shaped (by decide), _, rfl, ?_⟩
        rw [sh.refl]
        refine iteF ?_
        have shn := sh_nats (n := 0) w'.sn
        refine ⟨_, rfl, _, rfl, m, _, rfl, dg_met (s5 _ _ ob4), _, _, .lst (SqL.of (s5 _ _ hMt)) (dp_nats _), .lst (SqL.of (s5 _ _ (s04 _ _ M.ta))) (dp_nats _), shn.shaped (by decide), shn.shaped (by decide), _, rfl, ?_⟩
        rw [shn.refl]
        exact iteF ⟨rfl, s5⟩
    rintro σ H5 ⟨rfl, s5⟩
    have s05 := s04.trans s5
    have hK5 := s5 _ _ hK4
    have hM5 := s5 _ _ hMt
    have hU5 : ∀ q ∈ us, H5 q.1 = some (.tup [.int (q.2.1 : Int), .int (q.2.2 : Int)]) := fun q hq => s5 _ _ (hU4 q hq)
    refine ⟨fun σ H' => H' = H5 ∧ σ = [some (.ref A.x), some (.ref m), some (.ref hd), some (oW w'.wa), some (.ref l1), some (.ref l2), some (.ref kp), some (.ref mt), none, none, none], ?_, ?_⟩
    · refine ⟨_, rfl, .ref kp, _, _, _, true, rfl, .ty "list", .base (.lst hK5), kit_ty (by decide +kernel), true, rfl, iteF ?_⟩
      refine ⟨_, rfl, .ref mt, _, _, _, true, rfl, .ty "list", .base (.lst hM5), kit_ty (by decide +kernel), true, rfl, iteF ?_⟩
      obtain ⟨t, ty, ni⟩ := oW_thg (K := K) (H := H5) w'.wa
      exact ⟨_, rfl, A.x, T.aWalker, A.dx, _, _, rfl, s05 _ _ W.ob, cl, O.nwa, wF_wanted .., oW w'.wa, _, _, _, false, rfl, .ty "bool", ty, ni, false, rfl, iteF ⟨rfl, rfl⟩⟩
    rintro σ H6 ⟨rfl, rfl⟩
    refine ⟨fun σ H' => H' = H6 ∧ ∃ u8, σ = [some (.ref A.x), some (.ref m), some (.ref hd), some (oW w'.wa), some (.ref l1), some (.ref l2), some (.ref kp), some (.ref mt), u8, none, none], ?_, ?_⟩
    · refine ⟨_, rfl, kp, rfl, ⟨_, SqL.of hK5⟩, ?_⟩
      refine for_list (K := K) (a := kp) (xs := refsM us) (fun i σ H' => H' = H6 ∧ ∃ u8, σ = [some (.ref A.x), some (.ref m), some (.ref hd), some (oW w'.wa), some (.ref l1), some (.ref l2), some (.ref kp), some (.ref mt), u8, none, none]) ⟨rfl, _, rfl⟩ (fun i σ H' _ ⟨e, _⟩ => by rw [e]; exact SqL.of hK5) ?_ ?_
      · rintro i y σ H' hi ⟨rfl, u8, rfl⟩
        obtain ⟨q, hq, rfl⟩ := get_map hi
        have hq' := hU5 q (List.mem_of_getElem? hq)
        refine ⟨_, rfl, .ref q.1, _, _, _, true, rfl, .ty "tuple", .base (.tup hq'), kit_ty (by decide +kernel), true, rfl, iteF ?_⟩
        refine ⟨_, rfl, q.1, _, _, .int (q.2.1 : Int), rfl, rfl, SqT.of hq', rfl, .int (q.2.1 : Int), some _, rfl, .int _, _, rfl, iteF ?_⟩
        exact ⟨_, rfl, q.1, _, _, .int (q.2.2 : Int), rfl, rfl, SqT.of hq', rfl, .int (q.2.2 : Int), some _, rfl, .int _, _, rfl, iteF ⟨rfl, _, rfl⟩⟩
      · rintro σ H' ⟨rfl, u8, rfl⟩
        exact ⟨rfl, _, rfl⟩
    rintro σ H7 ⟨rfl, u8, rfl⟩
    refine ⟨fun σ H' => σ = [some (.ref A.x), some (.ref m), some (.ref hd), some (oW w'.wa), some (.ref l1), some (.ref l2), some (.ref kp), some (.ref mt), u8, none, none] ∧ Same H7 H', ?_, ?_⟩
    · refine ⟨_, rfl, mt, rfl, ⟨_, SqL.of hM5⟩, fun D hD' => ?_⟩
      refine lc_list (K := K) (a := mt) (xs := nV w'.sn) (fun j HB => Same H7 HB ∧ HB D = some (.lst ((List.replicate j true).map V.bl))) ⟨Same.new hD', upd_same⟩ (fun j HB _ ⟨sB, _⟩ => SqL.of (sB _ _ hM5)) ?_ ?_
      · rintro j y HB hj ⟨sB, hQ⟩
        have hjl := (List.getElem?_eq_some_iff.mp hj).1
        rw [nV_len] at hjl
        obtain ⟨z, hz, rfl⟩ := get_map hj
        refine ⟨rfl, ?_⟩
        refine ⟨_, rfl, .int (z : Int), some (z : Int), rfl, .int _, _, hQ, sz5' (by rw [List.length_map, List.length_replicate]; omega), Same.mut sB hD', ?_⟩
        rw [upd_same, List.replicate_succ', List.map_append] <;> rfl
      rintro HB ⟨sB, hQ⟩
      exact ⟨D, _, rfl, SqL.of hQ, true, congrArg V.bl (List.all_eq_true.mpr fun b hb => (List.mem_replicate.mp hb).2), iteF ⟨rfl, sB⟩⟩
    rintro σ H8 ⟨rfl, s8⟩
    have s08 := s05.trans s8
    have hK8 := s8 _ _ hK5
    have hM8 := s8 _ _ hM5
    have hU8 : ∀ q ∈ us, H8 q.1 = some (.tup [.int (q.2.1 : Int), .int (q.2.2 : Int)]) := fun q hq => s8 _ _ (hU5 q hq)
    have hH8 := s08 _ _ hH
    have fk0 : H0 kp = none := s02.free fk
    have fm0 : H0 mt = none := s03.free ft
    have fu0 : ∀ q ∈ us, H0 q.1 = none := fun q hq => s02.free (hU q hq).2.2
    have nhk : hd ≠ kp := ne_of_none hH fk0
    have nhm : hd ≠ mt := ne_of_none hH fm0
    have nkm : kp ≠ mt := ne_of_none hK ft
    clear hL1 hL2 s5 s8 hU4 hK4 ob4 s04 s03 s02 hU5 hK5 hM5
    -- the first pair
    refine ⟨fun σ H' => σ = [some (.ref A.x), some (.ref m), some (.ref hd), some (oW w'.wa), some (.ref l1), some (.ref l2), some (.ref kp), some (.ref mt), u8, none, none] ∧ Chg [hd] H8 H' ∧ ∃ t1 c1 z0, H' hd = some (.lst ((ts ++ [t1]).map V.ref)) ∧ H8 t1 = none ∧ H8 c1 = none ∧ H8 z0 = none ∧ H' t1 = some (.tup [.ref kp, .ref c1]) ∧ H' c1 = some (.lst (refsM us ++ [.ref z0])) ∧ H' z0 = some (.tup [.int 0, .int 0]), ?_, ?_⟩
    · refine ⟨_, rfl, .inl ⟨rfl, _, SqL.of hH8⟩, _, rfl, _, rfl, by show 2 ≤ sizeLine; decide, fun z0 hz0 => ?_⟩
      have y1 := Same.new (o := .tup [.int 0, .int 0]) hz0
      refine ⟨by show 1 ≤ sizeLine; decide, fun l0 hl0 => ?_⟩
      have y2 := Same.new (o := .lst [.ref z0]) hl0
      have y12 := y1.trans y2
      refine ⟨kp, l0, _, _, rfl, rfl, y12 _ _ hK8, upd_same, sz5 (by show (us.map _).length + 1 ≤ 100000; rw [List.length_map]; omega), fun c1 hc1 => ?_⟩
      have y3 := Same.new (o := .lst (refsM us ++ [.ref z0])) hc1
      refine ⟨by show 2 ≤ sizeLine; decide, fun t1 ht1 => ?_⟩
      have y4 := Same.new (o := .tup [.ref kp, .ref c1]) ht1
      have y34 := y3.trans y4
      have y14 := y12.trans y34
      have hz0' := (y2.trans y34) _ _ (upd_same (H := H8) (a := z0) (o := HO.tup [.int 0, .int 0]))
      have hc1' := y4 _ _ (upd_same (a := c1) (o := HO.lst (refsM us ++ [.ref z0])) (H := upd (upd H8 z0 (.tup [.int 0, .int 0])) l0 (.lst [.ref z0])))
      have fc1 := y12.free hc1
      have ft1 := y12.free (y3.free ht1)
      refine ⟨hd, _, _, rfl, rfl, y14 _ _ hH8, sz5' (by rw [List.length_map]; omega), rfl, (Chg.of_same y14).trans Chg.upd, t1, c1, z0, ?_, ft1, fc1, hz0, ?_, ?_, ?_⟩
      · rw [upd_same, List.map_append] <;> rfl
      · rw [upd_ne (ne_of_none hH8 ft1).symm]
        exact upd_same
      · rw [upd_ne (ne_of_none hH8 fc1).symm]
        exact hc1'
      · rw [upd_ne (ne_of_none hH8 hz0).symm]
        exact hz0'
    rintro σ H9 ⟨rfl, c9, t1, c1, z0, hH9, ft1, fc1, fz0, hT1, hC1, hZ0⟩
    have nn : ∀ {b : Addr}, b ≠ hd → b ∉ [hd] := fun h z => h (List.mem_singleton.mp z)
    have hK9 := c9 _ _ hK8 (nn nhk.symm)
    have hM9 := c9 _ _ hM8 (nn nhm.symm)
    have tn : ∀ {H' : Hp} {b : Addr} {xs : List V}, H8 b = some (.tup xs) → b ≠ hd := fun h => ne_of h hH8 (by intro z; cases z)
    have hU9 : ∀ q ∈ us, H9 q.1 = some (.tup [.int (q.2.1 : Int), .int (q.2.2 : Int)]) := fun q hq => c9 _ _ (hU8 q hq) (nn (tn (H' := H8) (hU8 q hq)))
    -- the second pair
    refine ⟨fun σ H' => σ = [some (.ref A.x), some (.ref m), some (.ref hd), some (oW w'.wa), some (.ref l1), some (.ref l2), some (.ref kp), some (.ref mt), u8, none, none] ∧ Chg [hd] H9 H' ∧ ∃ t2 c2, H' hd = some (.lst ((ts ++ [t1, t2]).map V.ref)) ∧ H9 t2 = none ∧ H9 c2 = none ∧ H' t2 = some (.tup [.ref mt, .ref c2]) ∧ H' c2 = some (.lst (nV (w'.sn ++ [0]))), ?_, ?_⟩
    · refine ⟨_, rfl, .inl ⟨rfl, _, SqL.of hH9⟩, _, rfl, _, rfl, by show 1 ≤ sizeLine; decide, fun l0 hl0 => ?_⟩
      have y2 := Same.new (o := .lst [.int 0]) hl0
      refine ⟨mt, l0, _, _, rfl, rfl, y2 _ _ hM9, upd_same, sz5 (by rw [nV_len]; show w'.sn.length + 1 ≤ 100000; omega), fun c2 hc2 => ?_⟩
      have y3 := Same.new (o := .lst (nV w'.sn ++ [.int 0])) hc2
      refine ⟨by show 2 ≤ sizeLine; decide, fun t2 ht2 => ?_⟩
      have y4 := Same.new (o := .tup [.ref mt, .ref c2]) ht2
      have y34 := y3.trans y4
      have y14 := y2.trans y34
      have hc2' := y4 _ _ (upd_same (a := c2) (o := HO.lst (nV w'.sn ++ [.int 0])) (H := upd H9 l0 (.lst [.int 0])))
      have fc2 := y2.free hc2
      have ft2 := y2.free (y3.free ht2)
      refine ⟨hd, _, _, rfl, rfl, y14 _ _ hH9, sz5' (by rw [List.length_map, List.length_append]; show ts.length + 1 < 100000; omega), rfl, (Chg.of_same y14).trans Chg.upd, t2, c2, ?_, ft2, fc2, ?_, ?_⟩
      · rw [upd_same, show ts ++ [t1, t2] = (ts ++ [t1]) ++ [t2] by rw [List.append_assoc] <;> rfl, List.map_append (l₁ := ts ++ [t1])] <;> rfl
      · rw [upd_ne (ne_of_none hH9 ft2).symm]
        exact upd_same
      · rw [upd_ne (ne_of_none hH9 fc2).symm, hc2']
        unfold nV
        rw [List.map_append] <;> rfl
    rintro σ HA ⟨rfl, cA, t2, c2, hHA, ft2, fc2, hT2, hC2⟩
    have ntd : ∀ {b : Addr}, H8 b = none → b ≠ hd := fun h => (ne_of_none hH8 h).symm
    have hKA := cA _ _ hK9 (nn nhk.symm)
    have hMA := cA _ _ hM9 (nn nhm.symm)
    have hUA : ∀ q ∈ us, HA q.1 = some (.tup [.int (q.2.1 : Int), .int (q.2.2 : Int)]) := fun q hq => cA _ _ (hU9 q hq) (nn (tn (H' := H8) (hU8 q hq)))
    have hT1A := cA _ _ hT1 (nn (ntd ft1))
    have hC1A := cA _ _ hC1 (nn (ntd fc1))
    have hZ0A := cA _ _ hZ0 (nn (ntd fz0))
    have c8A := c9.trans cA
    have f8 : ∀ {b : Addr}, b ≠ hd → H9 b = none → H8 b = none := fun n h => c9.free (nn n) h
    have n2d : t2 ≠ hd := (ne_of_none hH9 ft2).symm
    have nc2d : c2 ≠ hd := (ne_of_none hH9 fc2).symm
    -- kept is changed
    refine ⟨fun σ H' => σ = [some (.ref A.x), some (.ref m), some (.ref hd), some (oW w'.wa), some (.ref l1), some (.ref l2), some (.ref kp), some (.ref mt), u8, none, none] ∧ Chg [kp] HA H' ∧ ∃ z1, HA z1 = none ∧ H' z1 = some (.tup [.int 0, .int 0]) ∧ H' kp = some (.lst (refsM us ++ [.ref z1])), ?_, ?_⟩
    · refine ⟨_, rfl, .inl ⟨rfl, _, SqL.of hKA⟩, by show 2 ≤ sizeLine; decide, fun z1 hz1 => ?_⟩
      have y1 := Same.new (o := .tup [.int 0, .int 0]) hz1
      refine ⟨kp, _, _, rfl, rfl, y1 _ _ hKA, sz5' (by show (us.map _).length < 100000; rw [List.length_map]; omega), rfl, (Chg.of_same y1).trans Chg.upd, z1, hz1, ?_, upd_same⟩
      rw [upd_ne (ne_of_none hKA hz1).symm]
      exact upd_same
    rintro σ HB ⟨rfl, cB, z1, fz1, hZ1, hKB⟩
    have nk : ∀ {b : Addr}, b ≠ kp → b ∉ [kp] := fun h z => h (List.mem_singleton.mp z)
    have hMB := cB _ _ hMA (nk nkm.symm)
    -- met is changed
    refine ⟨fun σ H' => σ = [some (.ref A.x), some (.ref m), some (.ref hd), some (oW w'.wa), some (.ref l1), some (.ref l2), some (.ref kp), some (.ref mt), u8, none, none] ∧ Chg [mt] HB H' ∧ H' mt = some (.lst (nV (w'.sn ++ [0]))), ?_, ?_⟩
    · refine ⟨_, rfl, .inl ⟨rfl, _, SqL.of hMB⟩, mt, _, _, rfl, rfl, hMB, sz5' (by rw [nV_len]; omega), rfl, Chg.upd, ?_⟩
      rw [upd_same]
      unfold nV
      rw [List.map_append] <;> rfl
    rintro σ HC ⟨rfl, cC, hMC⟩
    have nm : ∀ {b : Addr}, b ≠ mt → b ∉ [mt] := fun h z => h (List.mem_singleton.mp z)
    -- all of it behind HA
    have keep : ∀ {b : Addr} {o : HO}, HA b = some o → b ≠ kp → b ≠ mt → HC b = some o := fun h h1 h2 => cC _ _ (cB _ _ h (nk h1)) (nm h2)
    have lk : ∀ {b : Addr} {xs : List V}, HA b = some (.tup xs) → b ≠ kp ∧ b ≠ mt := fun h => ⟨ne_of h hKA (by intro z; cases z), ne_of h hMA (by intro z; cases z)⟩
    have old : ∀ {b : Addr}, H8 b = none → H0 b = none := fun h => s08.free h
    have ch : Chg [hd] H0 HC := fun b o h n => by
      have h8 := s08 b o h
      have hA := c8A b o h8 n
      exact keep hA (ne_of_none h fk0) (ne_of_none h fm0)
    have at_ : ∀ {b : Addr} {o : HO}, H0 b = none → HC b = some o → New H0 HC b = some o := fun h1 h2 => by rw [New.at h1]; exact h2
    have nkc1 : kp ≠ c1 := ne_of_none hK8 fc1
    have nmc1 : mt ≠ c1 := ne_of_none hM8 fc1
    have nkc2 : kp ≠ c2 := ne_of_none hK9 fc2
    have nmc2 : mt ≠ c2 := ne_of_none hM9 fc2
    have fz1' : z1 ≠ hd := (ne_of_none hHA fz1).symm
    have fz1'' : H8 z1 = none := c8A.free (nn fz1') fz1
    have nz1m : z1 ≠ mt := (ne_of_none hMA fz1).symm
    refine k HC t1 t2 ch ?_ ⟨kp, c1, at_ (old ft1) (keep hT1A (lk hT1A).1 (lk hT1A).2), .inr ⟨us ++ [(z1, 0, 0)], us ++ [(z0, 0, 0)], by rw [List.map_append, List.map_append] <;> rfl, at_ fk0 ?_, at_ (old fc1) ?_, fun q hq => ?_, fun q hq => ?_⟩⟩ ⟨mt, c2, at_ (old (f8 n2d ft2)) (keep hT2 (lk hT2).1 (lk hT2).2), .inl ⟨w'.sn ++ [0], at_ fm0 hMC, at_ (old (f8 nc2d fc2)) (keep hC2 nkc2.symm nmc2.symm)⟩⟩
    · exact keep hHA nhk nhm
    · rw [cC _ _ hKB (nm nkm), List.map_append] <;> rfl
    · rw [keep hC1A nkc1.symm nmc1.symm, List.map_append] <;> rfl
    · rcases List.mem_append.mp hq with z | z
      · exact at_ (fu0 q z) (keep (hUA q z) (lk (hUA q z)).1 (lk (hUA q z)).2)
      · rw [List.mem_singleton.mp z]
        exact at_ (old fz1'') (cC _ _ hZ1 (nm nz1m))
    · rcases List.mem_append.mp hq with z | z
      · exact at_ (fu0 q z) (keep (hUA q z) (lk (hUA q z)).1 (lk (hUA q z)).2)
      · rw [List.mem_singleton.mp z]
        exact at_ (old fz0) (keep hZ0A (lk hZ0A).1 (lk hZ0A).2)
-- @@ _law_room
def sp_l_room (K : PySem.W.Frag) : Sp := fun vs H Q _ => ∃ (a : Addr) (ns : List Int), vs = [.ref a] ∧ SqL K H a (ns.map V.int) ∧ ∀ R : Nat, 1 ≤ R → R ≤ 12 → Q (.int (R : Int)) H
theorem ok_l_room (T : Txt K mg) : OkF P w K mg base "_law_room" 2 ["_law_script"] (sp_l_room K) := by
  obtain ⟨f_l_cell_at, fd_l_cell_at, m_l_cell_at, k_l_cell_at, b_l_cell_at, G_l_cell_at⟩ := ok_l_cell_at (P := P) (w := w) (base := base) T
  refine okf T.d_l_room sc_l_room (fun vs H Q E h => ?_) (fun f cdv A outer s H vs Q E hr h => ?_)
  · obtain ⟨a, ns, rfl, hS, k⟩ := h
    rfl
  · obtain ⟨a, ns, rfl, hS, k⟩ := h
    refine ⟨_, (Evl.pss_cut (ps_set (i := 1) sc_l_room.nd rfl (Or.inl rfl) (pe_op op_add pe_int (pe_op op_mod (pe_call G_l_cell_at (hr.mono (by decide)) (by rfl) m_l_cell_at k_l_cell_at b_l_cell_at .nil passL (pa_cons (pv 0) (pa_cons pe_int pa_nil))) pe_int)))
        (Evl.pss_cut (ps_if (pt_cmpR op_eq (pe_op op_mod (pe_op op_fdiv (pe_call G_l_cell_at (hr.mono (by decide)) (by rfl) m_l_cell_at k_l_cell_at b_l_cell_at .nil passL (pa_cons (pv 0) (pa_cons pe_int pa_nil))) pe_int) pe_int) pe_int (nomark _))
        (pss_one (ps_set (i := 1) sc_l_room.nd rfl (Or.inl rfl) pe_int))
        pss_nil)
        (pss_one (ps_ret (pv 1))))), ?_⟩
    refine ⟨fun σ H' => H' = H ∧ ∃ R : Nat, 1 ≤ R ∧ R ≤ 12 ∧ σ = [some (.ref a), some (.int (R : Int))], ?_, ?_⟩
    · obtain ⟨r0, hr0, er0⟩ := rem_nat (z := cellAt ns 1) (m := 4) (by decide)
      refine ⟨_, rfl, a, ns, 1, rfl, hS, _, _, rfl, rfl, by show (0 : Int) < 4; decide, _, _, rfl, rfl, rfl, 1 + r0, by omega, by omega, ?_⟩
      rw [Int.natCast_add, ← er0] <;> rfl
    rintro σ H' ⟨rfl, R, h1, h2, rfl⟩
    refine ⟨fun σ H1 => H1 = H' ∧ ∃ R : Nat, 1 ≤ R ∧ R ≤ 12 ∧ σ = [some (.ref a), some (.int (R : Int))], ?_, ?_⟩
    · refine ⟨_, rfl, a, ns, 1, rfl, hS, _, _, rfl, rfl, ⟨by decide, by decide⟩, _, _, rfl, rfl, by show (0 : Int) < 8; decide, rfl, _, rfl, ?_⟩
      exact ite2 (fun _ => ⟨rfl, 12, by decide, by decide, rfl⟩) (fun _ => ⟨rfl, R, h1, h2, rfl⟩)
    rintro σ H1 ⟨rfl, R, h1, h2, rfl⟩
    exact ⟨_, rfl, k R h1 h2⟩
-- @@ _law_ahead
def sp_l_ahead (K : PySem.W.Frag) : Sp := fun vs H Q _ => ∃ (a : Addr) (ns : List Int) (m : Nat), vs = [.ref a, .int (m : Int)] ∧ SqL K H a (ns.map V.int) ∧ ns.length ≤ 63 ∧ m ≤ 12 ∧
  ∀ (p : Addr) (H' : Hp) (as : List (Addr × Deed)), H p = none → Same H H' → H' p = some (.lst (refs as)) → DS H' as → as.length ≤ 7 → (∀ q ∈ as, q.2.ok) → Q (.ref p) H'
theorem ok_l_ahead (T : Txt K mg) : OkF P w K mg base "_law_ahead" 2 ["_law_script", "_law_many"] (sp_l_ahead K) := by
  obtain ⟨f_l_number, fd_l_number, m_l_number, k_l_number, b_l_number, G_l_number⟩ := ok_l_number (P := P) (w := w) (base := base) T
  refine okf T.d_l_ahead sc_l_ahead (fun vs H Q E h => ?_) (fun f cdv A outer s H vs Q E hr h => ?_)
  · obtain ⟨a, ns, m, rfl, hS, hl, hm, k⟩ := h
    rfl
  · obtain ⟨a, ns, m, rfl, hS, hl, hm, k⟩ := h
    refine ⟨_, (Evl.pss_cut (ps_set (i := 2) sc_l_ahead.nd rfl (Or.inl rfl) (pe_call G_l_number (hr.mono (by decide)) (by rfl) m_l_number k_l_number b_l_number .nil passL (pa_cons (pv 0) (pa_cons pe_int pa_nil))))
        (Evl.pss_cut (ps_if (PW.pt (pw_or (pt_cmpR op_eq (pe_op op_mod (pv 2) pe_int) pe_int (nomark _)) (pw_or1 (pt_cmpR op_lt (pv 1) pe_int (nomark _)))))
        (pss_one (ps_ret (pe_lst pa_nil)))
        pss_nil)
        (Evl.pss_cut (ps_set (i := 3) sc_l_ahead.nd rfl (Or.inl rfl) (pe_op op_add pe_int (pe_op op_mod (pe_op op_fdiv (pv 2) pe_int) (pe_op op_sub (pv 1) pe_int))))
        (Evl.pss_cut (ps_set (i := 4) sc_l_ahead.nd rfl (Or.inl rfl) (pe_op op_add pe_int (pe_op op_mod (pe_op op_fdiv (pv 2) pe_int) (pe_op op_sub (pv 3) pe_int))))
        (Evl.pss_cut (ps_set (i := 5) sc_l_ahead.nd rfl (Or.inl rfl) (pe_lst (pa_cons (pe_tup (pa_cons pe_str pa_nil)) (pa_cons (pe_tup (pa_cons pe_str (pa_cons (pv 3) pa_nil))) (pa_cons (pe_tup (pa_cons pe_str pa_nil)) (pa_cons (pe_tup (pa_cons pe_str (pa_cons pe_int pa_nil))) (pa_cons (pe_tup (pa_cons pe_str (pa_cons (pv 4) pa_nil))) (pa_cons (pe_tup (pa_cons pe_str pa_nil)) (pa_cons (pe_tup (pa_cons pe_str (pa_cons (pv 3) pa_nil))) pa_nil)))))))))
        (pss_one (ps_ret (pe_slice sl_list (pv 5) po_none (po_some (pe_op op_add pe_int (pe_op op_mod (pe_op op_fdiv (pv 2) pe_int) pe_int))))))))))), ?_⟩
    refine ⟨fun σ H' => H' = H ∧ ∃ c : Int, σ = [some (.ref a), some (.int (m : Int)), some (.int c), none, none, none], ⟨_, rfl, a, ns, 2, rfl, hS, hl, by omega, rfl, _, rfl⟩, ?_⟩
    rintro σ H0 ⟨rfl, c, rfl⟩
    have none_ : ∀ p, H0 p = none → Q (.ref p) (upd H0 p (.lst [])) := fun p hp => k p _ [] hp (Same.new hp) upd_same (fun q hq => nomatch hq) (by decide) (fun q hq => nomatch hq)
    refine ⟨fun σ H' => H' = H0 ∧ 2 ≤ m ∧ σ = [some (.ref a), some (.int (m : Int)), some (.int c), none, none, none], ?_, ?_⟩
    · refine ⟨_, rfl, _, _, rfl, rfl, by show (0 : Int) < 2; decide, rfl, _, rfl, ?_⟩
      refine ite2 (fun _ => iteT ⟨by show 0 ≤ sizeLine; decide, none_⟩) (fun _ => ?_)
      refine ⟨_, rfl, _, _, rfl, rfl, _, rfl, ?_⟩
      exact ite2 (fun _ => ⟨by show 0 ≤ sizeLine; decide, none_⟩) (fun q => ⟨rfl, by have q : ¬ (m : Int) < 2 := fun z => q (decide_eq_true z); omega, rfl⟩)
    rintro σ H1 ⟨rfl, hm2, rfl⟩
    refine ⟨fun σ H' => H' = H1 ∧ ∃ fr : Nat, 2 ≤ fr ∧ fr ≤ 12 ∧ σ = [some (.ref a), some (.int (m : Int)), some (.int c), some (.int (fr : Int)), none, none], ?_, ?_⟩
    · obtain ⟨j, hj, ej⟩ := rem_nat (z := c / 2) (m := (m : Int) - 1) (by omega)
      refine ⟨_, rfl, _, _, rfl, rfl, ⟨by decide, by decide⟩, _, rfl, _, _, rfl, rfl, _, _, rfl, rfl, by show (0 : Int) < (m : Int) - 1; omega, _, _, rfl, rfl, rfl, 2 + j, by omega, by omega, ?_⟩
      rw [Int.natCast_add, ← ej] <;> rfl
    rintro σ H2 ⟨rfl, fr, f1, f2, rfl⟩
    refine ⟨fun σ H' => H' = H2 ∧ ∃ nr : Nat, 1 ≤ nr ∧ nr ≤ 12 ∧ σ = [some (.ref a), some (.int (m : Int)), some (.int c), some (.int (fr : Int)), some (.int (nr : Int)), none], ?_, ?_⟩
    · obtain ⟨j, hj, ej⟩ := rem_nat (z := c / 26) (m := (fr : Int) - 1) (by omega)
      refine ⟨_, rfl, _, _, rfl, rfl, ⟨by decide, by decide⟩, _, rfl, _, _, rfl, rfl, _, _, rfl, rfl, by show (0 : Int) < (fr : Int) - 1; omega, _, _, rfl, rfl, rfl, 1 + j, by omega, by omega, ?_⟩
      rw [Int.natCast_add, ← ej] <;> rfl
    rintro σ H3 ⟨rfl, nr, n1, n2, rfl⟩
    refine ⟨fun σ H' => ∃ (g : Addr) (gs : List (Addr × Deed)), σ = [some (.ref a), some (.int (m : Int)), some (.int c), some (.int (fr : Int)), some (.int (nr : Int)), some (.ref g)] ∧ Same H3 H' ∧ H' g = some (.lst (refs gs)) ∧ DS H' gs ∧ gs.length = 7 ∧ ∀ q ∈ gs, q.2.ok, ?_, ?_⟩
    · refine ⟨by show 1 ≤ sizeLine; decide, fun t1 h1 => ?_⟩
      refine ⟨_, rfl, by show 2 ≤ sizeLine; decide, fun t2 h2 => ?_⟩
      refine ⟨by show 1 ≤ sizeLine; decide, fun t3 h3 => ?_⟩
      refine ⟨by show 2 ≤ sizeLine; decide, fun t4 h4 => ?_⟩
      refine ⟨_, rfl, by show 2 ≤ sizeLine; decide, fun t5 h5 => ?_⟩
      refine ⟨by show 1 ≤ sizeLine; decide, fun t6 h6 => ?_⟩
      refine ⟨_, rfl, by show 2 ≤ sizeLine; decide, fun t7 h7 => ?_⟩
      refine ⟨by show 7 ≤ sizeLine; decide, fun g hg => ?_⟩
      have w1 := Same.new (o := .tup [.str "keep"]) h1
      have w2 := Same.new (o := .tup [.str "go", .int (fr : Int)]) h2
      have w3 := Same.new (o := .tup [.str "keep"]) h3
      have w4 := Same.new (o := .tup [.str "take", .int 0]) h4
      have w5 := Same.new (o := .tup [.str "go", .int (nr : Int)]) h5
      have w6 := Same.new (o := .tup [.str "keep"]) h6
      have w7 := Same.new (o := .tup [.str "take", .int (fr : Int)]) h7
      have w8 := Same.new (o := .lst [.ref t1, .ref t2, .ref t3, .ref t4, .ref t5, .ref t6, .ref t7]) hg
      have s7 := w7.trans w8
      have s6 := w6.trans s7
      have s5 := w5.trans s6
      have s4 := w4.trans s5
      have s3 := w3.trans s4
      have s2 := w2.trans s3
      refine ⟨g, [(t1, .keep), (t2, .go fr), (t3, .keep), (t4, .take 0), (t5, .go nr), (t6, .keep), (t7, .take fr)], rfl, w1.trans s2, upd_same, fun q hq => ?_, rfl, fun q hq => ?_⟩
      · simp only [List.mem_cons, List.not_mem_nil, or_false] at hq
        rcases hq with rfl | rfl | rfl | rfl | rfl | rfl | rfl
        · exact s2 _ _ upd_same
        · exact s3 _ _ upd_same
        · exact s4 _ _ upd_same
        · exact s5 _ _ upd_same
        · exact s6 _ _ upd_same
        · exact s7 _ _ upd_same
        · exact w8 _ _ upd_same
      · simp only [List.mem_cons, List.not_mem_nil, or_false] at hq
        rcases hq with rfl | rfl | rfl | rfl | rfl | rfl | rfl
        · trivial
        · show 1 ≤ fr ∧ fr ≤ 100; omega
        · trivial
        · exact Nat.zero_le _
        · show 1 ≤ nr ∧ nr ≤ 100; omega
        · trivial
        · show fr ≤ 100; omega
    rintro σ H4 ⟨g, gs, rfl, s4, hG, hD, hg7, hok⟩
    obtain ⟨j, hj, ej⟩ := rem_nat (z := c / 500) (m := 4) (by decide)
    refine ⟨_, rfl, _, rfl, _, _, rfl, rfl, ⟨by decide, by decide⟩, _, _, rfl, rfl, by show (0 : Int) < 4; decide, _, _, rfl, rfl, _, rfl, g, _, rfl, SqL.of hG, fun p hp => ?_⟩
    rw [show ((4 : Int) + c / 500 % 4) = ((4 + j : Nat) : Int) by omega, cut_lo]
    refine k p _ (gs.take (4 + j)) (s4.free hp) (s4.trans (Same.new hp)) ?_ (fun q hq => (hD.same (Same.new hp)) q (List.mem_of_mem_take hq)) (by rw [List.length_take]; omega) (fun q hq => hok q (List.mem_of_mem_take hq))
    rw [upd_same]
    unfold refs
    rw [List.map_take]
-- @@ law
def oddD : List PyData := [.tuple [.str "go", .int 0], .tuple [.str "go", .int 101], .tuple [.str "take", .int (-1)], .tuple [.str "keep", .int 1], .tuple [.str "go", .str "1"]]
theorem oddD_sh : Sh 2 (.list oddD) := .lst fun d hd => by
  simp only [oddD, List.mem_cons, List.not_mem_nil, or_false] at hd
  rcases hd with rfl | rfl | rfl | rfl | rfl
  · exact .tup fun e he => by
      simp only [List.mem_cons, List.not_mem_nil, or_false] at he
      rcases he with rfl | rfl
      · exact .str (by decide +kernel)
      · exact .int _
  · exact .tup fun e he => by
      simp only [List.mem_cons, List.not_mem_nil, or_false] at he
      rcases he with rfl | rfl
      · exact .str (by decide +kernel)
      · exact .int _
  · exact .tup fun e he => by
      simp only [List.mem_cons, List.not_mem_nil, or_false] at he
      rcases he with rfl | rfl
      · exact .str (by decide +kernel)
      · exact .int _
  · exact .tup fun e he => by
      simp only [List.mem_cons, List.not_mem_nil, or_false] at he
      rcases he with rfl | rfl
      · exact .str (by decide +kernel)
      · exact .int _
  · exact .tup fun e he => by
      simp only [List.mem_cons, List.not_mem_nil, or_false] at he
      rcases he with rfl | rfl
      · exact .str (by decide +kernel)
      · exact .str (by decide +kernel)
theorem odd_not {d : Deed} (ok : d.ok) : (oddD.any fun z => PyData.eqv z d.pd) = false := by
  have w1 : (Str.ofString "go" == Str.ofString "take") = false := by decide +kernel
  have w2 : (Str.ofString "take" == Str.ofString "go") = false := by decide +kernel
  have w3 : (Str.ofString "keep" == Str.ofString "take") = false := by decide +kernel
  have w4 : (Str.ofString "go" == Str.ofString "drop") = false := by decide +kernel
  have w5 : (Str.ofString "take" == Str.ofString "drop") = false := by decide +kernel
  have w6 : (Str.ofString "keep" == Str.ofString "drop") = false := by decide +kernel
  have w7 : (Str.ofString "keep" == Str.ofString "go") = false := by decide +kernel
  have w8 : (Str.ofString "go" == Str.ofString "keep") = false := by decide +kernel
  have w9 : (Str.ofString "take" == Str.ofString "keep") = false := by decide +kernel
  cases d with
  | keep => simp [oddD, Deed.pd, PyData.eqv, PyData.eqvAll]
  | meet => simp [oddD, Deed.pd, PyData.eqv, PyData.eqvAll]
  | take p =>
    have e : ((-1 : Int) == (p : Int)) = false := by
      have : ¬ (-1 : Int) = (p : Int) := by omega
      simpa using this
    simp only [oddD, Deed.pd, PyData.eqv, PyData.eqvAll, List.any_cons, List.any_nil, w1, w3, e, Bool.false_and, Bool.and_false, Bool.or_false]
  | drop p => simp only [oddD, Deed.pd, PyData.eqv, PyData.eqvAll, List.any_cons, List.any_nil, w4, w5, w6, Bool.false_and, Bool.or_false]
  | go n =>
    have ok : 1 ≤ n ∧ n ≤ 100 := ok
    have e1 : ((0 : Int) == (n : Int)) = false := by
      have : ¬ (0 : Int) = (n : Int) := by omega
      simpa using this
    have e2 : ((101 : Int) == (n : Int)) = false := by
      have : ¬ (101 : Int) = (n : Int) := by omega
      simpa using this
    simp only [oddD, Deed.pd, PyData.eqv, PyData.eqvAll, List.any_cons, List.any_nil, w2, w7, e1, e2, Bool.false_and, Bool.and_false, Bool.or_false]
theorem refW_sh (i : Nat) (h : i < 8) : Sh 1 (.tuple [.str "refused", .str (words8.getD i "")]) := .tup fun d hd => by
  simp only [List.mem_cons, List.not_mem_nil, or_false] at hd
  rcases hd with rfl | rfl
  · exact .str (by decide +kernel)
  · exact .str (eight (P := fun i => (PyData.str (words8.getD i "")).canLay0 = true) h (by decide +kernel) (by decide +kernel) (by decide +kernel) (by decide +kernel) (by decide +kernel) (by decide +kernel) (by decide +kernel) (by decide +kernel))
theorem refW_dp {K : PySem.W.Frag} {H : Hp} {t : Addr} {w : Str} (h : H t = some (.tup [.str "refused", .str w])) : Dp K H (.ref t) (.tuple [.str "refused", .str w]) := .tup (SqT.of h) (.cons (.str _) (.cons (.str _) .nil))
theorem Half.fix {C : Addr} {M : List Addr} {H : Hp} {s : Side} {w : WK} (h : Half C M H s w w) : ∃ L ks, MAt H s.m L s.f s.R (s.rs.map (·.2)) w ks ∧ L.sa ∉ M ∧ L.ka ∉ M ∧ L.ta ∉ M := h.mo
theorem Rst.rules {M : List Addr} {H : Hp} {rs : List (Addr × Rule)} (h : RS (Rst M H) rs) : RS H rs := h.same Rst.sub
/-- what is due of a deed, and how the models stand -/
def Due5 (K : PySem.W.Frag) (C : Addr) (H : Hp) (S T : Side) (hd : Addr) (w v : WK) (k : Nat) (j : Nat) (x dv : V) : Prop :=
  (Bad5 K H x ∧ Sys C H S T hd w w v v k ∧ ∃ t, dv = .ref t ∧ H t = some (.tup [.str "refused", .str "deed"])) ∨
  (∃ (a : Addr) (d : Deed), x = .ref a ∧ H a = some (.tup d.vs) ∧ d.ok ∧
    ((∃ i t, (if j = 0 then stepK (S.rs.map (·.2)) S.R w d else stepK (T.rs.map (·.2)) T.R v d) = .error i ∧ Sys C H S T hd w w v v k ∧ dv = .ref t ∧ H t = some (.tup [.str "refused", .str (words8.getD i "")])) ∨
     (dv = .non ∧ ((j = 0 ∧ ∃ u, stepK (S.rs.map (·.2)) S.R w d = .ok u ∧ Sys C H S T hd w u v v k) ∨ (j = 1 ∧ ∃ u, stepK (T.rs.map (·.2)) T.R v d = .ok u ∧ Sys C H S T hd w w v u k)))))
theorem stepK_two (rs : List Rule) (R : Nat) (w : WK) (d : Deed) : (∃ u, stepK rs R w d = .ok u) ∨ ∃ i, stepK rs R w d = .error i := by
  cases stepK rs R w d with
  | ok u => exact .inl ⟨u, rfl⟩
  | error i => exact .inr ⟨i, rfl⟩
theorem ok_law_at (T : Txt K mg) {f : Addr} {fd : FuncData} (F : Fun K "law" "law" s_law f fd) : FnOk P w K mg base (L2.CX P w) 7 f fd ["_law_script"] (sp_law K) := by
  obtain ⟨f_l_room, fd_l_room, m_l_room, k_l_room, b_l_room, G_l_room⟩ := ok_l_room (P := P) (w := w) (base := base) T
  obtain ⟨f_l_row, fd_l_row, m_l_row, k_l_row, b_l_row, G_l_row⟩ := ok_l_row (P := P) (w := w) (base := base) T
  obtain ⟨f_Walker_init, fd_Walker_init, M_Walker_init, b_Walker_init, G_Walker_init⟩ := ok_Walker_init (P := P) (w := w) (base := base) T
  obtain ⟨f_l_new, fd_l_new, m_l_new, k_l_new, b_l_new, G_l_new⟩ := ok_l_new (P := P) (w := w) (base := base) T
  obtain ⟨f_l_ahead, fd_l_ahead, m_l_ahead, k_l_ahead, b_l_ahead, G_l_ahead⟩ := ok_l_ahead (P := P) (w := w) (base := base) T
  obtain ⟨f_l_deed, fd_l_deed, m_l_deed, k_l_deed, b_l_deed, G_l_deed⟩ := ok_l_deed (P := P) (w := w) (base := base) T
  obtain ⟨f_l_number, fd_l_number, m_l_number, k_l_number, b_l_number, G_l_number⟩ := ok_l_number (P := P) (w := w) (base := base) T
  obtain ⟨f_l_do, fd_l_do, m_l_do, k_l_do, b_l_do, G_l_do⟩ := ok_l_do (P := P) (w := w) (base := base) T
  obtain ⟨f_l_told, fd_l_told, m_l_told, k_l_told, b_l_told, G_l_told⟩ := ok_l_told (P := P) (w := w) (base := base) T
  obtain ⟨f_l_right, fd_l_right, m_l_right, k_l_right, b_l_right, G_l_right⟩ := ok_l_right (P := P) (w := w) (base := base) T
  refine F.okX sc_law (fun vs H Q E h => ?_) (fun cdv A outer s H vs Q E hr h => ?_)
  · obtain ⟨a, ns, rfl, hS, hl, k⟩ := h
    rfl
  · obtain ⟨a, ns, rfl, hS, hl, k⟩ := h
    refine ⟨_, (Evl.pss_cut (ps_set (i := 1) sc_law.nd rfl (Or.inl rfl) (pe_call G_l_room (hr.mono (by decide)) (by rfl) m_l_room k_l_room b_l_room .nil passL (pa_cons (pv 0) pa_nil)))
        (Evl.pss_cut (ps_set (i := 2) sc_law.nd rfl (Or.inl rfl) (pe_lst (pa_cons (pe_call G_l_row (hr.mono (by decide)) (by rfl) m_l_row k_l_row b_l_row .nil passL (pa_cons (pv 0) (pa_cons pe_int (pa_cons pe_int pa_nil)))) (pa_cons (pe_call G_l_row (hr.mono (by decide)) (by rfl) m_l_row k_l_row b_l_row .nil passL (pa_cons (pv 0) (pa_cons pe_int (pa_cons pe_int pa_nil)))) pa_nil))))
        (Evl.pss_cut (ps_set (i := 3) sc_law.nd rfl (Or.inl rfl) (pe_lst (pa_cons (pe_callTy (T := "list") (r := rListOf K) call_list_of (by rfl) T.n_list (by decide +kernel) (pa_cons (pe_ix ix_tup (pe_ix ix_list (pv 2) pe_int (fun _ _ => rfl)) pe_int (fun _ _ => rfl)) pa_nil)) (pa_cons (pe_callTy (T := "list") (r := rListOf K) call_list_of (by rfl) T.n_list (by decide +kernel) (pa_cons (pe_ix ix_tup (pe_ix ix_list (pv 2) pe_int (fun _ _ => rfl)) pe_int (fun _ _ => rfl)) pa_nil)) pa_nil))))
        (Evl.pss_cut (ps_set (i := 4) sc_law.nd rfl (Or.inl rfl) (pe_lst (pa_cons (pe_make M_Walker_init G_Walker_init (hr.mono (by decide)) (by rfl) T.o_Walker.mgC b_Walker_init .nil passL (pa_cons (pe_ix ix_tup (pe_ix ix_list (pv 2) pe_int (fun _ _ => rfl)) pe_int (fun _ _ => rfl)) (pa_cons (pe_ix ix_list (pv 3) pe_int (fun _ _ => rfl)) (pa_cons (pv 1) pa_nil)))) (pa_cons (pe_make M_Walker_init G_Walker_init (hr.mono (by decide)) (by rfl) T.o_Walker.mgC b_Walker_init .nil passL (pa_cons (pe_ix ix_tup (pe_ix ix_list (pv 2) pe_int (fun _ _ => rfl)) pe_int (fun _ _ => rfl)) (pa_cons (pe_ix ix_list (pv 3) pe_int (fun _ _ => rfl)) (pa_cons pe_int pa_nil)))) pa_nil))))
        (Evl.pss_cut (ps_set (i := 5) sc_law.nd rfl (Or.inl rfl) (pe_lst (pa_cons (pe_call G_l_new (hr.mono (by decide)) (by rfl) m_l_new k_l_new b_l_new .nil passL (pa_cons (pe_ix ix_tup (pe_ix ix_list (pv 2) pe_int (fun _ _ => rfl)) pe_int (fun _ _ => rfl)) (pa_cons (pe_ix ix_tup (pe_ix ix_list (pv 2) pe_int (fun _ _ => rfl)) pe_int (fun _ _ => rfl)) (pa_cons (pv 1) pa_nil)))) (pa_cons (pe_call G_l_new (hr.mono (by decide)) (by rfl) m_l_new k_l_new b_l_new .nil passL (pa_cons (pe_ix ix_tup (pe_ix ix_list (pv 2) pe_int (fun _ _ => rfl)) pe_int (fun _ _ => rfl)) (pa_cons (pe_ix ix_tup (pe_ix ix_list (pv 2) pe_int (fun _ _ => rfl)) pe_int (fun _ _ => rfl)) (pa_cons pe_int pa_nil)))) pa_nil))))
        (Evl.pss_cut (ps_if (pt_cmpR (op_neD hr.units) (pv 3) (pe_lst (pa_cons (pe_ix ix_tup (pe_ix ix_list (pv 2) pe_int (fun _ _ => rfl)) pe_int (fun _ _ => rfl)) (pa_cons (pe_ix ix_tup (pe_ix ix_list (pv 2) pe_int (fun _ _ => rfl)) pe_int (fun _ _ => rfl)) pa_nil))) (nomark _))
        (pss_one (ps_ret pe_bl))
        pss_nil)
        (Evl.pss_cut (ps_expr (pe_bm0 PySem.F.plainAttrs_list PySem.F.slot_list_clear PySem.F.type_list_clear mt_clear (pe_ix ix_list (pv 3) pe_int (fun _ _ => rfl))))
        (Evl.pss_cut (ps_expr (pe_bm PySem.F.plainAttrs_list PySem.F.slot_list_append PySem.F.type_list_append mt_append (pe_ix ix_list (pv 3) pe_int (fun _ _ => rfl)) (pa_cons pe_non pa_nil)))
        (pss_cons (ps_set (i := 6) sc_law.nd rfl (Or.inl rfl) (pe_lst pa_nil))
        (Evl.pss_cut (ps_set (i := 7) sc_law.nd rfl (Or.inl rfl) (pe_call G_l_ahead (hr.mono (by decide)) (by rfl) m_l_ahead k_l_ahead b_l_ahead .nil passL (pa_cons (pv 0) (pa_cons (pe_callB call_len_seq (by rfl) T.n_len PySem.boot_len (pa_cons (pe_ix ix_tup (pe_ix ix_list (pv 2) pe_int (fun _ _ => rfl)) pe_int (fun _ _ => rfl)) pa_nil)) pa_nil))))
        (Evl.pss_cut (ps_for (passes_of rfl) rfl (pi_range2 (by rfl) T.n_range (pa_cons pe_int (pa_cons (pe_op op_add (pe_callB (call_min2 rfl) (by rfl) T.n_min (by decide +kernel) (pa_cons (pe_callB call_len_seq (by rfl) T.n_len PySem.boot_len (pa_cons (pv 0) pa_nil)) (pa_cons pe_int pa_nil))) (pe_callB call_len_seq (by rfl) T.n_len PySem.boot_len (pa_cons (pv 7) pa_nil))) pa_nil))) (pg_name (i := 8) sc_law.nd rfl (Or.inl rfl))
        (pss_cons (ps_set (i := 9) sc_law.nd rfl (Or.inl rfl) pe_int)
        (Evl.pss_cut (ps_if (pt_cmpR op_lt (pv 8) (pe_op op_add pe_int (pe_callB call_len_seq (by rfl) T.n_len PySem.boot_len (pa_cons (pv 7) pa_nil))) (nomark _))
        (pss_one (ps_set (i := 10) sc_law.nd rfl (Or.inl rfl) (pe_ix ix_list (pv 7) (pe_op op_sub (pv 8) pe_int) (fun _ _ => rfl))))
        (Evl.pss_cut (ps_set (i := 9) sc_law.nd rfl (Or.inl rfl) (pe_callTy (T := "int") call_int1 (by rfl) T.n_int (by decide +kernel) (pa_cons (pe_cmpR op_eq (pe_op op_mod (pe_ix ix_list (pv 0) (pe_op op_sub (pv 8) (pe_callB call_len_seq (by rfl) T.n_len PySem.boot_len (pa_cons (pv 7) pa_nil))) (fun _ _ => rfl)) pe_int) pe_int (nomark _)) pa_nil)))
        (pss_one (ps_set (i := 10) sc_law.nd rfl (Or.inl rfl) (pe_call G_l_deed (hr.mono (by decide)) (by rfl) m_l_deed k_l_deed b_l_deed .nil passL (pa_cons (pe_ix ix_list (pv 5) (pv 9) (fun _ _ => rfl)) (pa_cons (pe_call G_l_number (hr.mono (by decide)) (by rfl) m_l_number k_l_number b_l_number .nil passL (pa_cons (pv 0) (pa_cons (pv 8) pa_nil))) pa_nil)))))))
        (pss_cons (ps_set (i := 11) sc_law.nd rfl (Or.inl rfl) (pe_tup (pa_cons pe_str (pa_cons pe_str pa_nil))))
        (Evl.pss_cut (ps_set (i := 12) sc_law.nd rfl (Or.inl rfl) (pe_lst (pa_cons (pe_tup (pa_cons pe_str (pa_cons pe_int pa_nil))) (pa_cons (pe_tup (pa_cons pe_str (pa_cons pe_int pa_nil))) (pa_cons (pe_tup (pa_cons pe_str (pa_cons (pe_un un_neg pe_int) pa_nil))) (pa_cons (pe_tup (pa_cons pe_str (pa_cons pe_int pa_nil))) (pa_cons (pe_tup (pa_cons pe_str (pa_cons pe_str pa_nil))) pa_nil)))))))
        (Evl.pss_cut (ps_if (PW.pt (pw_and (pt_val (pe_callB call_isi (by rfl) T.n_isinstance (by decide +kernel) (pa_cons (pv 10) (pa_cons (pe_bltn (v := .ty "tuple") (by rfl) T.n_tuple (by decide +kernel) rfl) pa_nil)))) (pw_and (pt_val (pe_callB call_isi (by rfl) T.n_isinstance (by decide +kernel) (pa_cons (pe_ix ix_tup (pv 10) pe_int (fun _ _ => rfl)) (pa_cons (pe_bltn (v := .ty "str") (by rfl) T.n_str (by decide +kernel) rfl) pa_nil)))) (pw_and1 (pt_cmpR (op_notInD (Room_u65 hr)) (pv 10) (pv 12) (by rfl))))))
        (pss_one (ps_if (PW.pt (pw_or (pt_cmpR op_eq (pe_callB call_len_seq (by rfl) T.n_len PySem.boot_len (pa_cons (pv 10) pa_nil)) pe_int (nomark _)) (pw_or1 (pt_cmpR op_notTrue (pe_ix ix_tup (pv 10) pe_int (fun _ _ => rfl)) pe_bl (nomark _)))))
        (pss_one (ps_set (i := 11) sc_law.nd rfl (Or.inl rfl) (pe_call G_l_do (hr.mono (by decide)) (by rfl) m_l_do k_l_do b_l_do .nil passL (pa_cons (pe_ix ix_list (pv 5) (pv 9) (fun _ _ => rfl)) (pa_cons (pv 10) pa_nil)))))
        pss_nil))
        pss_nil)
        (Evl.pss_cut (ps_if (pt_cmpR (op_neD hr.units) (pe_call G_l_told (hr.mono (by decide)) (by rfl) m_l_told k_l_told b_l_told .nil passL (pa_cons (pe_ix ix_list (pv 4) (pv 9) (fun _ _ => rfl)) (pa_cons (pv 10) pa_nil))) (pv 11) (nomark _))
        (pss_one (ps_ret pe_bl))
        pss_nil)
        (pss_one (ps_if (PW.pt (pw_or (pt_not (pt_val (pe_call G_l_right (hr.mono (by decide)) (by rfl) m_l_right k_l_right b_l_right .nil passL (pa_cons (pe_ix ix_list (pv 4) pe_int (fun _ _ => rfl)) (pa_cons (pe_ix ix_list (pv 5) pe_int (fun _ _ => rfl)) (pa_cons (pv 6) pa_nil)))))) (pw_or1 (pt_not (pt_val (pe_call G_l_right (hr.mono (by decide)) (by rfl) m_l_right k_l_right b_l_right .nil passL (pa_cons (pe_ix ix_list (pv 4) pe_int (fun _ _ => rfl)) (pa_cons (pe_ix ix_list (pv 5) pe_int (fun _ _ => rfl)) (pa_cons (pv 6) pa_nil)))))))))
        (pss_one (ps_ret pe_bl))
        pss_nil)))))))))
        (pss_one (ps_ret (pe_cmpR op_eq (pe_callB call_len_seq (by rfl) T.n_len PySem.boot_len (pa_cons (pe_lc (own := [("_law_pair", 13)]) rfl sc_law.nd (pi_list (pv 6)) (blkOk_by (own := [("_law_pair", 13)]) (N := ["_law_script", "_law_room_here", "_law_rows", "_law_handed", "_law_walkers", "_law_models", "_law_held", "_law_ahead_here", "_law_k", "_law_which", "_law_deed_here", "_law_due", "_law_odd", "_law_pair"]) (sc := defScope s_law) (by decide +kernel)) (fun _ _ _ _ _ => (pg_name (i := 13) sc_law.nd rfl (Or.inl rfl))) (fun _ _ _ _ _ => (pts_one (pt_cmpR (r := rNeD K) (op_neD hr.units) (pe_ix (r := rIxT K) ix_tup (pv 13) pe_int (fun _ _ => rfl)) (pe_ix (r := rIxT K) ix_tup (pv 13) pe_int (fun _ _ => rfl)) (nomark _)))) (fun _ _ _ _ _ => (pv 13))) pa_nil)) pe_int (nomark _))))))))))))))), ?_⟩
    have cl := T.o_Walker.cl
    refine ⟨fun σ H' => H' = H ∧ ∃ R : Nat, 1 ≤ R ∧ R ≤ 12 ∧ σ = [some (.ref a), some (.int (R : Int)), none, none, none, none, none, none, none, none, none, none, none, none], ?_, ?_⟩
    · exact ⟨_, rfl, a, ns, rfl, hS, fun R h1 h2 => ⟨rfl, R, h1, h2, rfl⟩⟩
    rintro σ H ⟨rfl, R, r1, r2, rfl⟩
    refine ⟨fun σ H' => Same H H' ∧ ∃ (lr ta tb pa pb : Addr) (f g : Nat) (rs qs : List (Addr × Rule)), σ = [some (.ref a), some (.int (R : Int)), some (.ref lr), none, none, none, none, none, none, none, none, none, none, none] ∧ H' lr = some (.lst [.ref ta, .ref tb]) ∧ H' ta = some (.tup [.int (f : Int), .ref pa]) ∧ H' tb = some (.tup [.int (g : Int), .ref pb]) ∧
      H' pa = some (.lst (refsR rs)) ∧ H' pb = some (.lst (refsR qs)) ∧ RS H' rs ∧ RS H' qs ∧ f < 999983 ∧ g < 999983 ∧ rs.length ≤ 12 ∧ qs.length ≤ 12, ?_, ?_⟩
    · refine ⟨_, rfl, a, ns, 3, 12, rfl, hS, hl, by omega, by omega, fun ta pa f rs H1 hta hpa hN s1 hT hP hR hf hlr => ?_⟩
      refine ⟨_, rfl, a, ns, 30, 5, rfl, s1.seq hS, hl, by omega, by omega, fun tb pb g qs H2 htb hpb hN2 s2 hT2 hP2 hR2 hg hlq => ⟨by show 2 ≤ sizeLine; decide, fun lr hlr0 => ?_⟩⟩
      have v := Same.new (o := .lst [.ref ta, .ref tb]) hlr0
      have s2v := s2.trans v
      exact ⟨s1.trans s2v, lr, ta, tb, pa, pb, f, g, rs, qs, rfl, upd_same, s2v _ _ hT, v _ _ hT2, s2v _ _ hP, v _ _ hP2, hR.same s2v, hR2.same v, hf, hg, hlr, by omega⟩
    rintro σ H0 ⟨s0, lr, ta, tb, pa, pb, f, g, rs, qs, rfl, hLr, hTa, hTb, hPa, hPb, hRs, hQs, hf, hg, hrs, hqs⟩
    have hS0 := s0.seq hS
    refine ⟨fun σ H' => Same H0 H' ∧ ∃ (lh ha hb : Addr), σ = [some (.ref a), some (.int (R : Int)), some (.ref lr), some (.ref lh), none, none, none, none, none, none, none, none, none, none] ∧ H0 ha = none ∧ H0 hb = none ∧ ha ≠ hb ∧ lh ≠ ha ∧ lh ≠ hb ∧ H' lh = some (.lst [.ref ha, .ref hb]) ∧ H' ha = some (.lst (refsR rs)) ∧ H' hb = some (.lst (refsR qs)), ?_, ?_⟩
    · refine ⟨_, rfl, lr, _, _, .ref ta, rfl, rfl, SqL.of hLr, rfl, ta, _, _, .ref pa, rfl, rfl, SqT.of hTa, rfl, pa, _, rfl, .inl (SqL.of hPa), fun ha hha => ?_⟩
      have v1 := Same.new (o := .lst (refsR rs)) hha
      refine ⟨_, rfl, lr, _, _, .ref tb, rfl, rfl, SqL.of (v1 _ _ hLr), rfl, tb, _, _, .ref pb, rfl, rfl, SqT.of (v1 _ _ hTb), rfl, pb, _, rfl, .inl (SqL.of (v1 _ _ hPb)), fun hb hhb => ⟨by show 2 ≤ sizeLine; decide, fun lh hlh => ?_⟩⟩
      have v2 := Same.new (o := .lst (refsR qs)) hhb
      have v3 := Same.new (o := .lst [.ref ha, .ref hb]) hlh
      exact ⟨v1.trans (v2.trans v3), lh, ha, hb, rfl, hha, v1.free hhb, ne_of_none upd_same hhb, (ne_of_none (v2 _ _ (upd_same (H := H0) (a := ha) (o := HO.lst (refsR rs)))) hlh).symm, (ne_of_none upd_same hlh).symm, upd_same, (v2.trans v3) _ _ upd_same, v3 _ _ upd_same⟩
    rintro σ H3 ⟨s03, lh, ha, hb, rfl, fha, fhb, nab, nla, nlb, hLh, hHa, hHb⟩
    have hLr3 := s03 _ _ hLr
    have hTa3 := s03 _ _ hTa
    have hTb3 := s03 _ _ hTb
    have hRs3 := hRs.same s03
    have hQs3 := hQs.same s03
    -- the walkers
    refine ⟨fun σ H' => ∃ (wl : Addr) (A B : WA), σ = [some (.ref a), some (.int (R : Int)), some (.ref lr), some (.ref lh), some (.ref wl), none, none, none, none, none, none, none, none, none] ∧ Same H3 H' ∧ H' wl = some (.lst [.ref A.x, .ref B.x]) ∧ WAt T.aWalker H' A rs R (wk0 f rs.length) ∧ WAt T.aWalker H' B qs 2 (wk0 g qs.length) ∧
      (∀ b ∈ [A.x, A.md, A.sn, A.rl, B.x, B.md, B.sn, B.rl, wl], H3 b = none) ∧ [A.x, A.md, A.sn, B.x, B.md, B.sn].Nodup ∧ A.rl ∉ [B.x, B.md, B.sn] ∧ B.rl ∉ [A.x, A.md, A.sn] ∧ wl ∉ [A.x, A.md, A.sn, B.x, B.md, B.sn], ?_, ?_⟩
    · refine ⟨_, rfl, lr, _, _, .ref ta, rfl, rfl, SqL.of hLr3, rfl, ta, _, _, .int (f : Int), rfl, rfl, SqT.of hTa3, rfl, _, rfl, lh, _, _, .ref ha, rfl, rfl, SqL.of hLh, rfl, _, rfl, fun x dxa hx hdx hne => ?_⟩
      have i0 : Same H3 (upd (upd H3 dxa (.own x)) x (.ins T.aWalker dxa [])) := fun b o e => by
        rw [upd_ne (ne_of_none e hx), upd_ne (ne_of_none e hdx)]
        exact e
      refine .inl ⟨x, dxa, ha, f, R, rs, rfl, upd_same, i0 _ _ hHa, hRs3.same i0, hf, by omega, r1, r2, fun A H4 e1 e2 a1 a2 a3 kp WA4 => ⟨rfl, ?_⟩⟩
      subst e1
      have s34 : Same H3 H4 := fun b o e => kp b o (i0 b o e) (ne_of_none e hx)
      refine ⟨_, rfl, lr, _, _, .ref tb, rfl, rfl, SqL.of (s34 _ _ hLr3), rfl, tb, _, _, .int (g : Int), rfl, rfl, SqT.of (s34 _ _ hTb3), rfl, _, rfl, lh, _, _, .ref hb, rfl, rfl, SqL.of (s34 _ _ hLh), rfl, fun x dx hx2 hdx2 hne2 => ?_⟩
      have i1 : Same H4 (upd (upd H4 dx (.own x)) x (.ins T.aWalker dx [])) := fun b o e => by
        rw [upd_ne (ne_of_none e hx2), upd_ne (ne_of_none e hdx2)]
        exact e
      refine .inl ⟨x, dx, hb, g, 2, qs, rfl, upd_same, i1 _ _ (s34 _ _ hHb), (hQs3.same s34).same i1, hg, by omega, by omega, by omega, fun B H5 e1 e2 b1 b2 b3 kp2 WB5 => ⟨rfl, ?_⟩⟩
      subst e1
      have s45 : Same H4 H5 := fun b o e => kp2 b o (i1 b o e) (ne_of_none e hx2)
      have WA5 := WA4.same s45
      refine ⟨by show 2 ≤ sizeLine; decide, fun wl hwl => ?_⟩
      have v := Same.new (o := .lst [.ref A.x, .ref B.x]) hwl
      have fA : ∀ z, (upd (upd H3 dxa (.own A.x)) A.x (.ins T.aWalker dxa [])) z = none → H3 z = none := fun z h => i0.free h
      have fB : ∀ z, (upd (upd H4 dx (.own B.x)) B.x (.ins T.aWalker dx [])) z = none → H4 z = none := fun z h => i1.free h
      have g1 := fB _ b1
      have g2 := fB _ b2
      have g3 := fB _ b3
      have al : ∀ {b : Addr} {o : HO}, H4 b = some o → ∀ {c : Addr}, H4 c = none → b ≠ c := fun h c h' => ne_of_none h h'
      refine ⟨wl, A, B, rfl, s34.trans (s45.trans v), upd_same, WA5.same v, WB5.same v, fun b hb => ?_, ?_, ?_, ?_, ?_⟩
      · simp only [List.mem_cons, List.not_mem_nil, or_false] at hb
        rcases hb with rfl | rfl | rfl | rfl | rfl | rfl | rfl | rfl | rfl
        · exact hx
        · exact fA _ a2
        · exact fA _ a3
        · exact fA _ a1
        · exact s34.free hx2
        · exact s34.free g2
        · exact s34.free g3
        · exact s34.free g1
        · exact s34.free (s45.free hwl)
      · simp only [List.nodup_cons, List.mem_cons, List.not_mem_nil, or_false, not_or, List.nodup_nil, and_true, not_false_eq_true]
        exact ⟨⟨WA4.xm, WA4.xs, al WA4.ob hx2, al WA4.ob g2, al WA4.ob g3⟩, ⟨WA4.ms, al WA4.ma hx2, al WA4.ma g2, al WA4.ma g3⟩, ⟨al WA4.se hx2, al WA4.se g2, al WA4.se g3⟩, ⟨WB5.xm, WB5.xs⟩, WB5.ms⟩
      · simp only [List.mem_cons, List.not_mem_nil, or_false, not_or]
        exact ⟨al WA4.ru hx2, al WA4.ru g2, al WA4.ru g3⟩
      · simp only [List.mem_cons, List.not_mem_nil, or_false, not_or]
        exact ⟨(al WA4.ob g1).symm, (al WA4.ma g1).symm, (al WA4.se g1).symm⟩
      · simp only [List.mem_cons, List.not_mem_nil, or_false, not_or]
        exact ⟨(ne_of_none WA5.ob hwl).symm, (ne_of_none WA5.ma hwl).symm, (ne_of_none WA5.se hwl).symm, (ne_of_none WB5.ob hwl).symm, (ne_of_none WB5.ma hwl).symm, (ne_of_none WB5.se hwl).symm⟩
    rintro σ H5 ⟨wl, A, B, rfl, s35, hWl, WA5, WB5, fr5, nd6, nrA, nrB, nwl⟩
    -- the models
    have s05 := s03.trans s35
    have al5 : ∀ b ∈ [A.x, A.md, A.sn, A.rl, B.x, B.md, B.sn, B.rl, wl], ∃ o, H5 b = some o := by
      intro b hb
      simp only [List.mem_cons, List.not_mem_nil, or_false] at hb
      rcases hb with rfl | rfl | rfl | rfl | rfl | rfl | rfl | rfl | rfl
      · exact ⟨_, WA5.ob⟩
      · exact ⟨_, WA5.ma⟩
      · exact ⟨_, WA5.se⟩
      · exact ⟨_, WA5.ru⟩
      · exact ⟨_, WB5.ob⟩
      · exact ⟨_, WB5.ma⟩
      · exact ⟨_, WB5.se⟩
      · exact ⟨_, WB5.ru⟩
      · exact ⟨_, hWl⟩
    refine ⟨fun σ H' => ∃ (ml m n : Addr) (L L2 : MA), σ = [some (.ref a), some (.int (R : Int)), some (.ref lr), some (.ref lh), some (.ref wl), some (.ref ml), none, none, none, none, none, none, none, none] ∧ Same H5 H' ∧ H' ml = some (.lst [.ref m, .ref n]) ∧ MAt H' m L f R (rs.map (·.2)) (wk0 f rs.length) [] ∧ MAt H' n L2 g 2 (qs.map (·.2)) (wk0 g qs.length) [] ∧
      (∀ b ∈ [m, n, L.sa, L.ka, L.ta, L2.sa, L2.ka, L2.ta, ml], H5 b = none) ∧ m ≠ n, ?_, ?_⟩
    · have a1 := s05 _ _ hLr
      have a2 := s05 _ _ hTa
      have a3 := s05 _ _ hTb
      have a4 := s05 _ _ hPa
      have a5 := s05 _ _ hPb
      refine ⟨_, rfl, lr, _, _, .ref ta, rfl, rfl, SqL.of a1, rfl, ta, _, _, .int (f : Int), rfl, rfl, SqT.of a2, rfl, _, rfl, lr, _, _, .ref ta, rfl, rfl, SqL.of a1, rfl, ta, _, _, .ref pa, rfl, rfl, SqT.of a2, rfl, _, rfl, pa, f, R, rs, rfl, SqL.of a4, hRs.same s05, hf, by omega, fun m L H6 hm h1 h2 h3 s56 MA6 => ?_⟩
      refine ⟨_, rfl, lr, _, _, .ref tb, rfl, rfl, SqL.of (s56 _ _ a1), rfl, tb, _, _, .int (g : Int), rfl, rfl, SqT.of (s56 _ _ a3), rfl, _, rfl, lr, _, _, .ref tb, rfl, rfl, SqL.of (s56 _ _ a1), rfl, tb, _, _, .ref pb, rfl, rfl, SqT.of (s56 _ _ a3), rfl, pb, g, 2, qs, rfl, SqL.of (s56 _ _ a5), (hQs.same s05).same s56, hg, by omega, fun n L2 H7 hn i1 i2 i3 s67 MB7 => ⟨by show 2 ≤ sizeLine; decide, fun ml hml => ?_⟩⟩
      have v := Same.new (o := .lst [.ref m, .ref n]) hml
      have kp : ∀ {H1 H2 : Hp} {m : Addr} {L : MA} {f R : Nat} {rs : List Rule} {w : WK} {ks : List Int}, Same H1 H2 → MAt H1 m L f R rs w ks → MAt H2 m L f R rs w ks := fun e M => M.keep (T := []) (Chg.of_same e) (fun z => nomatch z) (fun z => nomatch z) (fun z => nomatch z) (fun z => nomatch z)
      refine ⟨ml, m, n, L, L2, rfl, s56.trans (s67.trans v), upd_same, kp (s67.trans v) MA6, kp v MB7, fun b hb => ?_, ne_of_none MA6.ob hn⟩
      simp only [List.mem_cons, List.not_mem_nil, or_false] at hb
      rcases hb with rfl | rfl | rfl | rfl | rfl | rfl | rfl | rfl | rfl
      · exact hm
      · exact s56.free hn
      · exact h1
      · exact h2
      · exact h3
      · exact s56.free i1
      · exact s56.free i2
      · exact s56.free i3
      · exact s56.free (s67.free hml)
    rintro σ H6 ⟨ml, m, n, L, L2, rfl, s56, hMl, MA6, MB6, fr6, nmn⟩
    have s06 := s05.trans s56
    have s36 := s35.trans s56
    -- handed stays
    refine ⟨fun σ H' => σ = [some (.ref a), some (.int (R : Int)), some (.ref lr), some (.ref lh), some (.ref wl), some (.ref ml), none, none, none, none, none, none, none, none] ∧ Same H6 H', ?_, ?_⟩
    · have a1 := s06 _ _ hLr
      refine ⟨_, rfl, _, rfl, lr, _, _, .ref ta, rfl, rfl, SqL.of a1, rfl, ta, _, _, .ref pa, rfl, rfl, SqT.of (s06 _ _ hTa), rfl, _, rfl, lr, _, _, .ref tb, rfl, rfl, SqL.of a1, rfl, tb, _, _, .ref pb, rfl, rfl, SqT.of (s06 _ _ hTb), rfl, by show 2 ≤ sizeLine; decide, fun e he => ?_⟩
      have v := Same.new (o := .lst [.ref pa, .ref pb]) he
      have s0v := s06.trans v
      have s3v := s36.trans v
      have sh : Sh 3 (.list [.list (rs.map fun q => q.2.pd), .list (qs.map fun q => q.2.pd)]) := .lst fun d hd => by
        simp only [List.mem_cons, List.not_mem_nil, or_false] at hd
        rcases hd with rfl | rfl
        · exact rules_sh _
        · exact rules_sh _
      refine ⟨_, _, .lst (SqL.of (s3v _ _ hLh)) (.cons (.lst (SqL.of (s3v _ _ hHa)) (rules_dp (hRs.same s0v))) (.cons (.lst (SqL.of (s3v _ _ hHb)) (rules_dp (hQs.same s0v))) .nil)), .lst (SqL.of upd_same) (.cons (.lst (SqL.of (s0v _ _ hPa)) (rules_dp (hRs.same s0v))) (.cons (.lst (SqL.of (s0v _ _ hPb)) (rules_dp (hQs.same s0v))) .nil)), sh.shaped (by decide), sh.shaped (by decide), _, rfl, ?_⟩
      rw [sh.refl]
      exact iteF ⟨rfl, v⟩
    rintro σ H7 ⟨rfl, s67⟩
    have s37 := s36.trans s67
    have hLh7 := s37 _ _ hLh
    have hHa7 := s37 _ _ hHa
    have hHb7 := s37 _ _ hHb
    refine ⟨fun σ H' => σ = [some (.ref a), some (.int (R : Int)), some (.ref lr), some (.ref lh), some (.ref wl), some (.ref ml), none, none, none, none, none, none, none, none] ∧ Chg [ha, hb] H7 H' ∧ H' lh = some (.lst [.ref ha, .ref hb]) ∧ H' hb = some (.lst (refsR qs)), ?_, ?_⟩
    · refine ⟨_, rfl, lh, _, _, .ref ha, rfl, rfl, SqL.of hLh7, rfl, .inl ⟨rfl, _, SqL.of hHa7⟩, ha, _, rfl, rfl, hHa7, rfl, fun b o e nb => ?_, ?_, ?_⟩
      · rw [upd_ne (fun z => nb (by rw [z]; exact List.mem_cons_self))]
        exact e
      · rw [upd_ne nla]
        exact hLh7
      · rw [upd_ne nab.symm]
        exact hHb7
    rintro σ H7b ⟨rfl, c7, hLh7b, hHb7b⟩
    refine ⟨fun σ H' => σ = [some (.ref a), some (.int (R : Int)), some (.ref lr), some (.ref lh), some (.ref wl), some (.ref ml), none, none, none, none, none, none, none, none] ∧ Chg [ha, hb] H7 H', ?_, ?_⟩
    · refine ⟨_, rfl, lh, _, _, .ref hb, rfl, rfl, SqL.of hLh7b, rfl, .inl ⟨rfl, _, SqL.of hHb7b⟩, hb, _, _, rfl, rfl, hHb7b, sz5' (by rw [refsR_len]; omega), rfl, c7.trans fun b o e nb => ?_⟩
      rw [upd_ne (fun z => nb (by rw [z]; exact List.mem_cons_of_mem _ List.mem_cons_self))]
      exact e
    rintro σ H8 ⟨rfl, c8⟩
    have n8 : ∀ {b : Addr}, H3 b = none → b ∉ [ha, hb] := fun h z => by
      simp only [List.mem_cons, List.not_mem_nil, or_false] at z
      rcases z with rfl | rfl
      · rw [hHa] at h; cases h
      · rw [hHb] at h; cases h
    have s08 : Same H0 H8 := fun b o e => c8 _ _ ((s06.trans s67) b o e) (fun z => by
      simp only [List.mem_cons, List.not_mem_nil, or_false] at z
      rcases z with rfl | rfl
      · rw [fha] at e; cases e
      · rw [fhb] at e; cases e)
    have f6 : ∀ {b : Addr}, b ∈ [m, n, L.sa, L.ka, L.ta, L2.sa, L2.ka, L2.ta, ml] → b ∉ [ha, hb] := fun h => n8 (s35.free (fr6 _ h))
    have f5 : ∀ {b : Addr}, b ∈ [A.x, A.md, A.sn, A.rl, B.x, B.md, B.sn, B.rl, wl] → b ∉ [ha, hb] := fun h => n8 (fr5 _ h)
    have s57 := s56.trans s67
    have WA8 : WAt T.aWalker H8 A rs R (wk0 f rs.length) := (WA5.same s57).keep c8 (f5 (by simp)) (f5 (by simp)) (f5 (by simp)) (f5 (by simp))
    have WB8 : WAt T.aWalker H8 B qs 2 (wk0 g qs.length) := (WB5.same s57).keep c8 (f5 (by simp)) (f5 (by simp)) (f5 (by simp)) (f5 (by simp))
    have MA8 : MAt H8 m L f R (rs.map (·.2)) (wk0 f rs.length) [] := (MA6.keep (T := []) (Chg.of_same s67) (fun z => nomatch z) (fun z => nomatch z) (fun z => nomatch z) (fun z => nomatch z)).keep c8 (f6 (by simp)) (f6 (by simp)) (f6 (by simp)) (f6 (by simp))
    have MB8 : MAt H8 n L2 g 2 (qs.map (·.2)) (wk0 g qs.length) [] := (MB6.keep (T := []) (Chg.of_same s67) (fun z => nomatch z) (fun z => nomatch z) (fun z => nomatch z) (fun z => nomatch z)).keep c8 (f6 (by simp)) (f6 (by simp)) (f6 (by simp)) (f6 (by simp))
    have hWl8 := c8 _ _ (s57 _ _ hWl) (f5 (by simp))
    have hMl8 := c8 _ _ (s67 _ _ hMl) (f6 (by simp))
    have dif : ∀ {b c : Addr}, b ∈ [A.x, A.md, A.sn, A.rl, B.x, B.md, B.sn, B.rl, wl] → c ∈ [m, n, L.sa, L.ka, L.ta, L2.sa, L2.ka, L2.ta, ml] → b ≠ c := fun h1 h2 => by
      obtain ⟨o, e⟩ := al5 _ h1
      exact ne_of_none e (fr6 _ h2)
    clear hLh7 hHa7 hHb7 hLh7b hHb7b c7
    -- held, the deeds ahead
    refine ⟨by show 0 ≤ sizeLine; decide, fun hd hhd => ?_⟩
    have v9 := Same.new (o := .lst []) hhd
    have hdn : ∀ {b : Addr} {o : HO}, H8 b = some o → b ≠ hd := fun h => ne_of_none h hhd
    have fh0 : H0 hd = none := s08.free hhd
    have s09 := s08.trans v9
    refine ⟨fun σ H' => ∃ (al : Addr) (as : List (Addr × Deed)), σ = [some (.ref a), some (.int (R : Int)), some (.ref lr), some (.ref lh), some (.ref wl), some (.ref ml), some (.ref hd), some (.ref al), none, none, none, none, none, none] ∧ Same (upd H8 hd (.lst [])) H' ∧ (upd H8 hd (.lst [])) al = none ∧ H' al = some (.lst (refs as)) ∧ DS H' as ∧ as.length ≤ 7 ∧ ∀ q ∈ as, q.2.ok, ?_, ?_⟩
    · exact ⟨_, rfl, _, rfl, lr, _, _, .ref ta, rfl, rfl, SqL.of (s09 _ _ hLr), rfl, ta, _, _, .ref pa, rfl, rfl, SqT.of (s09 _ _ hTa), rfl, pa, _, rfl, .inl (SqL.of (s09 _ _ hPa)), a, ns, rs.length, by rw [refsR_len] <;> rfl, s09.seq hS0, hl, hrs, fun al H' as hal s hAl hD hla hok => ⟨al, as, rfl, s, hal, hAl, hD, hla, hok⟩⟩
    rintro σ HA ⟨al, as, rfl, s9A, fal, hAl, hDs, hla, hok⟩
    have s8A := v9.trans s9A
    have s0A := s08.trans s8A
    -- the whole
    have sys0 : Sys T.aWalker HA ⟨A, m, f, R, rs⟩ ⟨B, n, g, 2, qs⟩ hd (wk0 f rs.length) (wk0 f rs.length) (wk0 g qs.length) (wk0 g qs.length) 0 := by
      have kp : ∀ {m : Addr} {L : MA} {f R : Nat} {rs : List Rule} {w : WK} {ks : List Int}, MAt H8 m L f R rs w ks → MAt HA m L f R rs w ks := fun M => M.keep (T := []) (Chg.of_same s8A) (fun z => nomatch z) (fun z => nomatch z) (fun z => nomatch z) (fun z => nomatch z)
      have hH : HA hd = some (.lst []) := s9A _ _ upd_same
      have WAA := WA8.same s8A
      have WBA := WB8.same s8A
      have MAA := kp MA8
      have MBA := kp MB8
      have nt : ∀ b ∈ muts ⟨A, m, f, R, rs⟩ ⟨B, n, g, 2, qs⟩ hd, ∀ xs, HA b ≠ some (.tup xs) := by
        intro b hb xs e
        simp only [muts, Side.own, List.cons_append, List.nil_append, List.mem_cons, List.not_mem_nil, or_false] at hb
        rcases hb with rfl | rfl | rfl | rfl | rfl | rfl | rfl | rfl | rfl
        · rw [WAA.ob] at e; cases e
        · rw [WAA.ma] at e; cases e
        · rw [WAA.se] at e; cases e
        · rw [MAA.ob] at e; cases e
        · rw [WBA.ob] at e; cases e
        · rw [WBA.ma] at e; cases e
        · rw [WBA.se] at e; cases e
        · rw [MBA.ob] at e; cases e
        · rw [hH] at e; cases e
      have rr : ∀ {us : List (Addr × Rule)}, RS HA us → RS (Rst (muts ⟨A, m, f, R, rs⟩ ⟨B, n, g, 2, qs⟩ hd) HA) us := fun h q hq => ⟨by rw [Rst.at fun z => nt _ z _ (h q hq).1]; exact (h q hq).1, (h q hq).2⟩
      have ll : ∀ {b : Addr} {xs : List V}, HA b = some (.lst xs) → b ≠ A.sn → b ≠ B.sn → b ≠ hd → b ∉ muts ⟨A, m, f, R, rs⟩ ⟨B, n, g, 2, qs⟩ hd := fun h n1 n2 n3 hb => by
        simp only [muts, Side.own, List.cons_append, List.nil_append, List.mem_cons, List.not_mem_nil, or_false] at hb
        rcases hb with rfl | rfl | rfl | rfl | rfl | rfl | rfl | rfl | rfl
        · rw [WAA.ob] at h; cases h
        · rw [WAA.ma] at h; cases h
        · exact n1 rfl
        · rw [MAA.ob] at h; cases h
        · rw [WBA.ob] at h; cases h
        · rw [WBA.ma] at h; cases h
        · exact n2 rfl
        · rw [MBA.ob] at h; cases h
        · exact n3 rfl
      simp only [List.nodup_cons, List.mem_cons, List.not_mem_nil, or_false, not_or, List.nodup_nil, and_true, not_false_eq_true] at nd6 nrA nrB
      obtain ⟨⟨p1, p2, p3, p4, p5⟩, ⟨p6, p7, p8, p9⟩, ⟨p10, p11, p12⟩, ⟨p13, p14⟩, p15⟩ := nd6
      refine ⟨?_, ⟨WAA, ⟨L, [], MAA, ll MAA.sa (dif (by simp) (by simp)).symm (dif (by simp) (by simp)).symm (hdn MA8.sa), ll MAA.ka (dif (by simp) (by simp)).symm (dif (by simp) (by simp)).symm (hdn MA8.ka), ll MAA.ta (dif (by simp) (by simp)).symm (dif (by simp) (by simp)).symm (hdn MA8.ta)⟩, ll WAA.ru WA8.n1 nrA.2.2 (hdn WA8.ru), rr (hRs.same s0A)⟩, ⟨WBA, ⟨L2, [], MBA, ll MBA.sa (dif (by simp) (by simp)).symm (dif (by simp) (by simp)).symm (hdn MB8.sa), ll MBA.ka (dif (by simp) (by simp)).symm (dif (by simp) (by simp)).symm (hdn MB8.ka), ll MBA.ta (dif (by simp) (by simp)).symm (dif (by simp) (by simp)).symm (hdn MB8.ta)⟩, ll WBA.ru nrB.2.2 WB8.n1 (hdn WB8.ru), ?_⟩, [], hH, Nat.le_refl _, fun t ht => nomatch ht⟩
      · simp only [muts, Side.own, List.cons_append, List.nil_append, List.nodup_cons, List.mem_cons, List.not_mem_nil, or_false, not_or, List.nodup_nil, and_true, not_false_eq_true]
        exact ⟨⟨p1, p2, dif (by simp) (by simp), p3, p4, p5, dif (by simp) (by simp), hdn WA8.ob⟩, ⟨p6, dif (by simp) (by simp), p7, p8, p9, dif (by simp) (by simp), hdn WA8.ma⟩, ⟨dif (by simp) (by simp), p10, p11, p12, dif (by simp) (by simp), hdn WA8.se⟩, ⟨(dif (by simp) (by simp)).symm, (dif (by simp) (by simp)).symm, (dif (by simp) (by simp)).symm, nmn, hdn MA8.ob⟩, ⟨p13, p14, dif (by simp) (by simp), hdn WB8.ob⟩, ⟨p15, dif (by simp) (by simp), hdn WB8.ma⟩, ⟨dif (by simp) (by simp), hdn WB8.se⟩, hdn MB8.ob⟩
      · exact rr (hQs.same s0A)
    obtain ⟨S, eS⟩ : ∃ S : Side, S = ⟨A, m, f, R, rs⟩ := ⟨_, rfl⟩
    obtain ⟨Tt, eT⟩ : ∃ S : Side, S = ⟨B, n, g, 2, qs⟩ := ⟨_, rfl⟩
    have fixS : S.rs.length ≤ 12 ∧ S.f < 999983 ∧ 1 ≤ S.R ∧ S.R ≤ 12 := by rw [eS]; exact ⟨hrs, hf, r1, r2⟩
    have fixT : Tt.rs.length ≤ 12 ∧ Tt.f < 999983 ∧ 1 ≤ Tt.R ∧ Tt.R ≤ 12 := by rw [eT]; exact ⟨hqs, hg, by show 1 ≤ 2; decide, by show 2 ≤ 12; decide⟩
    have hWlA : HA wl = some (.lst [.ref S.A.x, .ref Tt.A.x]) := by rw [eS, eT]; exact s8A _ _ hWl8
    have hMlA : HA ml = some (.lst [.ref S.m, .ref Tt.m]) := by rw [eS, eT]; exact s8A _ _ hMl8
    have y0 : Sys T.aWalker HA S Tt hd (wk0 S.f S.rs.length) (wk0 S.f S.rs.length) (wk0 Tt.f Tt.rs.length) (wk0 Tt.f Tt.rs.length) 0 := by rw [eS, eT]; exact sys0
    simp only [List.mem_cons, List.not_mem_nil, or_false, not_or] at nwl
    have nWl : wl ∉ muts S Tt hd := y0.lst hWlA (by rw [eS]; exact nwl.2.2.1) (by rw [eT]; exact nwl.2.2.2.2.2) (hdn hWl8)
    have nMl : ml ∉ muts S Tt hd := y0.lst hMlA (by rw [eS]; exact (dif (by simp) (by simp)).symm) (by rw [eT]; exact (dif (by simp) (by simp)).symm) (hdn hMl8)
    have nAl : al ∉ muts S Tt hd := y0.lst hAl (by rw [eS]; exact (ne_of_none (v9 _ _ WA8.se) fal).symm) (by rw [eT]; exact (ne_of_none (v9 _ _ WB8.se) fal).symm) (ne_of_none upd_same fal).symm
    have fm0 : ∀ b ∈ muts S Tt hd, H0 b = none := by
      intro b hb
      rw [eS, eT] at hb
      simp only [muts, Side.own, List.cons_append, List.nil_append, List.mem_cons, List.not_mem_nil, or_false] at hb
      rcases hb with rfl | rfl | rfl | rfl | rfl | rfl | rfl | rfl | rfl
      · exact s03.free (fr5 _ (by simp))
      · exact s03.free (fr5 _ (by simp))
      · exact s03.free (fr5 _ (by simp))
      · exact s05.free (fr6 _ (by simp))
      · exact s03.free (fr5 _ (by simp))
      · exact s03.free (fr5 _ (by simp))
      · exact s03.free (fr5 _ (by simp))
      · exact s05.free (fr6 _ (by simp))
      · exact fh0
    have hlas : (refs as).length = as.length := refs_len as
    have lns : (ns.map V.int).length = ns.length := List.length_map ..
    clear sys0 eS eT dif f5 f6 n8 fr5 fr6 al5 nwl nmn WA8 WB8 MA8 MB8 WA5 WB5 MA6 MB6 hWl8 hMl8 c8 hWl hMl nd6 nrA nrB hLh hHa hHb
    clear hTa3 hTb3 hLr3 hRs3 hQs3
    -- the loop
    refine ⟨fun σ H' => ∃ (ts : List Addr) (u8 u9 u10 u11 u12 : Option V), σ = [some (.ref a), some (.int (R : Int)), some (.ref lr), some (.ref lh), some (.ref wl), some (.ref ml), some (.ref hd), some (.ref al), u8, u9, u10, u11, u12, none] ∧ H' hd = some (.lst (ts.map V.ref)) ∧ ∀ t ∈ ts, PairAt H' t, ?_, ?_⟩
    case refine_2 =>
      rintro σ HE ⟨ts, u8, u9, u10, u11, u12, rfl, hH, hp⟩
      refine ⟨_, rfl, hd, rfl, ⟨_, SqL.of hH⟩, fun D hD => ?_⟩
      refine lc_list (K := K) (a := hd) (xs := ts.map V.ref) (fun i H1 => Same HE H1 ∧ H1 D = some (.lst [])) ⟨Same.new hD, upd_same⟩ (fun i H1 _ ⟨s, _⟩ => SqL.of (s _ _ hH)) ?_ ?_
      · rintro i z H1 hi ⟨s, hQ⟩
        obtain ⟨t, ht, rfl⟩ := get_map hi
        obtain ⟨p, q, dd, e1, e2, e3, sh⟩ := ((hp t (List.mem_of_getElem? ht)).same s).data (K := K)
        refine ⟨rfl, ?_⟩
        refine ⟨_, rfl, t, _, _, .ref p, rfl, rfl, SqT.of e1, rfl, _, rfl, t, _, _, .ref q, rfl, rfl, SqT.of e1, rfl, dd, dd, e2, e3, sh.shaped (by decide), sh.shaped (by decide), _, rfl, ?_⟩
        rw [sh.refl]
        exact iteF ⟨s, hQ⟩
      · rintro H1 ⟨s, hQ⟩
        exact ⟨D, _, rfl, .inl (SqL.of hQ), rfl, k _⟩
    refine ⟨_, rfl, a, _, rfl, .inl (s0A.seq hS0), _, _, rfl, _, rfl, al, _, rfl, .inl (SqL.of hAl), _, _, rfl, rfl, _, _, rfl, ?_, ?_⟩
    · split <;> omega
    refine for_range (lo := 6) (n := _) (fun i σ H' => ∃ (w v : WK) (u8 u9 u10 u11 u12 : Option V), σ = [some (.ref a), some (.int (R : Int)), some (.ref lr), some (.ref lh), some (.ref wl), some (.ref ml), some (.ref hd), some (.ref al), u8, u9, u10, u11, u12, none] ∧ Chg (muts S Tt hd) HA H' ∧ Sys T.aWalker H' S Tt hd w w v v (4 * i) ∧ SideOk S w ∧ SideOk Tt v)
      ⟨_, _, none, none, none, none, none, rfl, fun b o e _ => e, y0, ⟨wk0_ok fixS.2.1, wk0_ok2, wk0_tr _ _ _⟩, ⟨wk0_ok fixT.2.1, wk0_ok2, wk0_tr _ _ _⟩⟩ ?_ ?_
    case refine_2 =>
      rintro σ H' ⟨w0, v0, u8, u9, u10, u11, u12, rfl, c, y, o1, o2⟩
      obtain ⟨ts, h1, _, h3⟩ := y.h
      exact ⟨ts, u8, u9, u10, u11, u12, rfl, h1, fun t ht => (h3 t ht).same Rst.sub⟩
    rintro i σ Hi hi ⟨w0, v0, u8, u9, u10, u11, u12, rfl, ci, yi, oS, oT⟩
    have hi2 : i < 46 + as.length - 6 ∧ i < ns.length + as.length - 6 := by
      revert hi
      split <;> intro hi <;> omega
    have e6 : (6 : Int) + (i : Int) = ((6 + i : Nat) : Int) := by omega
    have s0i : Same H0 Hi := fun b o e => ci _ _ (s0A b o e) (fun z => by rw [fm0 b z] at e; cases e)
    have hSi := s0i.seq hS0
    have hWli := ci _ _ hWlA nWl
    have hMli := ci _ _ hMlA nMl
    have hAli := ci _ _ hAl nAl
    have hDsi : DS Hi as := fun q hq => ci _ _ (hDs q hq) (y0.tup (hDs q hq))
    have hmodels : ∀ j, j < 2 → ∃ (mj : Addr) (Lj : MA) (fj Rj : Nat) (rj : List Rule) (wj : WK) (kj : List Int), [V.ref S.m, V.ref Tt.m][j]? = some (V.ref mj) ∧ MAt Hi mj Lj fj Rj rj wj kj ∧ rj.length ≤ 12 ∧ wj.Ok rj.length := by
      intro j hj
      match j, hj with
      | 0, _ =>
        obtain ⟨L', ks', M', _⟩ := yi.s.mo
        exact ⟨S.m, L', _, _, _, _, ks', rfl, M', by rw [List.length_map]; exact fixS.1, by rw [List.length_map]; exact oS.ok⟩
      | 1, _ =>
        obtain ⟨L', ks', M', _⟩ := yi.t.mo
        exact ⟨Tt.m, L', _, _, _, _, ks', rfl, M', by rw [List.length_map]; exact fixT.1, by rw [List.length_map]; exact oT.ok⟩
    refine ⟨fun σ H' => ∃ (j : Nat) (x : V), j < 2 ∧ σ = [some (.ref a), some (.int (R : Int)), some (.ref lr), some (.ref lh), some (.ref wl), some (.ref ml), some (.ref hd), some (.ref al), some (.int (6 + (i : Int))), some (.int (j : Int)), some x, u11, u12, none] ∧ Same Hi H' ∧ Drawn5 K H' x, ?_, ?_⟩
    · refine ⟨_, rfl, _, rfl, al, _, rfl, .inl (SqL.of hAli), _, _, rfl, rfl, _, _, rfl, rfl, _, rfl, ?_⟩
      refine ite2 (fun q => ?_) (fun q => ?_)
      · have q : (6 : Int) + (i : Int) < 6 + ((refs as).length : Int) := of_decide_eq_true q
        obtain ⟨z, hz⟩ : ∃ z, as[i]? = some z := ⟨as[i]'(by omega), List.getElem?_eq_getElem _⟩
        have hz' : (refs as)[i]? = some (V.ref z.1) := by
          unfold refs
          rw [List.getElem?_map, hz] <;> rfl
        have hm' := List.mem_of_getElem? hz
        exact ⟨_, rfl, _, rfl, _, _, rfl, rfl, al, _, _, .ref z.1, rfl, rfl, SqL.of hAli, at_of (j := i) (by omega) hz', 0, .ref z.1, by decide, rfl, Same.refl _, .inl ⟨z.1, z.2, rfl, hDsi z hm', hok z hm'⟩⟩
      · have q : ¬ (6 : Int) + (i : Int) < 6 + ((refs as).length : Int) := fun z => q (decide_eq_true z)
        refine ⟨fun σ H' => H' = Hi ∧ ∃ j : Nat, j < 2 ∧ σ = [some (.ref a), some (.int (R : Int)), some (.ref lr), some (.ref lh), some (.ref wl), some (.ref ml), some (.ref hd), some (.ref al), some (.int (6 + (i : Int))), some (.int (j : Int)), u10, u11, u12, none], ?_, ?_⟩
        · obtain ⟨z, hz⟩ : ∃ z, ns[6 + i - as.length]? = some z := ⟨ns[6 + i - as.length]'(by omega), List.getElem?_eq_getElem _⟩
          refine ⟨_, rfl, _, rfl, _, rfl, al, _, rfl, .inl (SqL.of hAli), _, _, rfl, rfl, a, _, _, .int z, rfl, rfl, hSi, at_map (j := 6 + i - as.length) (by omega) hz, _, _, rfl, rfl, by show (0 : Int) < 7; decide, rfl, .inr ⟨_, rfl, rfl, ?_⟩⟩
          by_cases e : z % 7 = 0
          · exact ⟨1, by decide, by rw [show decide (V.int (z % 7) = V.int 0) = true from decide_eq_true (by rw [e])] <;> rfl⟩
          · exact ⟨0, by decide, by rw [show decide (V.int (z % 7) = V.int 0) = false from decide_eq_false (fun h => e (V.int.inj h))] <;> rfl⟩
        rintro σ H' ⟨rfl, j, hj, rfl⟩
        obtain ⟨mj, Lj, fj, Rj, rj, wj, kj, e1, M', e3, e4⟩ := hmodels j hj
        exact ⟨_, rfl, _, rfl, ml, _, _, .ref mj, rfl, rfl, SqL.of hMli, at_of (j := j) rfl e1, _, rfl, _, rfl, a, ns, 6 + i, by rw [e6] <;> rfl, hSi, hl, by omega, mj, _, Lj, fj, Rj, rj, wj, kj, rfl, M', e3, e4, fun x H' s dr => ⟨j, x, hj, rfl, s, dr⟩⟩
    rintro σ H1 ⟨j, x, hj, rfl, s1, dr⟩
    refine ⟨by show 2 ≤ sizeLine; decide, fun td htd => ?_⟩
    have v1 := Same.new (o := .tup [.str "refused", .str "deed"]) htd
    refine ⟨fun σ H' => ∃ od, σ = [some (.ref a), some (.int (R : Int)), some (.ref lr), some (.ref lh), some (.ref wl), some (.ref ml), some (.ref hd), some (.ref al), some (.int (6 + (i : Int))), some (.int (j : Int)), some x, some (.ref td), some (.ref od), none] ∧ Same (upd H1 td (.tup [.str "refused", .str "deed"])) H' ∧ Dp K H' (.ref od) (.list oddD), ?_, ?_⟩
    · refine ⟨by show 2 ≤ sizeLine; decide, fun t1 h1 => ?_⟩
      refine ⟨by show 2 ≤ sizeLine; decide, fun t2 h2 => ?_⟩
      refine ⟨_, rfl, by show 2 ≤ sizeLine; decide, fun t3 h3 => ?_⟩
      refine ⟨by show 2 ≤ sizeLine; decide, fun t4 h4 => ?_⟩
      refine ⟨by show 2 ≤ sizeLine; decide, fun t5 h5 => ?_⟩
      refine ⟨by show 5 ≤ sizeLine; decide, fun od hod => ?_⟩
      have x1 := Same.new (o := .tup [.str "go", .int 0]) h1
      have x2 := Same.new (o := .tup [.str "go", .int 101]) h2
      have x3 := Same.new (o := .tup [.str "take", .int (-1)]) h3
      have x4 := Same.new (o := .tup [.str "keep", .int 1]) h4
      have x5 := Same.new (o := .tup [.str "go", .str "1"]) h5
      have x6 := Same.new (o := .lst [.ref t1, .ref t2, .ref t3, .ref t4, .ref t5]) hod
      have z5 := x5.trans x6
      have z4 := x4.trans z5
      have z3 := x3.trans z4
      have z2 := x2.trans z3
      exact ⟨od, rfl, x1.trans z2, .lst (SqL.of upd_same) (.cons (.tup (SqT.of (z2 _ _ upd_same)) (.cons (.str _) (.cons (.int _) .nil))) (.cons (.tup (SqT.of (z3 _ _ upd_same)) (.cons (.str _) (.cons (.int _) .nil))) (.cons (.tup (SqT.of (z4 _ _ upd_same)) (.cons (.str _) (.cons (.int _) .nil))) (.cons (.tup (SqT.of (z5 _ _ upd_same)) (.cons (.str _) (.cons (.int _) .nil))) (.cons (.tup (SqT.of (x6 _ _ upd_same)) (.cons (.str _) (.cons (.str _) .nil))) .nil)))))⟩
    rintro σ H2 ⟨od, rfl, s2, dpo⟩
    have sv2 := v1.trans s2
    have si2 := s1.trans sv2
    have hTd := s2 _ _ (upd_same (H := H1) (a := td) (o := HO.tup [.str "refused", .str "deed"]))
    have y2 := yi.same si2
    have hWl2 := si2 _ _ hWli
    have hMl2 := si2 _ _ hMli
    have dr2 : Drawn5 K H2 x := by
      rcases dr with ⟨b, d, h1, h2, h3⟩ | h
      · exact .inl ⟨b, d, h1, sv2 _ _ h2, h3⟩
      · exact .inr (h.same sv2)
    clear dr hmodels v1 htd
    have osh := oddD_sh
    -- what is due
    refine ⟨fun σ H' => ∃ dv, σ = [some (.ref a), some (.int (R : Int)), some (.ref lr), some (.ref lh), some (.ref wl), some (.ref ml), some (.ref hd), some (.ref al), some (.int (6 + (i : Int))), some (.int (j : Int)), some x, some dv, some (.ref od), none] ∧ Chg (muts S Tt hd) H2 H' ∧ Due5 K T.aWalker H' S Tt hd w0 v0 (4 * i) j x dv, ?_, ?_⟩
    · rcases dr2 with ⟨b, d, rfl, hb, dok⟩ | bad
      · refine ⟨_, rfl, .ref b, _, _, _, true, rfl, .ty "tuple", .base (.tup hb), kit_ty (by decide +kernel), true, rfl, iteT ?_⟩
        refine ⟨_, rfl, b, _, _, .str d.word, rfl, rfl, SqT.of hb, d.at0, .str d.word, _, _, _, true, rfl, .ty "str", .base (.str _), kit_ty (by decide +kernel), true, rfl, iteT ?_⟩
        refine ⟨_, rfl, _, rfl, d.pd, oddD, d.dp hb, dpo, d.sh.shaped (by decide), osh.shaped (by decide), _, rfl, ?_⟩
        rw [odd_not dok]
        refine iteT ?_
        have nt := y2.tup hb
        have fin : ∀ H', Same H2 H' → True := fun _ _ => trivial
        have inner : tAsg (tCall (sp_l_do K) [] E0 (tCons (tOp (rIxL K) (tVar 5) (tVar 9)) (tCons (tVar 10) tNil))) (gName 11) { nx := fun σ H' => ∃ dv, σ = [some (.ref a), some (.int (R : Int)), some (.ref lr), some (.ref lh), some (.ref wl), some (.ref ml), some (.ref hd), some (.ref al), some (.int (6 + (i : Int))), some (.int (j : Int)), some (.ref b), some dv, some (.ref od), none] ∧ Chg (muts S Tt hd) H2 H' ∧ Due5 K T.aWalker H' S Tt hd w0 v0 (4 * i) j (.ref b) dv, rt := Q } [some (.ref a), some (.int (R : Int)), some (.ref lr), some (.ref lh), some (.ref wl), some (.ref ml), some (.ref hd), some (.ref al), some (.int (6 + (i : Int))), some (.int (j : Int)), some (.ref b), some (.ref td), some (.ref od), none] H2 := by
          match j, hj with
          | 0, _ =>
            obtain ⟨L', ks', M', nL⟩ := y2.s.mo
            have lrs : (S.rs.map (·.2)).length = S.rs.length := List.length_map ..
            refine ⟨_, rfl, _, rfl, ml, _, _, .ref S.m, rfl, rfl, SqL.of hMl2, rfl, _, rfl, S.m, b, L', _, _, _, _, ks', d, rfl, hb, M', by rw [lrs]; omega, by rw [lrs]; exact oS.ok, by rw [lrs]; exact oS.ok2, oS.tr, fixS.2.2.2, fun u hu H' L2' ks2 c m2 e1 e2 e3 => ?_, fun e he t H' ht s hT => ?_⟩
            · have ys := y2.modS (u := u) c nL m2 e1 e2 e3
              exact ⟨.non, rfl, c.mono (fun b h => muts_s (sub1 h)), .inr ⟨b, d, rfl, c _ _ hb (fun z => nt (muts_s (sub1 z))), dok, .inr ⟨rfl, .inl ⟨rfl, u, hu, ys⟩⟩⟩⟩
            · exact ⟨.ref t, rfl, Chg.of_same s, .inr ⟨b, d, rfl, s _ _ hb, dok, .inl ⟨e, t, he, y2.same s, rfl, hT⟩⟩⟩
          | 1, _ =>
            obtain ⟨L', ks', M', nL⟩ := y2.t.mo
            have lrs : (Tt.rs.map (·.2)).length = Tt.rs.length := List.length_map ..
            refine ⟨_, rfl, _, rfl, ml, _, _, .ref Tt.m, rfl, rfl, SqL.of hMl2, rfl, _, rfl, Tt.m, b, L', _, _, _, _, ks', d, rfl, hb, M', by rw [lrs]; omega, by rw [lrs]; exact oT.ok, by rw [lrs]; exact oT.ok2, oT.tr, fixT.2.2.2, fun u hu H' L2' ks2 c m2 e1 e2 e3 => ?_, fun e he t H' ht s hT => ?_⟩
            · have ys := y2.modT (u := u) c nL m2 e1 e2 e3
              exact ⟨.non, rfl, c.mono (fun b h => muts_t (sub1 h)), .inr ⟨b, d, rfl, c _ _ hb (fun z => nt (muts_t (sub1 z))), dok, .inr ⟨rfl, .inr ⟨rfl, u, hu, ys⟩⟩⟩⟩
            · exact ⟨.ref t, rfl, Chg.of_same s, .inr ⟨b, d, rfl, s _ _ hb, dok, .inl ⟨e, t, he, y2.same s, rfl, hT⟩⟩⟩
        cases d with
        | keep => exact ⟨_, rfl, b, _, rfl, .inr (SqT.of hb), rfl, _, rfl, iteT (iteT inner)⟩
        | meet => exact ⟨_, rfl, b, _, rfl, .inr (SqT.of hb), rfl, _, rfl, iteT (iteT inner)⟩
        | go p => exact ⟨_, rfl, b, _, rfl, .inr (SqT.of hb), rfl, _, rfl, iteF ⟨_, rfl, b, _, _, .int (p : Int), rfl, rfl, SqT.of hb, rfl, rfl, .inr ⟨_, rfl, _, rfl, iteT inner⟩⟩⟩
        | take p => exact ⟨_, rfl, b, _, rfl, .inr (SqT.of hb), rfl, _, rfl, iteF ⟨_, rfl, b, _, _, .int (p : Int), rfl, rfl, SqT.of hb, rfl, rfl, .inr ⟨_, rfl, _, rfl, iteT inner⟩⟩⟩
        | drop p => exact ⟨_, rfl, b, _, rfl, .inr (SqT.of hb), rfl, _, rfl, iteF ⟨_, rfl, b, _, _, .int (p : Int), rfl, rfl, SqT.of hb, rfl, rfl, .inr ⟨_, rfl, _, rfl, iteT inner⟩⟩⟩
      · have fin : ∃ dv, [some (V.ref a), some (.int (R : Int)), some (.ref lr), some (.ref lh), some (.ref wl), some (.ref ml), some (.ref hd), some (.ref al), some (.int (6 + (i : Int))), some (.int (j : Int)), some x, some (.ref td), some (.ref od), none] = [some (.ref a), some (.int (R : Int)), some (.ref lr), some (.ref lh), some (.ref wl), some (.ref ml), some (.ref hd), some (.ref al), some (.int (6 + (i : Int))), some (.int (j : Int)), some x, some dv, some (.ref od), none] ∧ Chg (muts S Tt hd) H2 H2 ∧ Due5 K T.aWalker H2 S Tt hd w0 v0 (4 * i) j x dv :=
          ⟨.ref td, rfl, fun b o e _ => e, .inl ⟨bad, y2, td, rfl, hTd⟩⟩
        cases bad with
        | ntup ty ni => exact ⟨_, rfl, x, _, _, _, false, rfl, .ty "tuple", ty, ni, false, rfl, iteF fin⟩
        | @nstr b z r t hb ty ni =>
          refine ⟨_, rfl, .ref b, _, _, _, true, rfl, .ty "tuple", .base (.tup hb), kit_ty (by decide +kernel), true, rfl, iteT ?_⟩
          exact ⟨_, rfl, b, _, _, z, rfl, rfl, SqT.of hb, atI_nat (j := 0) rfl, z, _, _, _, false, rfl, .ty "str", ty, ni, false, rfl, iteF fin⟩
        | @odd b ww z hb o =>
          refine ⟨_, rfl, .ref b, _, _, _, true, rfl, .ty "tuple", .base (.tup hb), kit_ty (by decide +kernel), true, rfl, iteT ?_⟩
          refine ⟨_, rfl, b, _, _, .str ww, rfl, rfl, SqT.of hb, atI_nat (j := 0) rfl, .str ww, _, _, _, true, rfl, .ty "str", .base (.str _), kit_ty (by decide +kernel), true, rfl, iteT ?_⟩
          rcases o with ⟨rfl, rfl⟩ | ⟨rfl, rfl⟩ | ⟨rfl, rfl⟩ | ⟨rfl, rfl⟩ | ⟨rfl, rfl⟩
          · refine ⟨_, rfl, _, rfl, .tuple [.str "go", .int 0], oddD, .tup (SqT.of hb) (.cons (.str _) (.cons (.int _) .nil)), dpo, by decide +kernel, osh.shaped (by decide), _, rfl, ?_⟩
            rw [show (oddD.any fun z => PyData.eqv z (.tuple [.str "go", .int 0])) = true by decide +kernel]
            exact fin
          · refine ⟨_, rfl, _, rfl, .tuple [.str "go", .int 101], oddD, .tup (SqT.of hb) (.cons (.str _) (.cons (.int _) .nil)), dpo, by decide +kernel, osh.shaped (by decide), _, rfl, ?_⟩
            rw [show (oddD.any fun z => PyData.eqv z (.tuple [.str "go", .int 101])) = true by decide +kernel]
            exact fin
          · refine ⟨_, rfl, _, rfl, .tuple [.str "take", .int (-1)], oddD, .tup (SqT.of hb) (.cons (.str _) (.cons (.int _) .nil)), dpo, by decide +kernel, osh.shaped (by decide), _, rfl, ?_⟩
            rw [show (oddD.any fun z => PyData.eqv z (.tuple [.str "take", .int (-1)])) = true by decide +kernel]
            exact fin
          · refine ⟨_, rfl, _, rfl, .tuple [.str "keep", .int 1], oddD, .tup (SqT.of hb) (.cons (.str _) (.cons (.int _) .nil)), dpo, by decide +kernel, osh.shaped (by decide), _, rfl, ?_⟩
            rw [show (oddD.any fun z => PyData.eqv z (.tuple [.str "keep", .int 1])) = true by decide +kernel]
            exact fin
          · refine ⟨_, rfl, _, rfl, .tuple [.str "go", .str "1"], oddD, .tup (SqT.of hb) (.cons (.str _) (.cons (.str _) .nil)), dpo, by decide +kernel, osh.shaped (by decide), _, rfl, ?_⟩
            rw [show (oddD.any fun z => PyData.eqv z (.tuple [.str "go", .str "1"])) = true by decide +kernel]
            exact fin
        | @tru b hb =>
          refine ⟨_, rfl, .ref b, _, _, _, true, rfl, .ty "tuple", .base (.tup hb), kit_ty (by decide +kernel), true, rfl, iteT ?_⟩
          refine ⟨_, rfl, b, _, _, .str "drop", rfl, rfl, SqT.of hb, atI_nat (j := 0) rfl, .str "drop", _, _, _, true, rfl, .ty "str", .base (.str _), kit_ty (by decide +kernel), true, rfl, iteT ?_⟩
          refine ⟨_, rfl, _, rfl, .tuple [.str "drop", .bool true], oddD, .tup (SqT.of hb) (.cons (.str _) (.cons (.bl _) .nil)), dpo, by decide +kernel, osh.shaped (by decide), _, rfl, ?_⟩
          rw [show (oddD.any fun z => PyData.eqv z (.tuple [.str "drop", .bool true])) = false by decide +kernel]
          refine iteT ?_
          exact ⟨_, rfl, b, _, rfl, .inr (SqT.of hb), rfl, _, rfl, iteF ⟨_, rfl, b, _, _, .bl true, rfl, rfl, SqT.of hb, rfl, rfl, .inl ⟨true, rfl, _, rfl, iteF fin⟩⟩⟩
    rintro σ H3 ⟨dv, rfl, c3, due⟩
    have hWl3 := c3 _ _ hWl2 nWl
    have hMl3 := c3 _ _ hMl2 nMl
    clear dr2 dpo hTd
    refine ⟨fun σ H' => ∃ (w1 v1 : WK), σ = [some (.ref a), some (.int (R : Int)), some (.ref lr), some (.ref lh), some (.ref wl), some (.ref ml), some (.ref hd), some (.ref al), some (.int (6 + (i : Int))), some (.int (j : Int)), some x, some dv, some (.ref od), none] ∧ Chg (muts S Tt hd) H3 H' ∧ Sys T.aWalker H' S Tt hd w1 w1 v1 v1 (4 * i) ∧ SideOk S w1 ∧ SideOk Tt v1, ?_, ?_⟩
    · match j, hj with
      | 0, _ =>
        rcases due with ⟨bad, ys, t, rfl, hT⟩ | ⟨b, d, rfl, hb, dok, ⟨e, t, he, ys, rfl, hT⟩ | ⟨rfl, hok⟩⟩
        · have sh : Sh 1 (.tuple [.str "refused", .str "deed"]) := refW_sh 2 (by decide)
          refine ⟨_, rfl, _, rfl, wl, _, _, .ref S.A.x, rfl, rfl, SqL.of hWl3, rfl, _, rfl, S.A, x, S.rs, S.R, w0, rfl, ys.s.W, .inl ⟨bad.th, fun t2 H' h2 s hT2 => ⟨_, rfl, _, _, refW_dp hT2, refW_dp (s _ _ hT), sh.shaped (by decide), sh.shaped (by decide), _, rfl, ?_⟩⟩⟩
          rw [sh.refl]
          exact iteF ⟨w0, v0, rfl, Chg.of_same s, ys.same s, oS, oT⟩
        · rw [if_pos rfl] at he
          have e7 := stepK_err he
          have sh := refW_sh e (by omega)
          refine ⟨_, rfl, _, rfl, wl, _, _, .ref S.A.x, rfl, rfl, SqL.of hWl3, rfl, _, rfl, S.A, .ref b, S.rs, S.R, w0, rfl, ys.s.W, .inr ⟨b, d, rfl, hb, dok, ys.s.rr.same Rst.sub, oS.ok, by omega, by have := oS.ok2.mo; omega, oS.ok2.sn_le (by omega), fun v hv => ?_, fun e' he' t2 H' h2 s hT2 => ⟨_, rfl, _, _, refW_dp hT2, refW_dp (s _ _ hT), ?_, ?_, _, rfl, ?_⟩⟩⟩
          · rw [he] at hv
            cases hv
          all_goals rw [he] at he'
          all_goals have ee : e = e' := Except.error.inj he'
          all_goals subst ee
          · exact sh.shaped (by decide)
          · exact sh.shaped (by decide)
          · rw [sh.refl]
            exact iteF ⟨w0, v0, rfl, Chg.of_same s, ys.same s, oS, oT⟩
        ·
          rcases hok with ⟨_, u, hu, ys⟩ | ⟨q, _⟩
          ·
            refine ⟨_, rfl, _, rfl, wl, _, _, .ref S.A.x, rfl, rfl, SqL.of hWl3, rfl, _, rfl, S.A, .ref b, S.rs, S.R, w0, rfl, ys.s.W, .inr ⟨b, d, rfl, hb, dok, ys.s.rr.same Rst.sub, oS.ok, by omega, by have := oS.ok2.mo; omega, oS.ok2.sn_le (by omega), fun v hv H' bt W' => ?_, fun e he => ?_⟩⟩
            · rw [hu] at hv
              cases hv
              exact ⟨_, rfl, .none, .none, .non, .non, by decide, by decide, _, rfl, iteF ⟨u, v0, rfl, (Chg.of_but bt).mono (fun b h => muts_s (sub3 h)), ys.stepS bt W', oS.step hu, oT⟩⟩
            · rw [hu] at he
              cases he
          · exact absurd q (by decide)
      | 1, _ =>
        rcases due with ⟨bad, ys, t, rfl, hT⟩ | ⟨b, d, rfl, hb, dok, ⟨e, t, he, ys, rfl, hT⟩ | ⟨rfl, hok⟩⟩
        · have sh : Sh 1 (.tuple [.str "refused", .str "deed"]) := refW_sh 2 (by decide)
          refine ⟨_, rfl, _, rfl, wl, _, _, .ref Tt.A.x, rfl, rfl, SqL.of hWl3, rfl, _, rfl, Tt.A, x, Tt.rs, Tt.R, v0, rfl, ys.t.W, .inl ⟨bad.th, fun t2 H' h2 s hT2 => ⟨_, rfl, _, _, refW_dp hT2, refW_dp (s _ _ hT), sh.shaped (by decide), sh.shaped (by decide), _, rfl, ?_⟩⟩⟩
          rw [sh.refl]
          exact iteF ⟨w0, v0, rfl, Chg.of_same s, ys.same s, oS, oT⟩
        · rw [if_neg (by decide)] at he
          have e7 := stepK_err he
          have sh := refW_sh e (by omega)
          refine ⟨_, rfl, _, rfl, wl, _, _, .ref Tt.A.x, rfl, rfl, SqL.of hWl3, rfl, _, rfl, Tt.A, .ref b, Tt.rs, Tt.R, v0, rfl, ys.t.W, .inr ⟨b, d, rfl, hb, dok, ys.t.rr.same Rst.sub, oT.ok, by omega, by have := oT.ok2.mo; omega, oT.ok2.sn_le (by omega), fun v hv => ?_, fun e' he' t2 H' h2 s hT2 => ⟨_, rfl, _, _, refW_dp hT2, refW_dp (s _ _ hT), ?_, ?_, _, rfl, ?_⟩⟩⟩
          · rw [he] at hv
            cases hv
          all_goals rw [he] at he'
          all_goals have ee : e = e' := Except.error.inj he'
          all_goals subst ee
          · exact sh.shaped (by decide)
          · exact sh.shaped (by decide)
          · rw [sh.refl]
            exact iteF ⟨w0, v0, rfl, Chg.of_same s, ys.same s, oS, oT⟩
        ·
          rcases hok with ⟨q, _⟩ | ⟨_, u, hu, ys⟩
          · exact absurd q (by decide)
          ·
            refine ⟨_, rfl, _, rfl, wl, _, _, .ref Tt.A.x, rfl, rfl, SqL.of hWl3, rfl, _, rfl, Tt.A, .ref b, Tt.rs, Tt.R, v0, rfl, ys.t.W, .inr ⟨b, d, rfl, hb, dok, ys.t.rr.same Rst.sub, oT.ok, by omega, by have := oT.ok2.mo; omega, oT.ok2.sn_le (by omega), fun v hv H' bt W' => ?_, fun e he => ?_⟩⟩
            · rw [hu] at hv
              cases hv
              exact ⟨_, rfl, .none, .none, .non, .non, by decide, by decide, _, rfl, iteF ⟨w0, u, rfl, (Chg.of_but bt).mono (fun b h => muts_t (sub3 h)), ys.stepT bt W', oS, oT.step hu⟩⟩
            · rw [hu] at he
              cases he
    rintro σ H4 ⟨w1, v1, rfl, c4, y4, oS1, oT1⟩
    have hWl4 := c4 _ _ hWl3 nWl
    have hMl4 := c4 _ _ hMl3 nMl
    obtain ⟨L1, k1, M1, n1⟩ := y4.s.mo
    obtain ⟨ts1, g1, g2, g3⟩ := y4.h
    have mS := oS1.ok2.mo
    have snS := oS1.ok2.sn_le (by omega)
    refine ⟨_, rfl, wl, _, _, .ref S.A.x, rfl, rfl, SqL.of hWl4, rfl, _, rfl, ml, _, _, .ref S.m, rfl, rfl, SqL.of hMl4, rfl, _, rfl, S.A, S.m, hd, L1, _, _, S.rs, w1, k1, ts1, rfl, y4.s.W, M1, oS1.ok, oS1.tr, by omega, snS, g1, by omega, fun H5 t1 t2 c5 h5 p1 p2 => ⟨true, rfl, iteF ?_⟩⟩
    have y5 := y4.held g1 g2 g3 c5 h5 p1 p2
    have hd1 : ∀ b ∈ [hd], b ∈ muts S Tt hd := fun b h => by rw [List.mem_singleton.mp h]; exact muts_h
    have c5' := c5.mono hd1
    have hWl5 := c5' _ _ hWl4 nWl
    have hMl5 := c5' _ _ hMl4 nMl
    obtain ⟨L2', k2, M2, n2⟩ := y5.t.mo
    obtain ⟨ts2, e1, e2, e3⟩ := y5.h
    have mT := oT1.ok2.mo
    have snT := oT1.ok2.sn_le (by omega)
    refine ⟨_, rfl, wl, _, _, .ref Tt.A.x, rfl, rfl, SqL.of hWl5, rfl, _, rfl, ml, _, _, .ref Tt.m, rfl, rfl, SqL.of hMl5, rfl, _, rfl, Tt.A, Tt.m, hd, L2', _, _, Tt.rs, v1, k2, ts2, rfl, y5.t.W, M2, oT1.ok, oT1.tr, by omega, snT, e1, by omega, fun H6 t3 t4 c6 h6 p3 p4 => ⟨true, rfl, iteF ?_⟩⟩
    have y6 := y5.held e1 e2 e3 c6 h6 p3 p4
    have c6' := c6.mono hd1
    exact ⟨w1, v1, _, _, _, _, _, rfl, (((((ci.trans (Chg.of_same si2)).trans c3).trans c4).trans c5').trans c6'), y6, oS1, oT1⟩

-- @@ end
end
theorem all_mk {l : PySem.W.OpenLaw} {w : World} {K : PySem.W.Frag} {h : Heap} {mg : Str → Option Value} {fa : Addr} (X : K.In h) (G : h.Ns mainGlobals mg) (hfa : mg "law" = some (.ref fa))
    {oc_is_among kV_is_among dc_is_among pm_is_among cd_is_among ct_is_among : Value} {od_is_among an_is_among : Option Addr} {sl_is_among : Array (Option Value)} {f_is_among : Addr}
    {oc_is_state kV_is_state dc_is_state pm_is_state cd_is_state ct_is_state : Value} {od_is_state an_is_state : Option Addr} {sl_is_state : Array (Option Value)} {f_is_state : Addr}
    {oc_is_rule kV_is_rule dc_is_rule pm_is_rule cd_is_rule ct_is_rule : Value} {od_is_rule an_is_rule : Option Addr} {sl_is_rule : Array (Option Value)} {f_is_rule : Addr}
    {oc_need_row kV_need_row dc_need_row pm_need_row cd_need_row ct_need_row : Value} {od_need_row an_need_row : Option Addr} {sl_need_row : Array (Option Value)} {f_need_row : Addr}
    {oc_forth kV_forth dc_forth pm_forth cd_forth ct_forth : Value} {od_forth an_forth : Option Addr} {sl_forth : Array (Option Value)} {f_forth : Addr}
    {oc_is_deed kV_is_deed dc_is_deed pm_is_deed cd_is_deed ct_is_deed : Value} {od_is_deed an_is_deed : Option Addr} {sl_is_deed : Array (Option Value)} {f_is_deed : Addr}
    {oc_l_cell_at kV_l_cell_at dc_l_cell_at pm_l_cell_at cd_l_cell_at ct_l_cell_at : Value} {od_l_cell_at an_l_cell_at : Option Addr} {sl_l_cell_at : Array (Option Value)} {f_l_cell_at : Addr}
    {oc_l_number kV_l_number dc_l_number pm_l_number cd_l_number ct_l_number : Value} {od_l_number an_l_number : Option Addr} {sl_l_number : Array (Option Value)} {f_l_number : Addr}
    {oc_l_whole kV_l_whole dc_l_whole pm_l_whole cd_l_whole ct_l_whole : Value} {od_l_whole an_l_whole : Option Addr} {sl_l_whole : Array (Option Value)} {f_l_whole : Addr}
    {oc_l_rule kV_l_rule dc_l_rule pm_l_rule cd_l_rule ct_l_rule : Value} {od_l_rule an_l_rule : Option Addr} {sl_l_rule : Array (Option Value)} {f_l_rule : Addr}
    {oc_l_forth kV_l_forth dc_l_forth pm_l_forth cd_l_forth ct_l_forth : Value} {od_l_forth an_l_forth : Option Addr} {sl_l_forth : Array (Option Value)} {f_l_forth : Addr}
    {oc_l_row kV_l_row dc_l_row pm_l_row cd_l_row ct_l_row : Value} {od_l_row an_l_row : Option Addr} {sl_l_row : Array (Option Value)} {f_l_row : Addr}
    {oc_l_states kV_l_states dc_l_states pm_l_states cd_l_states ct_l_states : Value} {od_l_states an_l_states : Option Addr} {sl_l_states : Array (Option Value)} {f_l_states : Addr}
    {oc_l_class kV_l_class dc_l_class pm_l_class cd_l_class ct_l_class : Value} {od_l_class an_l_class : Option Addr} {sl_l_class : Array (Option Value)} {f_l_class : Addr}
    {oc_l_new kV_l_new dc_l_new pm_l_new cd_l_new ct_l_new : Value} {od_l_new an_l_new : Option Addr} {sl_l_new : Array (Option Value)} {f_l_new : Addr}
    {oc_l_do kV_l_do dc_l_do pm_l_do cd_l_do ct_l_do : Value} {od_l_do an_l_do : Option Addr} {sl_l_do : Array (Option Value)} {f_l_do : Addr}
    {oc_l_deed kV_l_deed dc_l_deed pm_l_deed cd_l_deed ct_l_deed : Value} {od_l_deed an_l_deed : Option Addr} {sl_l_deed : Array (Option Value)} {f_l_deed : Addr}
    {oc_l_told kV_l_told dc_l_told pm_l_told cd_l_told ct_l_told : Value} {od_l_told an_l_told : Option Addr} {sl_l_told : Array (Option Value)} {f_l_told : Addr}
    {oc_l_right kV_l_right dc_l_right pm_l_right cd_l_right ct_l_right : Value} {od_l_right an_l_right : Option Addr} {sl_l_right : Array (Option Value)} {f_l_right : Addr}
    {oc_l_room kV_l_room dc_l_room pm_l_room cd_l_room ct_l_room : Value} {od_l_room an_l_room : Option Addr} {sl_l_room : Array (Option Value)} {f_l_room : Addr}
    {oc_l_ahead kV_l_ahead dc_l_ahead pm_l_ahead cd_l_ahead ct_l_ahead : Value} {od_l_ahead an_l_ahead : Option Addr} {sl_l_ahead : Array (Option Value)} {f_l_ahead : Addr}
    {oc_law kV_law dc_law pm_law cd_law ct_law : Value} {od_law an_law : Option Addr} {sl_law : Array (Option Value)} {f_law : Addr}
    {oc_Walker_init kV_Walker_init dc_Walker_init pm_Walker_init cd_Walker_init ct_Walker_init : Value} {od_Walker_init an_Walker_init : Option Addr} {sl_Walker_init : Array (Option Value)} {f_Walker_init : Addr}
    {oc_Walker_keep kV_Walker_keep dc_Walker_keep pm_Walker_keep cd_Walker_keep ct_Walker_keep : Value} {od_Walker_keep an_Walker_keep : Option Addr} {sl_Walker_keep : Array (Option Value)} {f_Walker_keep : Addr}
    {oc_Walker_meet kV_Walker_meet dc_Walker_meet pm_Walker_meet cd_Walker_meet ct_Walker_meet : Value} {od_Walker_meet an_Walker_meet : Option Addr} {sl_Walker_meet : Array (Option Value)} {f_Walker_meet : Addr}
    {oc_Walker_go kV_Walker_go dc_Walker_go pm_Walker_go cd_Walker_go ct_Walker_go : Value} {od_Walker_go an_Walker_go : Option Addr} {sl_Walker_go : Array (Option Value)} {f_Walker_go : Addr}
    {oc_Walker_do kV_Walker_do dc_Walker_do pm_Walker_do cd_Walker_do ct_Walker_do : Value} {od_Walker_do an_Walker_do : Option Addr} {sl_Walker_do : Array (Option Value)} {f_Walker_do : Addr}
    {oc_Walker_kept kV_Walker_kept dc_Walker_kept pm_Walker_kept cd_Walker_kept ct_Walker_kept : Value} {od_Walker_kept an_Walker_kept : Option Addr} {sl_Walker_kept : Array (Option Value)} {f_Walker_kept : Addr}
    {oc_Walker_met kV_Walker_met dc_Walker_met pm_Walker_met cd_Walker_met ct_Walker_met : Value} {od_Walker_met an_Walker_met : Option Addr} {sl_Walker_met : Array (Option Value)} {f_Walker_met : Addr}
    {t_MODULUS : Tok}
    {t_MOST_STEPS : Tok}
    {t_MOST_ROOM : Tok}
    {C_BadCount : Addr}
    {C_BadRule : Addr}
    {C_BadDeed : Addr}
    {C_NotKept : Addr}
    {C_Twice : Addr}
    {C_Full : Addr}
    {C_AtEnd : Addr}
    {C_NotWanted : Addr}
    {C_MarkError : Addr}
    {C_Walker : Addr}
    (a_is_among : PySem.W.nsIn K mainGlobals "is_among" = some (some (.ref f_is_among)))
    (l_is_among : K.lookup f_is_among = some ⟨oc_is_among, od_is_among, .func (PySem.W.fnOf "is_among" "is_among" (defArgs s_is_among) (defBody s_is_among) (defScope s_is_among) .none kV_is_among dc_is_among pm_is_among an_is_among cd_is_among ct_is_among), sl_is_among⟩)
    (c_is_among : PySem.W.codeIn K cd_is_among "is_among" = true)
    (k_is_among : PySem.W.keepIn K (.ref f_is_among) = true)
    (a_is_state : PySem.W.nsIn K mainGlobals "is_state" = some (some (.ref f_is_state)))
    (l_is_state : K.lookup f_is_state = some ⟨oc_is_state, od_is_state, .func (PySem.W.fnOf "is_state" "is_state" (defArgs s_is_state) (defBody s_is_state) (defScope s_is_state) .none kV_is_state dc_is_state pm_is_state an_is_state cd_is_state ct_is_state), sl_is_state⟩)
    (c_is_state : PySem.W.codeIn K cd_is_state "is_state" = true)
    (k_is_state : PySem.W.keepIn K (.ref f_is_state) = true)
    (a_is_rule : PySem.W.nsIn K mainGlobals "is_rule" = some (some (.ref f_is_rule)))
    (l_is_rule : K.lookup f_is_rule = some ⟨oc_is_rule, od_is_rule, .func (PySem.W.fnOf "is_rule" "is_rule" (defArgs s_is_rule) (defBody s_is_rule) (defScope s_is_rule) .none kV_is_rule dc_is_rule pm_is_rule an_is_rule cd_is_rule ct_is_rule), sl_is_rule⟩)
    (c_is_rule : PySem.W.codeIn K cd_is_rule "is_rule" = true)
    (k_is_rule : PySem.W.keepIn K (.ref f_is_rule) = true)
    (a_need_row : PySem.W.nsIn K mainGlobals "need_row" = some (some (.ref f_need_row)))
    (l_need_row : K.lookup f_need_row = some ⟨oc_need_row, od_need_row, .func (PySem.W.fnOf "need_row" "need_row" (defArgs s_need_row) (defBody s_need_row) (defScope s_need_row) .none kV_need_row dc_need_row pm_need_row an_need_row cd_need_row ct_need_row), sl_need_row⟩)
    (c_need_row : PySem.W.codeIn K cd_need_row "need_row" = true)
    (k_need_row : PySem.W.keepIn K (.ref f_need_row) = true)
    (a_forth : PySem.W.nsIn K mainGlobals "forth" = some (some (.ref f_forth)))
    (l_forth : K.lookup f_forth = some ⟨oc_forth, od_forth, .func (PySem.W.fnOf "forth" "forth" (defArgs s_forth) (defBody s_forth) (defScope s_forth) .none kV_forth dc_forth pm_forth an_forth cd_forth ct_forth), sl_forth⟩)
    (c_forth : PySem.W.codeIn K cd_forth "forth" = true)
    (k_forth : PySem.W.keepIn K (.ref f_forth) = true)
    (a_is_deed : PySem.W.nsIn K mainGlobals "is_deed" = some (some (.ref f_is_deed)))
    (l_is_deed : K.lookup f_is_deed = some ⟨oc_is_deed, od_is_deed, .func (PySem.W.fnOf "is_deed" "is_deed" (defArgs s_is_deed) (defBody s_is_deed) (defScope s_is_deed) .none kV_is_deed dc_is_deed pm_is_deed an_is_deed cd_is_deed ct_is_deed), sl_is_deed⟩)
    (c_is_deed : PySem.W.codeIn K cd_is_deed "is_deed" = true)
    (k_is_deed : PySem.W.keepIn K (.ref f_is_deed) = true)
    (a_l_cell_at : PySem.W.nsIn K mainGlobals "_law_cell_at" = some (some (.ref f_l_cell_at)))
    (l_l_cell_at : K.lookup f_l_cell_at = some ⟨oc_l_cell_at, od_l_cell_at, .func (PySem.W.fnOf "_law_cell_at" "_law_cell_at" (defArgs s_l_cell_at) (defBody s_l_cell_at) (defScope s_l_cell_at) .none kV_l_cell_at dc_l_cell_at pm_l_cell_at an_l_cell_at cd_l_cell_at ct_l_cell_at), sl_l_cell_at⟩)
    (c_l_cell_at : PySem.W.codeIn K cd_l_cell_at "_law_cell_at" = true)
    (k_l_cell_at : PySem.W.keepIn K (.ref f_l_cell_at) = true)
    (a_l_number : PySem.W.nsIn K mainGlobals "_law_number" = some (some (.ref f_l_number)))
    (l_l_number : K.lookup f_l_number = some ⟨oc_l_number, od_l_number, .func (PySem.W.fnOf "_law_number" "_law_number" (defArgs s_l_number) (defBody s_l_number) (defScope s_l_number) .none kV_l_number dc_l_number pm_l_number an_l_number cd_l_number ct_l_number), sl_l_number⟩)
    (c_l_number : PySem.W.codeIn K cd_l_number "_law_number" = true)
    (k_l_number : PySem.W.keepIn K (.ref f_l_number) = true)
    (a_l_whole : PySem.W.nsIn K mainGlobals "_law_whole" = some (some (.ref f_l_whole)))
    (l_l_whole : K.lookup f_l_whole = some ⟨oc_l_whole, od_l_whole, .func (PySem.W.fnOf "_law_whole" "_law_whole" (defArgs s_l_whole) (defBody s_l_whole) (defScope s_l_whole) .none kV_l_whole dc_l_whole pm_l_whole an_l_whole cd_l_whole ct_l_whole), sl_l_whole⟩)
    (c_l_whole : PySem.W.codeIn K cd_l_whole "_law_whole" = true)
    (k_l_whole : PySem.W.keepIn K (.ref f_l_whole) = true)
    (a_l_rule : PySem.W.nsIn K mainGlobals "_law_rule" = some (some (.ref f_l_rule)))
    (l_l_rule : K.lookup f_l_rule = some ⟨oc_l_rule, od_l_rule, .func (PySem.W.fnOf "_law_rule" "_law_rule" (defArgs s_l_rule) (defBody s_l_rule) (defScope s_l_rule) .none kV_l_rule dc_l_rule pm_l_rule an_l_rule cd_l_rule ct_l_rule), sl_l_rule⟩)
    (c_l_rule : PySem.W.codeIn K cd_l_rule "_law_rule" = true)
    (k_l_rule : PySem.W.keepIn K (.ref f_l_rule) = true)
    (a_l_forth : PySem.W.nsIn K mainGlobals "_law_forth" = some (some (.ref f_l_forth)))
    (l_l_forth : K.lookup f_l_forth = some ⟨oc_l_forth, od_l_forth, .func (PySem.W.fnOf "_law_forth" "_law_forth" (defArgs s_l_forth) (defBody s_l_forth) (defScope s_l_forth) .none kV_l_forth dc_l_forth pm_l_forth an_l_forth cd_l_forth ct_l_forth), sl_l_forth⟩)
    (c_l_forth : PySem.W.codeIn K cd_l_forth "_law_forth" = true)
    (k_l_forth : PySem.W.keepIn K (.ref f_l_forth) = true)
    (a_l_row : PySem.W.nsIn K mainGlobals "_law_row" = some (some (.ref f_l_row)))
    (l_l_row : K.lookup f_l_row = some ⟨oc_l_row, od_l_row, .func (PySem.W.fnOf "_law_row" "_law_row" (defArgs s_l_row) (defBody s_l_row) (defScope s_l_row) .none kV_l_row dc_l_row pm_l_row an_l_row cd_l_row ct_l_row), sl_l_row⟩)
    (c_l_row : PySem.W.codeIn K cd_l_row "_law_row" = true)
    (k_l_row : PySem.W.keepIn K (.ref f_l_row) = true)
    (a_l_states : PySem.W.nsIn K mainGlobals "_law_states" = some (some (.ref f_l_states)))
    (l_l_states : K.lookup f_l_states = some ⟨oc_l_states, od_l_states, .func (PySem.W.fnOf "_law_states" "_law_states" (defArgs s_l_states) (defBody s_l_states) (defScope s_l_states) .none kV_l_states dc_l_states pm_l_states an_l_states cd_l_states ct_l_states), sl_l_states⟩)
    (c_l_states : PySem.W.codeIn K cd_l_states "_law_states" = true)
    (k_l_states : PySem.W.keepIn K (.ref f_l_states) = true)
    (a_l_class : PySem.W.nsIn K mainGlobals "_law_class" = some (some (.ref f_l_class)))
    (l_l_class : K.lookup f_l_class = some ⟨oc_l_class, od_l_class, .func (PySem.W.fnOf "_law_class" "_law_class" (defArgs s_l_class) (defBody s_l_class) (defScope s_l_class) .none kV_l_class dc_l_class pm_l_class an_l_class cd_l_class ct_l_class), sl_l_class⟩)
    (c_l_class : PySem.W.codeIn K cd_l_class "_law_class" = true)
    (k_l_class : PySem.W.keepIn K (.ref f_l_class) = true)
    (a_l_new : PySem.W.nsIn K mainGlobals "_law_new" = some (some (.ref f_l_new)))
    (l_l_new : K.lookup f_l_new = some ⟨oc_l_new, od_l_new, .func (PySem.W.fnOf "_law_new" "_law_new" (defArgs s_l_new) (defBody s_l_new) (defScope s_l_new) .none kV_l_new dc_l_new pm_l_new an_l_new cd_l_new ct_l_new), sl_l_new⟩)
    (c_l_new : PySem.W.codeIn K cd_l_new "_law_new" = true)
    (k_l_new : PySem.W.keepIn K (.ref f_l_new) = true)
    (a_l_do : PySem.W.nsIn K mainGlobals "_law_do" = some (some (.ref f_l_do)))
    (l_l_do : K.lookup f_l_do = some ⟨oc_l_do, od_l_do, .func (PySem.W.fnOf "_law_do" "_law_do" (defArgs s_l_do) (defBody s_l_do) (defScope s_l_do) .none kV_l_do dc_l_do pm_l_do an_l_do cd_l_do ct_l_do), sl_l_do⟩)
    (c_l_do : PySem.W.codeIn K cd_l_do "_law_do" = true)
    (k_l_do : PySem.W.keepIn K (.ref f_l_do) = true)
    (a_l_deed : PySem.W.nsIn K mainGlobals "_law_deed" = some (some (.ref f_l_deed)))
    (l_l_deed : K.lookup f_l_deed = some ⟨oc_l_deed, od_l_deed, .func (PySem.W.fnOf "_law_deed" "_law_deed" (defArgs s_l_deed) (defBody s_l_deed) (defScope s_l_deed) .none kV_l_deed dc_l_deed pm_l_deed an_l_deed cd_l_deed ct_l_deed), sl_l_deed⟩)
    (c_l_deed : PySem.W.codeIn K cd_l_deed "_law_deed" = true)
    (k_l_deed : PySem.W.keepIn K (.ref f_l_deed) = true)
    (a_l_told : PySem.W.nsIn K mainGlobals "_law_told" = some (some (.ref f_l_told)))
    (l_l_told : K.lookup f_l_told = some ⟨oc_l_told, od_l_told, .func (PySem.W.fnOf "_law_told" "_law_told" (defArgs s_l_told) (defBody s_l_told) (defScope s_l_told) .none kV_l_told dc_l_told pm_l_told an_l_told cd_l_told ct_l_told), sl_l_told⟩)
    (c_l_told : PySem.W.codeIn K cd_l_told "_law_told" = true)
    (k_l_told : PySem.W.keepIn K (.ref f_l_told) = true)
    (a_l_right : PySem.W.nsIn K mainGlobals "_law_right" = some (some (.ref f_l_right)))
    (l_l_right : K.lookup f_l_right = some ⟨oc_l_right, od_l_right, .func (PySem.W.fnOf "_law_right" "_law_right" (defArgs s_l_right) (defBody s_l_right) (defScope s_l_right) .none kV_l_right dc_l_right pm_l_right an_l_right cd_l_right ct_l_right), sl_l_right⟩)
    (c_l_right : PySem.W.codeIn K cd_l_right "_law_right" = true)
    (k_l_right : PySem.W.keepIn K (.ref f_l_right) = true)
    (a_l_room : PySem.W.nsIn K mainGlobals "_law_room" = some (some (.ref f_l_room)))
    (l_l_room : K.lookup f_l_room = some ⟨oc_l_room, od_l_room, .func (PySem.W.fnOf "_law_room" "_law_room" (defArgs s_l_room) (defBody s_l_room) (defScope s_l_room) .none kV_l_room dc_l_room pm_l_room an_l_room cd_l_room ct_l_room), sl_l_room⟩)
    (c_l_room : PySem.W.codeIn K cd_l_room "_law_room" = true)
    (k_l_room : PySem.W.keepIn K (.ref f_l_room) = true)
    (a_l_ahead : PySem.W.nsIn K mainGlobals "_law_ahead" = some (some (.ref f_l_ahead)))
    (l_l_ahead : K.lookup f_l_ahead = some ⟨oc_l_ahead, od_l_ahead, .func (PySem.W.fnOf "_law_ahead" "_law_ahead" (defArgs s_l_ahead) (defBody s_l_ahead) (defScope s_l_ahead) .none kV_l_ahead dc_l_ahead pm_l_ahead an_l_ahead cd_l_ahead ct_l_ahead), sl_l_ahead⟩)
    (c_l_ahead : PySem.W.codeIn K cd_l_ahead "_law_ahead" = true)
    (k_l_ahead : PySem.W.keepIn K (.ref f_l_ahead) = true)
    (a_law : PySem.W.nsIn K mainGlobals "law" = some (some (.ref f_law)))
    (l_law : K.lookup f_law = some ⟨oc_law, od_law, .func (PySem.W.fnOf "law" "law" (defArgs s_law) (defBody s_law) (defScope s_law) .none kV_law dc_law pm_law an_law cd_law ct_law), sl_law⟩)
    (c_law : PySem.W.codeIn K cd_law "law" = true)
    (k_law : PySem.W.keepIn K (.ref f_law) = true)
    (aCWalker : PySem.W.nsIn K mainGlobals "Walker" = some (some (.ref C_Walker)))
    (pgWalker : PySem.W.plainGet K C_Walker Str.empty = true) (hdWalker : PySem.W.hasDictIn K C_Walker = true) (poWalker : PySem.W.plainOver K C_Walker = true) (saWalker : PySem.W.findIn K (.ref C_Walker) "__setattr__" = some (some (.builtin "object.__setattr__"))) (mkWalker : PySem.W.makesIn K C_Walker = true) (kcWalker : PySem.W.keepIn K (.ref C_Walker) = true)
    (nfrules : PySem.W.findIn K (.ref C_Walker) "rules" = some none)
    (nfroom : PySem.W.findIn K (.ref C_Walker) "room" = some none)
    (nfplace : PySem.W.findIn K (.ref C_Walker) "place" = some none)
    (nfstate : PySem.W.findIn K (.ref C_Walker) "state" = some none)
    (nfdone : PySem.W.findIn K (.ref C_Walker) "done" = some none)
    (nfwanted : PySem.W.findIn K (.ref C_Walker) "wanted" = some none)
    (nfmarks : PySem.W.findIn K (.ref C_Walker) "marks" = some none)
    (nfseen : PySem.W.findIn K (.ref C_Walker) "seen" = some none)
    (a_Walker_init : PySem.W.findIn K (.ref C_Walker) "__init__" = some (some (.ref f_Walker_init)))
    (i_Walker_init : PySem.W.isFn K (.ref f_Walker_init) = true)
    (l_Walker_init : K.lookup f_Walker_init = some ⟨oc_Walker_init, od_Walker_init, .func (PySem.W.fnOf "__init__" "Walker.__init__" (defArgs s_Walker_init) (defBody s_Walker_init) (defScope s_Walker_init) .none kV_Walker_init dc_Walker_init pm_Walker_init an_Walker_init cd_Walker_init ct_Walker_init), sl_Walker_init⟩)
    (c_Walker_init : PySem.W.codeIn K cd_Walker_init "Walker.__init__" = true)
    (k_Walker_init : PySem.W.keepIn K (.ref f_Walker_init) = true)
    (a_Walker_keep : PySem.W.findIn K (.ref C_Walker) "keep" = some (some (.ref f_Walker_keep)))
    (i_Walker_keep : PySem.W.isFn K (.ref f_Walker_keep) = true)
    (l_Walker_keep : K.lookup f_Walker_keep = some ⟨oc_Walker_keep, od_Walker_keep, .func (PySem.W.fnOf "keep" "Walker.keep" (defArgs s_Walker_keep) (defBody s_Walker_keep) (defScope s_Walker_keep) .none kV_Walker_keep dc_Walker_keep pm_Walker_keep an_Walker_keep cd_Walker_keep ct_Walker_keep), sl_Walker_keep⟩)
    (c_Walker_keep : PySem.W.codeIn K cd_Walker_keep "Walker.keep" = true)
    (k_Walker_keep : PySem.W.keepIn K (.ref f_Walker_keep) = true)
    (a_Walker_meet : PySem.W.findIn K (.ref C_Walker) "meet" = some (some (.ref f_Walker_meet)))
    (i_Walker_meet : PySem.W.isFn K (.ref f_Walker_meet) = true)
    (l_Walker_meet : K.lookup f_Walker_meet = some ⟨oc_Walker_meet, od_Walker_meet, .func (PySem.W.fnOf "meet" "Walker.meet" (defArgs s_Walker_meet) (defBody s_Walker_meet) (defScope s_Walker_meet) .none kV_Walker_meet dc_Walker_meet pm_Walker_meet an_Walker_meet cd_Walker_meet ct_Walker_meet), sl_Walker_meet⟩)
    (c_Walker_meet : PySem.W.codeIn K cd_Walker_meet "Walker.meet" = true)
    (k_Walker_meet : PySem.W.keepIn K (.ref f_Walker_meet) = true)
    (a_Walker_go : PySem.W.findIn K (.ref C_Walker) "go" = some (some (.ref f_Walker_go)))
    (i_Walker_go : PySem.W.isFn K (.ref f_Walker_go) = true)
    (l_Walker_go : K.lookup f_Walker_go = some ⟨oc_Walker_go, od_Walker_go, .func (PySem.W.fnOf "go" "Walker.go" (defArgs s_Walker_go) (defBody s_Walker_go) (defScope s_Walker_go) .none kV_Walker_go dc_Walker_go pm_Walker_go an_Walker_go cd_Walker_go ct_Walker_go), sl_Walker_go⟩)
    (c_Walker_go : PySem.W.codeIn K cd_Walker_go "Walker.go" = true)
    (k_Walker_go : PySem.W.keepIn K (.ref f_Walker_go) = true)
    (a_Walker_do : PySem.W.findIn K (.ref C_Walker) "do" = some (some (.ref f_Walker_do)))
    (i_Walker_do : PySem.W.isFn K (.ref f_Walker_do) = true)
    (l_Walker_do : K.lookup f_Walker_do = some ⟨oc_Walker_do, od_Walker_do, .func (PySem.W.fnOf "do" "Walker.do" (defArgs s_Walker_do) (defBody s_Walker_do) (defScope s_Walker_do) .none kV_Walker_do dc_Walker_do pm_Walker_do an_Walker_do cd_Walker_do ct_Walker_do), sl_Walker_do⟩)
    (c_Walker_do : PySem.W.codeIn K cd_Walker_do "Walker.do" = true)
    (k_Walker_do : PySem.W.keepIn K (.ref f_Walker_do) = true)
    (a_Walker_kept : PySem.W.findIn K (.ref C_Walker) "kept" = some (some (.ref f_Walker_kept)))
    (i_Walker_kept : PySem.W.isFn K (.ref f_Walker_kept) = true)
    (l_Walker_kept : K.lookup f_Walker_kept = some ⟨oc_Walker_kept, od_Walker_kept, .func (PySem.W.fnOf "kept" "Walker.kept" (defArgs s_Walker_kept) (defBody s_Walker_kept) (defScope s_Walker_kept) .none kV_Walker_kept dc_Walker_kept pm_Walker_kept an_Walker_kept cd_Walker_kept ct_Walker_kept), sl_Walker_kept⟩)
    (c_Walker_kept : PySem.W.codeIn K cd_Walker_kept "Walker.kept" = true)
    (k_Walker_kept : PySem.W.keepIn K (.ref f_Walker_kept) = true)
    (a_Walker_met : PySem.W.findIn K (.ref C_Walker) "met" = some (some (.ref f_Walker_met)))
    (i_Walker_met : PySem.W.isFn K (.ref f_Walker_met) = true)
    (l_Walker_met : K.lookup f_Walker_met = some ⟨oc_Walker_met, od_Walker_met, .func (PySem.W.fnOf "met" "Walker.met" (defArgs s_Walker_met) (defBody s_Walker_met) (defScope s_Walker_met) .none kV_Walker_met dc_Walker_met pm_Walker_met an_Walker_met cd_Walker_met ct_Walker_met), sl_Walker_met⟩)
    (c_Walker_met : PySem.W.codeIn K cd_Walker_met "Walker.met" = true)
    (k_Walker_met : PySem.W.keepIn K (.ref f_Walker_met) = true)
    (v_MODULUS : PySem.W.nsIn K mainGlobals "MODULUS" = some (some (.int 999983 t_MODULUS)))
    (v_MOST_STEPS : PySem.W.nsIn K mainGlobals "MOST_STEPS" = some (some (.int 100 t_MOST_STEPS)))
    (v_MOST_ROOM : PySem.W.nsIn K mainGlobals "MOST_ROOM" = some (some (.int 12 t_MOST_ROOM)))
    (z_isinstance : PySem.W.nsIn K mainGlobals "isinstance" = some none)
    (z_bool : PySem.W.nsIn K mainGlobals "bool" = some none)
    (z_int : PySem.W.nsIn K mainGlobals "int" = some none)
    (z_str : PySem.W.nsIn K mainGlobals "str" = some none)
    (z_len : PySem.W.nsIn K mainGlobals "len" = some none)
    (z_tuple : PySem.W.nsIn K mainGlobals "tuple" = some none)
    (z_list : PySem.W.nsIn K mainGlobals "list" = some none)
    (z_sorted : PySem.W.nsIn K mainGlobals "sorted" = some none)
    (z_range : PySem.W.nsIn K mainGlobals "range" = some none)
    (z_ValueError : PySem.W.nsIn K mainGlobals "ValueError" = some none)
    (z_all : PySem.W.nsIn K mainGlobals "all" = some none)
    (z_min : PySem.W.nsIn K mainGlobals "min" = some none)
    (gBadCount : PySem.W.nsIn K mainGlobals "BadCount" = some (some (.ref C_BadCount)))
    (xBadCount : PySem.W.excIn K C_BadCount [.type "ValueError", .type "Exception", .type "BaseException", .type "object"] "ValueError.__new__" = true)
    (kBadCount : PySem.W.keepIn K (.ref C_BadCount) = true) (bBadCount : PySem.W.subIn K (.ref C_BadCount) (.type "BaseException") = some true) (tBadCount : PySem.W.typeIn K (.ref C_BadCount) = some (.type "type"))
    (gBadRule : PySem.W.nsIn K mainGlobals "BadRule" = some (some (.ref C_BadRule)))
    (xBadRule : PySem.W.excIn K C_BadRule [.type "ValueError", .type "Exception", .type "BaseException", .type "object"] "ValueError.__new__" = true)
    (kBadRule : PySem.W.keepIn K (.ref C_BadRule) = true) (bBadRule : PySem.W.subIn K (.ref C_BadRule) (.type "BaseException") = some true) (tBadRule : PySem.W.typeIn K (.ref C_BadRule) = some (.type "type"))
    (gBadDeed : PySem.W.nsIn K mainGlobals "BadDeed" = some (some (.ref C_BadDeed)))
    (xBadDeed : PySem.W.excIn K C_BadDeed [.type "ValueError", .type "Exception", .type "BaseException", .type "object"] "ValueError.__new__" = true)
    (kBadDeed : PySem.W.keepIn K (.ref C_BadDeed) = true) (bBadDeed : PySem.W.subIn K (.ref C_BadDeed) (.type "BaseException") = some true) (tBadDeed : PySem.W.typeIn K (.ref C_BadDeed) = some (.type "type"))
    (gNotKept : PySem.W.nsIn K mainGlobals "NotKept" = some (some (.ref C_NotKept)))
    (xNotKept : PySem.W.excIn K C_NotKept [.type "ValueError", .type "Exception", .type "BaseException", .type "object"] "ValueError.__new__" = true)
    (kNotKept : PySem.W.keepIn K (.ref C_NotKept) = true) (bNotKept : PySem.W.subIn K (.ref C_NotKept) (.type "BaseException") = some true) (tNotKept : PySem.W.typeIn K (.ref C_NotKept) = some (.type "type"))
    (gTwice : PySem.W.nsIn K mainGlobals "Twice" = some (some (.ref C_Twice)))
    (xTwice : PySem.W.excIn K C_Twice [.type "ValueError", .type "Exception", .type "BaseException", .type "object"] "ValueError.__new__" = true)
    (kTwice : PySem.W.keepIn K (.ref C_Twice) = true) (bTwice : PySem.W.subIn K (.ref C_Twice) (.type "BaseException") = some true) (tTwice : PySem.W.typeIn K (.ref C_Twice) = some (.type "type"))
    (gFull : PySem.W.nsIn K mainGlobals "Full" = some (some (.ref C_Full)))
    (xFull : PySem.W.excIn K C_Full [.type "ValueError", .type "Exception", .type "BaseException", .type "object"] "ValueError.__new__" = true)
    (kFull : PySem.W.keepIn K (.ref C_Full) = true) (bFull : PySem.W.subIn K (.ref C_Full) (.type "BaseException") = some true) (tFull : PySem.W.typeIn K (.ref C_Full) = some (.type "type"))
    (gAtEnd : PySem.W.nsIn K mainGlobals "AtEnd" = some (some (.ref C_AtEnd)))
    (xAtEnd : PySem.W.excIn K C_AtEnd [.type "ValueError", .type "Exception", .type "BaseException", .type "object"] "ValueError.__new__" = true)
    (kAtEnd : PySem.W.keepIn K (.ref C_AtEnd) = true) (bAtEnd : PySem.W.subIn K (.ref C_AtEnd) (.type "BaseException") = some true) (tAtEnd : PySem.W.typeIn K (.ref C_AtEnd) = some (.type "type"))
    (gNotWanted : PySem.W.nsIn K mainGlobals "NotWanted" = some (some (.ref C_NotWanted)))
    (xNotWanted : PySem.W.excIn K C_NotWanted [.type "ValueError", .type "Exception", .type "BaseException", .type "object"] "ValueError.__new__" = true)
    (kNotWanted : PySem.W.keepIn K (.ref C_NotWanted) = true) (bNotWanted : PySem.W.subIn K (.ref C_NotWanted) (.type "BaseException") = some true) (tNotWanted : PySem.W.typeIn K (.ref C_NotWanted) = some (.type "type"))
    (gMarkError : PySem.W.nsIn K mainGlobals "MarkError" = some (some (.ref C_MarkError)))
    (xMarkError : PySem.W.excIn K C_MarkError [.type "ValueError", .type "Exception", .type "BaseException", .type "object"] "ValueError.__new__" = true)
    (kMarkError : PySem.W.keepIn K (.ref C_MarkError) = true) (bMarkError : PySem.W.subIn K (.ref C_MarkError) (.type "BaseException") = some true) (tMarkError : PySem.W.typeIn K (.ref C_MarkError) = some (.type "type"))
    (hdM : PySem.W.hasDictIn K C_MarkError = true)
    (tkX : PySem.W.takesIn K (.builtin "object.__class__") = some true)
    (spX : PySem.W.specialIn K (.builtin "object.__class__") "__get__" = some (some (.builtin "getset_descriptor.__get__")))
    (sMBadDeed : PySem.W.subIn K (.ref C_BadDeed) (.ref C_MarkError) = some true)
    (qBadDeedBadCount : PySem.W.kitOne K (.ref C_BadDeed) (.ref C_BadCount) = some false)
    (qBadDeedBadRule : PySem.W.kitOne K (.ref C_BadDeed) (.ref C_BadRule) = some false)
    (qBadDeedBadDeed : PySem.W.kitOne K (.ref C_BadDeed) (.ref C_BadDeed) = some true)
    (qBadDeedFull : PySem.W.kitOne K (.ref C_BadDeed) (.ref C_Full) = some false)
    (qBadDeedTwice : PySem.W.kitOne K (.ref C_BadDeed) (.ref C_Twice) = some false)
    (qBadDeedNotKept : PySem.W.kitOne K (.ref C_BadDeed) (.ref C_NotKept) = some false)
    (qBadDeedAtEnd : PySem.W.kitOne K (.ref C_BadDeed) (.ref C_AtEnd) = some false)
    (qBadDeedNotWanted : PySem.W.kitOne K (.ref C_BadDeed) (.ref C_NotWanted) = some false)
    (qvBadDeed : PySem.W.kitOne K (.ref C_BadDeed) (.type "ValueError") = some true)
    (hgBadDeed : PySem.W.findIn K (.ref C_BadDeed) "__getattribute__" = some (some (.builtin "BaseException.__getattribute__")))
    (hkBadDeed : PySem.W.findIn K (.ref C_BadDeed) "__getattr__" = some none)
    (hdBadDeed : PySem.W.hasDictIn K C_BadDeed = true)
    (haBadDeed : PySem.W.findIn K (.ref C_BadDeed) "__class__" = some (some (.builtin "object.__class__")))
    (hmBadDeed : PySem.W.mroIn K C_BadDeed (.type "object") = some true)
    (sMFull : PySem.W.subIn K (.ref C_Full) (.ref C_MarkError) = some true)
    (qFullBadCount : PySem.W.kitOne K (.ref C_Full) (.ref C_BadCount) = some false)
    (qFullBadRule : PySem.W.kitOne K (.ref C_Full) (.ref C_BadRule) = some false)
    (qFullBadDeed : PySem.W.kitOne K (.ref C_Full) (.ref C_BadDeed) = some false)
    (qFullFull : PySem.W.kitOne K (.ref C_Full) (.ref C_Full) = some true)
    (qFullTwice : PySem.W.kitOne K (.ref C_Full) (.ref C_Twice) = some false)
    (qFullNotKept : PySem.W.kitOne K (.ref C_Full) (.ref C_NotKept) = some false)
    (qFullAtEnd : PySem.W.kitOne K (.ref C_Full) (.ref C_AtEnd) = some false)
    (qFullNotWanted : PySem.W.kitOne K (.ref C_Full) (.ref C_NotWanted) = some false)
    (qvFull : PySem.W.kitOne K (.ref C_Full) (.type "ValueError") = some true)
    (hgFull : PySem.W.findIn K (.ref C_Full) "__getattribute__" = some (some (.builtin "BaseException.__getattribute__")))
    (hkFull : PySem.W.findIn K (.ref C_Full) "__getattr__" = some none)
    (hdFull : PySem.W.hasDictIn K C_Full = true)
    (haFull : PySem.W.findIn K (.ref C_Full) "__class__" = some (some (.builtin "object.__class__")))
    (hmFull : PySem.W.mroIn K C_Full (.type "object") = some true)
    (sMTwice : PySem.W.subIn K (.ref C_Twice) (.ref C_MarkError) = some true)
    (qTwiceBadCount : PySem.W.kitOne K (.ref C_Twice) (.ref C_BadCount) = some false)
    (qTwiceBadRule : PySem.W.kitOne K (.ref C_Twice) (.ref C_BadRule) = some false)
    (qTwiceBadDeed : PySem.W.kitOne K (.ref C_Twice) (.ref C_BadDeed) = some false)
    (qTwiceFull : PySem.W.kitOne K (.ref C_Twice) (.ref C_Full) = some false)
    (qTwiceTwice : PySem.W.kitOne K (.ref C_Twice) (.ref C_Twice) = some true)
    (qTwiceNotKept : PySem.W.kitOne K (.ref C_Twice) (.ref C_NotKept) = some false)
    (qTwiceAtEnd : PySem.W.kitOne K (.ref C_Twice) (.ref C_AtEnd) = some false)
    (qTwiceNotWanted : PySem.W.kitOne K (.ref C_Twice) (.ref C_NotWanted) = some false)
    (qvTwice : PySem.W.kitOne K (.ref C_Twice) (.type "ValueError") = some true)
    (hgTwice : PySem.W.findIn K (.ref C_Twice) "__getattribute__" = some (some (.builtin "BaseException.__getattribute__")))
    (hkTwice : PySem.W.findIn K (.ref C_Twice) "__getattr__" = some none)
    (hdTwice : PySem.W.hasDictIn K C_Twice = true)
    (haTwice : PySem.W.findIn K (.ref C_Twice) "__class__" = some (some (.builtin "object.__class__")))
    (hmTwice : PySem.W.mroIn K C_Twice (.type "object") = some true)
    (sMNotKept : PySem.W.subIn K (.ref C_NotKept) (.ref C_MarkError) = some true)
    (qNotKeptBadCount : PySem.W.kitOne K (.ref C_NotKept) (.ref C_BadCount) = some false)
    (qNotKeptBadRule : PySem.W.kitOne K (.ref C_NotKept) (.ref C_BadRule) = some false)
    (qNotKeptBadDeed : PySem.W.kitOne K (.ref C_NotKept) (.ref C_BadDeed) = some false)
    (qNotKeptFull : PySem.W.kitOne K (.ref C_NotKept) (.ref C_Full) = some false)
    (qNotKeptTwice : PySem.W.kitOne K (.ref C_NotKept) (.ref C_Twice) = some false)
    (qNotKeptNotKept : PySem.W.kitOne K (.ref C_NotKept) (.ref C_NotKept) = some true)
    (qNotKeptAtEnd : PySem.W.kitOne K (.ref C_NotKept) (.ref C_AtEnd) = some false)
    (qNotKeptNotWanted : PySem.W.kitOne K (.ref C_NotKept) (.ref C_NotWanted) = some false)
    (qvNotKept : PySem.W.kitOne K (.ref C_NotKept) (.type "ValueError") = some true)
    (hgNotKept : PySem.W.findIn K (.ref C_NotKept) "__getattribute__" = some (some (.builtin "BaseException.__getattribute__")))
    (hkNotKept : PySem.W.findIn K (.ref C_NotKept) "__getattr__" = some none)
    (hdNotKept : PySem.W.hasDictIn K C_NotKept = true)
    (haNotKept : PySem.W.findIn K (.ref C_NotKept) "__class__" = some (some (.builtin "object.__class__")))
    (hmNotKept : PySem.W.mroIn K C_NotKept (.type "object") = some true)
    (sMAtEnd : PySem.W.subIn K (.ref C_AtEnd) (.ref C_MarkError) = some true)
    (qAtEndBadCount : PySem.W.kitOne K (.ref C_AtEnd) (.ref C_BadCount) = some false)
    (qAtEndBadRule : PySem.W.kitOne K (.ref C_AtEnd) (.ref C_BadRule) = some false)
    (qAtEndBadDeed : PySem.W.kitOne K (.ref C_AtEnd) (.ref C_BadDeed) = some false)
    (qAtEndFull : PySem.W.kitOne K (.ref C_AtEnd) (.ref C_Full) = some false)
    (qAtEndTwice : PySem.W.kitOne K (.ref C_AtEnd) (.ref C_Twice) = some false)
    (qAtEndNotKept : PySem.W.kitOne K (.ref C_AtEnd) (.ref C_NotKept) = some false)
    (qAtEndAtEnd : PySem.W.kitOne K (.ref C_AtEnd) (.ref C_AtEnd) = some true)
    (qAtEndNotWanted : PySem.W.kitOne K (.ref C_AtEnd) (.ref C_NotWanted) = some false)
    (qvAtEnd : PySem.W.kitOne K (.ref C_AtEnd) (.type "ValueError") = some true)
    (hgAtEnd : PySem.W.findIn K (.ref C_AtEnd) "__getattribute__" = some (some (.builtin "BaseException.__getattribute__")))
    (hkAtEnd : PySem.W.findIn K (.ref C_AtEnd) "__getattr__" = some none)
    (hdAtEnd : PySem.W.hasDictIn K C_AtEnd = true)
    (haAtEnd : PySem.W.findIn K (.ref C_AtEnd) "__class__" = some (some (.builtin "object.__class__")))
    (hmAtEnd : PySem.W.mroIn K C_AtEnd (.type "object") = some true)
    (sMNotWanted : PySem.W.subIn K (.ref C_NotWanted) (.ref C_MarkError) = some true)
    (qNotWantedBadCount : PySem.W.kitOne K (.ref C_NotWanted) (.ref C_BadCount) = some false)
    (qNotWantedBadRule : PySem.W.kitOne K (.ref C_NotWanted) (.ref C_BadRule) = some false)
    (qNotWantedBadDeed : PySem.W.kitOne K (.ref C_NotWanted) (.ref C_BadDeed) = some false)
    (qNotWantedFull : PySem.W.kitOne K (.ref C_NotWanted) (.ref C_Full) = some false)
    (qNotWantedTwice : PySem.W.kitOne K (.ref C_NotWanted) (.ref C_Twice) = some false)
    (qNotWantedNotKept : PySem.W.kitOne K (.ref C_NotWanted) (.ref C_NotKept) = some false)
    (qNotWantedAtEnd : PySem.W.kitOne K (.ref C_NotWanted) (.ref C_AtEnd) = some false)
    (qNotWantedNotWanted : PySem.W.kitOne K (.ref C_NotWanted) (.ref C_NotWanted) = some true)
    (qvNotWanted : PySem.W.kitOne K (.ref C_NotWanted) (.type "ValueError") = some true)
    (hgNotWanted : PySem.W.findIn K (.ref C_NotWanted) "__getattribute__" = some (some (.builtin "BaseException.__getattribute__")))
    (hkNotWanted : PySem.W.findIn K (.ref C_NotWanted) "__getattr__" = some none)
    (hdNotWanted : PySem.W.hasDictIn K C_NotWanted = true)
    (haNotWanted : PySem.W.findIn K (.ref C_NotWanted) "__class__" = some (some (.builtin "object.__class__")))
    (hmNotWanted : PySem.W.mroIn K C_NotWanted (.type "object") = some true) :
    ∃ fd : FuncData, (∀ (s : Shared) (v : Value), BindsTo s fd ⟨[v], []⟩ [("_law_script", v)]) ∧ ∀ base : Heap, K.In base → base.Ns mainGlobals mg → FnOk l.prog w K mg base (L2.CX l.prog w) 7 fa fd ["_law_script"] (sp_law K) := by
  have e := hfa.symm.trans (PySem.W.mg_of X G a_law)
  cases e
  have T : Txt K mg := {
    d_is_among := ⟨_, _, PySem.W.mg_of X G a_is_among, fun_mk (st := s_is_among) l_is_among c_is_among k_is_among, (fun_mk (st := s_is_among) l_is_among c_is_among k_is_among).binds (ps := ["thing", "low", "high"]) fun _ _ _ _ _ _ us hl => match us, hl with | [_, _, _], _ => rfl⟩,
    d_is_state := ⟨_, _, PySem.W.mg_of X G a_is_state, fun_mk (st := s_is_state) l_is_state c_is_state k_is_state, (fun_mk (st := s_is_state) l_is_state c_is_state k_is_state).binds (ps := ["thing"]) fun _ _ _ _ _ _ us hl => match us, hl with | [_], _ => rfl⟩,
    d_is_rule := ⟨_, _, PySem.W.mg_of X G a_is_rule, fun_mk (st := s_is_rule) l_is_rule c_is_rule k_is_rule, (fun_mk (st := s_is_rule) l_is_rule c_is_rule k_is_rule).binds (ps := ["thing"]) fun _ _ _ _ _ _ us hl => match us, hl with | [_], _ => rfl⟩,
    d_need_row := ⟨_, _, PySem.W.mg_of X G a_need_row, fun_mk (st := s_need_row) l_need_row c_need_row k_need_row, (fun_mk (st := s_need_row) l_need_row c_need_row k_need_row).binds (ps := ["first", "rules"]) fun _ _ _ _ _ _ us hl => match us, hl with | [_, _], _ => rfl⟩,
    d_forth := ⟨_, _, PySem.W.mg_of X G a_forth, fun_mk (st := s_forth) l_forth c_forth k_forth, (fun_mk (st := s_forth) l_forth c_forth k_forth).binds (ps := ["rule", "state"]) fun _ _ _ _ _ _ us hl => match us, hl with | [_, _], _ => rfl⟩,
    d_is_deed := ⟨_, _, PySem.W.mg_of X G a_is_deed, fun_mk (st := s_is_deed) l_is_deed c_is_deed k_is_deed, (fun_mk (st := s_is_deed) l_is_deed c_is_deed k_is_deed).binds (ps := ["thing"]) fun _ _ _ _ _ _ us hl => match us, hl with | [_], _ => rfl⟩,
    d_l_cell_at := ⟨_, _, PySem.W.mg_of X G a_l_cell_at, fun_mk (st := s_l_cell_at) l_l_cell_at c_l_cell_at k_l_cell_at, (fun_mk (st := s_l_cell_at) l_l_cell_at c_l_cell_at k_l_cell_at).binds (ps := ["_law_script", "_law_k"]) fun _ _ _ _ _ _ us hl => match us, hl with | [_, _], _ => rfl⟩,
    d_l_number := ⟨_, _, PySem.W.mg_of X G a_l_number, fun_mk (st := s_l_number) l_l_number c_l_number k_l_number, (fun_mk (st := s_l_number) l_l_number c_l_number k_l_number).binds (ps := ["_law_script", "_law_k"]) fun _ _ _ _ _ _ us hl => match us, hl with | [_, _], _ => rfl⟩,
    d_l_whole := ⟨_, _, PySem.W.mg_of X G a_l_whole, fun_mk (st := s_l_whole) l_l_whole c_l_whole k_l_whole, (fun_mk (st := s_l_whole) l_l_whole c_l_whole k_l_whole).binds (ps := ["_law_found"]) fun _ _ _ _ _ _ us hl => match us, hl with | [_], _ => rfl⟩,
    d_l_rule := ⟨_, _, PySem.W.mg_of X G a_l_rule, fun_mk (st := s_l_rule) l_l_rule c_l_rule k_l_rule, (fun_mk (st := s_l_rule) l_l_rule c_l_rule k_l_rule).binds (ps := ["_law_number_here"]) fun _ _ _ _ _ _ us hl => match us, hl with | [_], _ => rfl⟩,
    d_l_forth := ⟨_, _, PySem.W.mg_of X G a_l_forth, fun_mk (st := s_l_forth) l_l_forth c_l_forth k_l_forth, (fun_mk (st := s_l_forth) l_l_forth c_l_forth k_l_forth).binds (ps := ["_law_rule_here", "_law_state"]) fun _ _ _ _ _ _ us hl => match us, hl with | [_, _], _ => rfl⟩,
    d_l_row := ⟨_, _, PySem.W.mg_of X G a_l_row, fun_mk (st := s_l_row) l_l_row c_l_row k_l_row, (fun_mk (st := s_l_row) l_l_row c_l_row k_l_row).binds (ps := ["_law_script", "_law_start", "_law_most"]) fun _ _ _ _ _ _ us hl => match us, hl with | [_, _, _], _ => rfl⟩,
    d_l_states := ⟨_, _, PySem.W.mg_of X G a_l_states, fun_mk (st := s_l_states) l_l_states c_l_states k_l_states, (fun_mk (st := s_l_states) l_l_states c_l_states k_l_states).binds (ps := ["_law_first", "_law_rules"]) fun _ _ _ _ _ _ us hl => match us, hl with | [_, _], _ => rfl⟩,
    d_l_class := ⟨_, _, PySem.W.mg_of X G a_l_class, fun_mk (st := s_l_class) l_l_class c_l_class k_l_class, (fun_mk (st := s_l_class) l_l_class c_l_class k_l_class).binds (ps := ["_law_e"]) fun _ _ _ _ _ _ us hl => match us, hl with | [_], _ => rfl⟩,
    d_l_new := ⟨_, _, PySem.W.mg_of X G a_l_new, fun_mk (st := s_l_new) l_l_new c_l_new k_l_new, (fun_mk (st := s_l_new) l_l_new c_l_new k_l_new).binds (ps := ["_law_first", "_law_rules", "_law_room_here"]) fun _ _ _ _ _ _ us hl => match us, hl with | [_, _, _], _ => rfl⟩,
    d_l_do := ⟨_, _, PySem.W.mg_of X G a_l_do, fun_mk (st := s_l_do) l_l_do c_l_do k_l_do, (fun_mk (st := s_l_do) l_l_do c_l_do k_l_do).binds (ps := ["_law_m", "_law_deed_here"]) fun _ _ _ _ _ _ us hl => match us, hl with | [_, _], _ => rfl⟩,
    d_l_deed := ⟨_, _, PySem.W.mg_of X G a_l_deed, fun_mk (st := s_l_deed) l_l_deed c_l_deed k_l_deed, (fun_mk (st := s_l_deed) l_l_deed c_l_deed k_l_deed).binds (ps := ["_law_m", "_law_number_here"]) fun _ _ _ _ _ _ us hl => match us, hl with | [_, _], _ => rfl⟩,
    d_l_told := ⟨_, _, PySem.W.mg_of X G a_l_told, fun_mk (st := s_l_told) l_l_told c_l_told k_l_told, (fun_mk (st := s_l_told) l_l_told c_l_told k_l_told).binds (ps := ["_law_walker", "_law_deed_here"]) fun _ _ _ _ _ _ us hl => match us, hl with | [_, _], _ => rfl⟩,
    d_l_right := ⟨_, _, PySem.W.mg_of X G a_l_right, fun_mk (st := s_l_right) l_l_right c_l_right k_l_right, (fun_mk (st := s_l_right) l_l_right c_l_right k_l_right).binds (ps := ["_law_walker", "_law_m", "_law_held"]) fun _ _ _ _ _ _ us hl => match us, hl with | [_, _, _], _ => rfl⟩,
    d_l_room := ⟨_, _, PySem.W.mg_of X G a_l_room, fun_mk (st := s_l_room) l_l_room c_l_room k_l_room, (fun_mk (st := s_l_room) l_l_room c_l_room k_l_room).binds (ps := ["_law_script"]) fun _ _ _ _ _ _ us hl => match us, hl with | [_], _ => rfl⟩,
    d_l_ahead := ⟨_, _, PySem.W.mg_of X G a_l_ahead, fun_mk (st := s_l_ahead) l_l_ahead c_l_ahead k_l_ahead, (fun_mk (st := s_l_ahead) l_l_ahead c_l_ahead k_l_ahead).binds (ps := ["_law_script", "_law_many"]) fun _ _ _ _ _ _ us hl => match us, hl with | [_, _], _ => rfl⟩,
    d_law := ⟨_, _, PySem.W.mg_of X G a_law, fun_mk (st := s_law) l_law c_law k_law, (fun_mk (st := s_law) l_law c_law k_law).binds (ps := ["_law_script"]) fun _ _ _ _ _ _ us hl => match us, hl with | [_], _ => rfl⟩,
    aWalker := C_Walker,
    o_Walker := ⟨⟨pgWalker, hdWalker, poWalker, saWalker⟩, PySem.W.mg_of X G aCWalker, nfrules, nfroom, nfplace, nfstate, nfdone, nfwanted, nfmarks, nfseen⟩,
    d_Walker_init := ⟨_, _, ⟨mkWalker, a_Walker_init, i_Walker_init, kcWalker⟩, fun_mk (st := s_Walker_init) l_Walker_init c_Walker_init k_Walker_init, (fun_mk (st := s_Walker_init) l_Walker_init c_Walker_init k_Walker_init).binds (ps := ["self", "first", "rules", "room"]) fun _ _ _ _ _ _ us hl => match us, hl with | [_, _, _, _], _ => rfl⟩,
    d_Walker_keep := ⟨_, _, ⟨a_Walker_keep, i_Walker_keep, k_Walker_keep⟩, fun_mk (st := s_Walker_keep) l_Walker_keep c_Walker_keep k_Walker_keep, (fun_mk (st := s_Walker_keep) l_Walker_keep c_Walker_keep k_Walker_keep).binds (ps := ["self"]) fun _ _ _ _ _ _ us hl => match us, hl with | [_], _ => rfl⟩,
    d_Walker_meet := ⟨_, _, ⟨a_Walker_meet, i_Walker_meet, k_Walker_meet⟩, fun_mk (st := s_Walker_meet) l_Walker_meet c_Walker_meet k_Walker_meet, (fun_mk (st := s_Walker_meet) l_Walker_meet c_Walker_meet k_Walker_meet).binds (ps := ["self"]) fun _ _ _ _ _ _ us hl => match us, hl with | [_], _ => rfl⟩,
    d_Walker_go := ⟨_, _, ⟨a_Walker_go, i_Walker_go, k_Walker_go⟩, fun_mk (st := s_Walker_go) l_Walker_go c_Walker_go k_Walker_go, (fun_mk (st := s_Walker_go) l_Walker_go c_Walker_go k_Walker_go).binds (ps := ["self", "many"]) fun _ _ _ _ _ _ us hl => match us, hl with | [_, _], _ => rfl⟩,
    d_Walker_do := ⟨_, _, ⟨a_Walker_do, i_Walker_do, k_Walker_do⟩, fun_mk (st := s_Walker_do) l_Walker_do c_Walker_do k_Walker_do, (fun_mk (st := s_Walker_do) l_Walker_do c_Walker_do k_Walker_do).binds (ps := ["self", "deed"]) fun _ _ _ _ _ _ us hl => match us, hl with | [_, _], _ => rfl⟩,
    d_Walker_kept := ⟨_, _, ⟨a_Walker_kept, i_Walker_kept, k_Walker_kept⟩, fun_mk (st := s_Walker_kept) l_Walker_kept c_Walker_kept k_Walker_kept, (fun_mk (st := s_Walker_kept) l_Walker_kept c_Walker_kept k_Walker_kept).binds (ps := ["self"]) fun _ _ _ _ _ _ us hl => match us, hl with | [_], _ => rfl⟩,
    d_Walker_met := ⟨_, _, ⟨a_Walker_met, i_Walker_met, k_Walker_met⟩, fun_mk (st := s_Walker_met) l_Walker_met c_Walker_met k_Walker_met, (fun_mk (st := s_Walker_met) l_Walker_met c_Walker_met k_Walker_met).binds (ps := ["self"]) fun _ _ _ _ _ _ us hl => match us, hl with | [_], _ => rfl⟩,
    c_MODULUS := ⟨_, PySem.W.mg_of X G v_MODULUS⟩,
    c_MOST_STEPS := ⟨_, PySem.W.mg_of X G v_MOST_STEPS⟩,
    c_MOST_ROOM := ⟨_, PySem.W.mg_of X G v_MOST_ROOM⟩,
    n_isinstance := PySem.W.mg_none_of X G z_isinstance,
    n_bool := PySem.W.mg_none_of X G z_bool,
    n_int := PySem.W.mg_none_of X G z_int,
    n_str := PySem.W.mg_none_of X G z_str,
    n_len := PySem.W.mg_none_of X G z_len,
    n_tuple := PySem.W.mg_none_of X G z_tuple,
    n_list := PySem.W.mg_none_of X G z_list,
    n_sorted := PySem.W.mg_none_of X G z_sorted,
    n_range := PySem.W.mg_none_of X G z_range,
    n_ValueError := PySem.W.mg_none_of X G z_ValueError,
    n_all := PySem.W.mg_none_of X G z_all,
    n_min := PySem.W.mg_none_of X G z_min,
    aBadCount := C_BadCount,
    x_BadCount := ⟨PySem.W.mg_of X G gBadCount, xBadCount, kBadCount, bBadCount, tBadCount⟩,
    aBadRule := C_BadRule,
    x_BadRule := ⟨PySem.W.mg_of X G gBadRule, xBadRule, kBadRule, bBadRule, tBadRule⟩,
    aBadDeed := C_BadDeed,
    x_BadDeed := ⟨PySem.W.mg_of X G gBadDeed, xBadDeed, kBadDeed, bBadDeed, tBadDeed⟩,
    aNotKept := C_NotKept,
    x_NotKept := ⟨PySem.W.mg_of X G gNotKept, xNotKept, kNotKept, bNotKept, tNotKept⟩,
    aTwice := C_Twice,
    x_Twice := ⟨PySem.W.mg_of X G gTwice, xTwice, kTwice, bTwice, tTwice⟩,
    aFull := C_Full,
    x_Full := ⟨PySem.W.mg_of X G gFull, xFull, kFull, bFull, tFull⟩,
    aAtEnd := C_AtEnd,
    x_AtEnd := ⟨PySem.W.mg_of X G gAtEnd, xAtEnd, kAtEnd, bAtEnd, tAtEnd⟩,
    aNotWanted := C_NotWanted,
    x_NotWanted := ⟨PySem.W.mg_of X G gNotWanted, xNotWanted, kNotWanted, bNotWanted, tNotWanted⟩,
    aMarkError := C_MarkError,
    x_MarkError := ⟨PySem.W.mg_of X G gMarkError, xMarkError, kMarkError, bMarkError, tMarkError⟩,
    q_BadDeed := ⟨by decide, fun j hj => eight (P := fun j => PySem.W.kitOne K (.ref C_BadDeed) (.ref ([C_BadCount, C_BadRule, C_BadDeed, C_Full, C_Twice, C_NotKept, C_AtEnd, C_NotWanted].getD j 0)) = some (decide (j = 2))) hj qBadDeedBadCount qBadDeedBadRule qBadDeedBadDeed qBadDeedFull qBadDeedTwice qBadDeedNotKept qBadDeedAtEnd qBadDeedNotWanted, qvBadDeed, ⟨hgBadDeed, hkBadDeed, bBadDeed, hdBadDeed, haBadDeed, spX, tkX, hmBadDeed⟩⟩,
    e_BadDeed := PySem.W.exm_ref bMarkError hdM tMarkError sMBadDeed,
    q_Full := ⟨by decide, fun j hj => eight (P := fun j => PySem.W.kitOne K (.ref C_Full) (.ref ([C_BadCount, C_BadRule, C_BadDeed, C_Full, C_Twice, C_NotKept, C_AtEnd, C_NotWanted].getD j 0)) = some (decide (j = 3))) hj qFullBadCount qFullBadRule qFullBadDeed qFullFull qFullTwice qFullNotKept qFullAtEnd qFullNotWanted, qvFull, ⟨hgFull, hkFull, bFull, hdFull, haFull, spX, tkX, hmFull⟩⟩,
    e_Full := PySem.W.exm_ref bMarkError hdM tMarkError sMFull,
    q_Twice := ⟨by decide, fun j hj => eight (P := fun j => PySem.W.kitOne K (.ref C_Twice) (.ref ([C_BadCount, C_BadRule, C_BadDeed, C_Full, C_Twice, C_NotKept, C_AtEnd, C_NotWanted].getD j 0)) = some (decide (j = 4))) hj qTwiceBadCount qTwiceBadRule qTwiceBadDeed qTwiceFull qTwiceTwice qTwiceNotKept qTwiceAtEnd qTwiceNotWanted, qvTwice, ⟨hgTwice, hkTwice, bTwice, hdTwice, haTwice, spX, tkX, hmTwice⟩⟩,
    e_Twice := PySem.W.exm_ref bMarkError hdM tMarkError sMTwice,
    q_NotKept := ⟨by decide, fun j hj => eight (P := fun j => PySem.W.kitOne K (.ref C_NotKept) (.ref ([C_BadCount, C_BadRule, C_BadDeed, C_Full, C_Twice, C_NotKept, C_AtEnd, C_NotWanted].getD j 0)) = some (decide (j = 5))) hj qNotKeptBadCount qNotKeptBadRule qNotKeptBadDeed qNotKeptFull qNotKeptTwice qNotKeptNotKept qNotKeptAtEnd qNotKeptNotWanted, qvNotKept, ⟨hgNotKept, hkNotKept, bNotKept, hdNotKept, haNotKept, spX, tkX, hmNotKept⟩⟩,
    e_NotKept := PySem.W.exm_ref bMarkError hdM tMarkError sMNotKept,
    q_AtEnd := ⟨by decide, fun j hj => eight (P := fun j => PySem.W.kitOne K (.ref C_AtEnd) (.ref ([C_BadCount, C_BadRule, C_BadDeed, C_Full, C_Twice, C_NotKept, C_AtEnd, C_NotWanted].getD j 0)) = some (decide (j = 6))) hj qAtEndBadCount qAtEndBadRule qAtEndBadDeed qAtEndFull qAtEndTwice qAtEndNotKept qAtEndAtEnd qAtEndNotWanted, qvAtEnd, ⟨hgAtEnd, hkAtEnd, bAtEnd, hdAtEnd, haAtEnd, spX, tkX, hmAtEnd⟩⟩,
    e_AtEnd := PySem.W.exm_ref bMarkError hdM tMarkError sMAtEnd,
    q_NotWanted := ⟨by decide, fun j hj => eight (P := fun j => PySem.W.kitOne K (.ref C_NotWanted) (.ref ([C_BadCount, C_BadRule, C_BadDeed, C_Full, C_Twice, C_NotKept, C_AtEnd, C_NotWanted].getD j 0)) = some (decide (j = 7))) hj qNotWantedBadCount qNotWantedBadRule qNotWantedBadDeed qNotWantedFull qNotWantedTwice qNotWantedNotKept qNotWantedAtEnd qNotWantedNotWanted, qvNotWanted, ⟨hgNotWanted, hkNotWanted, bNotWanted, hdNotWanted, haNotWanted, spX, tkX, hmNotWanted⟩⟩,
    e_NotWanted := PySem.W.exm_ref bMarkError hdM tMarkError sMNotWanted }
  refine ⟨PySem.W.fnOf "law" "law" (defArgs s_law) (defBody s_law) (defScope s_law) .none kV_law dc_law pm_law an_law cd_law ct_law, fun s v => .of_eq rfl, fun base _ _ => ?_⟩
  exact ok_law_at T (fun_mk (st := s_law) l_law c_law k_law)
theorem walk {l : PySem.W.OpenLaw} {q : Program} {loose : List Str} {XP : (Str → Option Value) → Heap → Prop} {YP : World → Heap → Prop} {d : DefRec} {K : Params → PySem.W.Frag} (hn : l.most = some 63) (hdf : d.params.defaults = [])
    (hY : ∀ (w : World) (h : Heap), YP w h → (K w.params).In h)
    (F : ∀ (w : World) (mg : Str → Option Value) (fa : Addr) (h : Heap), (K w.params).In h → h.Ns mainGlobals mg → mg d.name = some (.ref fa) →
      ∃ fd : FuncData, (∀ (s : Shared) (u : Value), BindsTo s fd ⟨[u], []⟩ [("_law_script", u)]) ∧ ∀ base : Heap, (K w.params).In base → base.Ns mainGlobals mg → FnOk l.prog w (K w.params) mg base (L2.CX l.prog w) 7 fa fd ["_law_script"] (sp_law (K w.params))) :
    PySem.W.WalkO q loose XP YP l.row.toRowW d [] (fun f vs => PySem.call f vs) :=
  L2.walk_of (n := 63) (k := 7) (x := "_law_script") (CX := fun w => L2.CX l.prog w) (sp := fun w => sp_law (K w.params)) hn (by decide) hdf ⟨rfl, by decide, by decide⟩ hY F (fun _ _ _ _ hl _ hS => law_true hS hl) fun _ _ _ _ _ z => cx0_no z
end BM
open PySem PySem.W PyProof.Rows
set_option maxRecDepth 100000 in
set_option maxHeartbeats 0 in
theorem PySem.Challenge.cw_backmarks_k05_a_walkers_deeds_holds : PySem.Challenge.rw_backmarks_k05_a_walkers_deeds.Holds := by
  w_on; o_law; k_head; (case hw => w_witness2)
  k_fill
  refine BM.walk (l := PySem.Challenge.rw_backmarks_k05_a_walkers_deeds) rfl rfl (fun w h Y => PySem.W.kIn_of Y) ?F
  case F =>
    intro w mg fa h KX G hmg
    refine' BM.all_mk (l := PySem.Challenge.rw_backmarks_k05_a_walkers_deeds) KX G hmg ?a_is_among ?l_is_among ?c_is_among ?k_is_among ?a_is_state ?l_is_state ?c_is_state ?k_is_state ?a_is_rule ?l_is_rule ?c_is_rule ?k_is_rule ?a_need_row ?l_need_row ?c_need_row ?k_need_row ?a_forth ?l_forth ?c_forth ?k_forth ?a_is_deed ?l_is_deed ?c_is_deed ?k_is_deed ?a_l_cell_at ?l_l_cell_at ?c_l_cell_at ?k_l_cell_at ?a_l_number ?l_l_number ?c_l_number ?k_l_number ?a_l_whole ?l_l_whole ?c_l_whole ?k_l_whole ?a_l_rule ?l_l_rule ?c_l_rule ?k_l_rule ?a_l_forth ?l_l_forth ?c_l_forth ?k_l_forth ?a_l_row ?l_l_row ?c_l_row ?k_l_row ?a_l_states ?l_l_states ?c_l_states ?k_l_states ?a_l_class ?l_l_class ?c_l_class ?k_l_class ?a_l_new ?l_l_new ?c_l_new ?k_l_new ?a_l_do ?l_l_do ?c_l_do ?k_l_do ?a_l_deed ?l_l_deed ?c_l_deed ?k_l_deed ?a_l_told ?l_l_told ?c_l_told ?k_l_told ?a_l_right ?l_l_right ?c_l_right ?k_l_right ?a_l_room ?l_l_room ?c_l_room ?k_l_room ?a_l_ahead ?l_l_ahead ?c_l_ahead ?k_l_ahead ?a_law ?l_law ?c_law ?k_law ?aCWalker ?pgWalker ?hdWalker ?poWalker ?saWalker ?mkWalker ?kcWalker ?nfrules ?nfroom ?nfplace ?nfstate ?nfdone ?nfwanted ?nfmarks ?nfseen ?a_Walker_init ?i_Walker_init ?l_Walker_init ?c_Walker_init ?k_Walker_init ?a_Walker_keep ?i_Walker_keep ?l_Walker_keep ?c_Walker_keep ?k_Walker_keep ?a_Walker_meet ?i_Walker_meet ?l_Walker_meet ?c_Walker_meet ?k_Walker_meet ?a_Walker_go ?i_Walker_go ?l_Walker_go ?c_Walker_go ?k_Walker_go ?a_Walker_do ?i_Walker_do ?l_Walker_do ?c_Walker_do ?k_Walker_do ?a_Walker_kept ?i_Walker_kept ?l_Walker_kept ?c_Walker_kept ?k_Walker_kept ?a_Walker_met ?i_Walker_met ?l_Walker_met ?c_Walker_met ?k_Walker_met ?v_MODULUS ?v_MOST_STEPS ?v_MOST_ROOM ?z_isinstance ?z_bool ?z_int ?z_str ?z_len ?z_tuple ?z_list ?z_sorted ?z_range ?z_ValueError ?z_all ?z_min ?gBadCount ?xBadCount ?kBadCount ?bBadCount ?tBadCount ?gBadRule ?xBadRule ?kBadRule ?bBadRule ?tBadRule ?gBadDeed ?xBadDeed ?kBadDeed ?bBadDeed ?tBadDeed ?gNotKept ?xNotKept ?kNotKept ?bNotKept ?tNotKept ?gTwice ?xTwice ?kTwice ?bTwice ?tTwice ?gFull ?xFull ?kFull ?bFull ?tFull ?gAtEnd ?xAtEnd ?kAtEnd ?bAtEnd ?tAtEnd ?gNotWanted ?xNotWanted ?kNotWanted ?bNotWanted ?tNotWanted ?gMarkError ?xMarkError ?kMarkError ?bMarkError ?tMarkError ?hdM ?tkX ?spX ?sMBadDeed ?qBadDeedBadCount ?qBadDeedBadRule ?qBadDeedBadDeed ?qBadDeedFull ?qBadDeedTwice ?qBadDeedNotKept ?qBadDeedAtEnd ?qBadDeedNotWanted ?qvBadDeed ?hgBadDeed ?hkBadDeed ?hdBadDeed ?haBadDeed ?hmBadDeed ?sMFull ?qFullBadCount ?qFullBadRule ?qFullBadDeed ?qFullFull ?qFullTwice ?qFullNotKept ?qFullAtEnd ?qFullNotWanted ?qvFull ?hgFull ?hkFull ?hdFull ?haFull ?hmFull ?sMTwice ?qTwiceBadCount ?qTwiceBadRule ?qTwiceBadDeed ?qTwiceFull ?qTwiceTwice ?qTwiceNotKept ?qTwiceAtEnd ?qTwiceNotWanted ?qvTwice ?hgTwice ?hkTwice ?hdTwice ?haTwice ?hmTwice ?sMNotKept ?qNotKeptBadCount ?qNotKeptBadRule ?qNotKeptBadDeed ?qNotKeptFull ?qNotKeptTwice ?qNotKeptNotKept ?qNotKeptAtEnd ?qNotKeptNotWanted ?qvNotKept ?hgNotKept ?hkNotKept ?hdNotKept ?haNotKept ?hmNotKept ?sMAtEnd ?qAtEndBadCount ?qAtEndBadRule ?qAtEndBadDeed ?qAtEndFull ?qAtEndTwice ?qAtEndNotKept ?qAtEndAtEnd ?qAtEndNotWanted ?qvAtEnd ?hgAtEnd ?hkAtEnd ?hdAtEnd ?haAtEnd ?hmAtEnd ?sMNotWanted ?qNotWantedBadCount ?qNotWantedBadRule ?qNotWantedBadDeed ?qNotWantedFull ?qNotWantedTwice ?qNotWantedNotKept ?qNotWantedAtEnd ?qNotWantedNotWanted ?qvNotWanted ?hgNotWanted ?hkNotWanted ?hdNotWanted ?haNotWanted ?hmNotWanted
    (case a_is_among => k_is)
    (case l_is_among => k_is)
    (case c_is_among => k_is)
    (case k_is_among => k_is)
    (case a_is_state => k_is)
    (case l_is_state => k_is)
    (case c_is_state => k_is)
    (case k_is_state => k_is)
    (case a_is_rule => k_is)
    (case l_is_rule => k_is)
    (case c_is_rule => k_is)
    (case k_is_rule => k_is)
    (case a_need_row => k_is)
    (case l_need_row => k_is)
    (case c_need_row => k_is)
    (case k_need_row => k_is)
    (case a_forth => k_is)
    (case l_forth => k_is)
    (case c_forth => k_is)
    (case k_forth => k_is)
    (case a_is_deed => k_is)
    (case l_is_deed => k_is)
    (case c_is_deed => k_is)
    (case k_is_deed => k_is)
    (case a_l_cell_at => k_is)
    (case l_l_cell_at => k_is)
    (case c_l_cell_at => k_is)
    (case k_l_cell_at => k_is)
    (case a_l_number => k_is)
    (case l_l_number => k_is)
    (case c_l_number => k_is)
    (case k_l_number => k_is)
    (case a_l_whole => k_is)
    (case l_l_whole => k_is)
    (case c_l_whole => k_is)
    (case k_l_whole => k_is)
    (case a_l_rule => k_is)
    (case l_l_rule => k_is)
    (case c_l_rule => k_is)
    (case k_l_rule => k_is)
    (case a_l_forth => k_is)
    (case l_l_forth => k_is)
    (case c_l_forth => k_is)
    (case k_l_forth => k_is)
    (case a_l_row => k_is)
    (case l_l_row => k_is)
    (case c_l_row => k_is)
    (case k_l_row => k_is)
    (case a_l_states => k_is)
    (case l_l_states => k_is)
    (case c_l_states => k_is)
    (case k_l_states => k_is)
    (case a_l_class => k_is)
    (case l_l_class => k_is)
    (case c_l_class => k_is)
    (case k_l_class => k_is)
    (case a_l_new => k_is)
    (case l_l_new => k_is)
    (case c_l_new => k_is)
    (case k_l_new => k_is)
    (case a_l_do => k_is)
    (case l_l_do => k_is)
    (case c_l_do => k_is)
    (case k_l_do => k_is)
    (case a_l_deed => k_is)
    (case l_l_deed => k_is)
    (case c_l_deed => k_is)
    (case k_l_deed => k_is)
    (case a_l_told => k_is)
    (case l_l_told => k_is)
    (case c_l_told => k_is)
    (case k_l_told => k_is)
    (case a_l_right => k_is)
    (case l_l_right => k_is)
    (case c_l_right => k_is)
    (case k_l_right => k_is)
    (case a_l_room => k_is)
    (case l_l_room => k_is)
    (case c_l_room => k_is)
    (case k_l_room => k_is)
    (case a_l_ahead => k_is)
    (case l_l_ahead => k_is)
    (case c_l_ahead => k_is)
    (case k_l_ahead => k_is)
    (case a_law => k_is)
    (case l_law => k_is)
    (case c_law => k_is)
    (case k_law => k_is)
    (case aCWalker => k_is)
    (case pgWalker => k_is)
    (case hdWalker => k_is)
    (case poWalker => k_is)
    (case saWalker => k_is)
    (case mkWalker => k_is)
    (case kcWalker => k_is)
    (case nfrules => k_is)
    (case nfroom => k_is)
    (case nfplace => k_is)
    (case nfstate => k_is)
    (case nfdone => k_is)
    (case nfwanted => k_is)
    (case nfmarks => k_is)
    (case nfseen => k_is)
    (case a_Walker_init => k_is)
    (case i_Walker_init => k_is)
    (case l_Walker_init => k_is)
    (case c_Walker_init => k_is)
    (case k_Walker_init => k_is)
    (case a_Walker_keep => k_is)
    (case i_Walker_keep => k_is)
    (case l_Walker_keep => k_is)
    (case c_Walker_keep => k_is)
    (case k_Walker_keep => k_is)
    (case a_Walker_meet => k_is)
    (case i_Walker_meet => k_is)
    (case l_Walker_meet => k_is)
    (case c_Walker_meet => k_is)
    (case k_Walker_meet => k_is)
    (case a_Walker_go => k_is)
    (case i_Walker_go => k_is)
    (case l_Walker_go => k_is)
    (case c_Walker_go => k_is)
    (case k_Walker_go => k_is)
    (case a_Walker_do => k_is)
    (case i_Walker_do => k_is)
    (case l_Walker_do => k_is)
    (case c_Walker_do => k_is)
    (case k_Walker_do => k_is)
    (case a_Walker_kept => k_is)
    (case i_Walker_kept => k_is)
    (case l_Walker_kept => k_is)
    (case c_Walker_kept => k_is)
    (case k_Walker_kept => k_is)
    (case a_Walker_met => k_is)
    (case i_Walker_met => k_is)
    (case l_Walker_met => k_is)
    (case c_Walker_met => k_is)
    (case k_Walker_met => k_is)
    (case v_MODULUS => k_is)
    (case v_MOST_STEPS => k_is)
    (case v_MOST_ROOM => k_is)
    (case z_isinstance => k_is)
    (case z_bool => k_is)
    (case z_int => k_is)
    (case z_str => k_is)
    (case z_len => k_is)
    (case z_tuple => k_is)
    (case z_list => k_is)
    (case z_sorted => k_is)
    (case z_range => k_is)
    (case z_ValueError => k_is)
    (case z_all => k_is)
    (case z_min => k_is)
    (case gBadCount => k_is)
    (case xBadCount => k_exc)
    (case kBadCount => k_is)
    (case bBadCount => k_is)
    (case tBadCount => k_is)
    (case gBadRule => k_is)
    (case xBadRule => k_exc)
    (case kBadRule => k_is)
    (case bBadRule => k_is)
    (case tBadRule => k_is)
    (case gBadDeed => k_is)
    (case xBadDeed => k_exc)
    (case kBadDeed => k_is)
    (case bBadDeed => k_is)
    (case tBadDeed => k_is)
    (case gNotKept => k_is)
    (case xNotKept => k_exc)
    (case kNotKept => k_is)
    (case bNotKept => k_is)
    (case tNotKept => k_is)
    (case gTwice => k_is)
    (case xTwice => k_exc)
    (case kTwice => k_is)
    (case bTwice => k_is)
    (case tTwice => k_is)
    (case gFull => k_is)
    (case xFull => k_exc)
    (case kFull => k_is)
    (case bFull => k_is)
    (case tFull => k_is)
    (case gAtEnd => k_is)
    (case xAtEnd => k_exc)
    (case kAtEnd => k_is)
    (case bAtEnd => k_is)
    (case tAtEnd => k_is)
    (case gNotWanted => k_is)
    (case xNotWanted => k_exc)
    (case kNotWanted => k_is)
    (case bNotWanted => k_is)
    (case tNotWanted => k_is)
    (case gMarkError => k_is)
    (case xMarkError => k_exc)
    (case kMarkError => k_is)
    (case bMarkError => k_is)
    (case tMarkError => k_is)
    (case hdM => k_is)
    (case tkX => k_is)
    (case spX => k_is)
    (case sMBadDeed => k_is)
    (case qBadDeedBadCount => kit_is)
    (case qBadDeedBadRule => kit_is)
    (case qBadDeedBadDeed => kit_is)
    (case qBadDeedFull => kit_is)
    (case qBadDeedTwice => kit_is)
    (case qBadDeedNotKept => kit_is)
    (case qBadDeedAtEnd => kit_is)
    (case qBadDeedNotWanted => kit_is)
    (case qvBadDeed => kit_is)
    (case hgBadDeed => k_is)
    (case hkBadDeed => k_is)
    (case hdBadDeed => k_is)
    (case haBadDeed => k_is)
    (case hmBadDeed => k_is)
    (case sMFull => k_is)
    (case qFullBadCount => kit_is)
    (case qFullBadRule => kit_is)
    (case qFullBadDeed => kit_is)
    (case qFullFull => kit_is)
    (case qFullTwice => kit_is)
    (case qFullNotKept => kit_is)
    (case qFullAtEnd => kit_is)
    (case qFullNotWanted => kit_is)
    (case qvFull => kit_is)
    (case hgFull => k_is)
    (case hkFull => k_is)
    (case hdFull => k_is)
    (case haFull => k_is)
    (case hmFull => k_is)
    (case sMTwice => k_is)
    (case qTwiceBadCount => kit_is)
    (case qTwiceBadRule => kit_is)
    (case qTwiceBadDeed => kit_is)
    (case qTwiceFull => kit_is)
    (case qTwiceTwice => kit_is)
    (case qTwiceNotKept => kit_is)
    (case qTwiceAtEnd => kit_is)
    (case qTwiceNotWanted => kit_is)
    (case qvTwice => kit_is)
    (case hgTwice => k_is)
    (case hkTwice => k_is)
    (case hdTwice => k_is)
    (case haTwice => k_is)
    (case hmTwice => k_is)
    (case sMNotKept => k_is)
    (case qNotKeptBadCount => kit_is)
    (case qNotKeptBadRule => kit_is)
    (case qNotKeptBadDeed => kit_is)
    (case qNotKeptFull => kit_is)
    (case qNotKeptTwice => kit_is)
    (case qNotKeptNotKept => kit_is)
    (case qNotKeptAtEnd => kit_is)
    (case qNotKeptNotWanted => kit_is)
    (case qvNotKept => kit_is)
    (case hgNotKept => k_is)
    (case hkNotKept => k_is)
    (case hdNotKept => k_is)
    (case haNotKept => k_is)
    (case hmNotKept => k_is)
    (case sMAtEnd => k_is)
    (case qAtEndBadCount => kit_is)
    (case qAtEndBadRule => kit_is)
    (case qAtEndBadDeed => kit_is)
    (case qAtEndFull => kit_is)
    (case qAtEndTwice => kit_is)
    (case qAtEndNotKept => kit_is)
    (case qAtEndAtEnd => kit_is)
    (case qAtEndNotWanted => kit_is)
    (case qvAtEnd => kit_is)
    (case hgAtEnd => k_is)
    (case hkAtEnd => k_is)
    (case hdAtEnd => k_is)
    (case haAtEnd => k_is)
    (case hmAtEnd => k_is)
    (case sMNotWanted => k_is)
    (case qNotWantedBadCount => kit_is)
    (case qNotWantedBadRule => kit_is)
    (case qNotWantedBadDeed => kit_is)
    (case qNotWantedFull => kit_is)
    (case qNotWantedTwice => kit_is)
    (case qNotWantedNotKept => kit_is)
    (case qNotWantedAtEnd => kit_is)
    (case qNotWantedNotWanted => kit_is)
    (case qvNotWanted => kit_is)
    (case hgNotWanted => k_is)
    (case hkNotWanted => k_is)
    (case hdNotWanted => k_is)
    (case haNotWanted => k_is)
    (case hmNotWanted => k_is)
#print axioms PySem.Challenge.cw_backmarks_k05_a_walkers_deeds_holds
