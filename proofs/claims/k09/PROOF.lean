import PyProof.Rows.All
import Wide.All
import OpenK.AllK
import Wide.FinOn
import PyProof.EqAt
import PyProof.EqKinds
import PyProof.TupleCall
import HandS.ForMost
import HandS.Exc
import HandS.TryOnly
import HandS.ExcOwn
import HandS.WordsExc
import HandS.IsInst
import HandS.ExcIs
import HandS.Evl
import HandS.HotCalls
import HandS.Deep
import HandS.Style
import HandS.Rev
import KE.RegKIsAll
import KE.KDictKeyed
import KE.KeyNested
import HandS.TupAny
import PySem.Challenge.RW_backmarks_k09_whole_all_tried
set_option Elab.async false
set_option linter.all false
set_option maxRecDepth 100000
set_option maxHeartbeats 4000000
/-! ## Common words: a def as it stands, what it promises, an error class, things that are whole numbers or not -/
namespace BM
open PySem PySem.Spec PyProof.Rows L2

/-- the def named x of the module's top -/
def Def (K : PySem.W.Frag) (mg : Str → Option Value) (x qual : Str) (st : Stmt) (ps : List Str) : Prop :=
  ∃ (f : Addr) (fd : FuncData), mg x = some (.ref f) ∧ Fun K x qual st f fd ∧ Binds K fd ps []
/-- it keeps its promise -/
def OkF (P : Program) (w : World) (K : PySem.W.Frag) (mg : Str → Option Value) (base : Heap) (x : Str) (k : Nat) (ps : List Str) (sp : Sp) : Prop :=
  ∃ (f : Addr) (fd : FuncData), mg x = some (.ref f) ∧ PySem.W.keepIn K (.ref f) = true ∧ Binds K fd ps [] ∧ FnOk P w K mg base (L2.CX P w) k f fd ps sp
/-- a class of the program's own errors, without a body of its own -/
structure XC (K : PySem.W.Frag) (mg : Str → Option Value) (n : Str) (C : Addr) : Prop where
  g : mg n = some (.ref C)
  x : PySem.W.excIn K C [.type "ValueError", .type "Exception", .type "BaseException", .type "object"] "ValueError.__new__" = true
  k : PySem.W.keepIn K (.ref C) = true
  b : PySem.W.subIn K (.ref C) (.type "BaseException") = some true
  t : PySem.W.typeIn K (.ref C) = some (.type "type")
section
variable {P : Program} {w : World} {K : PySem.W.Frag} {mg : Str → Option Value} {base : Heap}
theorem okf {x qual : Str} {st : Stmt} {N ps : List Str} {k : Nat} {sp : Sp} (D : Def K mg x qual st ps) (S : FnScope N ps (defScope st)) (len : ∀ vs H Q E, sp vs H Q E → vs.length = ps.length)
    (hbody : ∀ (f : Addr) (cdv : Value) (A : Around) (outer : List Env) (s : Shared) (H : Hp) (vs : List V) (Q : VK) (E : XK), Room k (A.deeper (envOfC qual (defScope st) s.heap.objs.size f cdv)) → sp vs H Q E →
      ∃ t, PSs (cxOf (L2.CX P w) P w K mg base N qual (defScope st) f cdv A outer s H E) (defBody st) t ∧ t { nx := fun _ H' => Q .non H', rt := Q } (start N vs) H) : OkF P w K mg base x (k + 1) ps sp := by
  obtain ⟨f, fd, hm, F, hb⟩ := D
  exact ⟨f, fd, hm, F.kp, hb, F.okX S len (fun cdv A outer s H vs Q E hr h => hbody f cdv A outer s H vs Q E hr h)⟩
theorem OkF.mono {x : Str} {j k : Nat} {ps : List Str} {sp : Sp} (F : OkF P w K mg base x j ps sp) (h : j ≤ k) : OkF P w K mg base x k ps sp := by
  obtain ⟨f, fd, hm, hk, hb, G⟩ := F
  exact ⟨f, fd, hm, hk, hb, G.mono h⟩
end
/-- a method, an __init__ of the class at C -/
def DefM (K : PySem.W.Frag) (C : Addr) (m qual : Str) (st : Stmt) (ps : List Str) : Prop := ∃ (f : Addr) (fd : FuncData), Meth K C m f ∧ Fun K m qual st f fd ∧ Binds K fd ps []
def DefI (K : PySem.W.Frag) (C : Addr) (m qual : Str) (st : Stmt) (ps : List Str) : Prop := ∃ (f : Addr) (fd : FuncData), Mk K C f ∧ Fun K m qual st f fd ∧ Binds K fd ps []
def OkM (P : Program) (w : World) (K : PySem.W.Frag) (mg : Str → Option Value) (base : Heap) (C : Addr) (m : Str) (k : Nat) (ps : List Str) (sp : Sp) : Prop :=
  ∃ (f : Addr) (fd : FuncData), Meth K C m f ∧ Binds K fd ps [] ∧ FnOk P w K mg base (L2.CX P w) k f fd ps sp
def OkI (P : Program) (w : World) (K : PySem.W.Frag) (mg : Str → Option Value) (base : Heap) (C : Addr) (m : Str) (k : Nat) (ps : List Str) (sp : Sp) : Prop :=
  ∃ (f : Addr) (fd : FuncData), Mk K C f ∧ Binds K fd ps [] ∧ FnOk P w K mg base (L2.CX P w) k f fd ps sp
section
variable {P : Program} {w : World} {K : PySem.W.Frag} {mg : Str → Option Value} {base : Heap}
theorem okm {C : Addr} {m qual : Str} {st : Stmt} {N ps : List Str} {k : Nat} {sp : Sp} (D : DefM K C m qual st ps) (S : FnScope N ps (defScope st)) (len : ∀ vs H Q E, sp vs H Q E → vs.length = ps.length)
    (hbody : ∀ (f : Addr) (cdv : Value) (A : Around) (outer : List Env) (s : Shared) (H : Hp) (vs : List V) (Q : VK) (E : XK), Room k (A.deeper (envOfC qual (defScope st) s.heap.objs.size f cdv)) → sp vs H Q E →
      ∃ t, PSs (cxOf (L2.CX P w) P w K mg base N qual (defScope st) f cdv A outer s H E) (defBody st) t ∧ t { nx := fun _ H' => Q .non H', rt := Q } (start N vs) H) : OkM P w K mg base C m (k + 1) ps sp := by
  obtain ⟨f, fd, hm, F, hb⟩ := D
  exact ⟨f, fd, hm, hb, F.okX S len (fun cdv A outer s H vs Q E hr h => hbody f cdv A outer s H vs Q E hr h)⟩
theorem oki {C : Addr} {m qual : Str} {st : Stmt} {N ps : List Str} {k : Nat} {sp : Sp} (D : DefI K C m qual st ps) (S : FnScope N ps (defScope st)) (len : ∀ vs H Q E, sp vs H Q E → vs.length = ps.length)
    (hbody : ∀ (f : Addr) (cdv : Value) (A : Around) (outer : List Env) (s : Shared) (H : Hp) (vs : List V) (Q : VK) (E : XK), Room k (A.deeper (envOfC qual (defScope st) s.heap.objs.size f cdv)) → sp vs H Q E →
      ∃ t, PSs (cxOf (L2.CX P w) P w K mg base N qual (defScope st) f cdv A outer s H E) (defBody st) t ∧ t { nx := fun _ H' => Q .non H', rt := Q } (start N vs) H) : OkI P w K mg base C m (k + 1) ps sp := by
  obtain ⟨f, fd, hm, F, hb⟩ := D
  exact ⟨f, fd, hm, hb, F.okX S len (fun cdv A outer s H vs Q E hr h => hbody f cdv A outer s H vs Q E hr h)⟩
end
/-- a thing, and the whole number that it is (no truth value is one) -/
inductive Thg (K : PySem.W.Frag) (H : Hp) : V → Option Int → Prop where
  | int (i : Int) : Thg K H (.int i) (some i)
  | bl (b : Bool) : Thg K H (.bl b) none
  | oth {x : V} {t : Value} (ty : TyX K H x t) (ni : PySem.W.kitOne K t (.type "int") = some false) : Thg K H x none
theorem Thg.non {K : PySem.W.Frag} {H : Hp} : Thg K H .non none := .oth (.base .non) (kit_ty (by decide +kernel))
theorem Thg.str {K : PySem.W.Frag} {H : Hp} (x : Str) : Thg K H (.str x) none := .oth (.base (.str x)) (kit_ty (by decide +kernel))
theorem Thg.lst {K : PySem.W.Frag} {H : Hp} {a : Addr} {xs : List V} (e : H a = some (.lst xs)) : Thg K H (.ref a) none := .oth (.base (.lst e)) (kit_ty (by decide +kernel))
theorem Thg.tup {K : PySem.W.Frag} {H : Hp} {a : Addr} {xs : List V} (e : H a = some (.tup xs)) : Thg K H (.ref a) none := .oth (.base (.tup e)) (kit_ty (by decide +kernel))
theorem Thg.dK {K : PySem.W.Frag} {H : Hp} {a : Addr} {xs : List (Key × V)} (e : H a = some (.dK xs)) : Thg K H (.ref a) none := .oth (.base (.dK e)) (kit_ty (by decide +kernel))
theorem tyOf_same {K : PySem.W.Frag} {H H' : Hp} {x : V} {t : Value} (e : Same H H') (h : TyOf K H x t) : TyOf K H' x t := by
  cases h with
  | non => exact .non
  | bl b => exact .bl b
  | int i => exact .int i
  | str z => exact .str z
  | flt z => exact .flt z
  | lst q => exact .lst (e _ _ q)
  | frz q => exact .frz (e _ _ q)
  | tup q => exact .tup (e _ _ q)
  | dK q => exact .dK (e _ _ q)
  | dT q => exact .dT (e _ _ q)
  | ins q cl ha hn htk hm => exact .ins (e _ _ q) cl ha hn htk hm
theorem tyX_same {K : PySem.W.Frag} {H H' : Hp} {x : V} {t : Value} (e : Same H H') (h : TyX K H x t) : TyX K H' x t := by
  cases h with
  | base b => exact .base (tyOf_same e b)
  | byt b => exact .byt b
  | set q => exact .set (e _ _ q)
  | kList q c => exact .kList q c
  | kTuple q c => exact .kTuple q c
  | kDict q c => exact .kDict q c
  | fTuple q => exact .fTuple (e _ _ q)
  | fDict q => exact .fDict (e _ _ q)
theorem Thg.same {K : PySem.W.Frag} {H H' : Hp} {x : V} {o : Option Int} (e : Same H H') (h : Thg K H x o) : Thg K H' x o := by
  cases h with
  | int i => exact .int i
  | bl b => exact .bl b
  | oth ty ni => exact .oth (tyX_same e ty) ni
theorem pick {α : Type} {P : α → Prop} {xs : List α} (h : ∀ x ∈ xs, P x) {j : Nat} (hj : j < xs.length) : ∃ x, xs[j]? = some x ∧ P x := ⟨xs[j], List.getElem?_eq_getElem hj, h _ (List.getElem_mem hj)⟩
def among (o : Option Int) (lo hi : Int) : Bool := match o with
  | some i => decide (lo ≤ i) && decide (i ≤ hi)
  | none => false
def whole (o : Option Int) : Bool := o.isSome
/-- a new list, a new tuple: what stood stands, and it is there -/
def RetL (H : Hp) (xs : List V) (Q : VK) : Prop := ∀ p H', H p = none → Same H H' → H' p = some (.lst xs) → Q (.ref p) H'
def RetT (H : Hp) (xs : List V) (Q : VK) : Prop := ∀ p H', H p = none → Same H H' → H' p = some (.tup xs) → Q (.ref p) H'
theorem Same.new {H : Hp} {p : Addr} {o : HO} (h : H p = none) : Same H (upd H p o) := fun a u e => by
  rw [upd_ne (ne_of_none e h)]
  exact e
theorem new_at {H : Hp} {p : Addr} {o : HO} (_ : H p = none) : upd H p o p = some o := upd_same
theorem Same.mut {H H' : Hp} {p : Addr} {o : HO} (e : Same H H') (h : H p = none) : Same H (upd H' p o) := fun a u ha => by
  rw [upd_ne (ne_of_none ha h)]
  exact e a u ha
theorem get_map {α β : Type} {f : α → β} {xs : List α} {i : Nat} {y : β} (h : (xs.map f)[i]? = some y) : ∃ x, xs[i]? = some x ∧ y = f x := by
  rw [List.getElem?_map] at h
  cases e : xs[i]? with
  | none =>
    rw [e] at h
    cases h
  | some x =>
    rw [e] at h
    exact ⟨x, rfl, (Option.some.inj h).symm⟩
theorem take_succ {α : Type} {l : List α} {i : Nat} {x : α} (h : l[i]? = some x) : l.take (i + 1) = l.take i ++ [x] := by
  rw [List.take_add_one, h] <;> rfl
theorem at_map {xs : List Int} {z : Int} {j : Nat} {v : Int} (e : z = (j : Int)) (h : xs[j]? = some v) : atI (xs.map V.int) z = some (V.int v) := by
  rw [e]
  refine atI_nat ?_
  rw [List.getElem?_map, h] <;> rfl
theorem sz5 {n : Nat} (h : n ≤ 100000) : n ≤ sizeLine := Nat.le_trans h (by decide)
theorem sz5' {n : Nat} (h : n < 100000) : n < sizeLine := Nat.lt_of_lt_of_le h (by decide)
theorem cx0_no {P : Program} {w : World} {H : Hp} {s : Shared} {e : Value} {s' : Shared} (h : L2.CX P w [] H s (fun _ _ _ => False) e s') : False := by
  obtain ⟨_, _, _, _, _, _, _, _, _, _, _, _, z⟩ := h
  exact z.elim
/-- the law's: a list of at most 63 whole numbers is handed in, True comes out -/
def sp_law (K : PySem.W.Frag) : Sp := fun vs H Q _ => ∃ (a : Addr) (ns : List Int), vs = [.ref a] ∧ SqL K H a (ns.map V.int) ∧ ns.length ≤ 63 ∧ ∀ H', Q (.bl true) H'
theorem law_true {K : PySem.W.Frag} {H : Hp} {a : Addr} {ns : List Int} (hS : SqL K H a (ns.map V.int)) (hl : ns.length ≤ 63) : sp_law K [.ref a] H (fun v _ => v = .bl true) (fun _ _ _ => False) := ⟨a, ns, rfl, hS, hl, fun _ => rfl⟩
/-- a remainder as a natural number -/
theorem rem_nat {z m : Int} (hm : 0 < m) : ∃ s : Nat, (s : Int) < m ∧ z % m = (s : Int) := by
  have h1 := Int.emod_nonneg z (show m ≠ 0 by omega)
  have h2 := Int.emod_lt_of_pos z hm
  exact ⟨(z % m).toNat, by omega, by omega⟩
end BM

/-! ## Data that is compared -/
namespace BM
open PySem PySem.Spec PyProof.Rows L2
def Sh (n : Nat) (d : PyData) : Prop := d.canLay0 = true ∧ d.depth ≤ n
theorem canAll : ∀ {ds : List PyData}, (∀ d ∈ ds, d.canLay0 = true) → PyData.canLayAll0 ds = true
  | [], _ => rfl
  | d :: r, h => by
    have h1 := h d List.mem_cons_self
    have h2 := canAll (ds := r) fun e he => h e (List.mem_cons_of_mem _ he)
    simp [PyData.canLayAll0, h1, h2]
theorem depAll {n : Nat} : ∀ {ds : List PyData}, (∀ d ∈ ds, d.depth ≤ n) → PyData.depthAll ds ≤ n
  | [], _ => by
    show 0 ≤ n
    omega
  | d :: r, h => by
    have h1 := h d List.mem_cons_self
    have h2 := depAll (ds := r) fun e he => h e (List.mem_cons_of_mem _ he)
    show max d.depth (PyData.depthAll r) ≤ n
    omega
theorem Sh.non {n : Nat} : Sh n .none := ⟨rfl, Nat.zero_le _⟩
theorem Sh.bl {n : Nat} (b : Bool) : Sh n (.bool b) := ⟨rfl, Nat.zero_le _⟩
theorem Sh.int {n : Nat} (i : Int) : Sh n (.int i) := ⟨rfl, Nat.zero_le _⟩
theorem Sh.str {n : Nat} {x : Str} (h : (PyData.str x).canLay0 = true) : Sh n (.str x) := ⟨h, Nat.zero_le _⟩
theorem Sh.lst {n : Nat} {ds : List PyData} (h : ∀ d ∈ ds, Sh n d) : Sh (n + 1) (.list ds) :=
  ⟨canAll fun d hd => (h d hd).1, by
    have := depAll fun d hd => (h d hd).2
    show PyData.depthAll ds + 1 ≤ n + 1
    omega⟩
theorem Sh.tup {n : Nat} {ds : List PyData} (h : ∀ d ∈ ds, Sh n d) : Sh (n + 1) (.tuple ds) :=
  ⟨canAll fun d hd => (h d hd).1, by
    have := depAll fun d hd => (h d hd).2
    show PyData.depthAll ds + 1 ≤ n + 1
    omega⟩
theorem Sh.shaped {n : Nat} {d : PyData} (h : Sh n d) (hn : n ≤ 64) : SeqAt.shaped d = true := by
  unfold SeqAt.shaped
  rw [h.1, Bool.true_and]
  exact decide_eq_true (Nat.le_trans h.2 hn)
theorem Sh.refl {n : Nat} {d : PyData} (h : Sh n d) : PyData.eqv d d = true := SeqAt.eqv_refl d h.1
theorem sh_ints {n : Nat} (ns : List Int) : Sh (n + 1) (.list (ns.map PyData.int)) := .lst fun d hd => by
  obtain ⟨i, _, rfl⟩ := List.mem_map.mp hd
  exact .int i
/-- values paired with data, by place -/
theorem dp_all {K : PySem.W.Frag} {H : Hp} : ∀ {vs : List V} {ds : List PyData}, vs.length = ds.length → (∀ (i : Nat) (v : V) (d : PyData), vs[i]? = some v → ds[i]? = some d → Dp K H v d) → DpAll K H vs ds
  | [], [], _, _ => .nil
  | [], _ :: _, h, _ => by simp at h
  | _ :: _, [], h, _ => by simp at h
  | v :: vs, d :: ds, h, k => .cons (k 0 v d rfl rfl) (dp_all (by simpa using h) fun i w e hw he => k (i + 1) w e hw he)
theorem dp_ints {K : PySem.W.Frag} {H : Hp} : ∀ ns : List Int, DpAll K H (ns.map V.int) (ns.map PyData.int)
  | [] => .nil
  | i :: r => .cons (.int i) (dp_ints r)
theorem atI_end {α : Type} {xs : List α} {v : α} (h : xs[xs.length - 1]? = some v) : atI xs (-1) = some v := by
  obtain ⟨hl, e⟩ := List.getElem?_eq_some_iff.mp h
  unfold atI ixN
  rw [if_neg (by decide), if_pos (by omega)]
  have e1 : ((-1 : Int) + (xs.length : Int)).toNat = xs.length - 1 := by omega
  rw [e1]
  exact h
def rListOf (K : PySem.W.Frag) : List V → Hp → VK → Prop := fun xs H Q => ∃ p ys, xs = [.ref p] ∧ (SqL K H p ys ∨ SqT K H p ys) ∧ ∀ l, H l = none → Q (.ref l) (upd H l (.lst ys))
end BM

/-! ## A def that is called with the caught error, in the suite that holds it: nothing leaves it -/
namespace BM
open PySem PySem.Spec PyProof.Rows L2
abbrev SpE := Addr → Value → Option Addr → List V → Hp → VK → Prop
structure FnE (P : Program) (w : World) (K : PySem.W.Frag) (mg : Str → Option Value) (base : Heap) (k : Nat) (f : Addr) (fd : FuncData) (ps : List Str) (sp : SpE) : Prop where
  len : ∀ a c d vs H Q, sp a c d vs H Q → vs.length = ps.length
  go : ∀ (A : Around) (outer : List Env) (s : Shared) (H : Hp) (args : Args) (us : List Value) (vs : List V) (Q : VK) (p : Addr × Obj) (c : Value) (d : Option Addr), Zc c d p.2 → (∃ ws, p.2.data = .fields ws) →
    L2H.RoomH k A → L2H.PinOk outer H s p → Env0 P w K mg base A outer s H → BindsTo s fd args (ps.zip us) → Vals vs us → sp p.1 c d vs H Q → codeAny (model P w) A (.call (.ref f) args) (CR CX0 outer P w H s Q E0) s
theorem cells_ok {scope : Scope} {n : Nat} {ps : List Str} {us : List Value} (par : ∀ x ∈ ps, scope.names.lookup x = some .local ∨ scope.names.lookup x = some .cell) :
    ∀ y ∈ ps.zip us, scope.names.lookup y.1 = some .local ∨ (scope.names.lookup y.1 = some .cell ∧ ((cellsFrom n scope.names []).lookup y.1).isSome = true) := by
  intro y hy
  obtain ⟨x, v⟩ := y
  have hx := par x (List.of_mem_zip hy).1
  cases hx with
  | inl q => exact Or.inl q
  | inr q => exact Or.inr ⟨q, PySem.W.cellsFrom_some _ _ _ (Or.inl q)⟩
theorem fn_ofE {P : Program} {w : World} {K : PySem.W.Frag} {mg : Str → Option Value} {base : Heap} {k : Nat} {x qual : Str} {st : Stmt} {f : Addr} {fd : FuncData} {N ps : List Str} {sp : SpE}
    (F : Fun K x qual st f fd) (S : FnScope N ps (defScope st)) (len : ∀ a c d vs H Q, sp a c d vs H Q → vs.length = ps.length)
    (body : ∀ (cdv : Value) (A : Around) (outer : List Env) (s : Shared) (H : Hp) (vs : List V) (Q : VK) (p : Addr × Obj) (c : Value) (d : Option Addr), Zc c d p.2 → (∃ ws, p.2.data = .fields ws) →
      L2H.RoomH k (A.deeper (envOfC qual (defScope st) s.heap.objs.size f cdv)) → sp p.1 c d vs H Q →
      ∃ t, PSs (L2H.cxH CX0 P w K mg base N qual (defScope st) f cdv A outer s H E0 p) (defBody st) t ∧ t { nx := fun _ H' => Q .non H', rt := Q } (L2.start N vs) H) :
    FnE P w K mg base (k + 1) f fd ps sp := by
  obtain ⟨oc, od, kV, doc, pm, an, cdv, ct, osl, e0, lk, hcd⟩ := F.ex
  subst e0
  refine ⟨len, ?_⟩
  intro A outer s H args us vs Q p c d hz hf hr hpin ev hb r hsp
  have hl := len _ _ _ _ _ _ hsp
  have kin : K.In s.heap := ev.mod.kin.keeps (fun b o q => (ev.bs b o q).1)
  have nol : s.heap.NoLimit := ev.mod.nolimit.keeps (fun b o q => (ev.bs b o q).1)
  refine codeAny_call_function hr.depth (kin _ _ lk) rfl S.co S.gen rfl
    (PySem.W.codeRec_of kin hcd) (hb _ _ _ _ ?_)
  refine wpAny_newFunctionEnv_cells S.kind (cells_ok S.par)
    fun env he t1 y => ?_
  cases he
  refine ⟨nol.keeps y.toInCall.keep, codeAny_func ?_⟩
  obtain ⟨t, ht, hq⟩ := body cdv A outer s H vs Q p c d hz hf (hr.deeper _) hsp
  have I := L2H.inv_startH (CX := CX0) (E := E0) S hpin ev hl r y
  refine wpAny_mono (ht.run [] t1 _ H _ I hq) (fun fl s' hs => ?_) (fun _ _ z => z)
  match fl, hs with
  | .ret u, hs =>
    obtain ⟨v, σ', H', J, rv, q⟩ := hs
    exact ⟨v, H', J.os, J.bare, J.base, J.hok, rv, q⟩
  | .next, hs =>
    obtain ⟨σ', H', J, q⟩ := hs
    exact ⟨V.non, H', J.os, J.bare, J.base, J.hok, rfl, q⟩
  | .brk, hs =>
    obtain ⟨_, _, _, q⟩ := hs
    exact q.elim
  | .cont, hs =>
    obtain ⟨_, _, _, q⟩ := hs
    exact q.elim
section
variable {X : Cx}
/-- the call, from the suite -/
theorem pe_hotE {k : Nat} {f a : Addr} {fd : FuncData} {ps : List Str} {sp : SpE} {x : Str} {q pos : Pos} {e : Expr} {es : List Expr} {t : TA} {oe : Obj} {c : Value} {d : Option Addr} {pn : List (Addr × Obj)}
    (F : FnE X.prog X.w X.K X.mg X.base k f fd ps sp) (hr : Room k X.A) (hz : Zc c d oe) (hf : ∃ ws, oe.data = .fields ws) (hg : Gl X x) (hm : X.mg x = some (.ref f)) (hk : PySem.W.keepIn X.K (.ref f) = true) (hb : Binds X.K fd ps [])
    (ha : PA (X.suite a ((a, oe) :: pn)) (e :: es) t) (hdb : (x == ("__debug__" : Str)) = false := by decide) (he : starEach (e :: es) X.env = (false, eval e X.env) :: starEach es X.env := by rfl) (hpl : (backTo pos (starEach es X.env)).any (·.1) = false := by rfl) :
    PE (X.suite a ((a, oe) :: pn)) (.Call (.Name x q) (e :: es) [] pos) (fun σ H Q => t σ H fun vs H1 => sp a c d vs H1 Q) := by
  refine ⟨fun pins s σ H Q I h => ?_⟩
  refine wpAny_Call_Name_kw (ld_glob I hg hm ?_ hdb)
  refine PySem.W.callWith_K (h₀ := X.base) I.ok.mod.kin hk (thn (ha.run pos pins s σ H _ I h) ?_) he hpl
  intro us s1 ⟨vs, H1, I1, r, hs⟩
  refine ⟨I1.kIn, ?_⟩
  have hl : us.length = ps.length := by
    rw [← r.length]
    exact F.len _ _ _ _ _ _ hs
  have b := hb s1 us I1.kIn (by rw [List.append_nil]; exact hl)
  rw [List.append_nil] at b
  have P1 := I1.pin (a, oe) (List.mem_append_left _ List.mem_cons_self)
  have hpin : L2H.PinOk X.stack H1 s1 (a, oe) := ⟨P1.1, P1.2.1, fun z => (List.mem_cons.mp (I1.stkSub a z)).elim P1.2.2.1 P1.2.2.2.1, P1.2.2.2.2⟩
  have hr' : L2H.RoomH k (X.suite a ((a, oe) :: pn)).A := ⟨hr.dp, hr.un⟩
  refine wpAny_call (codeAny_mono (F.go _ X.stack s1 H1 ⟨us, []⟩ us vs Q (a, oe) c d hz hf hr' hpin I1.env0 b r hs) ?_)
  intro res s' hq
  match res, hq with
  | .error e, hq => exact hq.elim
  | .ok (.ret u), hq => exact I1.after hq
  | .ok .next, hq => exact hq.elim
  | .ok .brk, hq => exact hq.elim
  | .ok .cont, hq => exact hq.elim
/-- isinstance(e, C), e the pinned error -/
def rIsP (K : PySem.W.Frag) (a : Addr) (cls : Value) (d : Option Addr) : List V → Hp → VK → Prop := fun xs H Q => ∃ (D : Addr) (c : V) (cv : Value) (b : Bool), cls = .ref D ∧ d = none ∧ ExcC K D ∧ xs = [.ref a, c] ∧ (∀ u, RelV c u → u = cv) ∧ PySem.W.kitOne K (.ref D) cv = some b ∧ Q (.bl b) H
theorem call_isP {p : Addr × Obj} {cls : Value} {d : Option Addr} (hp : p ∈ X.pn) (hz : Zc cls d p.2) (hf : ∃ ws, p.2.data = .fields ws) : CallR X (.builtin "isinstance") (rIsP X.K p.1 cls d) := by
  intro pins s σ H xs us Q I r h
  obtain ⟨D, c, cv, b, rfl, rfl, C, rfl, hcv, e, q⟩ := h
  match us, r with
  | [_, u2], .cons rx (.cons rt .nil) =>
    cases rx
    have ec : u2 = cv := hcv _ rt
    cases ec
    obtain ⟨hget, _⟩ := I.pin p (List.mem_append.mpr (Or.inl hp))
    obtain ⟨ws, hv⟩ := hf
    have J : PySem.W.InstAt s.heap p.1 p.2 D none := by
      obtain ⟨pa, ⟨oc, od, oda, osl⟩⟩ := p
      obtain ⟨g1, g2⟩ := hz
      dsimp only at g1 g2 hv
      cases g1
      cases g2
      cases hv
      exact ⟨hget, rfl, rfl, trivial⟩
    refine PySem.W.kia_one (PySem.W.handS_kitx_exc C.hg C.hk C.hs C.hd C.ha C.hn C.ht C.hm) I.kIn J e (fun z => nomatch z) ?_
    intro tk
    exact ⟨.bl b, H, I.kept (t' := tk) (fun _ _ z => z), rfl, q⟩
theorem countP_vals {y : V} : ∀ {ys : List V} {us : List Value}, Vals ys us → ys.all flatV = true → us.countP (eqU y) = ys.countP fun z => eqV z y
  | _, _, .nil, _ => rfl
  | z :: zs, u :: us, .cons r t, f => by
    rw [List.all_cons, Bool.and_eq_true] at f
    rw [List.countP_cons, List.countP_cons, countP_vals t f.2, eqU_of r f.1]
/-- xs.count(y), flat things -/
theorem mt_countV : MtR X "list.count" (fun x xs H Q => ∃ (p : Addr) (ys : List V) (y : V), x = .ref p ∧ xs = [y] ∧ SqL X.K H p ys ∧ flatV y = true ∧ ys.all flatV = true ∧ Q (.int ((ys.countP fun z => eqV z y : Nat) : Int)) H) := by
  intro pins s σ H x xs v us Q I rx rxs h
  obtain ⟨a, ys, y, rfl, rfl, hs, fy, fys, q⟩ := h
  cases rx
  match us, rxs with
  | [uy], .cons ry .nil =>
    obtain ⟨its, rv, ⟨⟨cls, dd, data, sl⟩, n, ho, hc, hdn, hd⟩, hlen⟩ := I.list hs
    cases hc
    cases hd
    refine call_meets PySem.F.slot_list_count ⟨_, ho, rfl⟩ PySem.F.entry_list_count (PySem.F.args_list_count_2 _ _)
      (SeqAt.list_countAt a its.toArray n dd sl uy (eqU y)) ⟨ho, fun u' hu' => mem_eqAt ry fy rv fys u' (by simpa using hu'), ?_⟩
    have ec := countP_vals (y := y) rv fys
    refine ⟨.int ((ys.countP fun z => eqV z y : Nat) : Int), H, I.tok _, ⟨s.toks, ?_⟩, q⟩
    show Value.int ((its.toArray.toList.countP (eqU y) : Nat) : Int) s.toks = _
    rw [← ec]
end
/-! ### the law's own classes of errors -/
def words8 : List Str := ["count", "rule", "deed", "full", "twice", "notkept", "atend", "notwanted"]
/-- the class D is the i-th of the eight -/
structure Kind (K : PySem.W.Frag) (c : Nat → Addr) (D : Addr) (i : Nat) : Prop where
  lt : i < 8
  is : ∀ j, j < 8 → PySem.W.kitOne K (.ref D) (.ref (c j)) = some (decide (j = i))
  ve : PySem.W.kitOne K (.ref D) (.type "ValueError") = some true
  ex : ExcC K D
/-- what the law is told of an error -/
def sp_class (K : PySem.W.Frag) (c : Nat → Addr) : SpE := fun a cls d vs H Q => vs = [.ref a] ∧ ∃ (D : Addr) (i : Nat), cls = .ref D ∧ d = none ∧ Kind K c D i ∧ RetT H [.str "refused", .str (words8.getD i "")] Q
theorem eight {P : Nat → Prop} {i : Nat} (h : i < 8) (h0 : P 0) (h1 : P 1) (h2 : P 2) (h3 : P 3) (h4 : P 4) (h5 : P 5) (h6 : P 6) (h7 : P 7) : P i := by
  match i, h with
  | 0, _ => exact h0
  | 1, _ => exact h1
  | 2, _ => exact h2
  | 3, _ => exact h3
  | 4, _ => exact h4
  | 5, _ => exact h5
  | 6, _ => exact h6
  | 7, _ => exact h7
end BM

/-! ## The tables, in plain Lean -/
namespace BM
open PySem PySem.Spec PyProof.Rows L2
def choStep (m : Nat) (f t : Nat) : Nat := f * (m - t) / (t + 1)
def choN (m c : Nat) : Nat := (List.range c).foldl (choStep m) 1
def waysN (r t : Nat) : Nat := choN (r + t) r
def oftGo (s r : Nat) : Nat → Nat → Nat
  | 0, t => t
  | n + 1, t => if waysN r t ≤ s then oftGo s r n (t + 1) else t
/-- how often -/
def oftN (s r : Nat) : Nat := oftGo s r 101 0
def costN (s r : Nat) : Int := if oftN s r = 0 then 0 else (oftN s r : Int) * ((s : Int) + 1) - (waysN (r + 1) (oftN s r - 1) : Int)
theorem choN_succ (m c : Nat) : choN m (c + 1) = choStep m (choN m c) c := by
  unfold choN
  rw [List.range_succ, List.foldl_append] <;> rfl
theorem ways_far : ∀ r, r < 14 → 1 ≤ r → 100 < waysN r 101 := by decide +kernel
theorem oftGo_le {s r : Nat} : ∀ n t, oftGo s r n t ≤ n + t
  | 0, t => by
    show t ≤ 0 + t
    omega
  | n + 1, t => by
    have h := oftGo_le (s := s) (r := r) n (t + 1)
    show (if waysN r t ≤ s then oftGo s r n (t + 1) else t) ≤ n + 1 + t
    split <;> omega
theorem oftN_le (s r : Nat) : oftN s r ≤ 101 := oftGo_le 101 0
theorem oft_yes {s r n t : Nat} (h : waysN r t ≤ s) : oftGo s r (n + 1) t = oftGo s r n (t + 1) := if_pos h
theorem oft_no {s r n t : Nat} (h : ¬ waysN r t ≤ s) : oftGo s r n t = t := by
  cases n with
  | zero => rfl
  | succ n => exact if_neg h
def goodC (o1 o2 : Option Int) : Bool := among o1 0 100 && among o2 1 12
/-- the best of the marks met so far -/
def bestStep (above found : List Int) (many : Nat) (b : Option Int) (j : Nat) : Option Int :=
  let w := ((j : Int) + 1) + above.getD (many - (j + 1)) 0 + found.getD j 0
  match b with
  | none => some w
  | some v => if w < v then some w else some v
def bestN (above found : List Int) (many : Nat) (j : Nat) : Option Int := (List.range j).foldl (bestStep above found many) none
def nextN (above : List Int) : Nat → List Int
  | 0 => [0]
  | n + 1 => nextN above n ++ [(bestN above (nextN above n) (n + 1) (n + 1)).getD 0]
theorem nextN_len (above : List Int) : ∀ n, (nextN above n).length = n + 1
  | 0 => rfl
  | n + 1 => by
    show (nextN above n ++ [_]).length = n + 1 + 1
    rw [List.length_append, nextN_len above n] <;> rfl
theorem bestN_succ (above found : List Int) (many j : Nat) : bestN above found many (j + 1) = bestStep above found many (bestN above found many j) j := by
  unfold bestN
  rw [List.range_succ, List.foldl_append] <;> rfl
theorem bestStep_some (above found : List Int) (many : Nat) (b : Option Int) (j : Nat) : ∃ v, bestStep above found many b j = some v := by
  unfold bestStep
  cases b with
  | none => exact ⟨_, rfl⟩
  | some v =>
    dsimp only
    split
    · exact ⟨_, rfl⟩
    · exact ⟨_, rfl⟩
def lineOne (n : Nat) : List Int := (List.range (n + 1)).map fun (m : Nat) => ((m : Int) * ((m : Int) + 1)) / 2
def tableN (n : Nat) : Nat → List (List Int)
  | 0 => [lineOne n]
  | r + 1 => tableN n r ++ [nextN ((tableN n r).getLastD []) n]
def oV : Option Int → V
  | none => .non
  | some i => .int i
theorem tableN_len (n : Nat) : ∀ r, (tableN n r).length = r + 1
  | 0 => rfl
  | r + 1 => by
    show (tableN n r ++ [_]).length = r + 1 + 1
    rw [List.length_append, tableN_len n r] <;> rfl
end BM
namespace BM
open PySem PySem.Spec PyProof.Rows L2
def lineK (n : Nat) : Nat → List Int
  | 0 => lineOne n
  | k + 1 => nextN (lineK n k) n
theorem lineK_len (n : Nat) : ∀ k, (lineK n k).length = n + 1
  | 0 => by
    show (lineOne n).length = n + 1
    unfold lineOne
    rw [List.length_map, List.length_range]
  | k + 1 => nextN_len _ n
/-- the rows stand at these places -/
structure Rows (H : Hp) (as : List Addr) (r : Nat) (f : Nat → List Int) : Prop where
  len : as.length = r
  at' : ∀ i a, as[i]? = some a → H a = some (.lst ((f i).map V.int))
def RetRows (H : Hp) (r : Nat) (f : Nat → List Int) (Q : VK) : Prop :=
  ∀ p as H', H p = none → (∀ a ∈ as, H a = none) → Same H H' → H' p = some (.lst (as.map V.ref)) → Rows H' as r f → Q (.ref p) H'
theorem lineOne_take (m : Nat) : (((List.range m).map fun (m : Nat) => ((m : Int) * ((m : Int) + 1)) / 2).map V.int) ++ [V.int (((m : Int) * ((m : Int) + 1)) / 2)] = ((List.range (m + 1)).map fun (m : Nat) => ((m : Int) * ((m : Int) + 1)) / 2).map V.int := by
  rw [List.range_succ, List.map_append, List.map_append] <;> rfl
end BM

/-! ## The least cost: as a greatest of straight lines -/
namespace BM
theorem ways_zero : ∀ r, r < 15 → waysN r 0 = 1 := by decide +kernel
theorem ways_nil : ∀ t, t < 104 → waysN 0 t = 1 := by decide +kernel
theorem pascal' : ((List.range 13).all fun r => (List.range 103).all fun t => waysN (r + 1) (t + 1) == waysN (r + 1) t + waysN r (t + 1)) = true := by decide +kernel
theorem pascal {r t : Nat} (hr : r < 13) (ht : t < 103) : waysN (r + 1) (t + 1) = waysN (r + 1) t + waysN r (t + 1) :=
  eq_of_beq (List.all_eq_true.mp (List.all_eq_true.mp pascal' r (List.mem_range.mpr hr)) t (List.mem_range.mpr ht))
theorem ways_pos : ∀ r t, r < 14 → t < 104 → 1 ≤ waysN r t
  | 0, t, _, ht => by rw [ways_nil t ht]; omega
  | r + 1, 0, hr, _ => by rw [ways_zero (r + 1) (by omega)]; omega
  | r + 1, t + 1, hr, ht => by
    have h := ways_pos (r + 1) t hr (by omega)
    rw [pascal (by omega) (by omega)]
    omega
theorem ways_up {r t : Nat} (hr : r < 13) (ht : t < 103) : waysN (r + 1) t < waysN (r + 1) (t + 1) := by
  have h := ways_pos r (t + 1) (by omega) (by omega)
  rw [pascal hr ht]
  omega
theorem ways_mono {r t : Nat} (h1 : 1 ≤ r) (hr : r < 14) : ∀ d, t + d < 104 → waysN r t + d ≤ waysN r (t + d)
  | 0, _ => Nat.le_refl _
  | d + 1, h => by
    have i := ways_mono (t := t) h1 hr d (by omega)
    obtain ⟨q, rfl⟩ : ∃ q, r = q + 1 := ⟨r - 1, by omega⟩
    have u := ways_up (r := q) (t := t + d) (by omega) (by omega)
    show waysN (q + 1) t + (d + 1) ≤ waysN (q + 1) (t + d + 1)
    omega
theorem ways_lt {r a b : Nat} (h1 : 1 ≤ r) (hr : r < 14) (hb : b < 104) (h : a ≤ b) : waysN r a + (b - a) ≤ waysN r b := by
  have := ways_mono (t := a) h1 hr (b - a) (by omega)
  have e : a + (b - a) = b := by omega
  rw [e] at this
  exact this
theorem ways_ge {r t : Nat} (h1 : 1 ≤ r) (hr : r < 14) (ht : t < 104) : t + 1 ≤ waysN r t := by
  have := ways_lt (a := 0) (b := t) h1 hr ht (Nat.zero_le _)
  rw [ways_zero r (by omega)] at this
  omega
theorem oftGo_spec {s r : Nat} : ∀ n t, (∀ u, u < t → waysN r u ≤ s) → (s < waysN r (n + t)) → (∀ u, u < oftGo s r n t → waysN r u ≤ s) ∧ s < waysN r (oftGo s r n t)
  | 0, t, h, hs => by
    rw [Nat.zero_add] at hs
    exact ⟨h, hs⟩
  | n + 1, t, h, hs => by
    by_cases c : waysN r t ≤ s
    · rw [oft_yes c]
      refine oftGo_spec n (t + 1) (fun u hu => ?_) (by rw [show n + (t + 1) = n + 1 + t by omega]; exact hs)
      by_cases e : u = t
      · rw [e]
        exact c
      · exact h u (by omega)
    · rw [oft_no c]
      exact ⟨h, by omega⟩
theorem oft_spec {s r : Nat} (hs : s ≤ 101) (h1 : 1 ≤ r) (hr : r < 14) : (∀ u, u < oftN s r → waysN r u ≤ s) ∧ s < waysN r (oftN s r) := by
  refine oftGo_spec 101 0 (fun u hu => by omega) ?_
  show s < waysN r 101
  have := ways_ge (t := 101) h1 hr (by omega)
  omega
theorem oft_le {s r : Nat} (hs : s ≤ 101) (h1 : 1 ≤ r) (hr : r < 14) : oftN s r ≤ s := by
  have h := (oft_spec hs h1 hr).1
  by_cases c : oftN s r ≤ s
  · exact c
  · have q := h s (by omega)
    have := ways_ge (t := s) h1 hr (by omega)
    omega
def phi (r s t : Nat) : Int := if t = 0 then 0 else (t : Int) * ((s : Int) + 1) - (waysN (r + 1) (t - 1) : Int)
theorem cost_phi (s r : Nat) : costN s r = phi r s (oftN s r) := rfl
theorem phi_step {r s t : Nat} (hr : r < 13) (ht : t < 103) : phi r s (t + 1) = phi r s t + ((s : Int) + 1) - (waysN r t : Int) := by
  cases t with
  | zero =>
    show (if (0 + 1 : Nat) = 0 then (0 : Int) else ((0 + 1 : Nat) : Int) * ((s : Int) + 1) - (waysN (r + 1) 0 : Int)) = 0 + ((s : Int) + 1) - (waysN r 0 : Int)
    rw [if_neg (by omega), ways_zero (r + 1) (by omega), ways_zero r (by omega)]
    omega
  | succ t =>
    have p := pascal (r := r) (t := t) hr (by omega)
    show (if (t + 1 + 1 : Nat) = 0 then (0 : Int) else ((t + 1 + 1 : Nat) : Int) * ((s : Int) + 1) - (waysN (r + 1) (t + 1) : Int)) = (if (t + 1 : Nat) = 0 then (0 : Int) else ((t + 1 : Nat) : Int) * ((s : Int) + 1) - (waysN (r + 1) t : Int)) + ((s : Int) + 1) - (waysN r (t + 1) : Int)
    rw [if_neg (by omega), if_neg (by omega), p]
    have e : ((t + 1 + 1 : Nat) : Int) * ((s : Int) + 1) = ((t + 1 : Nat) : Int) * ((s : Int) + 1) + ((s : Int) + 1) := by
      rw [Int.natCast_add (t + 1) 1, Int.add_mul]
      show _ + (1 : Int) * _ = _
      rw [Int.one_mul]
    rw [e, Int.natCast_add]
    omega
/-- the least cost is the greatest of the lines -/
theorem phi_le {r s t : Nat} (hs : s ≤ 101) (h1 : 1 ≤ r) (hr : r < 13) (ht : t ≤ 103) : phi r s t ≤ costN s r := by
  obtain ⟨a, b⟩ := oft_spec (s := s) (r := r) hs h1 (by omega)
  have o := oft_le (s := s) (r := r) hs h1 (by omega)
  rw [cost_phi]
  have up : ∀ d, d ≤ oftN s r → phi r s (oftN s r - d) ≤ phi r s (oftN s r) := by
    intro d
    induction d with
    | zero => intro _; exact Int.le_refl _
    | succ d ih =>
      intro hd
      have i := ih (by omega)
      have st := phi_step (r := r) (s := s) (t := oftN s r - (d + 1)) (by omega) (by omega)
      have w := a (oftN s r - (d + 1)) (by omega)
      have e : oftN s r - (d + 1) + 1 = oftN s r - d := by omega
      rw [e] at st
      omega
  have down : ∀ d, oftN s r + d ≤ 103 → phi r s (oftN s r + d) ≤ phi r s (oftN s r) := by
    intro d
    induction d with
    | zero => intro _; exact Int.le_refl _
    | succ d ih =>
      intro hd
      have i := ih (by omega)
      have st := phi_step (r := r) (s := s) (t := oftN s r + d) (by omega) (by omega)
      have w := ways_lt (r := r) (a := oftN s r) (b := oftN s r + d) h1 (by omega) (by omega) (by omega)
      rw [show oftN s r + (d + 1) = oftN s r + d + 1 by omega]
      omega
  by_cases c : t ≤ oftN s r
  · have := up (oftN s r - t) (by omega)
    rw [show oftN s r - (oftN s r - t) = t by omega] at this
    exact this
  · have := down (t - oftN s r) (by omega)
    rw [show oftN s r + (t - oftN s r) = t by omega] at this
    exact this
theorem cost_nonneg {s r : Nat} (hs : s ≤ 101) (h1 : 1 ≤ r) (hr : r < 13) : 0 ≤ costN s r := phi_le (t := 0) hs h1 hr (by omega)
/-- no mark does better -/
theorem cost_mark {s r m : Nat} (hs : s ≤ 101) (h1 : 1 ≤ r) (hr : r < 12) (hm : 1 ≤ m) (hms : m ≤ s) : costN s (r + 1) ≤ (m : Int) + costN (s - m) r + costN (m - 1) (r + 1) := by
  rw [cost_phi s (r + 1)]
  have o := oft_le (s := s) (r := r + 1) hs (by omega) (by omega)
  cases e : oftN s (r + 1) with
  | zero =>
    have a := cost_nonneg (s := s - m) (r := r) (by omega) h1 (by omega)
    have b := cost_nonneg (s := m - 1) (r := r + 1) (by omega) (by omega) (by omega)
    show (0 : Int) ≤ _
    omega
  | succ t =>
    rw [e] at o
    have a := phi_le (s := s - m) (r := r) (t := t + 1) (by omega) h1 (by omega) (by omega)
    have b := phi_le (s := m - 1) (r := r + 1) (t := t) (by omega) (by omega) (by omega) (by omega)
    have e1 : phi (r + 1) s (t + 1) = ((t + 1 : Nat) : Int) * ((s : Int) + 1) - (waysN (r + 1 + 1) t : Int) := by
      show (if (t + 1 : Nat) = 0 then (0 : Int) else _) = _
      rw [if_neg (by omega)] <;> rfl
    have e2 : phi r (s - m) (t + 1) = ((t + 1 : Nat) : Int) * (((s - m : Nat) : Int) + 1) - (waysN (r + 1) t : Int) := by
      show (if (t + 1 : Nat) = 0 then (0 : Int) else _) = _
      rw [if_neg (by omega)] <;> rfl
    have q1 : ((t + 1 : Nat) : Int) * (((s - m : Nat) : Int) + 1) + ((t + 1 : Nat) : Int) * (m : Int) = ((t + 1 : Nat) : Int) * ((s : Int) + 1) := by
      rw [← Int.mul_add]
      congr 1
      omega
    have e3 : phi (r + 1) (m - 1) t = (t : Int) * (m : Int) - (if t = 0 then 0 else (waysN (r + 1 + 1) (t - 1) : Int)) := by
      show (if t = 0 then (0 : Int) else (t : Int) * (((m - 1 : Nat) : Int) + 1) - _) = _
      by_cases c : t = 0
      · rw [if_pos c, if_pos c, c]
        show (0 : Int) = 0 * (m : Int) - 0
        rw [Int.zero_mul] <;> rfl
      · rw [if_neg c, if_neg c, show (((m - 1 : Nat) : Int) + 1) = (m : Int) by omega]
    have q2 : ((t + 1 : Nat) : Int) * (m : Int) = (t : Int) * (m : Int) + (m : Int) := by
      rw [Int.natCast_add t 1, Int.add_mul]
      show _ + (1 : Int) * _ = _
      rw [Int.one_mul]
    have p : (waysN (r + 1 + 1) t : Int) = (if t = 0 then 0 else (waysN (r + 1 + 1) (t - 1) : Int)) + (waysN (r + 1) t : Int) := by
      cases t with
      | zero =>
        rw [if_pos rfl, ways_zero (r + 1 + 1) (by omega), ways_zero (r + 1) (by omega)] <;> rfl
      | succ t =>
        rw [if_neg (by omega), pascal (r := r + 1) (t := t) (by omega) (by omega), Int.natCast_add] <;> rfl
    omega
/-- one room more never costs more -/
theorem cost_room {s r : Nat} (hs : s ≤ 101) (h1 : 1 ≤ r) (hr : r < 12) : costN s (r + 1) ≤ costN s r := by
  rw [cost_phi s (r + 1)]
  have o := oft_le (s := s) (r := r + 1) hs (by omega) (by omega)
  refine Int.le_trans ?_ (phi_le (t := oftN s (r + 1)) hs h1 (by omega) (by omega))
  unfold phi
  by_cases c : oftN s (r + 1) = 0
  · rw [if_pos c, if_pos c]
    exact Int.le_refl _
  · rw [if_neg c, if_neg c]
    have : waysN (r + 1) (oftN s (r + 1) - 1) ≤ waysN (r + 1 + 1) (oftN s (r + 1) - 1) := by
      have hu : oftN s (r + 1) - 1 < 103 := by omega
      generalize oftN s (r + 1) - 1 = u at hu ⊢
      cases u with
      | zero => rw [ways_zero (r + 1) (by omega), ways_zero (r + 1 + 1) (by omega)]; omega
      | succ t =>
        rw [pascal (r := r + 1) (t := t) (by omega) (by omega)]
        omega
    omega
end BM

/-! ## The table's lines tell the least cost -/
namespace BM
def markN (s r : Nat) : Nat := min (waysN r (oftN s r - 1)) (s + 1 - waysN (r - 1) (oftN s r - 1))
def markOk (s r : Nat) : Bool := s == 0 || (decide (1 ≤ markN s (r + 1)) && decide (markN s (r + 1) ≤ s) && decide (costN s (r + 1) = (markN s (r + 1) : Int) + costN (s - markN s (r + 1)) r + costN (markN s (r + 1) - 1) (r + 1)))
theorem markOk1 : ((List.range 101).all fun s => (List.range 2).all fun r => markOk s (r + 1)) = true := by decide +kernel
theorem markOk2 : ((List.range 101).all fun s => (List.range 4).all fun r => markOk s (r + 3)) = true := by decide +kernel
theorem markOk3 : ((List.range 101).all fun s => (List.range 5).all fun r => markOk s (r + 7)) = true := by decide +kernel
theorem mark_ok {s r : Nat} (hs : s ≤ 100) (h0 : 1 ≤ s) (h1 : 1 ≤ r) (hr : r < 12) : 1 ≤ markN s (r + 1) ∧ markN s (r + 1) ≤ s ∧ costN s (r + 1) = (markN s (r + 1) : Int) + costN (s - markN s (r + 1)) r + costN (markN s (r + 1) - 1) (r + 1) := by
  have h : markOk s r = true := by
    by_cases c : r < 3
    · have := List.all_eq_true.mp (List.all_eq_true.mp markOk1 s (List.mem_range.mpr (by omega))) (r - 1) (List.mem_range.mpr (by omega))
      rw [show r - 1 + 1 = r by omega] at this
      exact this
    · by_cases c2 : r < 7
      · have := List.all_eq_true.mp (List.all_eq_true.mp markOk2 s (List.mem_range.mpr (by omega))) (r - 3) (List.mem_range.mpr (by omega))
        rw [show r - 3 + 3 = r by omega] at this
        exact this
      · have := List.all_eq_true.mp (List.all_eq_true.mp markOk3 s (List.mem_range.mpr (by omega))) (r - 7) (List.mem_range.mpr (by omega))
        rw [show r - 7 + 7 = r by omega] at this
        exact this
  unfold markOk at h
  rw [Bool.or_eq_true] at h
  rcases h with h | h
  · have := eq_of_beq h
    omega
  · simp only [Bool.and_eq_true, decide_eq_true_eq] at h
    exact ⟨h.1.1, h.1.2, h.2⟩
theorem one_ok : ((List.range 101).all fun s => decide (costN s 1 = ((s : Int) * ((s : Int) + 1)) / 2)) = true := by decide +kernel
theorem cost_one {s : Nat} (hs : s ≤ 100) : costN s 1 = ((s : Int) * ((s : Int) + 1)) / 2 :=
  of_decide_eq_true (List.all_eq_true.mp one_ok s (List.mem_range.mpr (by omega)))
theorem best_min {above found : List Int} {many : Nat} {w : Nat → Int} (hw : ∀ j, j < many → ((j : Int) + 1) + above.getD (many - (j + 1)) 0 + found.getD j 0 = w j) :
    ∀ j, j ≤ many → (bestN above found many j = none ∧ j = 0) ∨ ∃ v, bestN above found many j = some v ∧ (∃ i, i < j ∧ v = w i) ∧ ∀ i, i < j → v ≤ w i
  | 0, _ => .inl ⟨rfl, rfl⟩
  | j + 1, h => by
    have e := bestN_succ above found many j
    have ew := hw j (by omega)
    have st : ∀ b, bestStep above found many b j = match b with | none => some (w j) | some v => if w j < v then some (w j) else some v := by
      intro b
      unfold bestStep
      rw [ew]
    rw [st] at e
    rcases best_min hw j (by omega) with ⟨h0, rfl⟩ | ⟨v, hv, ⟨i, hi, hvi⟩, hm⟩
    · rw [h0] at e
      refine .inr ⟨w 0, e, ⟨0, by omega, rfl⟩, fun i hi => ?_⟩
      rw [show i = 0 by omega]
      exact Int.le_refl _
    · rw [hv] at e
      by_cases c : w j < v
      · have e' : bestN above found many (j + 1) = some (w j) := e.trans (if_pos c)
        refine .inr ⟨w j, e', ⟨j, by omega, rfl⟩, fun i' hi' => ?_⟩
        by_cases q : i' = j
        · rw [q]
          exact Int.le_refl _
        · have := hm i' (by omega)
          omega
      · have e' : bestN above found many (j + 1) = some v := e.trans (if_neg c)
        refine .inr ⟨v, e', ⟨i, by omega, hvi⟩, fun i' hi' => ?_⟩
        by_cases q : i' = j
        · rw [q]
          omega
        · exact hm i' (by omega)
def lineC (n r : Nat) : List Int := (List.range (n + 1)).map fun m => costN m r
theorem lineC_get {n r j : Nat} (h : j ≤ n) : (lineC n r).getD j 0 = costN j r := by
  unfold lineC
  rw [List.getD_eq_getElem?_getD, List.getElem?_map, List.getElem?_range (by omega)] <;> rfl
theorem next_line {n r : Nat} (h1 : 1 ≤ r) (hr : r < 12) : ∀ k, k ≤ n → n ≤ 100 → nextN (lineC n r) k = lineC k (r + 1)
  | 0, _, _ => by
    show [(0 : Int)] = [costN 0 (r + 1)]
    have o := oft_le (s := 0) (r := r + 1) (by omega) (by omega) (by omega)
    have e : costN 0 (r + 1) = 0 := by
      unfold costN
      rw [if_pos (by omega)]
    rw [e]
  | k + 1, hk, hn => by
    have ih := next_line h1 hr k (by omega) hn
    have e : lineC (k + 1) (r + 1) = lineC k (r + 1) ++ [costN (k + 1) (r + 1)] := by
      unfold lineC
      rw [List.range_succ (n := k + 1), List.map_append] <;> rfl
    show nextN (lineC n r) k ++ [(bestN (lineC n r) (nextN (lineC n r) k) (k + 1) (k + 1)).getD 0] = _
    rw [ih, e]
    have hw : ∀ j, j < k + 1 → ((j : Int) + 1) + (lineC n r).getD (k + 1 - (j + 1)) 0 + (lineC k (r + 1)).getD j 0 = ((j : Int) + 1) + costN (k + 1 - (j + 1)) r + costN j (r + 1) := fun j hj => by
      rw [lineC_get (by omega), lineC_get (by omega)]
    rcases best_min hw (k + 1) (Nat.le_refl _) with ⟨_, h0⟩ | ⟨v, hv, ⟨i, hi, hvi⟩, hm⟩
    · omega
    · rw [hv]
      obtain ⟨m1, m2, m3⟩ := mark_ok (s := k + 1) (r := r) (by omega) (by omega) h1 hr
      have a := hm (markN (k + 1) (r + 1) - 1) (by omega)
      have b := cost_mark (s := k + 1) (r := r) (m := i + 1) (by omega) h1 hr (by omega) (by omega)
      rw [show markN (k + 1) (r + 1) - 1 + 1 = markN (k + 1) (r + 1) by omega] at a
      rw [show i + 1 - 1 = i by omega] at b
      have ev : v = costN (k + 1) (r + 1) := by omega
      rw [ev] <;> rfl
theorem lineK_eq {n : Nat} (hn : n ≤ 100) : ∀ k, k < 12 → lineK n k = lineC n (k + 1)
  | 0, _ => by
    show lineOne n = lineC n 1
    unfold lineOne lineC
    refine List.map_congr_left fun m hm => ?_
    exact (cost_one (by have := List.mem_range.mp hm; omega)).symm
  | k + 1, hk => by
    show nextN (lineK n k) n = lineC n (k + 1 + 1)
    rw [lineK_eq hn k (by omega)]
    exact next_line (by omega) (by omega) n (Nat.le_refl _) hn
end BM

/-! ## Deeds and plans, in plain Lean -/
namespace BM
inductive Deed where
  | keep | meet | take (p : Nat) | drop (p : Nat) | go (n : Nat)
  deriving DecidableEq
def aPre (start steps : Nat) : Nat → List Deed
  | 0 => []
  | i + 1 => aPre start steps i ++ [.go (steps - i), .meet, .take start]
def againN (start steps : Nat) : List Deed := aPre start steps steps ++ [.meet]
def fromN : Nat → Nat → Nat → Nat → List Deed
  | 0, _, _, _ => []
  | k + 1, start, steps, room => if steps = 0 ∨ room = 1 then againN start steps else
      ([.go (markN steps room), .keep] ++ fromN k (start + markN steps room) (steps - markN steps room) (room - 1) ++ [.drop (start + markN steps room), .take start]) ++ fromN k start (markN steps room - 1) room
def planN (steps room : Nat) : List Deed := if steps = 0 then [.meet] else [.keep] ++ fromN 101 0 steps room
def costD1 : Deed → Nat
  | .go n => n
  | _ => 0
def costD (ds : List Deed) : Nat := (ds.map costD1).sum
def mostStep (s : Int × Int) : Deed → Int × Int
  | .keep => (s.1 + 1, max s.2 (s.1 + 1))
  | .drop _ => (s.1 - 1, max s.2 (s.1 - 1))
  | _ => (s.1, max s.2 s.1)
def mostD (ds : List Deed) : Int := (ds.foldl mostStep (0, 0)).2
/-- a hand with its kept places -/
structure WSt where
  pl : Nat
  mks : List Nat
  wa : Int
  co : Nat
  mo : Nat
  deriving DecidableEq
def stepW (n R : Nat) (s : WSt) : Deed → Option WSt
  | .keep => if s.pl ∉ s.mks ∧ s.mks.length < R then some { s with mks := s.mks ++ [s.pl], mo := max s.mo (s.mks.length + 1) } else none
  | .meet => if (s.pl : Int) = s.wa then some { s with wa := s.wa - 1 } else none
  | .go m => if 0 < m ∧ s.pl + m ≤ n then some { s with pl := s.pl + m, co := s.co + m } else none
  | .take p => if p ∈ s.mks then some { s with pl := p } else none
  | .drop p => if p ∈ s.mks then some { s with mks := s.mks.filter (· ≠ p) } else none
def runW (n R : Nat) : List Deed → WSt → Option WSt
  | [], s => some s
  | d :: ds, s => (stepW n R s d).bind (runW n R ds)
theorem ite_some {α : Type} {c : Prop} [Decidable c] {x u : α} (h : (if c then some x else none) = some u) : c ∧ x = u := by
  by_cases q : c
  · rw [if_pos q] at h
    exact ⟨q, Option.some.inj h⟩
  · rw [if_neg q] at h
    cases h
theorem runW_append (n R : Nat) : ∀ (ds es : List Deed) (s : WSt), runW n R (ds ++ es) s = (runW n R ds s).bind (runW n R es)
  | [], _, _ => rfl
  | d :: ds, es, s => by
    show (stepW n R s d).bind (runW n R (ds ++ es)) = ((stepW n R s d).bind (runW n R ds)).bind (runW n R es)
    cases stepW n R s d with
    | none => rfl
    | some t => exact runW_append n R ds es t
theorem costD_append (ds es : List Deed) : costD (ds ++ es) = costD ds + costD es := by
  unfold costD
  rw [List.map_append, List.sum_append]
theorem runW_cost {n R : Nat} : ∀ {ds : List Deed} {s t : WSt}, runW n R ds s = some t → t.co = s.co + costD ds
  | [], s, t, h => by
    have e : s = t := Option.some.inj h
    rw [e]
    show t.co = t.co + 0
    omega
  | d :: ds, s, t, h => by
    have h : (stepW n R s d).bind (runW n R ds) = some t := h
    cases e : stepW n R s d with
    | none => rw [e] at h; cases h
    | some u =>
      rw [e] at h
      have ih := runW_cost (s := u) h
      have e2 : u.co = s.co + costD1 d := by
        cases d with
        | keep => obtain ⟨_, rfl⟩ := ite_some (α := WSt) e; rfl
        | meet => obtain ⟨_, rfl⟩ := ite_some (α := WSt) e; rfl
        | go m => obtain ⟨_, rfl⟩ := ite_some (α := WSt) e; rfl
        | take p => obtain ⟨_, rfl⟩ := ite_some (α := WSt) e; rfl
        | drop p => obtain ⟨_, rfl⟩ := ite_some (α := WSt) e; rfl
      have e3 : costD (d :: ds) = costD1 d + costD ds := by
        unfold costD
        rw [List.map_cons, List.sum_cons]
      omega
theorem filter_len_drop {p : Nat} : ∀ {l : List Nat}, l.Nodup → p ∈ l → (l.filter (· ≠ p)).length + 1 = l.length
  | [], _, h => by cases h
  | x :: r, hn, h => by
    obtain ⟨h1, h2⟩ := List.nodup_cons.mp hn
    by_cases e : x = p
    · subst e
      have q : r.filter (· ≠ x) = r := List.filter_eq_self.mpr fun y hy => decide_eq_true fun z => h1 (z ▸ hy)
      rw [List.filter_cons, if_neg (by simp), q] <;> rfl
    · have hm : p ∈ r := by
        rcases List.mem_cons.mp h with z | z
        · exact absurd z.symm e
        · exact z
      have ih := filter_len_drop h2 hm
      rw [List.filter_cons, if_pos (decide_eq_true e), List.length_cons, List.length_cons]
      omega
theorem nodup_snoc {l : List Nat} {x : Nat} (h : l.Nodup) (hx : x ∉ l) : (l ++ [x]).Nodup := by
  rw [List.nodup_append]
  refine ⟨h, by simp, ?_⟩
  intro a ha b hb
  rw [List.mem_singleton.mp hb]
  rintro rfl
  exact hx ha
/-- the count of the kept ones goes along -/
theorem runW_most {n R : Nat} : ∀ {ds : List Deed} {s t : WSt} {m : Int × Int}, runW n R ds s = some t → s.mks.Nodup → m.1 = (s.mks.length : Int) → m.2 = (s.mo : Int) → s.mks.length ≤ s.mo → (ds.foldl mostStep m).2 = (t.mo : Int)
  | [], s, t, m, h, _, _, h2, _ => by
    have e : s = t := Option.some.inj h
    rw [← e]
    exact h2
  | d :: ds, s, t, m, h, hn, h1, h2, h3 => by
    have h : (stepW n R s d).bind (runW n R ds) = some t := h
    cases e : stepW n R s d with
    | none => rw [e] at h; cases h
    | some u =>
      rw [e] at h
      have key : u.mks.Nodup ∧ (mostStep m d).1 = (u.mks.length : Int) ∧ (mostStep m d).2 = (u.mo : Int) ∧ u.mks.length ≤ u.mo := by
        cases d with
        | keep =>
          obtain ⟨c, rfl⟩ := ite_some (α := WSt) e
          refine ⟨nodup_snoc hn c.1, ?_, ?_, ?_⟩
          · show m.1 + 1 = ((s.mks ++ [s.pl]).length : Int)
            rw [List.length_append, h1] <;> rfl
          · show max m.2 (m.1 + 1) = ((max s.mo (s.mks.length + 1) : Nat) : Int)
            omega
          · show (s.mks ++ [s.pl]).length ≤ max s.mo (s.mks.length + 1)
            rw [List.length_append]
            show s.mks.length + 1 ≤ _
            omega
        | meet =>
          obtain ⟨c, rfl⟩ := ite_some (α := WSt) e
          refine ⟨hn, h1, ?_, h3⟩
          show max m.2 m.1 = (s.mo : Int)
          omega
        | go k =>
          obtain ⟨c, rfl⟩ := ite_some (α := WSt) e
          refine ⟨hn, h1, ?_, h3⟩
          show max m.2 m.1 = (s.mo : Int)
          omega
        | take p =>
          obtain ⟨c, rfl⟩ := ite_some (α := WSt) e
          refine ⟨hn, h1, ?_, h3⟩
          show max m.2 m.1 = (s.mo : Int)
          omega
        | drop p =>
          obtain ⟨c, rfl⟩ := ite_some (α := WSt) e
          have fl := filter_len_drop hn c
          refine ⟨hn.filter _, ?_, ?_, ?_⟩
          · show m.1 - 1 = ((s.mks.filter (· ≠ p)).length : Int)
            omega
          · show max m.2 (m.1 - 1) = (s.mo : Int)
            omega
          · show (s.mks.filter (· ≠ p)).length ≤ s.mo
            omega
      exact runW_most (s := u) (m := mostStep m d) h key.1 key.2.1 key.2.2.1 key.2.2.2
theorem filter_last {M : List Nat} {x : Nat} (hx : x ∉ M) : (M ++ [x]).filter (· ≠ x) = M := by
  rw [List.filter_append, List.filter_cons, if_neg (by simp), List.filter_nil, List.append_nil]
  exact List.filter_eq_self.mpr fun y hy => decide_eq_true fun z => hx (z ▸ hy)
theorem again_run {n R start : Nat} {M : List Nat} {mo : Nat} (hM : start ∈ M) : ∀ steps i co, i ≤ steps → start + steps ≤ n →
    ∃ c, runW n R (aPre start steps i) { pl := start, mks := M, wa := ((start + steps : Nat) : Int), co := co, mo := mo } = some { pl := start, mks := M, wa := ((start + steps : Nat) : Int) - (i : Int), co := c, mo := mo }
  | steps, 0, co, _, _ => ⟨co, by show some _ = some _; simp⟩
  | steps, i + 1, co, hi, hn => by
    obtain ⟨c, ih⟩ := again_run hM steps i co (by omega) hn
    refine ⟨c + (steps - i), ?_⟩
    show runW n R (aPre start steps i ++ [.go (steps - i), .meet, .take start]) _ = _
    rw [runW_append, ih]
    show ((stepW n R _ (.go (steps - i))).bind fun s => (stepW n R s .meet).bind fun s => (stepW n R s (.take start)).bind fun s => some s) = _
    have e1 : stepW n R { pl := start, mks := M, wa := ((start + steps : Nat) : Int) - (i : Int), co := c, mo := mo } (.go (steps - i)) = some { pl := start + (steps - i), mks := M, wa := ((start + steps : Nat) : Int) - (i : Int), co := c + (steps - i), mo := mo } := by
      show (if 0 < steps - i ∧ start + (steps - i) ≤ n then _ else _) = _
      rw [if_pos ⟨by omega, by omega⟩]
    have e2 : stepW n R { pl := start + (steps - i), mks := M, wa := ((start + steps : Nat) : Int) - (i : Int), co := c + (steps - i), mo := mo } .meet = some { pl := start + (steps - i), mks := M, wa := ((start + steps : Nat) : Int) - (i : Int) - 1, co := c + (steps - i), mo := mo } := by
      show (if ((start + (steps - i) : Nat) : Int) = ((start + steps : Nat) : Int) - (i : Int) then _ else _) = _
      rw [if_pos (by omega)]
    have e3 : stepW n R { pl := start + (steps - i), mks := M, wa := ((start + steps : Nat) : Int) - (i : Int) - 1, co := c + (steps - i), mo := mo } (.take start) = some { pl := start, mks := M, wa := ((start + steps : Nat) : Int) - (i : Int) - 1, co := c + (steps - i), mo := mo } := if_pos hM
    rw [e1]
    show ((stepW n R _ .meet).bind _) = _
    rw [e2]
    show ((stepW n R _ (.take start)).bind _) = _
    rw [e3]
    show some _ = some _
    congr 2
    omega
theorem aPre_cost (start steps : Nat) : ∀ i, i ≤ steps → (2 * costD (aPre start steps i) : Nat) + i * i = i * (2 * steps + 1)
  | 0, _ => by
    show 2 * 0 + 0 * 0 = 0 * (2 * steps + 1)
    simp
  | i + 1, h => by
    have ih := aPre_cost start steps i (by omega)
    have e : costD (aPre start steps (i + 1)) = costD (aPre start steps i) + (steps - i) := by
      show costD (aPre start steps i ++ [.go (steps - i), .meet, .take start]) = _
      rw [costD_append]
      show _ + ((steps - i) + (0 + (0 + 0))) = _
      omega
    rw [e]
    have q1 : (i + 1) * (i + 1) = i * i + 2 * i + 1 := by
      rw [Nat.add_mul, Nat.mul_add, Nat.one_mul, Nat.mul_one]
      omega
    have q2 : (i + 1) * (2 * steps + 1) = i * (2 * steps + 1) + 2 * steps + 1 := by
      rw [Nat.add_mul, Nat.one_mul]
      omega
    omega
theorem again_cost {start steps : Nat} (hs : steps ≤ 100) : (costD (againN start steps) : Int) = costN steps 1 := by
  rw [cost_one hs]
  unfold againN
  have h := aPre_cost start steps steps (Nat.le_refl _)
  rw [costD_append]
  have e : costD [Deed.meet] = 0 := rfl
  rw [e]
  have q : steps * (2 * steps + 1) = 2 * (steps * steps) + steps := by
    rw [Nat.mul_add, Nat.mul_one, Nat.mul_left_comm]
  have q2 : (steps : Int) * ((steps : Int) + 1) = ((steps * steps + steps : Nat) : Int) := by
    rw [Int.mul_add, Int.mul_one, Int.natCast_add, Int.natCast_mul]
  rw [q2]
  omega
/-- the plan's deeds from a kept place on: all from the end down to it are met, and what was kept is kept -/
theorem from_run {n R : Nat} : ∀ k start steps room (M : List Nat) (co mo : Nat), steps < k → 1 ≤ room → room ≤ 12 → steps ≤ 100 → start + steps ≤ n → start ∈ M → (∀ x ∈ M, x ≤ start) → M.length + room ≤ R + 1 →
    ∃ c m, runW n R (fromN k start steps room) { pl := start, mks := M, wa := ((start + steps : Nat) : Int), co := co, mo := mo } = some { pl := start, mks := M, wa := (start : Int) - 1, co := c, mo := m }
  | 0, _, steps, _, _, _, _, h, _, _, _, _, _, _, _ => by omega
  | k + 1, start, steps, room, M, co, mo, hk, h1, h2, h3, h4, hM, hU, hR => by
    by_cases c : steps = 0 ∨ room = 1
    · obtain ⟨c', e⟩ := again_run (n := n) (R := R) (mo := mo) hM steps steps co (Nat.le_refl _) h4
      refine ⟨c', mo, ?_⟩
      show runW n R (if steps = 0 ∨ room = 1 then againN start steps else _) _ = _
      rw [if_pos c]
      unfold againN
      rw [runW_append, e]
      show (stepW n R _ .meet).bind (fun s => some s) = _
      have e2 : stepW n R { pl := start, mks := M, wa := ((start + steps : Nat) : Int) - (steps : Int), co := c', mo := mo } .meet = some { pl := start, mks := M, wa := ((start + steps : Nat) : Int) - (steps : Int) - 1, co := c', mo := mo } := by
        show (if ((start : Nat) : Int) = ((start + steps : Nat) : Int) - (steps : Int) then _ else _) = _
        rw [if_pos (by omega)]
      rw [e2]
      show some _ = some _
      congr 2
      omega
    · obtain ⟨m1, m2, _⟩ := mark_ok (s := steps) (r := room - 1) h3 (by omega) (by omega) (by omega)
      rw [show room - 1 + 1 = room by omega] at m1 m2
      have hx : start + markN steps room ∉ M := fun z => by
        have := hU _ z
        omega
      show ∃ c m, runW n R (if steps = 0 ∨ room = 1 then againN start steps else _) _ = _
      rw [if_neg c]
      obtain ⟨c1, q1, e1⟩ := from_run (n := n) (R := R) k (start + markN steps room) (steps - markN steps room) (room - 1) (M ++ [start + markN steps room]) (co + markN steps room) (max mo (M.length + 1)) (by omega) (by omega) (by omega) (by omega) (by omega) (by simp) (fun x hx => by
        rcases List.mem_append.mp hx with z | z
        · have := hU x z
          omega
        · rw [List.mem_singleton.mp z]
          exact Nat.le_refl _) (by rw [List.length_append]; show M.length + 1 + (room - 1) ≤ R + 1; omega)
      obtain ⟨c2, q2, e2⟩ := from_run (n := n) (R := R) k start (markN steps room - 1) room M c1 q1 (by omega) h1 h2 (by omega) (by omega) hM hU hR
      refine ⟨c2, q2, ?_⟩
      rw [List.append_assoc, List.append_assoc, runW_append]
      have s1 : runW n R [.go (markN steps room), .keep] { pl := start, mks := M, wa := ((start + steps : Nat) : Int), co := co, mo := mo } = some { pl := start + markN steps room, mks := M ++ [start + markN steps room], wa := ((start + steps : Nat) : Int), co := co + markN steps room, mo := max mo (M.length + 1) } := by
        show (stepW n R _ (.go (markN steps room))).bind (fun s => (stepW n R s .keep).bind fun s => some s) = _
        have a1 : stepW n R { pl := start, mks := M, wa := ((start + steps : Nat) : Int), co := co, mo := mo } (.go (markN steps room)) = some { pl := start + markN steps room, mks := M, wa := ((start + steps : Nat) : Int), co := co + markN steps room, mo := mo } := if_pos ⟨by omega, by show start + markN steps room ≤ n; omega⟩
        have a2 : stepW n R { pl := start + markN steps room, mks := M, wa := ((start + steps : Nat) : Int), co := co + markN steps room, mo := mo } .keep = some { pl := start + markN steps room, mks := M ++ [start + markN steps room], wa := ((start + steps : Nat) : Int), co := co + markN steps room, mo := max mo (M.length + 1) } := if_pos ⟨hx, by show M.length < R; omega⟩
        rw [a1]
        show (stepW n R _ .keep).bind _ = _
        rw [a2] <;> rfl
      rw [s1]
      show runW n R (fromN k (start + markN steps room) (steps - markN steps room) (room - 1) ++ ([.drop (start + markN steps room), .take start] ++ fromN k start (markN steps room - 1) room)) _ = _
      rw [runW_append]
      rw [show ((start + markN steps room + (steps - markN steps room) : Nat) : Int) = ((start + steps : Nat) : Int) by omega] at e1
      rw [e1]
      show runW n R ([.drop (start + markN steps room), .take start] ++ fromN k start (markN steps room - 1) room) _ = _
      rw [runW_append]
      have s2 : runW n R [.drop (start + markN steps room), .take start] { pl := start + markN steps room, mks := M ++ [start + markN steps room], wa := ((start + markN steps room : Nat) : Int) - 1, co := c1, mo := q1 } = some { pl := start, mks := M, wa := ((start + markN steps room : Nat) : Int) - 1, co := c1, mo := q1 } := by
        show (stepW n R _ (.drop (start + markN steps room))).bind (fun s => (stepW n R s (.take start)).bind fun s => some s) = _
        have a1 : stepW n R { pl := start + markN steps room, mks := M ++ [start + markN steps room], wa := ((start + markN steps room : Nat) : Int) - 1, co := c1, mo := q1 } (.drop (start + markN steps room)) = some { pl := start + markN steps room, mks := M, wa := ((start + markN steps room : Nat) : Int) - 1, co := c1, mo := q1 } := by
          show (if _ then _ else _) = _
          rw [if_pos (by simp), filter_last hx]
        have a2 : stepW n R { pl := start + markN steps room, mks := M, wa := ((start + markN steps room : Nat) : Int) - 1, co := c1, mo := q1 } (.take start) = some { pl := start, mks := M, wa := ((start + markN steps room : Nat) : Int) - 1, co := c1, mo := q1 } := if_pos hM
        rw [a1]
        show (stepW n R _ (.take start)).bind _ = _
        rw [a2] <;> rfl
      rw [s2]
      show runW n R (fromN k start (markN steps room - 1) room) _ = _
      rw [show ((start + markN steps room : Nat) : Int) - 1 = ((start + (markN steps room - 1) : Nat) : Int) by omega]
      exact e2
theorem from_cost : ∀ k start steps room, steps < k → 1 ≤ room → room ≤ 12 → steps ≤ 100 → (costD (fromN k start steps room) : Int) = costN steps room
  | 0, _, steps, _, h, _, _, _ => by omega
  | k + 1, start, steps, room, hk, h1, h2, h3 => by
    show (costD (if steps = 0 ∨ room = 1 then againN start steps else _) : Int) = _
    by_cases c : steps = 0 ∨ room = 1
    · rw [if_pos c, again_cost h3]
      rcases c with c | c
      · have z : ∀ r, 1 ≤ r → r ≤ 12 → costN 0 r = 0 := fun r q1 q2 => by
          have o := oft_le (s := 0) (r := r) (by omega) q1 (by omega)
          unfold costN
          rw [if_pos (by omega)]
        rw [c, z 1 (by omega) (by omega), z room h1 h2]
      · rw [c]
    · rw [if_neg c]
      obtain ⟨m1, m2, m3⟩ := mark_ok (s := steps) (r := room - 1) h3 (by omega) (by omega) (by omega)
      rw [show room - 1 + 1 = room by omega] at m1 m2 m3
      have i1 := from_cost k (start + markN steps room) (steps - markN steps room) (room - 1) (by omega) (by omega) (by omega) (by omega)
      have i2 := from_cost k start (markN steps room - 1) room (by omega) h1 h2 (by omega)
      rw [costD_append, costD_append, costD_append]
      have a : costD [Deed.go (markN steps room), Deed.keep] = markN steps room := rfl
      have b : costD [Deed.drop (start + markN steps room), Deed.take start] = 0 := rfl
      rw [a, b, m3, Int.natCast_add, Int.natCast_add, Int.natCast_add, i1, i2]
      omega
def wst0 (n : Nat) : WSt := { pl := 0, mks := [], wa := (n : Int), co := 0, mo := 0 }
/-- the plan meets all, at the least cost -/
theorem plan_run {s r : Nat} (hs : s ≤ 100) (h1 : 1 ≤ r) (h2 : r ≤ 12) : ∃ t, runW s r (planN s r) (wst0 s) = some t ∧ t.wa = -1 ∧ (t.co : Int) = costN s r ∧ t.pl = 0 := by
  unfold planN
  by_cases c : s = 0
  · rw [if_pos c]
    have o := oft_le (s := 0) (r := r) (by omega) h1 (by omega)
    have z : costN 0 r = 0 := by
      unfold costN
      rw [if_pos (by omega)]
    rw [c, z]
    exact ⟨{ pl := 0, mks := [], wa := -1, co := 0, mo := 0 }, rfl, rfl, rfl, rfl⟩
  · rw [if_neg c, runW_append]
    have a : runW s r [.keep] (wst0 s) = some { pl := 0, mks := [0], wa := (s : Int), co := 0, mo := 1 } := by
      show (stepW s r (wst0 s) .keep).bind (fun s => some s) = _
      have : stepW s r (wst0 s) .keep = some { pl := 0, mks := [0], wa := (s : Int), co := 0, mo := 1 } := if_pos ⟨by simp [wst0], by show 0 < r; omega⟩
      rw [this] <;> rfl
    obtain ⟨c', m, e⟩ := from_run (n := s) (R := r) 101 0 s r [0] 0 1 (by omega) h1 h2 hs (by omega) (by simp) (fun x hx => by rw [List.mem_singleton.mp hx]; exact Nat.le_refl _) (by show 1 + r ≤ r + 1; omega)
    rw [Nat.zero_add] at e
    refine ⟨_, by rw [a]; exact e, rfl, ?_, rfl⟩
    have q := runW_cost e
    have fc := from_cost 101 0 s r (by omega) h1 h2 hs
    show (c' : Int) = _
    have q' : c' = 0 + costD (fromN 101 0 s r) := q
    rw [q', Nat.zero_add]
    exact fc
end BM

/-! ## Deeds as they stand in memory -/
namespace BM
open PySem PySem.Spec PyProof.Rows L2
def Deed.word : Deed → Str
  | .keep => "keep"
  | .meet => "meet"
  | .take _ => "take"
  | .drop _ => "drop"
  | .go _ => "go"
def Deed.vs : Deed → List V
  | .keep => [.str "keep"]
  | .meet => [.str "meet"]
  | .take p => [.str "take", .int (p : Int)]
  | .drop p => [.str "drop", .int (p : Int)]
  | .go n => [.str "go", .int (n : Int)]
theorem Deed.at0 (d : Deed) : atI d.vs 0 = some (.str d.word) := by cases d <;> rfl
def DS (H : Hp) (ps : List (Addr × Deed)) : Prop := ∀ q ∈ ps, H q.1 = some (.tup q.2.vs)
def refs (ps : List (Addr × Deed)) : List V := ps.map fun q => V.ref q.1
theorem DS.same {H H' : Hp} {ps : List (Addr × Deed)} (e : Same H H') (h : DS H ps) : DS H' ps := fun q hq => e _ _ (h q hq)
theorem DS.append {H : Hp} {ps qs : List (Addr × Deed)} (h : DS H ps) (h' : DS H qs) : DS H (ps ++ qs) := fun q hq => (List.mem_append.mp hq).elim (h q) (h' q)
theorem refs_append (ps qs : List (Addr × Deed)) : refs (ps ++ qs) = refs ps ++ refs qs := List.map_append
theorem refs_len (ps : List (Addr × Deed)) : (refs ps).length = ps.length := List.length_map ..
/-- a new list of deeds is told -/
def RetD (H : Hp) (ds : List Deed) (Q : VK) : Prop := ∀ (p : Addr) (H' : Hp) (ps : List (Addr × Deed)), H p = none → Same H H' → ps.map (·.2) = ds → H' p = some (.lst (refs ps)) → DS H' ps → Q (.ref p) H'
theorem len_of {ps : List (Addr × Deed)} {ds : List Deed} (h : ps.map (·.2) = ds) : ps.length = ds.length := by rw [← h, List.length_map]
theorem aPre_len (start steps : Nat) : ∀ i, (aPre start steps i).length = 3 * i
  | 0 => rfl
  | i + 1 => by
    show (aPre start steps i ++ _).length = _
    rw [List.length_append, aPre_len start steps i]
    show 3 * i + 3 = _
    omega
theorem again_len (start steps : Nat) : (againN start steps).length = 3 * steps + 1 := by
  unfold againN
  rw [List.length_append, aPre_len] <;> rfl
theorem from_len : ∀ k a steps room, steps < k → 1 ≤ room → room ≤ 12 → steps ≤ 100 → (fromN k a steps room).length ≤ 5 * steps + 1
  | 0, _, steps, _, h, _, _, _ => by omega
  | k + 1, a, steps, room, hk, h1, h2, h3 => by
    show (if steps = 0 ∨ room = 1 then againN a steps else _).length ≤ _
    by_cases c : steps = 0 ∨ room = 1
    · rw [if_pos c, again_len]
      omega
    · rw [if_neg c]
      obtain ⟨m1, m2, _⟩ := mark_ok (s := steps) (r := room - 1) h3 (by omega) (by omega) (by omega)
      rw [show room - 1 + 1 = room by omega] at m1 m2
      have i1 := from_len k (a + markN steps room) (steps - markN steps room) (room - 1) (by omega) (by omega) (by omega) (by omega)
      have i2 := from_len k a (markN steps room - 1) room (by omega) h1 h2 (by omega)
      simp only [List.length_append, List.length_cons, List.length_nil]
      omega
theorem plan_len {s r : Nat} (hs : s ≤ 100) (h1 : 1 ≤ r) (h2 : r ≤ 12) : (planN s r).length ≤ 600 := by
  unfold planN
  by_cases c : s = 0
  · rw [if_pos c]
    show 1 ≤ 600
    omega
  · rw [if_neg c, List.length_append]
    have := from_len 101 0 s r (by omega) h1 h2 hs
    show 1 + _ ≤ 600
    omega
def goes : List Deed → List Int
  | [] => []
  | .go n :: ds => (n : Int) :: goes ds
  | _ :: ds => goes ds
theorem goes_snoc : ∀ (ds : List Deed) (d : Deed), goes (ds ++ [d]) = goes ds ++ (match d with | .go n => [(n : Int)] | _ => [])
  | [], d => by cases d <;> rfl
  | e :: ds, d => by
    have ih := goes_snoc ds d
    cases e with
    | go n =>
      show (n : Int) :: goes (ds ++ [d]) = (n : Int) :: goes ds ++ _
      rw [ih] <;> rfl
    | keep => exact ih
    | meet => exact ih
    | take _ => exact ih
    | drop _ => exact ih
theorem goes_sum : ∀ ds : List Deed, (goes ds).sum = (costD ds : Int)
  | [] => rfl
  | e :: ds => by
    have ih := goes_sum ds
    have c : costD (e :: ds) = costD1 e + costD ds := by
      unfold costD
      rw [List.map_cons, List.sum_cons]
    rw [c]
    cases e with
    | go n =>
      show ((n : Int) :: goes ds).sum = ((n + costD ds : Nat) : Int)
      rw [List.sum_cons, ih, Int.natCast_add]
    | keep => show (goes ds).sum = ((0 + costD ds : Nat) : Int); rw [Nat.zero_add]; exact ih
    | meet => show (goes ds).sum = ((0 + costD ds : Nat) : Int); rw [Nat.zero_add]; exact ih
    | take _ => show (goes ds).sum = ((0 + costD ds : Nat) : Int); rw [Nat.zero_add]; exact ih
    | drop _ => show (goes ds).sum = ((0 + costD ds : Nat) : Int); rw [Nat.zero_add]; exact ih
theorem goes_len : ∀ ds : List Deed, (goes ds).length ≤ ds.length
  | [] => Nat.le_refl _
  | e :: ds => by
    have ih := goes_len ds
    cases e with
    | go n => exact Nat.succ_le_succ ih
    | keep => exact Nat.le_succ_of_le ih
    | meet => exact Nat.le_succ_of_le ih
    | take _ => exact Nat.le_succ_of_le ih
    | drop _ => exact Nat.le_succ_of_le ih
theorem max_if (a b : Int) : (if b > a then b else a) = max a b := by
  by_cases h : b > a
  · rw [if_pos h]; omega
  · rw [if_neg h]; omega
end BM

/-! ## A dict that is keyed by (place, marks, wanted), marks a tuple of places -/
namespace BM
open PySem PySem.Spec PyProof.Rows L2
structure Node where
  pl : Nat
  ms : List Nat
  wa : Int
  deriving DecidableEq
def nums (ms : List Nat) : List NestedKey := ms.map fun m => .num ((m : Nat) : Int)
def Node.key (n : Node) : NestedKey := .tup [.num (n.pl : Int), .tup (nums n.ms), .num n.wa]
theorem nums_inj : ∀ {a b : List Nat}, nums a = nums b → a = b
  | [], [], _ => rfl
  | [], _ :: _, h => by cases h
  | _ :: _, [], h => by cases h
  | x :: a, y :: b, h => by
    have h : NestedKey.num ((x : Nat) : Int) :: nums a = .num ((y : Nat) : Int) :: nums b := h
    have h1 := (List.cons.inj h).1
    have h2 := nums_inj (List.cons.inj h).2
    have h3 : ((x : Nat) : Int) = ((y : Nat) : Int) := NestedKey.num.inj h1
    have h4 : x = y := by omega
    rw [h2, h4]
theorem Node.key_inj {m n : Node} (h : m.key = n.key) : m = n := by
  obtain ⟨p, ms, w⟩ := m
  obtain ⟨q, ns, v⟩ := n
  have h := NestedKey.tup.inj h
  have h1 : ((p : Nat) : Int) = ((q : Nat) : Int) := NestedKey.num.inj (List.cons.inj h).1
  have h2 := nums_inj (NestedKey.tup.inj (List.cons.inj (List.cons.inj h).2).1)
  have h3 := NestedKey.num.inj (List.cons.inj (List.cons.inj (List.cons.inj h).2).2).1
  have h4 : p = q := by omega
  have h2 : ms = ns := h2
  have h3 : w = v := h3
  rw [h2, h3, h4]
def NodeAt (H : Hp) (a : Addr) (n : Node) : Prop := ∃ b, H a = some (.tup [.int (n.pl : Int), .ref b, .int n.wa]) ∧ H b = some (.tup (n.ms.map fun (m : Nat) => V.int (m : Int)))
theorem NodeAt.same {H H' : Hp} {a : Addr} {n : Node} (e : Same H H') (h : NodeAt H a n) : NodeAt H' a n := by
  obtain ⟨b, h1, h2⟩ := h
  exact ⟨b, e _ _ h1, e _ _ h2⟩
abbrev ent (xs : List (Node × Addr)) : List (NestedKey × Addr × Value) := xs.map fun y => (y.1.key, y.2, Value.bool true)
theorem ent_snoc (xs : List (Node × Addr)) (n : Node) (a : Addr) : ent (xs ++ [(n, a)]) = ent xs ++ [(n.key, a, Value.bool true)] := by
  unfold ent
  rw [List.map_append] <;> rfl
/-- the dict as it stands -/
def SeenAt (P : Program) (w : World) (d : Addr) (xs : List (Node × Addr)) (h : Heap) : Prop := (d == sysModules) = false ∧ xs.length ≤ sizeLine ∧ ∃ o es ep, h.get? d = some o ∧ o.ExactDict ∧ o.data = .dict es ep ∧ es.toList = (ent xs).map (entryOfKey (nestedKind P w)) ∧ ((ent xs).map (·.1)).Nodup
def seenO (P : Program) (w : World) (d : Addr) (xs : List (Node × Addr)) : HO := .ext (SeenAt P w d xs)
theorem SeenAt.ok {P : Program} {w : World} {H : Hp} {d : Addr} {xs : List (Node × Addr)} {h : Heap} (x : SeenAt P w d xs h) : ObjOk P w H h d (seenO P w d xs) := by
  refine ⟨x, ?_, fun h1 h2 q k => ?_⟩
  · obtain ⟨_, _, o, _, _, ho, _⟩ := x
    exact ⟨o, ho⟩
  · obtain ⟨e1, e2, o, es, ep, ho, r⟩ := q
    exact ⟨e1, e2, o, es, ep, k o ho, r⟩
theorem at_ent (n : Node) : ∀ xs : List (Node × Addr), (atKey (ent xs) n.key).isSome = xs.any fun z => decide (z.1 = n)
  | [] => rfl
  | z :: xs => by
    have ih := at_ent n xs
    unfold atKey at ih ⊢
    show (((((z.1.key, z.2, Value.bool true) : NestedKey × Addr × Value) :: ent xs).find? fun x => decide (x.1 = n.key)).map (·.2)).isSome = _
    rw [List.find?_cons, List.any_cons]
    by_cases e : z.1 = n
    · rw [decide_eq_true (show z.1.key = n.key by rw [e]), decide_eq_true e] <;> rfl
    · rw [decide_eq_false (fun q : z.1.key = n.key => e (Node.key_inj q)), decide_eq_false e, Bool.false_or]
      exact ih
theorem nested_all {h : Heap} : ∀ {ms : List Nat} {us : List Value}, Vals (ms.map fun (m : Nat) => V.int (m : Int)) us → NestedAll h (nums ms) us
  | [], _, r => by
    cases r
    exact .nil
  | m :: ms, _, r => by
    cases r with
    | cons ru rs =>
      obtain ⟨t, rfl⟩ := ru
      exact .cons (.int _ _) (nested_all rs)
theorem nums_depth : ∀ ms : List Nat, NestedKey.depthAll (nums ms) = 0
  | [] => rfl
  | m :: ms => by
    show max (NestedKey.depth (.num _)) (NestedKey.depthAll (nums ms)) = 0
    rw [nums_depth ms] <;> rfl
theorem node_is {P : Program} {w : World} {H : Hp} {h : Heap} {a : Addr} {n : Node} (ok : HOk P w H h) (x : NodeAt H a n) : (nestedKind P w).is h n.key a := by
  obtain ⟨b, h1, h2⟩ := x
  obtain ⟨_, its, r, o, o1, o2, k, o3⟩ := (show ObjOk P w H h a (.tup _) from ok a _ h1)
  obtain ⟨_, its2, r2, p, p1, p2, k2, p3⟩ := (show ObjOk P w H h b (.tup _) from ok b _ h2)
  refine ⟨?_, ?_⟩
  · cases r with
    | cons q1 q =>
      cases q with
      | cons q2 q =>
        cases q with
        | cons q3 q =>
          cases q
          obtain ⟨t1, rfl⟩ := q1
          cases q2
          obtain ⟨t3, rfl⟩ := q3
          refine .tup o1 o2 o3 ?_
          refine .cons (.int _ _) (.cons (.tup p1 p2 p3 ?_) (.cons (.int _ _) .nil))
          simpa using nested_all r2
  · show NestedKey.depth (.tup [.num _, .tup (nums n.ms), .num _]) ≤ 8
    have e := nums_depth n.ms
    simp [NestedKey.depth, NestedKey.depthAll, e]
theorem seen_of {P : Program} {w : World} {H : Hp} {h : Heap} {d : Addr} {xs : List (Node × Addr)} (ok : HOk P w H h) (hd : H d = some (seenO P w d xs)) (hx : ∀ z ∈ xs, NodeAt H z.2 z.1) : (d == sysModules) = false ∧ xs.length ≤ sizeLine ∧ h.DictOfH (nestedKind P w) d (ent xs) := by
  obtain ⟨⟨e1, e2, o, es, ep, h1, h2, h3, h4, h5⟩, _⟩ := (show ObjOk P w H h d (seenO P w d xs) from ok d _ hd)
  refine ⟨e1, e2, o, es, ep, h1, h2, h3, h4, fun y hy => ?_, h5⟩
  obtain ⟨z, hz, rfl⟩ := List.mem_map.mp hy
  exact node_is ok (hx z hz)
section
variable {X : Cx} {i o e1 : Expr} {ty td tv : TE}
theorem pe_dnewS {pos : Pos} : PE X (.Dict [] [] pos) (fun _ H Q => ∀ p, H p = none → Q (.ref p) (upd H p (seenO X.prog X.w p []))) := ⟨fun pins s σ H Q I h => by
  have hb := I.big
  refine wpAny_Dict_empty ⟨.ref s.heap.objs.size, _, I.laid (a := s.heap.objs.size) (o := seenO X.prog X.w s.heap.objs.size []) (t' := s.toks) (fun _ _ q => Heap.get?_push_of_some _ q) (Nat.le_refl _) (SeenAt.ok ?_), rfl, h _ (I.hok.fresh (Nat.le_refl _))⟩
  obtain ⟨o, es, ep, h1, h2, h3, h4, _, h5⟩ := Heap.DictOfH.new (knd := nestedKind X.prog X.w) s.heap
  exact ⟨beq_eq_false_iff_ne.mpr (Ne.symm (Nat.ne_of_lt hb)), Nat.zero_le _, o, es, ep, h1, h2, h3, h4, h5⟩⟩
def tSeenNot (P : Program) (w : World) (ty td : TE) : TE := fun σ H Q => ty σ H fun y H1 => td σ H1 fun x H2 => ∃ (d a : Addr) (n : Node) (xs : List (Node × Addr)), x = .ref d ∧ y = .ref a ∧ H2 d = some (seenO P w d xs) ∧ NodeAt H2 a n ∧ (∀ z ∈ xs, NodeAt H2 z.2 z.1) ∧ Q (.bl (!(xs.any fun z => decide (z.1 = n)))) H2
theorem pc_seenNot (hu : X.A.units + 64 < cLine) (hi : PE X i ty) (ho : PE X o td) : PC X .NotIn i o (tSeenNot X.prog X.w ty td) := by
  refine ⟨fun pins s σ H Q I h => ?_⟩
  refine thn (hi.run pins s σ H _ I h) fun iv s1 ⟨y, H1, I1, ry, q1⟩ => thn (ho.run pins s1 σ H1 _ I1 q1) fun u s2 ⟨x, H2, I2, rx, d, a, n, xs, ex, ey, hd, hn, hx, q2⟩ => ?_
  cases ex
  cases ey
  cases rx
  cases ry
  obtain ⟨e1, e2, dd⟩ := seen_of I2.hok hd hx
  refine wpAny_notIn_heap (knd := nestedKind X.prog X.w) (show X.A.in1.units + 8 < cLine from by show X.A.units + 1 + 8 < cLine; omega) (node_is I2.hok hn) e1 dd ?_
  rw [at_ent]
  exact ⟨.bl (!(xs.any fun z => decide (z.1 = n))), H2, I2.tok _, rfl, q2⟩
def sSeenPut (P : Program) (w : World) (td ty tv : TE) : TS := fun D σ H => tv σ H fun v H1 => td σ H1 fun x H2 => ty σ H2 fun y H3 => ∃ (d a : Addr) (n : Node) (xs : List (Node × Addr)), v = .bl true ∧ x = .ref d ∧ y = .ref a ∧ H3 d = some (seenO P w d xs) ∧ NodeAt H3 a n ∧ (∀ z ∈ xs, NodeAt H3 z.2 z.1) ∧
  (xs.any fun z => decide (z.1 = n)) = false ∧ xs.length < 100000 ∧ D.nx σ (upd H3 d (seenO P w d (xs ++ [(n, a)])))
theorem ps_seenPut {pos pos' : Pos} (hu : X.A.units + 64 < cLine) (ho : PE X o td) (hi : PE X i ty) (hv : PE X e1 tv) (hs : swapsWith e1 (some (.Subscript o i pos')) pos.line X.env = pure false) : PS X (.Assign [.Subscript o i pos'] e1 pos) (sSeenPut X.prog X.w td ty tv) := by
  refine ⟨fun pins s σ H D I h => ?_⟩
  refine wpAny_Assign_Subscript (thn (hv.run pins s σ H _ I h) fun r s1 ⟨v, H1, I1, rv, q1⟩ => thn (ho.run pins s1 σ H1 _ I1 q1) fun u s2 ⟨x, H2, I2, rx, q2⟩ => thn (hi.run pins s2 σ H2 _ I2 q2) fun iv s3 ⟨y, H3, I3, ry, d, a, n, xs, ev, ex, ey, hd, hn, hx, hno, hl, q3⟩ => ?_) hs
  cases ev
  cases ex
  cases ey
  cases rx
  cases ry
  cases (show r = Value.bool true from rv)
  obtain ⟨m1, m2, dd⟩ := seen_of I3.hok hd hx
  have none_ : atKey (ent xs) n.key = none := by
    have e := at_ent n xs
    rw [hno] at e
    cases q : atKey (ent xs) n.key with
    | none => rfl
    | some z => rw [q] at e; cases e
  refine wpAny_setItem_heap (knd := nestedKind X.prog X.w) (hsz := by rw [List.length_map]; exact m2) (show X.A.in1.units + 8 < cLine from by show X.A.units + 1 + 8 < cLine; omega) (node_is I3.hok hn) dd fun h' dd' hsb => ?_
  rw [storedH_new none_] at dd'
  obtain ⟨ob, es, ep, g1, g2, g3, g4, _, g5⟩ := dd'
  refine ⟨σ, _, I3.write (x := d) (e := d) (o := seenO X.prog X.w d (xs ++ [(n, a)])) (by rw [hd]; exact True.intro) (.inl rfl) (fun b q hb z => (hsb.2 b hb).trans z) ⟨ob, g1⟩ (SeenAt.ok ⟨m1, ?_, ob, es, ep, g1, g2, g3, ?_, ?_⟩), q3⟩
  · rw [List.length_append]
    exact sz5 (by show xs.length + 1 ≤ 100000; omega)
  · rw [g4, ent_snoc]
  · rw [ent_snoc]
    exact g5
end
end BM

/-! ## sorted(t) of a tuple of ints -/
namespace BM
open PySem PySem.Spec PyProof.Rows L2
/-- sorted(t): a new list of the same numbers, rising -/
def rSortedT (K : PySem.W.Frag) : List V → Hp → VK → Prop := fun vs H Q => ∃ (t : Addr) (ns : List Int), vs = [.ref t] ∧ SqT K H t (ns.map V.int) ∧ ns.length < 64 ∧
  ∀ (out : List Int) (l : Addr), out.Perm ns → out.Pairwise (· ≤ ·) → H l = none → Q (.ref l) (upd H l (.lst (out.map V.int)))
theorem cr_sortedTup {X : Cx} : CallR X (.builtin "sorted") (rSortedT X.K) := by
  intro pins s σ H vs us Q I r ⟨t, ns, evs, ht, few, q⟩
  subst evs
  obtain ⟨its, rel, ⟨ob, at_, cl, ep, dat⟩, _⟩ := I.tuple ht
  rw [Vals.ref1 r]
  have nums := rel.ints
  have len : its.length < 64 := by rw [nums.length]; exact few
  have fits : its.length ≤ sizeLine := small64 len
  refine Calls.call_function_entry kind_sorted plain_sorted entry_sorted (args_sorted1 _) (wpAny_bind (m := checkCount "sorted" 1 1 _) (wpAny_pure ?_))
  -- its items, then a list of them
  refine wpAny_bind (wpAny_collect_seq t (.inr rfl) at_ cl dat (fun g keep => ?_) (by rw [List.size_toArray]; exact fits))
  refine wpAny_bind (wpAny_newList ?_ fits)
  have new_ : (g.push (seqObj "list" its.toArray 0)).get? g.objs.size = some (seqObj "list" its.toArray 0) := Heap.get?_push_size _ rfl
  have J : Inv X pins σ H { s with heap := g } := I.kept (t' := s.toks) keep
  -- the sort in place
  refine wpAny_bind (wpAny_holding (wpAny_call_entry slot_list_sort ⟨_, new_, rfl⟩ entry_list_sort (list_sort_tree (s := { s with heap := g.push (seqObj "list" its.toArray 0) }) new_ nums len fun out ys o1 o2 o3 => ⟨_, rfl, ?_⟩) (args_list_sort _)))
  obtain ⟨ep', fin⟩ := sortedHeap_at (vs := its) (out := out) new_
  have sz : (ys.map V.int).length ≤ sizeLine := by
    rw [List.length_map, o2.length_eq]
    exact small64 few
  refine wpAny_pure ⟨_, rfl, .ref g.objs.size, upd H g.objs.size (.lst (ys.map V.int)), J.laid (t' := s.toks) (fun b u e => ?_) (Nat.le_refl _) ⟨sz, out.toList, ep', vals_of_ints o1, fin⟩, rfl, q ys _ o2 o3 (J.hok.fresh (Nat.le_refl _))⟩
  exact (sortedHeap_old (Nat.ne_of_lt (Heap.lt_size e)) (Heap.lt_size (Heap.get?_push_of_some _ e))).trans (Heap.get?_push_of_some _ e)
end BM

/-! ## The search over all deeds, in plain Lean -/
namespace BM
open PySem PySem.Spec PyProof.Rows L2
def ins9 (x : Nat) : List Nat → List Nat
  | [] => [x]
  | y :: l => if Nat.ble x y then x :: y :: l else y :: ins9 x l
def sortN : List Nat → List Nat
  | [] => []
  | x :: l => ins9 x (sortN l)
theorem ins9_perm (x : Nat) : ∀ l : List Nat, (ins9 x l).Perm (x :: l)
  | [] => .refl _
  | y :: l => by
    unfold ins9
    by_cases c : Nat.ble x y = true
    · rw [if_pos c]
    · rw [if_neg c]
      exact ((ins9_perm x l).cons y).trans (.swap x y l)
theorem sortN_perm : ∀ l : List Nat, (sortN l).Perm l
  | [] => .refl _
  | x :: l => (ins9_perm x _).trans ((sortN_perm l).cons x)
theorem ins9_sorted (x : Nat) : ∀ {l : List Nat}, l.Pairwise (· ≤ ·) → (ins9 x l).Pairwise (· ≤ ·)
  | [], _ => List.pairwise_singleton _ _
  | y :: l, h => by
    unfold ins9
    rw [List.pairwise_cons] at h
    by_cases c : Nat.ble x y = true
    · rw [if_pos c]
      have c' : x ≤ y := Nat.le_of_ble_eq_true c
      refine List.pairwise_cons.mpr ⟨fun z hz => ?_, List.pairwise_cons.mpr h⟩
      rcases List.mem_cons.mp hz with e | hz
      · rw [e]; exact c'
      · exact Nat.le_trans c' (h.1 z hz)
    · rw [if_neg c]
      have c' : y ≤ x := by
        have : ¬ x ≤ y := fun z => c (Nat.ble_eq_true_of_le z)
        omega
      refine List.pairwise_cons.mpr ⟨fun z hz => ?_, ins9_sorted x h.2⟩
      rcases List.mem_cons.mp ((ins9_perm x l).mem_iff.mp hz) with e | hz
      · rw [e]; exact c'
      · exact h.1 z hz
theorem sortN_sorted : ∀ l : List Nat, (sortN l).Pairwise (· ≤ ·)
  | [] => .nil
  | x :: l => ins9_sorted x (sortN_sorted l)
theorem sortN_is {ms : List Nat} {ns : List Int} (hp : ns.Perm (ms.map fun (m : Nat) => (m : Int))) (hs : ns.Pairwise (· ≤ ·)) : ns = (sortN ms).map fun (m : Nat) => (m : Int) := by
  refine List.Perm.eq_of_pairwise (le := fun a b : Int => a ≤ b) (fun a b _ _ h1 h2 => Int.le_antisymm h1 h2) hs ?_ (hp.trans ((sortN_perm ms).symm.map _))
  refine List.pairwise_map.mpr ((sortN_sorted ms).imp fun {a b} h => ?_)
  omega
def Node.met (n : Node) : List Node := if (n.pl : Int) = n.wa then [⟨n.pl, n.ms, n.wa - 1⟩] else []
def Node.kept (n : Node) (room : Nat) : List Node := if n.pl ∉ n.ms ∧ n.ms.length < room then [⟨n.pl, sortN (n.ms ++ [n.pl]), n.wa⟩] else []
def Node.by (n : Node) (m : Nat) : List Node := [⟨m, n.ms, n.wa⟩, ⟨n.pl, n.ms.filter (fun x => decide (x ≠ m)), n.wa⟩]
def onward (n : Node) (room : Nat) : List Node := n.met ++ n.kept room ++ n.ms.flatMap n.by
def Node.far (n : Node) (steps : Nat) : List Node := if n.pl < steps then [⟨n.pl + 1, n.ms, n.wa⟩] else []
theorem Node.met_len (n : Node) : n.met.length ≤ 1 := by
  unfold Node.met
  split <;> simp
theorem Node.kept_len (n : Node) (r : Nat) : (n.kept r).length ≤ 1 := by
  unfold Node.kept
  split <;> simp
theorem by_len (n : Node) : ∀ ms : List Nat, (ms.flatMap n.by).length = 2 * ms.length
  | [] => rfl
  | m :: ms => by
    rw [List.flatMap_cons, List.length_append, by_len n ms, List.length_cons]
    show 2 + _ = _
    omega
theorem onward_len (n : Node) (r : Nat) : (onward n r).length ≤ 2 + 2 * n.ms.length := by
  unfold onward
  rw [List.length_append, List.length_append, by_len]
  have := n.met_len
  have := n.kept_len r
  omega
/-- the stack's top is its head -/
def fewest (steps room : Nat) : Nat → List Node → List Node → List Node → Nat → Option Nat
  | 0, _, _, _, _ => none
  | _ + 1, [], [], _, _ => none
  | f + 1, [], l :: later, seen, price => fewest steps room f (l :: later).reverse [] seen (price + 1)
  | f + 1, n :: st, later, seen, price =>
    if n.wa < 0 then some price
    else if (seen.any fun z => decide (z = n)) = true then fewest steps room f st later seen price
    else fewest steps room f ((onward n room).reverse ++ st) (later ++ n.far steps) (seen ++ [n]) price
def started (steps : Nat) : List Node := [⟨0, [], (steps : Int)⟩]
def fewN (steps room : Nat) : Option Nat := fewest steps room 1100 (started steps) [] [] 0
end BM

/-! ## Lists of nodes as they stand in memory -/
namespace BM
open PySem PySem.Spec PyProof.Rows L2
def iv9 (ms : List Nat) : List V := ms.map fun (m : Nat) => V.int (m : Int)
theorem iv9_int (ms : List Nat) : iv9 ms = (ms.map fun (m : Nat) => (m : Int)).map V.int := by
  unfold iv9
  rw [List.map_map] <;> rfl
def nrefs (ps : List (Node × Addr)) : List V := ps.map fun z => V.ref z.2
def NS (H : Hp) (ps : List (Node × Addr)) : Prop := ∀ z ∈ ps, NodeAt H z.2 z.1
theorem NS.same {H H' : Hp} {ps : List (Node × Addr)} (e : Same H H') (h : NS H ps) : NS H' ps := fun z hz => (h z hz).same e
theorem NS.append {H : Hp} {ps qs : List (Node × Addr)} (h : NS H ps) (h' : NS H qs) : NS H (ps ++ qs) := fun z hz => (List.mem_append.mp hz).elim (h z) (h' z)
theorem nrefs_append (ps qs : List (Node × Addr)) : nrefs (ps ++ qs) = nrefs ps ++ nrefs qs := List.map_append
theorem nrefs_len (ps : List (Node × Addr)) : (nrefs ps).length = ps.length := List.length_map ..
theorem nlen {ps : List (Node × Addr)} {ns : List Node} (h : ps.map (·.1) = ns) : ps.length = ns.length := by rw [← h, List.length_map]
theorem NodeAt.mut {H : Hp} {q c : Addr} {o : HO} {n : Node} (hq : ∀ ts, H q ≠ some (.tup ts)) (h : NodeAt H c n) : NodeAt (upd H q o) c n := by
  obtain ⟨b, h1, h2⟩ := h
  have e1 : c ≠ q := fun e => hq _ (by rw [← e]; exact h1)
  have e2 : b ≠ q := fun e => hq _ (by rw [← e]; exact h2)
  exact ⟨b, by rw [upd_ne e1]; exact h1, by rw [upd_ne e2]; exact h2⟩
theorem NS.mut {H : Hp} {q : Addr} {o : HO} {ps : List (Node × Addr)} (hq : ∀ ts, H q ≠ some (.tup ts)) (h : NS H ps) : NS (upd H q o) ps := fun z hz => (h z hz).mut hq
theorem not_tup {H : Hp} {q : Addr} {xs : List V} (h : H q = some (.lst xs)) : ∀ ts, H q ≠ some (.tup ts) := fun ts e => by rw [h] at e; cases e
theorem not_tupS {P : Program} {w : World} {H : Hp} {q d : Addr} {xs : List (Node × Addr)} (h : H q = some (seenO P w d xs)) : ∀ ts, H q ≠ some (.tup ts) := fun ts e => by rw [h] at e; cases e
theorem NodeAt.new {H : Hp} {t b : Addr} {pl : Nat} {ms : List Nat} {wa : Int} (hb : H b = some (.tup (iv9 ms))) (ht : H t = none) : NodeAt (upd H t (.tup [.int (pl : Int), .ref b, .int wa])) t ⟨pl, ms, wa⟩ :=
  ⟨b, upd_same, (Same.new ht) _ _ hb⟩
/-- one more node in a new list -/
theorem grow {H H1 H2 : Hp} {q t : Addr} {ps : List (Node × Addr)} {m : Node} (hq0 : H q = none) (s1 : Same H H1) (hQ : H1 q = some (.lst (nrefs ps))) (hN : NS H1 ps) (s2 : Same H1 H2) (hm : NodeAt H2 t m) :
    Same H (upd H2 q (.lst (nrefs ps ++ [.ref t]))) ∧ upd H2 q (.lst (nrefs ps ++ [.ref t])) q = some (.lst (nrefs (ps ++ [(m, t)]))) ∧ NS (upd H2 q (.lst (nrefs ps ++ [.ref t]))) (ps ++ [(m, t)]) := by
  refine ⟨Same.mut (s1.trans s2) hq0, by rw [upd_same, nrefs_append] <;> rfl, ?_⟩
  refine NS.append ((hN.same s2).mut (not_tup (s2 _ _ hQ))) fun z hz => ?_
  rw [List.mem_singleton.mp hz]
  exact hm.mut (not_tup (s2 _ _ hQ))
theorem in_iv9 (x : Nat) : ∀ ms : List Nat, inV (.int (x : Int)) (iv9 ms) = decide (x ∈ ms)
  | [] => rfl
  | m :: ms => by
    have ih := in_iv9 x ms
    show (((m : Int) == (x : Int)) || inV (.int (x : Int)) (iv9 ms)) = _
    rw [ih, Bool.eq_iff_iff]
    simp only [Bool.or_eq_true, beq_iff_eq, decide_eq_true_eq, List.mem_cons]
    refine ⟨fun h => h.imp (fun e => ?_) id, fun h => h.imp (fun e => ?_) id⟩ <;> omega
theorem flat_iv9 (ms : List Nat) : (iv9 ms).all flatV = true := List.all_eq_true.mpr fun v hv => by
  obtain ⟨c, _, rfl⟩ := List.mem_map.mp hv
  rfl
/-- nodes as data -/
def Node.dat (n : Node) : PyData := .tuple [.int (n.pl : Int), .tuple (n.ms.map fun (m : Nat) => PyData.int (m : Int)), .int n.wa]
theorem Node.sh (n : Node) : Sh 2 n.dat := .tup fun d hd => by
  simp only [List.mem_cons, List.not_mem_nil, or_false] at hd
  rcases hd with rfl | rfl | rfl
  · exact .int _
  · refine .tup fun d hd => ?_
    obtain ⟨m, _, rfl⟩ := List.mem_map.mp hd
    exact .int _
  · exact .int _
theorem NodeAt.dp {K : PySem.W.Frag} {H : Hp} {a : Addr} {n : Node} (h : NodeAt H a n) : Dp K H (.ref a) n.dat := by
  obtain ⟨b, h1, h2⟩ := h
  refine .tup (SqT.of h1) (.cons (.int _) (.cons (.tup (SqT.of h2) ?_) (.cons (.int _) .nil)))
  refine dp_all (by rw [List.length_map, List.length_map]) fun i v d hv hd => ?_
  obtain ⟨x, hx, rfl⟩ := get_map hv
  obtain ⟨y, hy, rfl⟩ := get_map hd
  rw [hx] at hy
  cases hy
  exact .int _
theorem NS.dp {K : PySem.W.Frag} {H : Hp} {a : Addr} {ps : List (Node × Addr)} (h : NS H ps) (ha : H a = some (.lst (nrefs ps))) : Dp K H (.ref a) (.list (ps.map fun z => z.1.dat)) := by
  refine .lst (SqL.of ha) (dp_all (by rw [nrefs_len, List.length_map]) fun i v d hv hd => ?_)
  obtain ⟨x, hx, rfl⟩ := get_map hv
  obtain ⟨y, hy, rfl⟩ := get_map hd
  rw [hx] at hy
  cases hy
  exact (h x (List.mem_of_getElem? hx)).dp
theorem dat_shaped (ps : List (Node × Addr)) : SeqAt.shaped (.list (ps.map fun z => z.1.dat)) = true :=
  (Sh.lst (n := 2) fun d hd => by
    obtain ⟨z, _, rfl⟩ := List.mem_map.mp hd
    exact z.1.sh).shaped (by decide)
theorem dat_nil (ps : List (Node × Addr)) : (!PyData.eqv (.list (ps.map fun z => z.1.dat)) (.list [])) = !ps.isEmpty := by
  cases ps <;> rfl
/-- what the search holds in memory -/
def Wd (P : Program) (w : World) (aw al d : Addr) (ws ls xs : List (Node × Addr)) (H : Hp) : Prop :=
  aw ≠ al ∧ H aw = some (.lst (nrefs ws)) ∧ H al = some (.lst (nrefs ls)) ∧ H d = some (seenO P w d xs) ∧ NS H ws ∧ NS H ls ∧ NS H xs
section
variable {P : Program} {w : World} {aw al d : Addr} {ws ls xs : List (Node × Addr)} {H H' : Hp}
theorem Wd.same (e : Same H H') (h : Wd P w aw al d ws ls xs H) : Wd P w aw al d ws ls xs H' := by
  obtain ⟨h0, h1, h2, h3, h4, h5, h6⟩ := h
  exact ⟨h0, e _ _ h1, e _ _ h2, e _ _ h3, h4.same e, h5.same e, h6.same e⟩
theorem ne_LS {q : Addr} {zs : List V} (h1 : H q = some (.lst zs)) (h3 : H d = some (seenO P w d xs)) : d ≠ q := fun e => by
  rw [e, h1] at h3
  cases h3
theorem Wd.setW {ws2 : List (Node × Addr)} (h : Wd P w aw al d ws ls xs H) (n : NS H ws2) : Wd P w aw al d ws2 ls xs (upd H aw (.lst (nrefs ws2))) := by
  obtain ⟨h0, h1, h2, h3, h4, h5, h6⟩ := h
  have q := not_tup h1
  exact ⟨h0, upd_same, by rw [upd_ne h0.symm]; exact h2, by rw [upd_ne (ne_LS h1 h3)]; exact h3, n.mut q, h5.mut q, h6.mut q⟩
theorem Wd.setL {ls2 : List (Node × Addr)} (h : Wd P w aw al d ws ls xs H) (n : NS H ls2) : Wd P w aw al d ws ls2 xs (upd H al (.lst (nrefs ls2))) := by
  obtain ⟨h0, h1, h2, h3, h4, h5, h6⟩ := h
  have q := not_tup h2
  exact ⟨h0, by rw [upd_ne h0]; exact h1, upd_same, by rw [upd_ne (ne_LS h2 h3)]; exact h3, h4.mut q, n.mut q, h6.mut q⟩
theorem Wd.setX {xs2 : List (Node × Addr)} (h : Wd P w aw al d ws ls xs H) (n : NS H xs2) : Wd P w aw al d ws ls xs2 (upd H d (seenO P w d xs2)) := by
  obtain ⟨h0, h1, h2, h3, h4, h5, h6⟩ := h
  have q := not_tupS h3
  exact ⟨h0, by rw [upd_ne (ne_LS h1 h3).symm]; exact h1, by rw [upd_ne (ne_LS h2 h3).symm]; exact h2, upd_same, h4.mut q, h5.mut q, n.mut q⟩
end
/-- the last of a list of nodes -/
theorem last_of {ws : List (Node × Addr)} {n : Node} {st : List Node} (h : ws.map (·.1) = (n :: st).reverse) : ∃ (ws' : List (Node × Addr)) (a : Addr), ws = ws' ++ [(n, a)] ∧ ws'.map (·.1) = st.reverse := by
  rw [List.reverse_cons] at h
  obtain ⟨l1, l2, rfl, h1, h2⟩ := List.map_eq_append_iff.mp h
  obtain ⟨x, tl, rfl, h3, h4⟩ := List.map_eq_cons_iff.mp h2
  have := List.map_eq_nil_iff.mp h4
  subst this
  exact ⟨l1, x.2, by rw [← h3], h1⟩
theorem last_get (ws : List (Node × Addr)) (n : Node) (a : Addr) : (nrefs (ws ++ [(n, a)]))[(nrefs (ws ++ [(n, a)])).length - 1]? = some (.ref a) := by
  rw [nrefs_append, List.length_append]
  show (nrefs ws ++ [V.ref a])[(nrefs ws).length + 1 - 1]? = _
  simp
theorem last_drop (ws : List (Node × Addr)) (n : Node) (a : Addr) : (nrefs (ws ++ [(n, a)])).dropLast = nrefs ws := by
  rw [nrefs_append]
  exact List.dropLast_concat
theorem NodeAt.sq {H : Hp} {a : Addr} {n : Node} (h : NodeAt H a n) : ∃ b, H a = some (.tup [.int (n.pl : Int), .ref b, .int n.wa]) ∧ H b = some (.tup (iv9 n.ms)) := h
/-- how large it all is -/
def Bd (f : Nat) (st later : List Node) (k : Nat) : Prop := st.length + 8 * f ≤ 10000 ∧ later.length + 8 * f ≤ 10000 ∧ k + f ≤ 2000 ∧ (∀ n ∈ st, n.ms.length ≤ 3) ∧ ∀ n ∈ later, n.ms.length ≤ 3
theorem onward_good {n : Node} {r : Nat} (h : n.ms.length ≤ 3) (hr : r ≤ 3) : ∀ m ∈ onward n r, m.ms.length ≤ 3 := by
  intro m hm
  unfold onward at hm
  rcases List.mem_append.mp hm with hm | hm
  · rcases List.mem_append.mp hm with hm | hm
    · unfold Node.met at hm
      split at hm
      · rw [List.mem_singleton.mp hm]
        exact h
      · cases hm
    · unfold Node.kept at hm
      split at hm
      · rename_i c
        rw [List.mem_singleton.mp hm]
        show (sortN _).length ≤ 3
        rw [(sortN_perm _).length_eq, List.length_append]
        have := c.2
        show n.ms.length + 1 ≤ 3
        omega
      · cases hm
  · obtain ⟨x, _, hx⟩ := List.mem_flatMap.mp hm
    unfold Node.by at hx
    simp only [List.mem_cons, List.not_mem_nil, or_false] at hx
    rcases hx with rfl | rfl
    · exact h
    · exact Nat.le_trans (List.length_filter_le _ _) h
theorem Bd.push {f k : Nat} {n : Node} {st later : List Node} {s r : Nat} (hr : r ≤ 3) (b : Bd (f + 1) (n :: st) later k) : Bd f ((onward n r).reverse ++ st) (later ++ n.far s) (k + 1) := by
  obtain ⟨b1, b2, b3, b4, b5⟩ := b
  have hn := b4 n List.mem_cons_self
  have ol := onward_len n r
  have fl : (n.far s).length ≤ 1 := by
    unfold Node.far
    split <;> simp
  rw [List.length_cons] at b1
  refine ⟨by rw [List.length_append, List.length_reverse]; omega, by rw [List.length_append]; omega, by omega, fun m hm => ?_, fun m hm => ?_⟩
  · rcases List.mem_append.mp hm with hm | hm
    · exact onward_good hn hr m (List.mem_reverse.mp hm)
    · exact b4 m (List.mem_cons_of_mem _ hm)
  · rcases List.mem_append.mp hm with hm | hm
    · exact b5 m hm
    · unfold Node.far at hm
      split at hm
      · rw [List.mem_singleton.mp hm]
        exact hn
      · cases hm
theorem Bd.skip {f k : Nat} {n : Node} {st later : List Node} (b : Bd (f + 1) (n :: st) later k) : Bd f st later k := by
  obtain ⟨b1, b2, b3, b4, b5⟩ := b
  rw [List.length_cons] at b1
  exact ⟨by omega, by omega, by omega, fun m hm => b4 m (List.mem_cons_of_mem _ hm), b5⟩
theorem Bd.down {f k : Nat} {later : List Node} (b : Bd (f + 1) [] later k) : Bd f later.reverse [] k := by
  obtain ⟨b1, b2, b3, b4, b5⟩ := b
  exact ⟨by rw [List.length_reverse]; omega, by show 0 + 8 * f ≤ 10000; omega, by omega, fun m hm => b5 m (List.mem_reverse.mp hm), fun m hm => nomatch hm⟩
theorem few_nil {s r f p m : Nat} {later seen : List Node} (h : fewest s r f [] later seen p = some m) : ∃ f', f = f' + 1 ∧ fewest s r f' later.reverse [] seen (p + 1) = some m := by
  cases f with
  | zero => cases h
  | succ f =>
    cases later with
    | nil => cases h
    | cons l later => exact ⟨f, rfl, h⟩
theorem few_none {s r f p m : Nat} {seen : List Node} (h : fewest s r f [] [] seen p = some m) : False := by
  cases f with
  | zero => cases h
  | succ f => cases h
theorem few_cons {s r f p m : Nat} {n : Node} {st later seen : List Node} (h : fewest s r f (n :: st) later seen p = some m) : ∃ f', f = f' + 1 ∧
    ((n.wa < 0 → p = m) ∧ (¬ n.wa < 0 → (seen.any fun z => decide (z = n)) = true → fewest s r f' st later seen p = some m) ∧
     (¬ n.wa < 0 → (seen.any fun z => decide (z = n)) = false → fewest s r f' ((onward n r).reverse ++ st) (later ++ n.far s) (seen ++ [n]) p = some m)) := by
  cases f with
  | zero => cases h
  | succ f =>
    have h : (if n.wa < 0 then some p else if (seen.any fun z => decide (z = n)) = true then fewest s r f st later seen p else fewest s r f ((onward n r).reverse ++ st) (later ++ n.far s) (seen ++ [n]) p) = some m := h
    refine ⟨f, rfl, fun c => ?_, fun c d => ?_, fun c d => ?_⟩
    · rw [if_pos c] at h
      exact Option.some.inj h
    · rw [if_neg c, if_pos d] at h
      exact h
    · rw [if_neg c, if_neg (by rw [d]; decide)] at h
      exact h
def ok9 (s r : Nat) : Bool := match fewN s r with
  | some m => decide (costN s r = (m : Int)) && decide (costD (planN s r) = m)
  | none => false
theorem ok9_all : ([(0, 1), (0, 2), (0, 3), (1, 1), (1, 2), (1, 3), (2, 1), (2, 2), (2, 3), (3, 1), (3, 2), (3, 3), (4, 1), (4, 2)].all fun p => ok9 p.1 p.2) = true := by decide +kernel
def In9 (s r : Nat) : Prop := 1 ≤ r ∧ ((s ≤ 3 ∧ r ≤ 3) ∨ (s = 4 ∧ r ≤ 2))
theorem few_all {s r : Nat} (h : In9 s r) : ∃ m : Nat, fewN s r = some m ∧ costN s r = (m : Int) ∧ costD (planN s r) = m := by
  obtain ⟨h1, h2⟩ := h
  have e : ok9 s r = true := by
    refine List.all_eq_true.mp ok9_all (s, r) ?_
    have q : (s = 0 ∨ s = 1 ∨ s = 2 ∨ s = 3 ∨ s = 4) ∧ (r = 1 ∨ r = 2 ∨ r = 3) ∧ ¬ (s = 4 ∧ r = 3) := by omega
    obtain ⟨q1, q2, q3⟩ := q
    rcases q1 with rfl | rfl | rfl | rfl | rfl <;> rcases q2 with rfl | rfl | rfl <;> first | decide | exact absurd ⟨rfl, rfl⟩ q3
  unfold ok9 at e
  cases c : fewN s r with
  | none =>
    rw [c] at e
    cases e
  | some m =>
    rw [c] at e
    obtain ⟨e1, e2⟩ := (Bool.and_eq_true _ _ ▸ e : _ ∧ _)
    exact ⟨m, rfl, of_decide_eq_true e1, of_decide_eq_true e2⟩
end BM

namespace BM
open PySem PySem.Spec PyProof.Rows L2
def top (i : Nat) : Stmt := PySem.Challenge.pw_backmarks_k09_whole_all_tried.main.body.getD i (.Pass ⟨0, 0, 0, 0⟩)
abbrev s_is_among : Stmt := top 5
abbrev s_need_counts : Stmt := top 8
abbrev s_choices : Stmt := top 9
abbrev s_ways : Stmt := top 10
abbrev s_often : Stmt := top 11
abbrev s_cost : Stmt := top 12
abbrev s_least : Stmt := top 13
abbrev s_first_mark : Stmt := top 15
abbrev s_again_and_again : Stmt := top 16
abbrev s_from_mark : Stmt := top 17
abbrev s_plan : Stmt := top 18
abbrev s_cost_of : Stmt := top 19
abbrev s_l_cell_at : Stmt := top 21
abbrev s_l_onward : Stmt := top 22
abbrev s_l_fewest : Stmt := top 23
abbrev s_law : Stmt := top 24
/-- what the top has left -/
structure Txt (K : PySem.W.Frag) (mg : Str → Option Value) : Type where
  aBadCount : Addr
  d_is_among : Def K mg "is_among" "is_among" s_is_among ["thing", "low", "high"]
  d_need_counts : Def K mg "need_counts" "need_counts" s_need_counts ["steps", "room"]
  d_choices : Def K mg "choices" "choices" s_choices ["many", "chosen"]
  d_ways : Def K mg "ways" "ways" s_ways ["room", "times"]
  d_often : Def K mg "often" "often" s_often ["steps", "room"]
  d_cost : Def K mg "cost" "cost" s_cost ["steps", "room"]
  d_least : Def K mg "least" "least" s_least ["steps", "room"]
  d_first_mark : Def K mg "first_mark" "first_mark" s_first_mark ["steps", "room"]
  d_again_and_again : Def K mg "again_and_again" "again_and_again" s_again_and_again ["start", "steps"]
  d_from_mark : Def K mg "from_mark" "from_mark" s_from_mark ["start", "steps", "room"]
  d_plan : Def K mg "plan" "plan" s_plan ["steps", "room"]
  d_cost_of : Def K mg "cost_of" "cost_of" s_cost_of ["deeds"]
  d_l_cell_at : Def K mg "_law_cell_at" "_law_cell_at" s_l_cell_at ["_law_script", "_law_k"]
  d_l_onward : Def K mg "_law_onward" "_law_onward" s_l_onward ["_law_node", "_law_steps", "_law_room"]
  d_l_fewest : Def K mg "_law_fewest" "_law_fewest" s_l_fewest ["_law_steps", "_law_room"]
  d_law : Def K mg "law" "law" s_law ["_law_script"]
  c_MOST_STEPS : ∃ t, mg "MOST_STEPS" = some (.int 100 t)
  c_MOST_ROOM : ∃ t, mg "MOST_ROOM" = some (.int 12 t)
  n_isinstance : mg "isinstance" = none
  n_bool : mg "bool" = none
  n_int : mg "int" = none
  n_range : mg "range" = none
  n_min : mg "min" = none
  n_sum : mg "sum" = none
  n_len : mg "len" = none
  n_tuple : mg "tuple" = none
  n_sorted : mg "sorted" = none
  x_BadCount : XC K mg "BadCount" aBadCount
theorem sc_is_among : FnScope ["thing", "low", "high"] ["thing", "low", "high"] (defScope s_is_among) := ⟨rfl, rfl, rfl, by decide +kernel, rfl, by decide +kernel, by decide +kernel⟩
theorem sc_need_counts : FnScope ["steps", "room"] ["steps", "room"] (defScope s_need_counts) := ⟨rfl, rfl, rfl, by decide +kernel, rfl, by decide +kernel, by decide +kernel⟩
theorem sc_choices : FnScope ["many", "chosen", "found", "turn"] ["many", "chosen"] (defScope s_choices) := ⟨rfl, rfl, rfl, by decide +kernel, rfl, by decide +kernel, by decide +kernel⟩
theorem sc_ways : FnScope ["room", "times"] ["room", "times"] (defScope s_ways) := ⟨rfl, rfl, rfl, by decide +kernel, rfl, by decide +kernel, by decide +kernel⟩
theorem sc_often : FnScope ["steps", "room", "times"] ["steps", "room"] (defScope s_often) := ⟨rfl, rfl, rfl, by decide +kernel, rfl, by decide +kernel, by decide +kernel⟩
theorem sc_cost : FnScope ["steps", "room", "times"] ["steps", "room"] (defScope s_cost) := ⟨rfl, rfl, rfl, by decide +kernel, rfl, by decide +kernel, by decide +kernel⟩
theorem sc_least : FnScope ["steps", "room"] ["steps", "room"] (defScope s_least) := ⟨rfl, rfl, rfl, by decide +kernel, rfl, by decide +kernel, by decide +kernel⟩
theorem sc_first_mark : FnScope ["steps", "room", "times"] ["steps", "room"] (defScope s_first_mark) := ⟨rfl, rfl, rfl, by decide +kernel, rfl, by decide +kernel, by decide +kernel⟩
theorem sc_again_and_again : FnScope ["start", "steps", "found", "many"] ["start", "steps"] (defScope s_again_and_again) := ⟨rfl, rfl, rfl, by decide +kernel, rfl, by decide +kernel, by decide +kernel⟩
theorem sc_from_mark : FnScope ["start", "steps", "room", "mark", "found"] ["start", "steps", "room"] (defScope s_from_mark) := ⟨rfl, rfl, rfl, by decide +kernel, rfl, by decide +kernel, by decide +kernel⟩
theorem sc_plan : FnScope ["steps", "room"] ["steps", "room"] (defScope s_plan) := ⟨rfl, rfl, rfl, by decide +kernel, rfl, by decide +kernel, by decide +kernel⟩
theorem sc_cost_of : FnScope ["deeds", "deed"] ["deeds"] (defScope s_cost_of) := ⟨rfl, rfl, rfl, by decide +kernel, rfl, by decide +kernel, by decide +kernel⟩
theorem sc_l_cell_at : FnScope ["_law_script", "_law_k"] ["_law_script", "_law_k"] (defScope s_l_cell_at) := ⟨rfl, rfl, rfl, by decide +kernel, rfl, by decide +kernel, by decide +kernel⟩
theorem sc_l_onward : FnScope ["_law_node", "_law_steps", "_law_room", "_law_place", "_law_marks", "_law_wanted", "_law_found", "_law_mark", "_law_other"] ["_law_node", "_law_steps", "_law_room"] (defScope s_l_onward) := ⟨rfl, rfl, rfl, by decide +kernel, rfl, by decide +kernel, by decide +kernel⟩
theorem sc_l_fewest : FnScope ["_law_steps", "_law_room", "_law_waiting", "_law_seen", "_law_price", "_law_later", "_law_node"] ["_law_steps", "_law_room"] (defScope s_l_fewest) := ⟨rfl, rfl, rfl, by decide +kernel, rfl, by decide +kernel, by decide +kernel⟩
theorem sc_law : FnScope ["_law_script", "_law_steps", "_law_room", "_law_due"] ["_law_script"] (defScope s_law) := ⟨rfl, rfl, rfl, by decide +kernel, rfl, by decide +kernel, by decide +kernel⟩
section
variable {P : Program} {w : World} {K : PySem.W.Frag} {mg : Str → Option Value} {base : Heap}
-- @@ is_among
/-- is_among(thing, low, high) -/
def sp_is_among (K : PySem.W.Frag) : Sp := fun vs H Q _ => ∃ (x : V) (lo hi : Int) (o : Option Int), vs = [x, .int lo, .int hi] ∧ Thg K H x o ∧ Q (.bl (among o lo hi)) H
theorem ok_is_among (T : Txt K mg) : OkF P w K mg base "is_among" 1 ["thing", "low", "high"] (sp_is_among K) := by
  refine okf T.d_is_among sc_is_among (fun vs H Q E h => ?_) (fun f cdv A outer s H vs Q E hr h => ?_)
  · obtain ⟨x, lo, hi, o, rfl, th, k⟩ := h
    rfl
  · obtain ⟨x, lo, hi, o, rfl, th, k⟩ := h
    refine ⟨_, (pss_one (ps_ret (pe_and (pe_callB call_isi (by rfl) T.n_isinstance (by decide +kernel) (pa_cons (pv 0) (pa_cons (pe_bltn (v := .ty "int") (by rfl) T.n_int (by decide +kernel) rfl) pa_nil))) (pe_and (pe_not (pe_callB call_isi (by rfl) T.n_isinstance (by decide +kernel) (pa_cons (pv 0) (pa_cons (pe_bltn (v := .ty "bool") (by rfl) T.n_bool (by decide +kernel) rfl) pa_nil)))) (pe_one (pe_chain op_le op_le (pv 1) (pv 0) (pv 2))))))), ?_⟩
    refine ⟨_, rfl, ?_⟩
    cases th with
    | int i =>
      refine ⟨_, _, _, _, true, rfl, .ty "int", .base (.int i), kit_ty (by decide +kernel), true, rfl, iteT ?_⟩
      refine ⟨_, rfl, _, _, _, _, false, rfl, .ty "bool", .base (.int i), kit_ty (by decide +kernel), false, rfl, true, rfl, iteT ?_⟩
      refine ⟨_, rfl, _, rfl, _, _, rfl, rfl, _, rfl, ?_⟩
      refine ite2 (fun c => ?_) (fun c => ?_)
      · refine ⟨_, rfl, _, _, rfl, rfl, ?_⟩
        have e : among (some i) lo hi = decide (i ≤ hi) := by
          show (decide (lo ≤ i) && decide (i ≤ hi)) = decide (i ≤ hi)
          rw [c, Bool.true_and]
        rw [e] at k
        exact k
      · have e : among (some i) lo hi = false := by
          show (decide (lo ≤ i) && decide (i ≤ hi)) = false
          rw [Bool.eq_false_iff.mpr c, Bool.false_and]
        rw [e] at k
        exact k
    | bl b =>
      refine ⟨_, _, _, _, true, rfl, .ty "int", .base (.bl b), kit_ty (by decide +kernel), true, rfl, iteT ?_⟩
      refine ⟨_, rfl, _, _, _, _, true, rfl, .ty "bool", .base (.bl b), kit_ty (by decide +kernel), true, rfl, false, rfl, iteF ?_⟩
      exact k
    | oth ty ni =>
      refine ⟨_, _, _, _, false, rfl, .ty "int", ty, ni, false, rfl, iteF ?_⟩
      exact k
-- @@ need_counts
theorem good_ok {s r : Nat} (h1 : s ≤ 100) (h2 : 1 ≤ r) (h3 : r ≤ 12) : goodC (some (s : Int)) (some (r : Int)) = true := by
  show ((decide ((0 : Int) ≤ (s : Int)) && decide ((s : Int) ≤ 100)) && (decide ((1 : Int) ≤ (r : Int)) && decide ((r : Int) ≤ 12))) = true
  simp only [Bool.and_eq_true, decide_eq_true_eq]
  omega
def sp_need_counts (K : PySem.W.Frag) (C : Addr) : Sp := fun vs H Q E => ∃ (x y : V) (o1 o2 : Option Int), vs = [x, y] ∧ Thg K H x o1 ∧ Thg K H y o2 ∧ (goodC o1 o2 = true → Q .non H) ∧ (goodC o1 o2 = false → E (.ref C) none H)
theorem ok_need_counts (T : Txt K mg) : OkF P w K mg base "need_counts" 2 ["steps", "room"] (sp_need_counts K T.aBadCount) := by
  obtain ⟨f_is_among, fd_is_among, m_is_among, k_is_among, b_is_among, G_is_among⟩ := ok_is_among (P := P) (w := w) (base := base) T
  refine okf T.d_need_counts sc_need_counts (fun vs H Q E h => ?_) (fun f cdv A outer s H vs Q E hr h => ?_)
  · obtain ⟨x, y, o1, o2, rfl, t1, t2, kg, kb⟩ := h
    rfl
  · obtain ⟨x, y, o1, o2, rfl, t1, t2, kg, kb⟩ := h
    refine ⟨_, (pss_cons (ps_if (pt_not (pt_val (pe_call G_is_among (hr.mono (by decide)) (by rfl) m_is_among k_is_among b_is_among .nil passL (pa_cons (pv 0) (pa_cons pe_int (pa_cons (pe_glob (v := .int 100) (by rfl) T.c_MOST_STEPS.choose_spec ⟨_, rfl⟩) pa_nil))))))
        (pss_one (ps_raise rfl (takes_of rfl rfl rfl rfl) (pmk_own PySem.F.excBase_ValueError T.x_BadCount.x T.x_BadCount.g T.x_BadCount.k (raises_own T.x_BadCount.b T.x_BadCount.t) rfl)))
        pss_nil)
        (pss_one (ps_if (pt_not (pt_val (pe_call G_is_among (hr.mono (by decide)) (by rfl) m_is_among k_is_among b_is_among .nil passL (pa_cons (pv 1) (pa_cons pe_int (pa_cons (pe_glob (v := .int 12) (by rfl) T.c_MOST_ROOM.choose_spec ⟨_, rfl⟩) pa_nil))))))
        (pss_one (ps_raise rfl (takes_of rfl rfl rfl rfl) (pmk_own PySem.F.excBase_ValueError T.x_BadCount.x T.x_BadCount.g T.x_BadCount.k (raises_own T.x_BadCount.b T.x_BadCount.t) rfl)))
        pss_nil))), ?_⟩
    refine ⟨_, rfl, x, 0, 100, o1, rfl, t1, _, rfl, ?_⟩
    cases c1 : among o1 0 100 with
    | false =>
      refine iteT ?_
      refine kb ?_
      unfold goodC
      rw [c1, Bool.false_and]
    | true =>
      refine iteF ?_
      refine ⟨_, rfl, y, 1, 12, o2, rfl, t2, _, rfl, ?_⟩
      cases c2 : among o2 1 12 with
      | false =>
        refine iteT ?_
        refine kb ?_
        unfold goodC
        rw [c1, c2, Bool.true_and]
      | true =>
        refine iteF ?_
        refine kg ?_
        unfold goodC
        rw [c1, c2, Bool.true_and]
-- @@ choices
def sp_choices : Sp := fun vs H Q _ => ∃ m c : Nat, vs = [.int (m : Int), .int (c : Int)] ∧ c ≤ m ∧ m ≤ 1000 ∧ Q (.int (choN m c : Int)) H
theorem ok_choices (T : Txt K mg) : OkF P w K mg base "choices" 1 ["many", "chosen"] (sp_choices) := by
  refine okf T.d_choices sc_choices (fun vs H Q E h => ?_) (fun f cdv A outer s H vs Q E hr h => ?_)
  · obtain ⟨m, c, rfl, hc, hm, k⟩ := h
    rfl
  · obtain ⟨m, c, rfl, hc, hm, k⟩ := h
    refine ⟨_, (pss_cons (ps_set (i := 2) sc_choices.nd rfl (Or.inl rfl) pe_int)
        (pss_cons (ps_for (passes_of rfl) rfl (pi_range1 (by rfl) T.n_range (pa_cons (pv 1) pa_nil)) (pg_name (i := 3) sc_choices.nd rfl (Or.inl rfl))
        (pss_one (ps_set (i := 2) sc_choices.nd rfl (Or.inl rfl) (pe_op op_fdiv (pe_op op_mul (pv 2) (pe_op op_sub (pv 0) (pv 3))) (pe_op op_add (pv 3) pe_int)))))
        (pss_one (ps_ret (pv 2))))), ?_⟩
    refine ⟨_, rfl, _, rfl, by omega, by omega, ?_⟩
    refine for_range (lo := 0) (n := (c : Int).toNat) (fun i σ H' => H' = H ∧ ∃ v, σ = [some (.int (m : Int)), some (.int (c : Int)), some (.int (choN m i : Int)), v]) ⟨rfl, none, rfl⟩ ?_ ?_
    · rintro i σ H' hi ⟨rfl, v, rfl⟩
      rw [Int.toNat_natCast] at hi
      refine ⟨_, rfl, _, rfl, _, rfl, _, _, rfl, rfl, _, _, rfl, rfl, .inr ⟨by show -(2 ^ 64 : Int) < (m : Int) - (0 + (i : Int)); omega, by show (m : Int) - (0 + (i : Int)) < 2 ^ 64; omega⟩, _, rfl, _, _, rfl, rfl, _, _, rfl, rfl, ⟨by show (0 : Int) < 0 + (i : Int) + 1; omega, by show (0 : Int) + (i : Int) + 1 < 1073741824; omega⟩, ?_⟩
      refine ⟨rfl, some (.int (0 + (i : Int))), ?_⟩
      have e1 : ((m : Int) - (0 + (i : Int))) = ((m - i : Nat) : Int) := by omega
      have e2 : ((0 : Int) + (i : Int) + 1) = ((i + 1 : Nat) : Int) := by omega
      have e : ((choN m i : Int) * ((m : Int) - (0 + (i : Int)))) / (0 + (i : Int) + 1) = (choN m (i + 1) : Int) := by
        rw [e1, e2, choN_succ]
        show _ = ((choN m i * (m - i) / (i + 1) : Nat) : Int)
        rw [Int.natCast_ediv, Int.natCast_mul]
      show [some (V.int (m : Int)), some (V.int (c : Int)), some (V.int (((choN m i : Int) * ((m : Int) - (0 + (i : Int)))) / (0 + (i : Int) + 1))), some (V.int (0 + (i : Int)))] = _
      rw [e]
    · rintro σ H' ⟨rfl, v, rfl⟩
      rw [Int.toNat_natCast]
      exact ⟨_, rfl, k⟩
-- @@ ways
def sp_ways : Sp := fun vs H Q _ => ∃ r t : Nat, vs = [.int (r : Int), .int (t : Int)] ∧ r + t ≤ 1000 ∧ Q (.int (waysN r t : Int)) H
theorem ok_ways (T : Txt K mg) : OkF P w K mg base "ways" 2 ["room", "times"] (sp_ways) := by
  obtain ⟨f_choices, fd_choices, m_choices, k_choices, b_choices, G_choices⟩ := ok_choices (P := P) (w := w) (base := base) T
  refine okf T.d_ways sc_ways (fun vs H Q E h => ?_) (fun f cdv A outer s H vs Q E hr h => ?_)
  · obtain ⟨r, t, rfl, hb, k⟩ := h
    rfl
  · obtain ⟨r, t, rfl, hb, k⟩ := h
    refine ⟨_, (pss_one (ps_ret (pe_call G_choices (hr.mono (by decide)) (by rfl) m_choices k_choices b_choices .nil passL (pa_cons (pe_op op_add (pv 0) (pv 1)) (pa_cons (pv 0) pa_nil))))), ?_⟩
    exact ⟨_, rfl, _, rfl, _, _, rfl, rfl, _, rfl, r + t, r, by rw [Int.natCast_add] <;> rfl, Nat.le_add_right _ _, hb, k⟩
-- @@ often
def sp_often : Sp := fun vs H Q _ => ∃ s r : Nat, vs = [.int (s : Int), .int (r : Int)] ∧ s ≤ 100 ∧ 1 ≤ r ∧ r ≤ 12 ∧ Q (.int (oftN s r : Int)) H
theorem ok_often (T : Txt K mg) : OkF P w K mg base "often" 3 ["steps", "room"] (sp_often) := by
  obtain ⟨f_ways, fd_ways, m_ways, k_ways, b_ways, G_ways⟩ := ok_ways (P := P) (w := w) (base := base) T
  refine okf T.d_often sc_often (fun vs H Q E h => ?_) (fun f cdv A outer s H vs Q E hr h => ?_)
  · obtain ⟨s', r, rfl, hs, h1, h2, k⟩ := h
    rfl
  · obtain ⟨s', r, rfl, hs, h1, h2, k⟩ := h
    refine ⟨_, (pss_cons (ps_set (i := 2) sc_often.nd rfl (Or.inl rfl) pe_int)
        (pss_cons (ps_while (passes_of rfl) (pt_cmpR op_le (pe_call G_ways (hr.mono (by decide)) (by rfl) m_ways k_ways b_ways .nil passL (pa_cons (pv 1) (pa_cons (pv 2) pa_nil))) (pv 0) (nomark _))
        (pss_one (ps_set (i := 2) sc_often.nd rfl (Or.inl rfl) (pe_op op_add (pv 2) pe_int))))
        (pss_one (ps_ret (pv 2))))), ?_⟩
    refine ⟨fun n σ H' => ∃ t : Nat, t + n = 101 ∧ H' = H ∧ σ = [some (.int (s' : Int)), some (.int (r : Int)), some (.int (t : Int))] ∧ oftGo s' r n t = oftN s' r, ⟨101, 0, rfl, rfl, rfl, rfl⟩, ?_⟩
    rintro n σ H' ⟨t, ht, rfl, rfl, e⟩
    refine ⟨_, rfl, _, rfl, r, t, rfl, by omega, _, rfl, _, _, rfl, rfl, _, rfl, ?_⟩
    refine ite2 (fun c => ?_) (fun c => ?_)
    · have c' : waysN r t ≤ s' := by
        have := of_decide_eq_true c
        omega
      cases n with
      | zero =>
        have f := ways_far r (by omega) h1
        have z : t = 101 := by omega
        rw [z] at c'
        omega
      | succ n =>
        rw [oft_yes c'] at e
        refine ⟨fun σ' H'' => ∃ t : Nat, t + n = 101 ∧ H'' = H' ∧ σ' = [some (.int (s' : Int)), some (.int (r : Int)), some (.int (t : Int))] ∧ oftGo s' r n t = oftN s' r, fun σ' H'' q => ⟨n, Nat.lt_succ_self n, q⟩, ?_⟩
        exact ⟨_, rfl, _, _, rfl, rfl, t + 1, by omega, rfl, rfl, e⟩
    · have c' : ¬ waysN r t ≤ s' := fun z => c (decide_eq_true (by omega))
      rw [oft_no c'] at e
      rw [← e] at k
      exact ⟨_, rfl, k⟩
-- @@ cost
def sp_cost : Sp := fun vs H Q _ => ∃ s r : Nat, vs = [.int (s : Int), .int (r : Int)] ∧ s ≤ 100 ∧ 1 ≤ r ∧ r ≤ 12 ∧ Q (.int (costN s r)) H
theorem ok_cost (T : Txt K mg) : OkF P w K mg base "cost" 4 ["steps", "room"] (sp_cost) := by
  obtain ⟨f_often, fd_often, m_often, k_often, b_often, G_often⟩ := ok_often (P := P) (w := w) (base := base) T
  obtain ⟨f_ways, fd_ways, m_ways, k_ways, b_ways, G_ways⟩ := ok_ways (P := P) (w := w) (base := base) T
  refine okf T.d_cost sc_cost (fun vs H Q E h => ?_) (fun f cdv A outer s H vs Q E hr h => ?_)
  · obtain ⟨s', r, rfl, hs, h1, h2, k⟩ := h
    rfl
  · obtain ⟨s', r, rfl, hs, h1, h2, k⟩ := h
    refine ⟨_, (pss_cons (ps_set (i := 2) sc_cost.nd rfl (Or.inl rfl) (pe_call G_often (hr.mono (by decide)) (by rfl) m_often k_often b_often .nil passL (pa_cons (pv 0) (pa_cons (pv 1) pa_nil))))
        (pss_cons (ps_if (pt_cmpR op_eq (pv 2) pe_int (nomark _))
        (pss_one (ps_ret pe_int))
        pss_nil)
        (pss_one (ps_ret (pe_op op_sub (pe_op op_mul (pv 2) (pe_op op_add (pv 0) pe_int)) (pe_call G_ways (hr.mono (by decide)) (by rfl) m_ways k_ways b_ways .nil passL (pa_cons (pe_op op_add (pv 1) pe_int) (pa_cons (pe_op op_sub (pv 2) pe_int) pa_nil)))))))), ?_⟩
    refine ⟨_, rfl, _, rfl, s', r, rfl, hs, h1, h2, ?_⟩
    refine ⟨_, rfl, rfl, _, rfl, ?_⟩
    have lb := oftN_le s' r
    refine ite2 (fun c => ?_) (fun c => ?_)
    · have c' : oftN s' r = 0 := by
        have := V.int.inj (of_decide_eq_true c)
        omega
      unfold costN at k
      rw [if_pos c'] at k
      exact k
    · have c' : ¬ oftN s' r = 0 := fun z => c (decide_eq_true (by rw [z] <;> rfl))
      unfold costN at k
      rw [if_neg c'] at k
      refine ⟨_, rfl, _, rfl, _, _, rfl, rfl, _, _, rfl, rfl, .inl ⟨by omega, by omega⟩, _, rfl, _, _, rfl, rfl, _, rfl, _, _, rfl, rfl, r + 1, oftN s' r - 1, ?_, by omega, _, _, rfl, rfl, k⟩
      have e : ((oftN s' r : Int) - 1) = ((oftN s' r - 1 : Nat) : Int) := by omega
      show [V.int ((r : Int) + 1), V.int ((oftN s' r : Int) - 1)] = _
      rw [e] <;> rfl
-- @@ least
def sp_least (K : PySem.W.Frag) (C : Addr) : Sp := fun vs H Q E => (∃ s r : Nat, vs = [.int (s : Int), .int (r : Int)] ∧ s ≤ 100 ∧ 1 ≤ r ∧ r ≤ 12 ∧ Q (.int (costN s r)) H) ∨
  (∃ (x y : V) (o1 o2 : Option Int), vs = [x, y] ∧ Thg K H x o1 ∧ Thg K H y o2 ∧ goodC o1 o2 = false ∧ E (.ref C) none H)
theorem good_nums {K : PySem.W.Frag} {H : Hp} {x y : V} {o1 o2 : Option Int} (t1 : Thg K H x o1) (t2 : Thg K H y o2) (g : goodC o1 o2 = true) : ∃ s r : Nat, s ≤ 100 ∧ 1 ≤ r ∧ r ≤ 12 ∧ x = .int (s : Int) ∧ y = .int (r : Int) := by
  unfold goodC at g
  obtain ⟨g1, g2⟩ := (Bool.and_eq_true _ _ ▸ g : _ ∧ _)
  cases t1 with
  | int i =>
    cases t2 with
    | int j =>
      have g1' : (decide ((0 : Int) ≤ i) && decide (i ≤ 100)) = true := g1
      have g2' : (decide ((1 : Int) ≤ j) && decide (j ≤ 12)) = true := g2
      simp only [Bool.and_eq_true, decide_eq_true_eq] at g1' g2'
      exact ⟨i.toNat, j.toNat, by omega, by omega, by omega, by rw [Int.toNat_of_nonneg g1'.1], by rw [Int.toNat_of_nonneg (by omega)]⟩
    | bl b => exact absurd (show false = true from g2) (by decide)
    | oth _ _ => exact absurd (show false = true from g2) (by decide)
  | bl b => exact absurd (show false = true from g1) (by decide)
  | oth _ _ => exact absurd (show false = true from g1) (by decide)
theorem ok_least (T : Txt K mg) : OkF P w K mg base "least" 5 ["steps", "room"] (sp_least K T.aBadCount) := by
  obtain ⟨f_need_counts, fd_need_counts, m_need_counts, k_need_counts, b_need_counts, G_need_counts⟩ := ok_need_counts (P := P) (w := w) (base := base) T
  obtain ⟨f_cost, fd_cost, m_cost, k_cost, b_cost, G_cost⟩ := ok_cost (P := P) (w := w) (base := base) T
  refine okf T.d_least sc_least (fun vs H Q E h => ?_) (fun f cdv A outer s H vs Q E hr h => ?_)
  · rcases h with ⟨s', r, rfl, h1, h2, h3, k⟩ | ⟨x, y, o1, o2, rfl, t1, t2, g, k⟩ <;> rfl
  · skip
    refine ⟨_, (pss_cons (ps_expr (pe_call G_need_counts (hr.mono (by decide)) (by rfl) m_need_counts k_need_counts b_need_counts .nil (passes_call (W := fun cls d _ H => E cls d H) (takes_of rfl rfl rfl rfl) (fun _ _ _ _ h => h)) (pa_cons (pv 0) (pa_cons (pv 1) pa_nil))))
        (pss_one (ps_ret (pe_call G_cost (hr.mono (by decide)) (by rfl) m_cost k_cost b_cost .nil passL (pa_cons (pv 0) (pa_cons (pv 1) pa_nil)))))), ?_⟩
    rcases h with ⟨s', r, rfl, h1, h2, h3, k⟩ | ⟨x, y, o1, o2, rfl, t1, t2, g, k⟩
    · refine ⟨_, rfl, _, rfl, _, _, _, _, rfl, .int _, .int _, fun _ => ?_, fun z => absurd (good_ok h1 h2 h3) (by rw [z]; decide)⟩
      exact ⟨_, rfl, _, rfl, s', r, rfl, h1, h2, h3, k⟩
    · exact ⟨_, rfl, _, rfl, x, y, o1, o2, rfl, t1, t2, fun z => absurd g (by rw [z]; decide), fun _ => k⟩
-- @@ first_mark
def sp_first_mark : Sp := fun vs H Q _ => ∃ s r : Nat, vs = [.int (s : Int), .int (r : Int)] ∧ 1 ≤ s ∧ s ≤ 100 ∧ 2 ≤ r ∧ r ≤ 12 ∧ Q (.int (markN s r : Int)) H
theorem ok_first_mark (T : Txt K mg) : OkF P w K mg base "first_mark" 4 ["steps", "room"] (sp_first_mark) := by
  obtain ⟨f_often, fd_often, m_often, k_often, b_often, G_often⟩ := ok_often (P := P) (w := w) (base := base) T
  obtain ⟨f_ways, fd_ways, m_ways, k_ways, b_ways, G_ways⟩ := ok_ways (P := P) (w := w) (base := base) T
  refine okf T.d_first_mark sc_first_mark (fun vs H Q E h => ?_) (fun f cdv A outer s H vs Q E hr h => ?_)
  · obtain ⟨s', r, rfl, hs0, hs, h1, h2, k⟩ := h
    rfl
  · obtain ⟨s', r, rfl, hs0, hs, h1, h2, k⟩ := h
    refine ⟨_, (pss_cons (ps_set (i := 2) sc_first_mark.nd rfl (Or.inl rfl) (pe_call G_often (hr.mono (by decide)) (by rfl) m_often k_often b_often .nil passL (pa_cons (pv 0) (pa_cons (pv 1) pa_nil))))
        (pss_one (ps_ret (pe_callB (call_min2 rfl) (by rfl) T.n_min (by decide +kernel) (pa_cons (pe_call G_ways (hr.mono (by decide)) (by rfl) m_ways k_ways b_ways .nil passL (pa_cons (pv 1) (pa_cons (pe_op op_sub (pv 2) pe_int) pa_nil))) (pa_cons (pe_op op_sub (pe_op op_add (pv 0) pe_int) (pe_call G_ways (hr.mono (by decide)) (by rfl) m_ways k_ways b_ways .nil passL (pa_cons (pe_op op_sub (pv 1) pe_int) (pa_cons (pe_op op_sub (pv 2) pe_int) pa_nil)))) pa_nil)))))), ?_⟩
    have o := oft_le (s := s') (r := r) (by omega) (by omega) (by omega)
    obtain ⟨oa, ob⟩ := oft_spec (s := s') (r := r) (by omega) (by omega) (by omega)
    have o1 : 1 ≤ oftN s' r := by
      by_cases z : oftN s' r = 0
      · rw [z, ways_zero r (by omega)] at ob
        omega
      · omega
    have ow := oa (oftN s' r - 1) (by omega)
    have ow2 : waysN (r - 1) (oftN s' r - 1) ≤ waysN r (oftN s' r - 1) := by
      obtain ⟨q, rfl⟩ : ∃ q, r = q + 1 := ⟨r - 1, by omega⟩
      rw [show q + 1 - 1 = q by omega]
      have hu : oftN s' (q + 1) - 1 ≤ 100 := by omega
      generalize oftN s' (q + 1) - 1 = u at ow hu ⊢
      cases u with
      | zero => rw [ways_zero q (by omega), ways_zero (q + 1) (by omega)]; omega
      | succ u => rw [pascal (r := q) (t := u) (by omega) (by omega)]; omega
    have e1 : ((oftN s' r : Int) - 1) = ((oftN s' r - 1 : Nat) : Int) := by omega
    have e2 : ((r : Int) - 1) = ((r - 1 : Nat) : Int) := by omega
    refine ⟨_, rfl, _, rfl, s', r, rfl, by omega, by omega, by omega, ?_⟩
    refine ⟨_, rfl, _, rfl, _, _, rfl, rfl, r, oftN s' r - 1, by rw [← e1] <;> rfl, by omega, ?_⟩
    refine ⟨_, rfl, _, _, rfl, rfl, _, rfl, _, _, rfl, rfl, _, rfl, _, _, rfl, rfl, r - 1, oftN s' r - 1, by rw [← e1, ← e2] <;> rfl, by omega, _, _, rfl, rfl, _, _, rfl, ?_⟩
    have e3 : ((s' : Int) + 1 - (waysN (r - 1) (oftN s' r - 1) : Int)) = ((s' + 1 - waysN (r - 1) (oftN s' r - 1) : Nat) : Int) := by omega
    have em : (if ((s' : Int) + 1 - (waysN (r - 1) (oftN s' r - 1) : Int)) < (waysN r (oftN s' r - 1) : Int) then ((s' : Int) + 1 - (waysN (r - 1) (oftN s' r - 1) : Int)) else (waysN r (oftN s' r - 1) : Int)) = (markN s' r : Int) := by
      unfold markN
      rw [e3]
      by_cases z : ((s' + 1 - waysN (r - 1) (oftN s' r - 1) : Nat) : Int) < (waysN r (oftN s' r - 1) : Int)
      · rw [if_pos z]
        omega
      · rw [if_neg z]
        omega
    rw [← em] at k
    exact k
-- @@ again_and_again
def sp_again_and_again : Sp := fun vs H Q _ => ∃ a n : Nat, vs = [.int (a : Int), .int (n : Int)] ∧ n ≤ 100 ∧ RetD H (againN a n) Q
theorem ok_again_and_again (T : Txt K mg) : OkF P w K mg base "again_and_again" 1 ["start", "steps"] (sp_again_and_again) := by
  refine okf T.d_again_and_again sc_again_and_again (fun vs H Q E h => ?_) (fun f cdv A outer s H vs Q E hr h => ?_)
  · obtain ⟨a, n, rfl, hn, k⟩ := h
    rfl
  · obtain ⟨a, n, rfl, hn, k⟩ := h
    refine ⟨_, (pss_cons (ps_set (i := 2) sc_again_and_again.nd rfl (Or.inl rfl) (pe_lst pa_nil))
        (pss_cons (ps_for (passes_of rfl) rfl (pi_range3 (by rfl) T.n_range (pa_cons (pv 1) (pa_cons pe_int (pa_cons (pe_un un_neg pe_int) pa_nil)))) (pg_name (i := 3) sc_again_and_again.nd rfl (Or.inl rfl))
        (pss_one (ps_expr (pe_bm PySem.F.plainAttrs_list PySem.F.slot_list_extend PySem.F.type_list_extend mt_extend (pv 2) (pa_cons (pe_lst (pa_cons (pe_tup (pa_cons pe_str (pa_cons (pv 3) pa_nil))) (pa_cons (pe_tup (pa_cons pe_str pa_nil)) (pa_cons (pe_tup (pa_cons pe_str (pa_cons (pv 0) pa_nil))) pa_nil)))) pa_nil)))))
        (pss_one (ps_ret (pe_op op_cat (pv 2) (pe_lst (pa_cons (pe_tup (pa_cons pe_str pa_nil)) pa_nil))))))), ?_⟩
    refine ⟨by show 0 ≤ sizeLine; decide, fun p hp => ?_⟩
    refine ⟨_, rfl, _, rfl, _, _, _, _, rfl, RgC.neg (by omega) (by omega) (by omega) (by omega), ?_⟩
    have e0 : ((n : Int) - 0).toNat = n := by omega
    refine for_rangeC (lo := (n : Int)) (c := -1) (n := ((n : Int) - 0).toNat) (fun i σ H' => ∃ u ps, σ = [some (.int (a : Int)), some (.int (n : Int)), some (.ref p), u] ∧ Same H H' ∧ H' p = some (.lst (refs ps)) ∧ DS H' ps ∧ ps.map (·.2) = aPre a n i)
      ⟨none, [], rfl, Same.new hp, upd_same, fun q hq => (nomatch hq), rfl⟩ ?_ ?_
    · rintro i σ H' hi ⟨u, ps, rfl, sm, hP, hD, hps⟩
      rw [e0] at hi
      refine ⟨_, rfl, .inl ⟨rfl, _, SqL.of hP⟩, ?_⟩
      refine ⟨_, rfl, by show 2 ≤ sizeLine; decide, fun t1 h1 => ?_⟩
      refine ⟨by show 1 ≤ sizeLine; decide, fun t2 h2 => ?_⟩
      refine ⟨_, rfl, by show 2 ≤ sizeLine; decide, fun t3 h3 => ?_⟩
      refine ⟨by show 3 ≤ sizeLine; decide, fun l hl => ?_⟩
      have lp := (len_of hps).trans (aPre_len a n i)
      have hp0 : H p = none := hp
      have n1 : p ≠ t1 := ne_of_none hP h1
      have n2 : p ≠ t2 := ne_of_none (o := .lst (refs ps)) (by rw [upd_ne n1]; exact hP) h2
      have n3 : p ≠ t3 := ne_of_none (o := .lst (refs ps)) (by rw [upd_ne n2, upd_ne n1]; exact hP) h3
      have n4 : p ≠ l := ne_of_none (o := .lst (refs ps)) (by rw [upd_ne n3, upd_ne n2, upd_ne n1]; exact hP) hl
      refine ⟨p, l, _, _, rfl, rfl, by rw [upd_ne n4, upd_ne n3, upd_ne n2, upd_ne n1]; exact hP, upd_same, sz5 (by rw [refs_len, lp]; show 3 * i + 3 ≤ 100000; omega), ?_⟩
      have sA := ((Same.new (o := .tup [.str "go", .int ((n : Int) + (i : Int) * -1)]) h1).trans (Same.new (o := .tup [.str "meet"]) h2)).trans ((Same.new (o := .tup [.str "take", .int (a : Int)]) h3).trans (Same.new (o := .lst [.ref t1, .ref t2, .ref t3]) hl))
      have eg : (n : Int) + (i : Int) * -1 = ((n - i : Nat) : Int) := by omega
      refine ⟨_, ps ++ [(t1, .go (n - i)), (t2, .meet), (t3, .take a)], rfl, Same.mut (sm.trans sA) hp0, ?_, ?_, ?_⟩
      · rw [upd_same, refs_append] <;> rfl
      · have m12 : t1 ≠ t2 := ne_of_none upd_same h2
        have m13 : t1 ≠ t3 := ne_of_none (o := .tup [.str "go", .int ((n : Int) + (i : Int) * -1)]) (by rw [upd_ne m12]; exact upd_same) h3
        have m14 : t1 ≠ l := ne_of_none (o := .tup [.str "go", .int ((n : Int) + (i : Int) * -1)]) (by rw [upd_ne m13, upd_ne m12]; exact upd_same) hl
        have m23 : t2 ≠ t3 := ne_of_none upd_same h3
        have m24 : t2 ≠ l := ne_of_none (o := .tup [.str "meet"]) (by rw [upd_ne m23]; exact upd_same) hl
        have m34 : t3 ≠ l := ne_of_none upd_same hl
        intro q hq
        rcases List.mem_append.mp hq with z | z
        · have nq : q.1 ≠ p := by
            intro e
            have w1 := hD q z
            rw [e, hP] at w1
            cases w1
          rw [upd_ne nq]
          exact sA _ _ (hD q z)
        · simp only [List.mem_cons, List.not_mem_nil, or_false] at z
          rcases z with rfl | rfl | rfl
          · show upd _ p _ t1 = some (.tup [.str "go", .int ((n - i : Nat) : Int)])
            rw [upd_ne n1.symm, upd_ne m14, upd_ne m13, upd_ne m12, upd_same, eg]
          · show upd _ p _ t2 = some (.tup [.str "meet"])
            rw [upd_ne n2.symm, upd_ne m24, upd_ne m23, upd_same]
          · show upd _ p _ t3 = some (.tup [.str "take", .int (a : Int)])
            rw [upd_ne n3.symm, upd_ne m34, upd_same]
      · rw [List.map_append, hps] <;> rfl
    · rintro σ H' ⟨u, ps, rfl, sm, hP, hD, hps⟩
      rw [e0] at hps
      refine ⟨_, rfl, by show 1 ≤ sizeLine; decide, fun t ht => ?_⟩
      refine ⟨by show 1 ≤ sizeLine; decide, fun l hl => ?_⟩
      have lp := (len_of hps).trans (aPre_len a n n)
      have n1 : p ≠ t := ne_of_none hP ht
      have n2 : p ≠ l := ne_of_none (o := .lst (refs ps)) (by rw [upd_ne n1]; exact hP) hl
      have sA := (Same.new (o := .tup [.str "meet"]) ht).trans (Same.new (o := .lst [.ref t]) hl)
      refine ⟨p, l, _, _, rfl, rfl, by rw [upd_ne n2, upd_ne n1]; exact hP, upd_same, sz5 (by rw [refs_len, lp]; show 3 * n + 1 ≤ 100000; omega), fun q hq => ?_⟩
      have sB := sA.trans (Same.new (o := .lst (refs ps ++ [.ref t])) hq)
      refine k q _ (ps ++ [(t, .meet)]) (sm.free (sA.free hq)) (sm.trans sB) ?_ ?_ ?_
      · rw [List.map_append, hps] <;> rfl
      · rw [upd_same, refs_append] <;> rfl
      · refine (hD.same sB).append fun x hx => ?_
        rw [List.mem_singleton.mp hx]
        have m1 : t ≠ l := ne_of_none upd_same hl
        have m2 : t ≠ q := ne_of_none (o := .tup [.str "meet"]) (by rw [upd_ne m1]; exact upd_same) hq
        show upd _ q _ t = some (.tup [.str "meet"])
        rw [upd_ne m2, upd_ne m1, upd_same]
-- @@ from_mark
def sp_from_mark (j : Nat) : Sp := fun vs H Q _ => ∃ a n r : Nat, vs = [.int (a : Int), .int (n : Int), .int (r : Int)] ∧ n < j ∧ n ≤ 100 ∧ 1 ≤ r ∧ r ≤ 12 ∧ RetD H (fromN j a n r) Q
theorem ok_from_mark_at (T : Txt K mg) {f : Addr} {fd : FuncData} (m_from_mark : mg "from_mark" = some (.ref f)) (F : Fun K "from_mark" "from_mark" s_from_mark f fd) (b_from_mark : Binds K fd ["start", "steps", "room"] []) :
    ∀ j, FnOk P w K mg base (L2.CX P w) (4 + j) f fd ["start", "steps", "room"] (sp_from_mark j)
  | 0 => ⟨fun vs H Q E h => by obtain ⟨_, _, _, _, h, _⟩ := h; omega, fun A outer s H args us vs Q E _ _ _ _ h => by obtain ⟨_, _, _, _, h, _⟩ := h; omega⟩
  | j + 1 => by
    have G_from_mark := ok_from_mark_at T m_from_mark F b_from_mark j
    have k_from_mark := F.kp
    obtain ⟨f_again_and_again, fd_again_and_again, m_again_and_again, k_again_and_again, b_again_and_again, G_again_and_again⟩ := ok_again_and_again (P := P) (w := w) (base := base) T
    obtain ⟨f_first_mark, fd_first_mark, m_first_mark, k_first_mark, b_first_mark, G_first_mark⟩ := ok_first_mark (P := P) (w := w) (base := base) T
    refine F.okX sc_from_mark (fun vs H Q E h => ?_) (fun cdv A outer s H vs Q E hr h => ?_)
    · obtain ⟨a, n, r, rfl, _⟩ := h
      rfl
    · obtain ⟨a, n, r, rfl, hj, hn, h1, h2, k⟩ := h
      have hr : Room (4 + j) _ := hr
      refine ⟨_, (Evl.pss_cut (ps_if (PW.pt (pw_or (pt_cmpR op_eq (pv 1) pe_int (nomark _)) (pw_or1 (pt_cmpR op_eq (pv 2) pe_int (nomark _)))))
    (pss_one (ps_ret (pe_call G_again_and_again (hr.mono (by omega)) (by rfl) m_again_and_again k_again_and_again b_again_and_again .nil passL (pa_cons (pv 0) (pa_cons (pv 1) pa_nil)))))
    pss_nil)
    (pss_cons (ps_set (i := 3) sc_from_mark.nd rfl (Or.inl rfl) (pe_call G_first_mark (hr.mono (by omega)) (by rfl) m_first_mark k_first_mark b_first_mark .nil passL (pa_cons (pv 1) (pa_cons (pv 2) pa_nil))))
    (pss_cons (ps_set (i := 4) sc_from_mark.nd rfl (Or.inl rfl) (pe_op op_cat (pe_lst (pa_cons (pe_tup (pa_cons pe_str (pa_cons (pv 3) pa_nil))) (pa_cons (pe_tup (pa_cons pe_str pa_nil)) pa_nil))) (pe_call G_from_mark (hr.mono (by omega)) (by rfl) m_from_mark k_from_mark b_from_mark .nil passL (pa_cons (pe_op op_add (pv 0) (pv 3)) (pa_cons (pe_op op_sub (pv 1) (pv 3)) (pa_cons (pe_op op_sub (pv 2) pe_int) pa_nil))))))
    (pss_cons (ps_expr (pe_bm PySem.F.plainAttrs_list PySem.F.slot_list_extend PySem.F.type_list_extend mt_extend (pv 4) (pa_cons (pe_lst (pa_cons (pe_tup (pa_cons pe_str (pa_cons (pe_op op_add (pv 0) (pv 3)) pa_nil))) (pa_cons (pe_tup (pa_cons pe_str (pa_cons (pv 0) pa_nil))) pa_nil))) pa_nil)))
    (pss_one (ps_ret (pe_op op_cat (pv 4) (pe_call G_from_mark (hr.mono (by omega)) (by rfl) m_from_mark k_from_mark b_from_mark .nil passL (pa_cons (pv 0) (pa_cons (pe_op op_sub (pv 3) pe_int) (pa_cons (pv 2) pa_nil))))))))))), ?_⟩
      have tl : ∀ X : Prop, (¬ (n = 0 ∨ r = 1) → X) → (n = 0 ∨ r = 1 → X) → X := fun X x1 x2 => by
        by_cases c : n = 0 ∨ r = 1
        · exact x2 c
        · exact x1 c
      refine ⟨fun σ H' => H' = H ∧ σ = [some (.int (a : Int)), some (.int (n : Int)), some (.int (r : Int)), none, none] ∧ ¬ (n = 0 ∨ r = 1), ?_, ?_⟩
      · have base' : n = 0 ∨ r = 1 → RetD H (againN a n) Q := fun c => by
          have e : fromN (j + 1) a n r = againN a n := by
            show (if n = 0 ∨ r = 1 then againN a n else _) = _
            rw [if_pos c]
          rw [e] at k
          exact k
        refine ⟨_, rfl, rfl, _, rfl, ?_⟩
        refine ite2 (fun c => ?_) (fun c => ?_)
        · have c' : n = 0 := by
            have := V.int.inj (of_decide_eq_true c)
            omega
          exact iteT ⟨_, rfl, _, rfl, a, n, rfl, hn, base' (.inl c')⟩
        · refine ⟨_, rfl, rfl, _, rfl, ?_⟩
          refine ite2 (fun c2 => ?_) (fun c2 => ?_)
          · have c' : r = 1 := by
              have := V.int.inj (of_decide_eq_true c2)
              omega
            exact ⟨_, rfl, _, rfl, a, n, rfl, hn, base' (.inr c')⟩
          · refine ⟨rfl, rfl, fun z => ?_⟩
            rcases z with z | z
            · exact c (decide_eq_true (by rw [z] <;> rfl))
            · exact c2 (decide_eq_true (by rw [z] <;> rfl))
      rintro σ H' ⟨rfl, rfl, hc⟩
      obtain ⟨m1, m2, _⟩ := mark_ok (s := n) (r := r - 1) hn (by omega) (by omega) (by omega)
      rw [show r - 1 + 1 = r by omega] at m1 m2
      have ek : fromN (j + 1) a n r = ([.go (markN n r), .keep] ++ fromN j (a + markN n r) (n - markN n r) (r - 1) ++ [.drop (a + markN n r), .take a]) ++ fromN j a (markN n r - 1) r := by
        show (if n = 0 ∨ r = 1 then againN a n else _) = _
        rw [if_neg hc]
      refine ⟨_, rfl, _, rfl, n, r, rfl, by omega, hn, by omega, h2, ?_⟩
      refine ⟨_, rfl, by show 2 ≤ sizeLine; decide, fun t1 q1 => ?_⟩
      refine ⟨by show 1 ≤ sizeLine; decide, fun t2 q2 => ?_⟩
      refine ⟨by show 2 ≤ sizeLine; decide, fun l ql => ?_⟩
      have n12 : t1 ≠ t2 := ne_of_none upd_same q2
      have n1l : t1 ≠ l := ne_of_none (o := .tup [.str "go", .int (markN n r : Int)]) (by rw [upd_ne n12]; exact upd_same) ql
      have n2l : t2 ≠ l := ne_of_none upd_same ql
      have sA := ((Same.new (o := .tup [.str "go", .int (markN n r : Int)]) q1).trans (Same.new (o := .tup [.str "keep"]) q2)).trans (Same.new (o := .lst [.ref t1, .ref t2]) ql)
      refine ⟨_, rfl, _, rfl, _, _, rfl, rfl, _, rfl, _, rfl, _, _, rfl, rfl, _, rfl, _, _, rfl, rfl, a + markN n r, n - markN n r, r - 1, ?_, by omega, by omega, by omega, by omega, fun p1 H1 ps1 hp1 sB hps1 hP1 hD1 => ?_⟩
      · have e1 : ((n : Int) - (markN n r : Int)) = ((n - markN n r : Nat) : Int) := by omega
        have e2 : ((r : Int) - 1) = ((r - 1 : Nat) : Int) := by omega
        rw [Int.natCast_add, ← e1, ← e2] <;> rfl
      have l1 := from_len j (a + markN n r) (n - markN n r) (r - 1) (by omega) (by omega) (by omega) (by omega)
      have l2 := from_len j a (markN n r - 1) r (by omega) h1 h2 (by omega)
      have lp1 := len_of hps1
      refine ⟨l, p1, _, _, rfl, rfl, sB _ _ upd_same, hP1, sz5 (by rw [refs_len, lp1]; show 2 + _ ≤ 100000; omega), fun g qg => ?_⟩
      have sC := (sA.trans sB).trans (Same.new (o := .lst ([.ref t1, .ref t2] ++ refs ps1)) qg)
      have D0 : DS (upd H1 g (.lst ([.ref t1, .ref t2] ++ refs ps1))) ([(t1, .go (markN n r)), (t2, .keep)] ++ ps1) := by
        refine DS.append (fun x hx => ?_) (hD1.same (Same.new qg))
        simp only [List.mem_cons, List.not_mem_nil, or_false] at hx
        rcases hx with rfl | rfl
        · exact (Same.new qg) _ _ (sB _ _ (by rw [upd_ne n1l, upd_ne n12]; exact upd_same))
        · exact (Same.new qg) _ _ (sB _ _ (by rw [upd_ne n2l]; exact upd_same))
      -- found.extend(..)
      refine ⟨_, rfl, .inl ⟨rfl, _, SqL.of upd_same⟩, ?_⟩
      refine ⟨_, rfl, _, rfl, _, _, rfl, rfl, by show 2 ≤ sizeLine; decide, fun t3 q3 => ?_⟩
      refine ⟨_, rfl, by show 2 ≤ sizeLine; decide, fun t4 q4 => ?_⟩
      refine ⟨by show 2 ≤ sizeLine; decide, fun l' ql' => ?_⟩
      have g3 : g ≠ t3 := ne_of_none upd_same q3
      have g4 : g ≠ t4 := ne_of_none (o := .lst ([.ref t1, .ref t2] ++ refs ps1)) (by rw [upd_ne g3]; exact upd_same) q4
      have gl : g ≠ l' := ne_of_none (o := .lst ([.ref t1, .ref t2] ++ refs ps1)) (by rw [upd_ne g4, upd_ne g3]; exact upd_same) ql'
      have n34 : t3 ≠ t4 := ne_of_none upd_same q4
      have n3l : t3 ≠ l' := ne_of_none (o := .tup [.str "drop", .int ((a : Int) + (markN n r : Int))]) (by rw [upd_ne n34]; exact upd_same) ql'
      have n4l : t4 ≠ l' := ne_of_none upd_same ql'
      refine ⟨g, l', _, _, rfl, rfl, by rw [upd_ne gl, upd_ne g4, upd_ne g3]; exact upd_same, upd_same, sz5 (by rw [List.length_append, refs_len, lp1]; show 2 + _ + 2 ≤ 100000; omega), ?_⟩
      have sD := ((Same.new (o := .tup [.str "drop", .int ((a : Int) + (markN n r : Int))]) q3).trans (Same.new (o := .tup [.str "take", .int (a : Int)]) q4)).trans (Same.new (o := .lst [.ref t3, .ref t4]) ql')
      have hg0 : H' g = none := sA.free (sB.free qg)
      have D1 := D0.same sD
      have D2 : ∀ zs, DS (upd (upd (upd (upd (upd H1 g (.lst ([.ref t1, .ref t2] ++ refs ps1))) t3 (.tup [.str "drop", .int ((a : Int) + (markN n r : Int))])) t4 (.tup [.str "take", .int (a : Int)])) l' (.lst [.ref t3, .ref t4])) g (.lst zs)) (([(t1, .go (markN n r)), (t2, .keep)] ++ ps1) ++ [(t3, .drop (a + markN n r)), (t4, .take a)]) := fun zs => by
        intro x hx
        rcases List.mem_append.mp hx with z | z
        · have nq : x.1 ≠ g := by
            intro e
            have w1 := D0 x z
            rw [e, upd_same] at w1
            cases w1
          rw [upd_ne nq]
          exact D1 x z
        · simp only [List.mem_cons, List.not_mem_nil, or_false] at z
          rcases z with rfl | rfl
          · show upd _ g _ t3 = some (.tup [.str "drop", .int ((a + markN n r : Nat) : Int)])
            rw [upd_ne g3.symm, upd_ne n3l, upd_ne n34, upd_same, Int.natCast_add]
          · show upd _ g _ t4 = some (.tup [.str "take", .int (a : Int)])
            rw [upd_ne g4.symm, upd_ne n4l, upd_same]
      -- found + from_mark(..)
      refine ⟨_, rfl, _, rfl, _, rfl, _, _, rfl, rfl, _, rfl, a, markN n r - 1, r, ?_, by omega, by omega, h1, h2, fun p2 H2 ps2 hp2 sE hps2 hP2 hD2 => ?_⟩
      · have e1 : ((markN n r : Int) - 1) = ((markN n r - 1 : Nat) : Int) := by omega
        rw [← e1] <;> rfl
      have lp2 := len_of hps2
      refine ⟨g, p2, _, _, rfl, rfl, sE _ _ upd_same, hP2, sz5 (by rw [List.length_append, List.length_append, refs_len, lp1, refs_len, lp2]; show 2 + _ + 2 + _ ≤ 100000; omega), fun e qe => ?_⟩
      have sF := Same.mut (sC.trans sD) (o := .lst (([.ref t1, .ref t2] ++ refs ps1) ++ [.ref t3, .ref t4])) hg0
      have sG := (sF.trans sE).trans (Same.new (o := .lst ((([.ref t1, .ref t2] ++ refs ps1) ++ [.ref t3, .ref t4]) ++ refs ps2)) qe)
      refine k e _ ((([(t1, .go (markN n r)), (t2, .keep)] ++ ps1) ++ [(t3, .drop (a + markN n r)), (t4, .take a)]) ++ ps2) ((sF.trans sE).free qe) sG ?_ ?_ ?_
      · rw [ek, List.map_append, List.map_append, List.map_append, hps1, hps2] <;> rfl
      · rw [upd_same, refs_append, refs_append, refs_append] <;> rfl
      · exact (((D2 _).same sE).same (Same.new qe)).append (hD2.same (Same.new qe))
theorem ok_from_mark (T : Txt K mg) : OkF P w K mg base "from_mark" 105 ["start", "steps", "room"] (sp_from_mark 101) := by
  obtain ⟨f, fd, hm, F, hb⟩ := T.d_from_mark
  exact ⟨f, fd, hm, F.kp, hb, ok_from_mark_at T hm F hb 101⟩
-- @@ plan
def sp_plan (K : PySem.W.Frag) (C : Addr) : Sp := fun vs H Q E => (∃ s r : Nat, vs = [.int (s : Int), .int (r : Int)] ∧ s ≤ 100 ∧ 1 ≤ r ∧ r ≤ 12 ∧ RetD H (planN s r) Q) ∨
  (∃ (x y : V) (o1 o2 : Option Int), vs = [x, y] ∧ Thg K H x o1 ∧ Thg K H y o2 ∧ goodC o1 o2 = false ∧ E (.ref C) none H)
theorem ok_plan (T : Txt K mg) : OkF P w K mg base "plan" 106 ["steps", "room"] (sp_plan K T.aBadCount) := by
  obtain ⟨f_need_counts, fd_need_counts, m_need_counts, k_need_counts, b_need_counts, G_need_counts⟩ := ok_need_counts (P := P) (w := w) (base := base) T
  obtain ⟨f_from_mark, fd_from_mark, m_from_mark, k_from_mark, b_from_mark, G_from_mark⟩ := ok_from_mark (P := P) (w := w) (base := base) T
  refine okf T.d_plan sc_plan (fun vs H Q E h => ?_) (fun f cdv A outer s H vs Q E hr h => ?_)
  · rcases h with ⟨s', r, rfl, h1, h2, h3, k⟩ | ⟨x, y, o1, o2, rfl, t1, t2, g, k⟩ <;> rfl
  · skip
    refine ⟨_, (pss_cons (ps_expr (pe_call G_need_counts (hr.mono (by decide)) (by rfl) m_need_counts k_need_counts b_need_counts .nil (passes_call (W := fun cls d _ H => E cls d H) (takes_of rfl rfl rfl rfl) (fun _ _ _ _ h => h)) (pa_cons (pv 0) (pa_cons (pv 1) pa_nil))))
        (pss_cons (ps_if (pt_cmpR op_eq (pv 0) pe_int (nomark _))
        (pss_one (ps_ret (pe_lst (pa_cons (pe_tup (pa_cons pe_str pa_nil)) pa_nil))))
        pss_nil)
        (pss_one (ps_ret (pe_op op_cat (pe_lst (pa_cons (pe_tup (pa_cons pe_str pa_nil)) pa_nil)) (pe_call G_from_mark (hr.mono (by decide)) (by rfl) m_from_mark k_from_mark b_from_mark .nil passL (pa_cons pe_int (pa_cons (pv 0) (pa_cons (pv 1) pa_nil))))))))), ?_⟩
    rcases h with ⟨n, r, rfl, h1, h2, h3, k⟩ | ⟨x, y, o1, o2, rfl, t1, t2, g, k⟩
    case inr => exact ⟨_, rfl, _, rfl, x, y, o1, o2, rfl, t1, t2, fun z => absurd g (by rw [z]; decide), fun _ => k⟩
    refine ⟨_, rfl, _, rfl, _, _, _, _, rfl, .int _, .int _, fun _ => ?_, fun z => absurd (good_ok h1 h2 h3) (by rw [z]; decide)⟩
    refine ⟨_, rfl, rfl, _, rfl, ?_⟩
    unfold planN at k
    refine ite2 (fun c => ?_) (fun c => ?_)
    · have c' : n = 0 := by
        have := V.int.inj (of_decide_eq_true c)
        omega
      rw [if_pos c'] at k
      refine ⟨by show 1 ≤ sizeLine; decide, fun t ht => ?_⟩
      refine ⟨by show 1 ≤ sizeLine; decide, fun l hl => ?_⟩
      refine k l _ [(t, .meet)] ((Same.new ht).free hl) ((Same.new ht).trans (Same.new hl)) rfl upd_same fun x hx => ?_
      rw [List.mem_singleton.mp hx]
      exact (Same.new hl) _ _ upd_same
    · have c' : ¬ n = 0 := fun z => c (decide_eq_true (by rw [z] <;> rfl))
      rw [if_neg c'] at k
      refine ⟨by show 1 ≤ sizeLine; decide, fun t ht => ?_⟩
      refine ⟨by show 1 ≤ sizeLine; decide, fun l hl => ?_⟩
      refine ⟨_, rfl, _, rfl, 0, n, r, rfl, by omega, h1, h2, h3, fun p H1 ps hp s1 hps hP hD => ?_⟩
      have lf := from_len 101 0 n r (by omega) h2 h3 h1
      refine ⟨l, p, _, _, rfl, rfl, s1 _ _ upd_same, hP, sz5 (by rw [refs_len, len_of hps]; show 1 + _ ≤ 100000; omega), fun e he => ?_⟩
      have sA := ((Same.new (o := .tup [.str "keep"]) ht).trans (Same.new (o := .lst [.ref t]) hl)).trans s1
      refine k e _ ([(t, .keep)] ++ ps) (sA.free he) (sA.trans (Same.new he)) (by rw [List.map_append, hps] <;> rfl) (by rw [upd_same, refs_append] <;> rfl) ?_
      refine DS.append (fun x hx => ?_) (hD.same (Same.new he))
      rw [List.mem_singleton.mp hx]
      exact (Same.new he) _ _ (s1 _ _ ((Same.new hl) _ _ upd_same))
-- @@ cost_of
def sp_cost_of (K : PySem.W.Frag) : Sp := fun vs H Q _ => ∃ (p : Addr) (ps : List (Addr × Deed)), vs = [.ref p] ∧ SqL K H p (refs ps) ∧ DS H ps ∧ ps.length ≤ 10000 ∧ ∀ H', Same H H' → Q (.int (costD (ps.map (·.2)) : Int)) H'
theorem ok_cost_of (T : Txt K mg) : OkF P w K mg base "cost_of" 1 ["deeds"] (sp_cost_of K) := by
  refine okf T.d_cost_of sc_cost_of (fun vs H Q E h => ?_) (fun f cdv A outer s H vs Q E hr h => ?_)
  · obtain ⟨p, ps, rfl, hP, hD, hl, k⟩ := h
    rfl
  · obtain ⟨p, ps, rfl, hP, hD, hl, k⟩ := h
    refine ⟨_, (pss_one (ps_ret (pe_callB (cr_sum rfl) (by rfl) T.n_sum (by decide +kernel) (pa_cons (pe_lc (own := [("deed", 1)]) rfl sc_cost_of.nd (pi_list (pv 0)) (blkOk_by (own := [("deed", 1)]) (N := ["deeds", "deed"]) (sc := defScope s_cost_of) (by decide +kernel)) (fun _ _ _ _ _ => (pg_name (i := 1) sc_cost_of.nd rfl (Or.inl rfl))) (fun _ _ _ _ _ => (pts_one (pt_cmpR op_eq (pe_ix (r := rIxT K) ix_tup (pv 1) pe_int (fun _ _ => rfl)) pe_str (nomark _)))) (fun _ _ _ _ _ => (pe_ix (r := rIxT K) ix_tup (pv 1) pe_int (fun _ _ => rfl)))) pa_nil)))), ?_⟩
    refine ⟨_, rfl, p, rfl, ⟨_, hP⟩, fun D hD' => ?_⟩
    refine lc_list (K := K) (a := p) (xs := refs ps) (fun i H' => Same H H' ∧ H' D = some (.lst ((goes ((ps.take i).map (·.2))).map V.int))) ⟨Same.new hD', upd_same⟩ (fun i H' _ ⟨s1, _⟩ => s1.seq hP) ?_ ?_
    · rintro i y H' hi ⟨s1, hQ⟩
      obtain ⟨q, hq, rfl⟩ := get_map hi
      have hq' := hD q (List.mem_of_getElem? hq)
      have lt : ((goes ((ps.take i).map (·.2))).map V.int).length < sizeLine := sz5' (by
        rw [List.length_map]
        have := goes_len ((ps.take i).map (·.2))
        rw [List.length_map, List.length_take] at this
        omega)
      refine ⟨rfl, ?_⟩
      refine ⟨_, rfl, q.1, q.2.vs, _, _, rfl, rfl, SqT.of (s1 _ _ hq'), q.2.at0, rfl, _, rfl, ?_⟩
      have key : goes ((ps.take (i + 1)).map (·.2)) = goes ((ps.take i).map (·.2)) ++ (match q.2 with | .go n => [(n : Int)] | _ => []) := by
        rw [take_succ hq, List.map_append]
        exact goes_snoc _ _
      cases ed : q.2 with
      | go n =>
        refine iteT ?_
        rw [ed] at hq'
        refine ⟨_, rfl, q.1, (Deed.go n).vs, _, .int (n : Int), rfl, rfl, SqT.of (s1 _ _ hq'), rfl, _, hQ, lt, Same.mut s1 hD', ?_⟩
        rw [upd_same, key, ed, List.map_append] <;> rfl
      | keep =>
        rw [show decide (V.str Deed.keep.word = V.str "go") = false by decide +kernel]
        refine iteF ⟨s1, ?_⟩
        rw [hQ, key, ed, List.append_nil]
      | meet =>
        rw [show decide (V.str Deed.meet.word = V.str "go") = false by decide +kernel]
        refine iteF ⟨s1, ?_⟩
        rw [hQ, key, ed, List.append_nil]
      | take m =>
        rw [show decide (V.str (Deed.take m).word = V.str "go") = false from (by decide +kernel : decide (V.str "take" = V.str "go") = false)]
        refine iteF ⟨s1, ?_⟩
        rw [hQ, key, ed, List.append_nil]
      | drop m =>
        rw [show decide (V.str (Deed.drop m).word = V.str "go") = false from (by decide +kernel : decide (V.str "drop" = V.str "go") = false)]
        refine iteF ⟨s1, ?_⟩
        rw [hQ, key, ed, List.append_nil]
    · rintro H' ⟨s1, hQ⟩
      rw [refs_len, List.take_length] at hQ
      refine ⟨D, _, rfl, SqL.of hQ, ?_⟩
      rw [goes_sum]
      exact k _ s1
-- @@ _law_cell_at
/-- _law_cell_at(script, k): the k-th number, or 0 -/
def cellAt (ns : List Int) (k : Nat) : Int := ns.getD k 0
def sp_l_cell_at (K : PySem.W.Frag) : Sp := fun vs H Q _ => ∃ (a : Addr) (ns : List Int) (j : Nat), vs = [.ref a, .int (j : Int)] ∧ SqL K H a (ns.map V.int) ∧ Q (.int (cellAt ns j)) H
theorem ok_l_cell_at (T : Txt K mg) : OkF P w K mg base "_law_cell_at" 1 ["_law_script", "_law_k"] (sp_l_cell_at K) := by
  refine okf T.d_l_cell_at sc_l_cell_at (fun vs H Q E h => ?_) (fun f cdv A outer s H vs Q E hr h => ?_)
  · obtain ⟨a, ns, j, rfl, hS, k⟩ := h
    rfl
  · obtain ⟨a, ns, j, rfl, hS, k⟩ := h
    refine ⟨_, (pss_cons (ps_if (pt_cmpR op_lt (pv 1) (pe_callB call_len_seq (by rfl) T.n_len PySem.boot_len (pa_cons (pv 0) pa_nil)) (nomark _))
        (pss_one (ps_ret (pe_ix ix_list (pv 0) (pv 1) (fun _ _ => rfl))))
        pss_nil)
        (pss_one (ps_ret pe_int))), ?_⟩
    refine ⟨_, rfl, _, rfl, a, _, rfl, .inl hS, _, _, rfl, rfl, _, rfl, ?_⟩
    refine ite2 (fun c => ?_) (fun c => ?_)
    · have c' := of_decide_eq_true c
      rw [List.length_map] at c'
      have hj : j < ns.length := by omega
      refine ⟨_, rfl, _, rfl, a, _, _, .int (cellAt ns j), rfl, rfl, hS, ?_, k⟩
      refine at_map rfl ?_
      unfold cellAt
      rw [List.getElem?_eq_getElem hj, List.getD_eq_getElem?_getD, List.getElem?_eq_getElem hj] <;> rfl
    · have c' : ¬ ((j : Int) < ((ns.map V.int).length : Int)) := fun z => c (decide_eq_true z)
      rw [List.length_map] at c'
      have e : cellAt ns j = 0 := by
        unfold cellAt
        rw [List.getD_eq_getElem?_getD, List.getElem?_eq_none (by omega)] <;> rfl
      rw [e] at k
      exact k

-- @@ _law_onward
/-- on the way: the nodes found so far -/
def OnP (H : Hp) (a b : Addr) (n : Node) (s r : Nat) (q : Addr) (ns : List Node) (σ : L2.St) (H1 : Hp) : Prop := ∃ (ps : List (Node × Addr)) (u v : Option V),
  σ = [some (.ref a), some (.int (s : Int)), some (.int (r : Int)), some (.int (n.pl : Int)), some (.ref b), some (.int n.wa), some (.ref q), u, v] ∧ Same H H1 ∧ H1 q = some (.lst (nrefs ps)) ∧ NS H1 ps ∧ ps.map (·.1) = ns
def sp_l_onward : Sp := fun vs H Q _ => ∃ (a : Addr) (n : Node) (s r : Nat), vs = [.ref a, .int (s : Int), .int (r : Int)] ∧ NodeAt H a n ∧ n.ms.length ≤ 8 ∧
  ∀ (p : Addr) (H' : Hp) (ps : List (Node × Addr)), H p = none → Same H H' → ps.map (·.1) = onward n r → H' p = some (.lst (nrefs ps)) → NS H' ps → Q (.ref p) H'
theorem ok_l_onward (T : Txt K mg) : OkF P w K mg base "_law_onward" 1 ["_law_node", "_law_steps", "_law_room"] (sp_l_onward) := by
  refine okf T.d_l_onward sc_l_onward (fun vs H Q E h => ?_) (fun f cdv A outer s H vs Q E hr h => ?_)
  · obtain ⟨a, n, s', r, rfl, hn, hl, k⟩ := h
    rfl
  · obtain ⟨a, n, s', r, rfl, hn, hl, k⟩ := h
    refine ⟨_, (pss_cons (ps_asg (pv 0) (pg_tup rfl (pgs_cons (pg_name (i := 3) sc_l_onward.nd rfl (Or.inl rfl)) (pgs_cons (pg_name (i := 4) sc_l_onward.nd rfl (Or.inl rfl)) (pgs_cons (pg_name (i := 5) sc_l_onward.nd rfl (Or.inl rfl)) pgs_nil)))))
        (pss_cons (ps_set (i := 6) sc_l_onward.nd rfl (Or.inl rfl) (pe_lst pa_nil))
        (Evl.pss_cut (ps_if (pt_cmpR op_eq (pv 3) (pv 5) (nomark _))
        (pss_one (ps_expr (pe_bm PySem.F.plainAttrs_list PySem.F.slot_list_append PySem.F.type_list_append mt_append (pv 6) (pa_cons (pe_tup (pa_cons (pv 3) (pa_cons (pv 4) (pa_cons (pe_op op_sub (pv 5) pe_int) pa_nil)))) pa_nil))))
        pss_nil)
        (Evl.pss_cut (ps_if (PW.pt (pw_and (pt_cmpR op_notIn_seq (pv 3) (pv 4) (by rfl)) (pw_and1 (pt_cmpR op_lt (pe_callB call_len_seq (by rfl) T.n_len PySem.boot_len (pa_cons (pv 4) pa_nil)) (pv 2) (nomark _)))))
        (pss_one (ps_expr (pe_bm PySem.F.plainAttrs_list PySem.F.slot_list_append PySem.F.type_list_append mt_append (pv 6) (pa_cons (pe_tup (pa_cons (pv 3) (pa_cons (pe_callTy (T := "tuple") call_tuple_of (by rfl) T.n_tuple (by decide +kernel) (pa_cons (pe_callB cr_sortedTup (by rfl) T.n_sorted (by decide +kernel) (pa_cons (pe_op op_catA (pv 4) (pe_tup (pa_cons (pv 3) pa_nil))) pa_nil)) pa_nil)) (pa_cons (pv 5) pa_nil)))) pa_nil))))
        pss_nil)
        (Evl.pss_cut (ps_for (passes_of rfl) rfl (pi_tup (pv 4)) (pg_name (i := 7) sc_l_onward.nd rfl (Or.inr rfl))
        (pss_cons (ps_expr (pe_bm PySem.F.plainAttrs_list PySem.F.slot_list_append PySem.F.type_list_append mt_append (pv 6) (pa_cons (pe_tup (pa_cons (pv 7) (pa_cons (pv 4) (pa_cons (pv 5) pa_nil)))) pa_nil)))
        (pss_one (ps_expr (pe_bm PySem.F.plainAttrs_list PySem.F.slot_list_append PySem.F.type_list_append mt_append (pv 6) (pa_cons (pe_tup (pa_cons (pv 3) (pa_cons (pe_callTy (T := "tuple") call_tuple_of (by rfl) T.n_tuple (by decide +kernel) (pa_cons (pe_lc (own := [("_law_other", 8)]) rfl sc_l_onward.nd (pi_tup (pv 4)) (blkOk_by (own := [("_law_other", 8)]) (N := ["_law_node", "_law_steps", "_law_room", "_law_place", "_law_marks", "_law_wanted", "_law_found", "_law_mark", "_law_other"]) (sc := defScope s_l_onward) (by decide +kernel)) (fun _ _ _ _ _ => (pg_name (i := 8) sc_l_onward.nd rfl (Or.inl rfl))) (fun _ _ _ _ _ => (pts_one (pt_cmpR op_ne (pv 8) (pv 7) (nomark _)))) (fun _ _ _ _ _ => (pv 8))) pa_nil)) (pa_cons (pv 5) pa_nil)))) pa_nil))))))
        (pss_one (ps_ret (pv 6)))))))), ?_⟩
    obtain ⟨b, ha, hb⟩ := id hn
    refine ⟨_, rfl, a, _, rfl, SqT.of ha, rfl, _, _, rfl, _, _, rfl, _, _, rfl, rfl, ?_⟩
    refine ⟨by show 0 ≤ sizeLine; decide, fun q hq => ?_⟩
    -- if place == wanted
    refine ⟨OnP H a b n s' r q n.met, ?_, ?_⟩
    · refine ⟨_, rfl, _, rfl, rfl, _, rfl, ?_⟩
      refine ite2 (fun c => ?_) (fun c => ?_)
      · have c' : (n.pl : Int) = n.wa := V.int.inj (of_decide_eq_true c)
        refine ⟨_, rfl, .inl ⟨rfl, _, SqL.of upd_same⟩, ?_⟩
        refine ⟨_, rfl, _, rfl, _, rfl, _, _, rfl, rfl, by show 3 ≤ sizeLine; decide, fun t ht => ?_⟩
        have nq : q ≠ t := ne_of_none upd_same ht
        refine ⟨q, _, _, rfl, rfl, by rw [upd_ne nq]; exact upd_same, by show 0 < sizeLine; decide, ?_⟩
        obtain ⟨g1, g2, g3⟩ := grow (ps := []) (m := ⟨n.pl, n.ms, n.wa - 1⟩) hq (Same.new hq) upd_same (fun z hz => nomatch hz) (Same.new ht) (NodeAt.new ((Same.new hq) _ _ hb) ht)
        refine ⟨_, none, none, rfl, g1, g2, g3, ?_⟩
        unfold Node.met
        rw [if_pos c'] <;> rfl
      · have c' : ¬ (n.pl : Int) = n.wa := fun z => c (decide_eq_true (by rw [z]))
        refine ⟨[], none, none, rfl, Same.new hq, upd_same, (fun z hz => nomatch hz), ?_⟩
        unfold Node.met
        rw [if_neg c'] <;> rfl
    rintro σ H1 ⟨ps1, u1, v1, rfl, s1, hQ1, hN1, hps1⟩
    have l1 : ps1.length ≤ 1 := by rw [nlen hps1]; exact n.met_len
    -- if place not in marks and len(marks) < room
    refine ⟨OnP H a b n s' r q (n.met ++ n.kept r), ?_, ?_⟩
    · have no : ¬ (n.pl ∉ n.ms ∧ n.ms.length < r) → OnP H a b n s' r q (n.met ++ n.kept r) [some (.ref a), some (.int (s' : Int)), some (.int (r : Int)), some (.int (n.pl : Int)), some (.ref b), some (.int n.wa), some (.ref q), u1, v1] H1 := fun z => by
        refine ⟨ps1, u1, v1, rfl, s1, hQ1, hN1, ?_⟩
        unfold Node.kept
        rw [if_neg z, List.append_nil]
        exact hps1
      refine ⟨_, rfl, _, rfl, b, iv9 n.ms, rfl, .inr (SqT.of (s1 _ _ hb)), rfl, flat_iv9 _, _, rfl, ?_⟩
      rw [in_iv9]
      refine ite2 (fun c => ?_) (fun c => ?_)
      · have c1 : n.pl ∉ n.ms := by simpa using c
        refine ⟨_, rfl, b, iv9 n.ms, rfl, .inr (SqT.of (s1 _ _ hb)), _, rfl, _, _, rfl, rfl, _, rfl, ?_⟩
        have eL : (iv9 n.ms).length = n.ms.length := List.length_map ..
        rw [eL]
        refine ite2 (fun c => ?_) (fun c => ?_)
        · have c2 : n.ms.length < r := by
            have := of_decide_eq_true c
            omega
          refine ⟨_, rfl, .inl ⟨rfl, _, SqL.of hQ1⟩, ?_⟩
          refine ⟨_, rfl, _, rfl, _, rfl, by show 1 ≤ sizeLine; decide, fun t1 h1 => ?_⟩
          refine ⟨b, t1, iv9 n.ms, _, rfl, rfl, SqT.of ((s1.trans (Same.new h1)) _ _ hb), SqT.of upd_same, sz5 (by rw [eL]; show _ + 1 ≤ 100000; omega), fun hx => ?_, fun _ z => (nomatch z), fun hx _ t2 h2 => ?_⟩
          · have ms0 : n.ms = [] := List.map_eq_nil_iff.mp hx
            have hu : upd H1 t1 (.tup [.int (n.pl : Int)]) t1 = some (.tup (iv9 (n.ms ++ [n.pl]))) := by rw [ms0]; exact upd_same
            have sm : Same H1 (upd H1 t1 (.tup [.int (n.pl : Int)])) := Same.new h1
            refine ⟨t1, (n.ms ++ [n.pl]).map (fun (m : Nat) => (m : Int)), rfl, by rw [← iv9_int]; exact SqT.of hu, by rw [List.length_map, List.length_append]; show _ + 1 < 64; omega, fun ns' t3 hp hs h3 => ?_⟩
            have e := sortN_is hp hs
            subst e
            refine ⟨t3, _, rfl, .inl ⟨SqL.of upd_same, fun t4 h4 => ?_⟩⟩
            refine ⟨_, rfl, by show 3 ≤ sizeLine; decide, fun t5 h5 => ?_⟩
            have sB := (sm.trans (Same.new (o := .lst (((sortN (n.ms ++ [n.pl])).map fun (m : Nat) => (m : Int)).map V.int)) h3)).trans (Same.new (o := .tup (((sortN (n.ms ++ [n.pl])).map fun (m : Nat) => (m : Int)).map V.int)) h4)
            have sA := sB.trans (Same.new (o := .tup [.int (n.pl : Int), .ref t4, .int n.wa]) h5)
            refine ⟨q, _, _, rfl, rfl, sA _ _ hQ1, sz5' (by rw [nrefs_len]; omega), ?_⟩
            obtain ⟨g1, g2, g3⟩ := grow (m := ⟨n.pl, sortN (n.ms ++ [n.pl]), n.wa⟩) hq s1 hQ1 hN1 sA (NodeAt.new (by rw [iv9_int (sortN (n.ms ++ [n.pl]))]; exact upd_same) h5)
            refine ⟨_, u1, v1, rfl, g1, g2, g3, ?_⟩
            rw [List.map_append, hps1]
            unfold Node.kept
            rw [if_pos ⟨c1, c2⟩] <;> rfl
          · have hu : upd (upd H1 t1 (.tup [.int (n.pl : Int)])) t2 (.tup (iv9 n.ms ++ [.int (n.pl : Int)])) t2 = some (.tup (iv9 (n.ms ++ [n.pl]))) := by
              rw [upd_same]
              unfold iv9
              rw [List.map_append] <;> rfl
            have sm : Same H1 (upd (upd H1 t1 (.tup [.int (n.pl : Int)])) t2 (.tup (iv9 n.ms ++ [.int (n.pl : Int)]))) := (Same.new h1).trans (Same.new h2)
            refine ⟨t2, (n.ms ++ [n.pl]).map (fun (m : Nat) => (m : Int)), rfl, by rw [← iv9_int]; exact SqT.of hu, by rw [List.length_map, List.length_append]; show _ + 1 < 64; omega, fun ns' t3 hp hs h3 => ?_⟩
            have e := sortN_is hp hs
            subst e
            refine ⟨t3, _, rfl, .inl ⟨SqL.of upd_same, fun t4 h4 => ?_⟩⟩
            refine ⟨_, rfl, by show 3 ≤ sizeLine; decide, fun t5 h5 => ?_⟩
            have sB := (sm.trans (Same.new (o := .lst (((sortN (n.ms ++ [n.pl])).map fun (m : Nat) => (m : Int)).map V.int)) h3)).trans (Same.new (o := .tup (((sortN (n.ms ++ [n.pl])).map fun (m : Nat) => (m : Int)).map V.int)) h4)
            have sA := sB.trans (Same.new (o := .tup [.int (n.pl : Int), .ref t4, .int n.wa]) h5)
            refine ⟨q, _, _, rfl, rfl, sA _ _ hQ1, sz5' (by rw [nrefs_len]; omega), ?_⟩
            obtain ⟨g1, g2, g3⟩ := grow (m := ⟨n.pl, sortN (n.ms ++ [n.pl]), n.wa⟩) hq s1 hQ1 hN1 sA (NodeAt.new (by rw [iv9_int (sortN (n.ms ++ [n.pl]))]; exact upd_same) h5)
            refine ⟨_, u1, v1, rfl, g1, g2, g3, ?_⟩
            rw [List.map_append, hps1]
            unfold Node.kept
            rw [if_pos ⟨c1, c2⟩] <;> rfl
        · exact no fun z => c (decide_eq_true (by omega))
      · exact no fun z => c (by simpa using z.1)
    rintro σ H2 ⟨ps2, u2, v2, rfl, s2, hQ2, hN2, hps2⟩
    have l2 : ps2.length ≤ 2 := by
      rw [nlen hps2, List.length_append]
      have := n.met_len
      have := n.kept_len r
      omega
    refine ⟨OnP H a b n s' r q (onward n r), ?_, ?_⟩
    · refine ⟨_, rfl, b, rfl, ⟨_, SqT.of (s2 _ _ hb)⟩, ?_⟩
      refine for_tup (K := K) (a := b) (xs := iv9 n.ms) (fun i => OnP H a b n s' r q (n.met ++ n.kept r ++ (n.ms.take i).flatMap n.by)) ⟨ps2, u2, v2, rfl, s2, hQ2, hN2, by rw [hps2]; simp⟩
        (fun i σ H' _ ⟨_, _, _, _, sm, _⟩ => SqT.of (sm _ _ hb)) ?_ ?_
      · rintro i y σ H' hi ⟨ps, u, v, rfl, sm, hQ, hN, hps⟩
        obtain ⟨m, hm, rfl⟩ := get_map hi
        have lp : ps.length ≤ 2 + 2 * n.ms.length := by
          rw [nlen hps, List.length_append, List.length_append, by_len, List.length_take]
          have := n.met_len
          have := n.kept_len r
          omega
        refine ⟨_, rfl, .inl ⟨rfl, _, SqL.of hQ⟩, ?_⟩
        refine ⟨_, rfl, _, rfl, _, rfl, by show 3 ≤ sizeLine; decide, fun t1 h1 => ?_⟩
        refine ⟨q, _, _, rfl, rfl, (Same.new h1) _ _ hQ, sz5' (by rw [nrefs_len]; omega), ?_⟩
        obtain ⟨g1, g2, g3⟩ := grow (m := ⟨m, n.ms, n.wa⟩) hq sm hQ hN (Same.new h1) (NodeAt.new (sm _ _ hb) h1)
        generalize (upd (upd H' t1 (.tup [.int (m : Int), .ref b, .int n.wa])) q (.lst (nrefs ps ++ [.ref t1]))) = H4 at g1 g2 g3 ⊢
        refine ⟨_, rfl, .inl ⟨rfl, _, SqL.of g2⟩, ?_⟩
        refine ⟨_, rfl, _, rfl, b, rfl, ⟨_, SqT.of (g1 _ _ hb)⟩, fun D hD => ?_⟩
        refine lc_tup (K := K) (a := b) (xs := iv9 n.ms) (fun i H' => Same H4 H' ∧ H' D = some (.lst (iv9 ((n.ms.take i).filter fun x => decide (x ≠ m))))) ⟨Same.new hD, upd_same⟩ (fun i H' _ ⟨s5, _⟩ => SqT.of (s5 _ _ (g1 _ _ hb))) ?_ ?_
        · rintro j y H5 hj ⟨s5, hD5⟩
          obtain ⟨x, hx, rfl⟩ := get_map hj
          refine ⟨rfl, ?_⟩
          refine ⟨_, rfl, _, rfl, rfl, _, rfl, ?_⟩
          refine ite2 (fun c => ?_) (fun c => ?_)
          · have c' : x ≠ m := fun e => by
              rw [e] at c
              simp at c
            refine ⟨_, rfl, _, hD5, sz5' ?_, Same.mut s5 hD, ?_⟩
            · have q1 := List.length_filter_le (fun x => decide (x ≠ m)) (n.ms.take j)
              have q2 : (n.ms.take j).length ≤ n.ms.length := by rw [List.length_take]; omega
              show (List.map _ _).length < 100000
              rw [List.length_map]
              omega
            · rw [upd_same, take_succ hx, List.filter_append, List.filter_cons_of_pos (by simpa using c')]
              unfold iv9
              rw [List.map_append] <;> rfl
          · have c' : x = m := by
              simp only [Bool.not_eq_true', decide_eq_false_iff_not, Classical.not_not] at c
              have := V.int.inj c
              omega
            refine ⟨s5, ?_⟩
            rw [hD5, take_succ hx, List.filter_append, List.filter_cons_of_neg (by simpa using c'), List.filter_nil, List.append_nil]
        · rintro H5 ⟨s5, hD5⟩
          have eL : (iv9 n.ms).length = n.ms.length := List.length_map ..
          rw [eL, List.take_length] at hD5
          refine ⟨D, _, rfl, .inl ⟨SqL.of hD5, fun t6 h6 => ?_⟩⟩
          refine ⟨_, rfl, by show 3 ≤ sizeLine; decide, fun t7 h7 => ?_⟩
          have s6 := s5.trans (Same.new (o := .tup (iv9 (n.ms.filter fun x => decide (x ≠ m)))) h6)
          have s7 := s6.trans (Same.new (o := .tup [.int (n.pl : Int), .ref t6, .int n.wa]) h7)
          refine ⟨q, _, _, rfl, rfl, s7 _ _ g2, sz5' (by rw [nrefs_len, List.length_append]; show _ + 1 < 100000; omega), ?_⟩
          obtain ⟨k1, k2, k3⟩ := grow (m := ⟨n.pl, n.ms.filter fun x => decide (x ≠ m), n.wa⟩) hq g1 g2 g3 s7 (NodeAt.new upd_same h7)
          refine ⟨_, _, _, rfl, k1, k2, k3, ?_⟩
          rw [List.map_append, List.map_append, hps, take_succ hm, List.flatMap_append]
          simp only [List.append_assoc]
          rfl
      · rintro σ H' ⟨ps, u, v, rfl, sm, hQ, hN, hps⟩
        have eL : (iv9 n.ms).length = n.ms.length := List.length_map ..
        rw [eL, List.take_length] at hps
        exact ⟨ps, u, v, rfl, sm, hQ, hN, hps⟩
    rintro σ H' ⟨ps, u, v, rfl, sm, hQ, hN, hps⟩
    exact ⟨_, rfl, k q H' ps hq sm hps hQ hN⟩
-- @@ _law_fewest
/-- in the inner loop -/
def FewP (P : Program) (w : World) (s r m f : Nat) (st later : List Node) (σ : L2.St) (H : Hp) : Prop := ∃ (aw al d : Addr) (ws ls xs : List (Node × Addr)) (price : Nat) (u : Option V),
  σ = [some (.int (s : Int)), some (.int (r : Int)), some (.ref aw), some (.ref d), some (.int (price : Int)), some (.ref al), u] ∧ Wd P w aw al d ws ls xs H ∧ ws.map (·.1) = st.reverse ∧ ls.map (·.1) = later ∧
  Bd f st later xs.length ∧ fewest s r f st later (xs.map (·.1)) price = some m
/-- at the outer loop's head -/
def FewO (P : Program) (w : World) (s r m f : Nat) (σ : L2.St) (H : Hp) : Prop := ∃ (aw d : Addr) (ws xs : List (Node × Addr)) (st : List Node) (price : Nat) (u v : Option V),
  σ = [some (.int (s : Int)), some (.int (r : Int)), some (.ref aw), some (.ref d), some (.int (price : Int)), u, v] ∧ H aw = some (.lst (nrefs ws)) ∧ H d = some (seenO P w d xs) ∧ NS H ws ∧ NS H xs ∧
  ws.map (·.1) = st.reverse ∧ Bd f st [] xs.length ∧ fewest s r f st [] (xs.map (·.1)) price = some m
def sp_l_fewest : Sp := fun vs H Q _ => ∃ (s r m : Nat), vs = [.int (s : Int), .int (r : Int)] ∧ r ≤ 3 ∧ fewN s r = some m ∧ ∀ H', Q (.int (m : Int)) H'
theorem ok_l_fewest (T : Txt K mg) : OkF P w K mg base "_law_fewest" 2 ["_law_steps", "_law_room"] (sp_l_fewest) := by
  obtain ⟨f_l_onward, fd_l_onward, m_l_onward, k_l_onward, b_l_onward, G_l_onward⟩ := ok_l_onward (P := P) (w := w) (base := base) T
  refine okf T.d_l_fewest sc_l_fewest (fun vs H Q E h => ?_) (fun f cdv A outer s H vs Q E hr h => ?_)
  · obtain ⟨s', r, m, rfl, hr3, hm, k⟩ := h
    rfl
  · obtain ⟨s', r, m, rfl, hr3, hm, k⟩ := h
    refine ⟨_, (pss_cons (ps_set (i := 2) sc_l_fewest.nd rfl (Or.inl rfl) (pe_lst (pa_cons (pe_tup (pa_cons pe_int (pa_cons (pe_tup pa_nil) (pa_cons (pv 0) pa_nil)))) pa_nil)))
        (pss_cons (ps_set (i := 3) sc_l_fewest.nd rfl (Or.inl rfl) pe_dnewS)
        (pss_cons (ps_set (i := 4) sc_l_fewest.nd rfl (Or.inl rfl) pe_int)
        (Evl.pss_cut (ps_while (passes_of rfl) (pt_cmpR (op_neD hr.units) (pv 2) (pe_lst pa_nil) (nomark _))
        (pss_cons (ps_set (i := 5) sc_l_fewest.nd rfl (Or.inl rfl) (pe_lst pa_nil))
        (Evl.pss_cut (ps_while (passes_of rfl) (pt_cmpR (op_neD hr.units) (pv 2) (pe_lst pa_nil) (nomark _))
        (pss_cons (ps_set (i := 6) sc_l_fewest.nd rfl (Or.inl rfl) (pe_bm0 PySem.F.plainAttrs_list PySem.F.slot_list_pop PySem.F.type_list_pop mt_pop (pv 2)))
        (Evl.pss_cut (ps_if (pt_cmpR op_lt (pe_ix ix_tup (pv 6) pe_int (fun _ _ => rfl)) pe_int (nomark _))
        (pss_one (ps_ret (pv 4)))
        pss_nil)
        (pss_one (ps_if (pt_cmp (pc_seenNot hr.units (pv 6) (pv 3)))
        (pss_cons (ps_seenPut hr.units (pv 3) (pv 6) pe_bl rfl)
        (pss_cons (ps_expr (pe_bm PySem.F.plainAttrs_list PySem.F.slot_list_extend PySem.F.type_list_extend mt_extend (pv 2) (pa_cons (pe_call G_l_onward (hr.mono (by decide)) (by rfl) m_l_onward k_l_onward b_l_onward .nil passL (pa_cons (pv 6) (pa_cons (pv 0) (pa_cons (pv 1) pa_nil)))) pa_nil)))
        (pss_one (ps_if (pt_cmpR op_lt (pe_ix ix_tup (pv 6) pe_int (fun _ _ => rfl)) (pv 0) (nomark _))
        (pss_one (ps_expr (pe_bm PySem.F.plainAttrs_list PySem.F.slot_list_append PySem.F.type_list_append mt_append (pv 5) (pa_cons (pe_tup (pa_cons (pe_op op_add (pe_ix ix_tup (pv 6) pe_int (fun _ _ => rfl)) pe_int) (pa_cons (pe_ix ix_tup (pv 6) pe_int (fun _ _ => rfl)) (pa_cons (pe_ix ix_tup (pv 6) pe_int (fun _ _ => rfl)) pa_nil)))) pa_nil))))
        pss_nil))))
        pss_nil)))))
        (pss_cons (ps_set (i := 2) sc_l_fewest.nd rfl (Or.inl rfl) (pv 5))
        (pss_one (ps_set (i := 4) sc_l_fewest.nd rfl (Or.inl rfl) (pe_op op_add (pv 4) pe_int)))))))
        (pss_one (ps_ret pe_non)))))), ?_⟩
    refine ⟨by show 0 ≤ sizeLine; decide, fun t0 h0 => ?_⟩
    refine ⟨_, rfl, by show 3 ≤ sizeLine; decide, fun t1 h1 => ?_⟩
    refine ⟨by show 1 ≤ sizeLine; decide, fun aw haw => ?_⟩
    intro d hd
    have n0 : NodeAt (upd (upd H t0 (.tup [])) t1 (.tup [.int 0, .ref t0, .int (s' : Int)])) t1 ⟨0, [], (s' : Int)⟩ := ⟨t0, upd_same, (Same.new h1) _ _ upd_same⟩
    have w0 : nrefs [((⟨0, [], (s' : Int)⟩ : Node), t1)] = [V.ref t1] := rfl
    refine ⟨fun _ _ => False, ?_, fun _ _ z => z.elim⟩
    refine ⟨fun f σ H' => FewO P w s' r m f σ H', ⟨1100, aw, d, [(⟨0, [], (s' : Int)⟩, t1)], [], started s', 0, none, none, rfl, (Same.new hd) _ _ upd_same, upd_same, ?_, (fun z hz => nomatch hz), rfl, ?_, hm⟩, ?_⟩
    · intro z hz
      rw [List.mem_singleton.mp hz]
      exact (n0.same (Same.new haw)).same (Same.new hd)
    · refine ⟨by show 1 + 8 * 1100 ≤ 10000; omega, by show 0 + 8 * 1100 ≤ 10000; omega, by show 0 + 1100 ≤ 2000; omega, fun x hx => ?_, fun x hx => nomatch hx⟩
      rw [List.mem_singleton.mp hx]
      show 0 ≤ 3
      omega
    rintro f σ H1 ⟨aw, d, ws, xs, st, price, u, v, rfl, hW, hX, nW, nX, eW, bd, hf⟩
    refine ⟨_, rfl, by show 0 ≤ sizeLine; decide, fun p hp => ⟨_, _, (nW.same (Same.new hp)).dp ((Same.new hp) _ _ hW), .lst (SqL.of upd_same) .nil, dat_shaped ws, by decide, _, rfl, ?_⟩⟩
    rw [dat_nil]
    cases st with
    | nil => exact (few_none hf).elim
    | cons n st =>
      have hne : (!ws.isEmpty) = true := by
        obtain ⟨ws', a, rfl, _⟩ := last_of eW
        cases ws' <;> rfl
      rw [hne]
      refine iteT ⟨fun σ' H' => ∃ f', f' < f ∧ FewO P w s' r m f' σ' H', fun σ' H' ⟨f', h1, h2⟩ => ⟨f', h1, h2⟩, ?_⟩
      refine ⟨by show 0 ≤ sizeLine; decide, fun al hal => ?_⟩
      have sA := (Same.new (o := .lst []) hp).trans (Same.new (o := .lst []) hal)
      have nwl : aw ≠ al := ne_of_none ((Same.new (o := .lst []) hp) _ _ hW) hal
      refine ⟨fun σ' H' => ∃ f1 later, f1 ≤ f ∧ FewP P w s' r m f1 [] later σ' H', ?_, ?_⟩
      · refine ⟨fun g σ' H' => g ≤ f ∧ ∃ st later, FewP P w s' r m g st later σ' H', ⟨f, Nat.le_refl f, n :: st, [], aw, al, d, ws, [], xs, price, v, rfl, ⟨nwl, sA _ _ hW, upd_same, sA _ _ hX, nW.same sA, (fun z hz => nomatch hz), nX.same sA⟩, eW, rfl, bd, hf⟩, ?_⟩
        rintro g σ H2 ⟨hg, st, later, aw, al, d, ws, ls, xs, price, u, rfl, W, eW, eL, bd, hf⟩
        refine ⟨_, rfl, by show 0 ≤ sizeLine; decide, fun p hp => ⟨_, _, (W.same (Same.new hp)).2.2.2.2.1.dp (W.same (Same.new hp)).2.1, .lst (SqL.of upd_same) .nil, dat_shaped ws, by decide, _, rfl, ?_⟩⟩
        rw [dat_nil]
        have W1 := W.same (Same.new (o := .lst []) hp)
        generalize upd H2 p (.lst []) = H3 at W1 ⊢
        cases st with
        | nil =>
          have he : (!ws.isEmpty) = false := by
            rw [List.map_eq_nil_iff.mp eW] <;> rfl
          rw [he]
          exact iteF ⟨g, later, hg, aw, al, d, ws, ls, xs, price, u, rfl, W1, eW, eL, bd, hf⟩
        | cons n st =>
          obtain ⟨ws', a, rfl, eW'⟩ := last_of eW
          have hne : (!(ws' ++ [(n, a)]).isEmpty) = true := by cases ws' <;> rfl
          rw [hne]
          obtain ⟨g', rfl, k1, k2, k3⟩ := few_cons hf
          have n3 : n.ms.length ≤ 3 := bd.2.2.2.1 n List.mem_cons_self
          have hn : NodeAt H3 a n := W1.2.2.2.2.1 (n, a) (List.mem_append_right _ (List.mem_singleton_self _))
          refine iteT ⟨fun σ' H' => g' ≤ f ∧ ∃ st later, FewP P w s' r m g' st later σ' H', fun σ' H' q => ⟨g', Nat.lt_succ_self g', q⟩, ?_⟩
          refine ⟨_, rfl, .inl ⟨rfl, _, SqL.of W1.2.1⟩, aw, _, _, rfl, rfl, W1.2.1, last_get ws' n a, ?_⟩
          rw [last_drop]
          have W2 := W1.setW (ws2 := ws') fun z hz => W1.2.2.2.2.1 z (List.mem_append_left _ hz)
          have hn2 := hn.mut (not_tup W1.2.1) (o := .lst (nrefs ws'))
          generalize upd H3 aw (.lst (nrefs ws')) = H4 at W2 hn2 ⊢
          refine ⟨fun σ' H' => ¬ n.wa < 0 ∧ H' = H4 ∧ σ' = [some (.int (s' : Int)), some (.int (r : Int)), some (.ref aw), some (.ref d), some (.int (price : Int)), some (.ref al), some (.ref a)], ?_, ?_⟩
          · obtain ⟨b, ha, hb⟩ := hn2.sq
            refine ⟨_, rfl, a, _, _, .int n.wa, rfl, rfl, SqT.of ha, rfl, _, _, rfl, rfl, _, rfl, ?_⟩
            refine ite2 (fun c => ?_) (fun c => ?_)
            · refine ⟨_, rfl, ?_⟩
              rw [k1 (of_decide_eq_true c)]
              exact k _
            · exact ⟨fun z => c (decide_eq_true z), rfl, rfl⟩
          rintro σ H5 ⟨c0, rfl, rfl⟩
          have nx := W2.2.2.2.2.2.2
          refine ⟨_, rfl, _, rfl, d, a, n, xs, rfl, rfl, W2.2.2.2.1, hn2, nx, _, rfl, ?_⟩
          cases c1 : (xs.any fun z => decide (z.1 = n)) with
          | true =>
            refine iteF ?_
            exact ⟨by omega, st, later, aw, al, d, ws', ls, xs, price, _, rfl, W2, eW', eL, bd.skip, k2 c0 (by rw [List.any_map]; exact c1)⟩
          | false =>
            refine iteT ?_
            refine ⟨_, rfl, _, rfl, d, a, n, xs, rfl, rfl, rfl, W2.2.2.2.1, hn2, nx, c1, by have := bd.2.2.1; omega, ?_⟩
            have W3 := W2.setX (xs2 := xs ++ [(n, a)]) (NS.append nx fun z hz => by rw [List.mem_singleton.mp hz]; exact hn2)
            have hn3 := hn2.mut (not_tupS W2.2.2.2.1) (o := seenO P w d (xs ++ [(n, a)]))
            refine ⟨_, rfl, .inl ⟨rfl, _, SqL.of W3.2.1⟩, ?_⟩
            refine ⟨_, rfl, _, rfl, _, rfl, a, n, s', r, rfl, hn3, Nat.le_trans n3 (by omega), fun p H7 ps hp sm hps hP hN => ?_⟩
            have lw : ws'.length = st.length := by rw [nlen eW', List.length_reverse]
            have lp : ps.length ≤ 8 := by
              rw [nlen hps]
              have := onward_len n r
              omega
            have b1 := bd.1
            rw [List.length_cons] at b1
            refine ⟨aw, p, _, _, rfl, rfl, sm _ _ W3.2.1, hP, sz5 (by rw [nrefs_len, nrefs_len]; omega), ?_⟩
            rw [← nrefs_append]
            have W4 := (W3.same sm).setW (ws2 := ws' ++ ps) (NS.append (W3.2.2.2.2.1.same sm) hN)
            have hn4 := (hn3.same sm).mut (not_tup (sm _ _ W3.2.1)) (o := .lst (nrefs (ws' ++ ps)))
            generalize upd H7 aw (.lst (nrefs (ws' ++ ps))) = H8 at W4 hn4 ⊢
            have eW2 : (ws' ++ ps).map (·.1) = ((onward n r).reverse ++ st).reverse := by
              rw [List.map_append, eW', hps, List.reverse_append, List.reverse_reverse]
            have bd2 : Bd g' ((onward n r).reverse ++ st) (later ++ n.far s') (xs ++ [(n, a)]).length := by
              rw [List.length_append]
              exact bd.push hr3
            have kk : fewest s' r g' ((onward n r).reverse ++ st) (later ++ n.far s') ((xs ++ [(n, a)]).map (·.1)) price = some m := by
              rw [List.map_append]
              exact k3 c0 (by rw [List.any_map]; exact c1)
            obtain ⟨b, ha, hb⟩ := hn4.sq
            refine ⟨_, rfl, a, _, _, .int (n.pl : Int), rfl, rfl, SqT.of ha, rfl, _, rfl, _, _, rfl, rfl, _, rfl, ?_⟩
            refine ite2 (fun c => ?_) (fun c => ?_)
            · have c' : n.pl < s' := by
                have := of_decide_eq_true c
                omega
              refine ⟨_, rfl, .inl ⟨rfl, _, SqL.of W4.2.2.1⟩, ?_⟩
              refine ⟨_, rfl, a, _, _, .int (n.pl : Int), rfl, rfl, SqT.of ha, rfl, _, _, rfl, rfl, _, rfl, a, _, _, .ref b, rfl, rfl, SqT.of ha, rfl, _, rfl, a, _, _, .int n.wa, rfl, rfl, SqT.of ha, rfl, by show 3 ≤ sizeLine; decide, fun t ht => ?_⟩
              have b2 := bd.2.1
              have ll := nlen eL
              refine ⟨al, _, _, rfl, rfl, (Same.new ht) _ _ W4.2.2.1, sz5' (by rw [nrefs_len]; omega), ?_⟩
              have nt := NodeAt.new (pl := n.pl + 1) (ms := n.ms) (wa := n.wa) hb ht
              rw [show ((n.pl + 1 : Nat) : Int) = (n.pl : Int) + 1 by omega] at nt
              have W5 := (W4.same (Same.new (o := .tup [.int ((n.pl : Int) + 1), .ref b, .int n.wa]) ht)).setL (ls2 := ls ++ [(⟨n.pl + 1, n.ms, n.wa⟩, t)]) (NS.append (W4.2.2.2.2.2.1.same (Same.new ht)) fun z hz => by rw [List.mem_singleton.mp hz]; exact nt)
              rw [nrefs_append] at W5
              refine ⟨by omega, _, _, aw, al, d, ws' ++ ps, _, xs ++ [(n, a)], price, _, rfl, W5, eW2, ?_, bd2, kk⟩
              rw [List.map_append, eL]
              unfold Node.far
              rw [if_pos c'] <;> rfl
            · have c' : ¬ n.pl < s' := fun z => c (decide_eq_true (by omega))
              refine ⟨by omega, _, _, aw, al, d, ws' ++ ps, ls, xs ++ [(n, a)], price, _, rfl, W4, eW2, ?_, bd2, kk⟩
              rw [eL]
              unfold Node.far
              rw [if_neg c', List.append_nil]
      rintro σ H2 ⟨f1, later, hf1, aw, al, d, ws, ls, xs, price, u, rfl, W, eW, eL, bd, hf⟩
      obtain ⟨f', rfl, hf'⟩ := few_nil hf
      refine ⟨_, rfl, _, rfl, _, _, rfl, rfl, f', by omega, al, d, ls, xs, later.reverse, price + 1, _, _, rfl, W.2.2.1, W.2.2.2.1, W.2.2.2.2.2.1, W.2.2.2.2.2.2, by rw [eL, List.reverse_reverse], bd.down, hf'⟩
-- @@ law
theorem ok_law_at (T : Txt K mg) {f : Addr} {fd : FuncData} (F : Fun K "law" "law" s_law f fd) : FnOk P w K mg base (L2.CX P w) 107 f fd ["_law_script"] (sp_law K) := by
  obtain ⟨f_l_cell_at, fd_l_cell_at, m_l_cell_at, k_l_cell_at, b_l_cell_at, G_l_cell_at⟩ := ok_l_cell_at (P := P) (w := w) (base := base) T
  obtain ⟨f_l_fewest, fd_l_fewest, m_l_fewest, k_l_fewest, b_l_fewest, G_l_fewest⟩ := ok_l_fewest (P := P) (w := w) (base := base) T
  obtain ⟨f_cost_of, fd_cost_of, m_cost_of, k_cost_of, b_cost_of, G_cost_of⟩ := ok_cost_of (P := P) (w := w) (base := base) T
  obtain ⟨f_plan, fd_plan, m_plan, k_plan, b_plan, G_plan⟩ := ok_plan (P := P) (w := w) (base := base) T
  obtain ⟨f_least, fd_least, m_least, k_least, b_least, G_least⟩ := ok_least (P := P) (w := w) (base := base) T
  refine F.okX sc_law (fun vs H Q E h => ?_) (fun cdv A outer s H vs Q E hr h => ?_)
  · obtain ⟨a, ns, rfl, hS, hl, k⟩ := h
    rfl
  · obtain ⟨a, ns, rfl, hS, hl, k⟩ := h
    refine ⟨_, (Evl.pss_cut (ps_set (i := 1) sc_law.nd rfl (Or.inl rfl) (pe_op op_mod (pe_call G_l_cell_at (hr.mono (by decide)) (by rfl) m_l_cell_at k_l_cell_at b_l_cell_at .nil passL (pa_cons (pv 0) (pa_cons pe_int pa_nil))) pe_int))
        (Evl.pss_cut (ps_set (i := 2) sc_law.nd rfl (Or.inl rfl) (pe_op op_add pe_int (pe_op op_mod (pe_call G_l_cell_at (hr.mono (by decide)) (by rfl) m_l_cell_at k_l_cell_at b_l_cell_at .nil passL (pa_cons (pv 0) (pa_cons pe_int pa_nil))) pe_int)))
        (Evl.pss_cut (ps_if (pt_cmpR op_eq (pe_op op_mod (pe_call G_l_cell_at (hr.mono (by decide)) (by rfl) m_l_cell_at k_l_cell_at b_l_cell_at .nil passL (pa_cons (pv 0) (pa_cons pe_int pa_nil))) pe_int) pe_int (nomark _))
        (pss_cons (ps_set (i := 1) sc_law.nd rfl (Or.inl rfl) pe_int)
        (pss_one (ps_set (i := 2) sc_law.nd rfl (Or.inl rfl) (pe_op op_add pe_int (pe_op op_mod (pe_call G_l_cell_at (hr.mono (by decide)) (by rfl) m_l_cell_at k_l_cell_at b_l_cell_at .nil passL (pa_cons (pv 0) (pa_cons pe_int pa_nil))) pe_int)))))
        pss_nil)
        (Evl.pss_cut (ps_set (i := 3) sc_law.nd rfl (Or.inl rfl) (pe_call G_l_fewest (hr.mono (by decide)) (by rfl) m_l_fewest k_l_fewest b_l_fewest .nil passL (pa_cons (pv 1) (pa_cons (pv 2) pa_nil))))
        (pss_one (ps_ret (pe_and (pe_cmpR op_eq (pe_call G_least (hr.mono (by decide)) (by rfl) m_least k_least b_least .nil passL (pa_cons (pv 1) (pa_cons (pv 2) pa_nil))) (pv 3) (nomark _)) (pe_one (pe_cmpR op_eq (pe_call G_cost_of (hr.mono (by decide)) (by rfl) m_cost_of k_cost_of b_cost_of .nil passL (pa_cons (pe_call G_plan (hr.mono (by decide)) (by rfl) m_plan k_plan b_plan .nil passL (pa_cons (pv 1) (pa_cons (pv 2) pa_nil))) pa_nil)) (pv 3) (nomark _)))))))))), ?_⟩
    refine ⟨fun σ H1 => H1 = H ∧ ∃ s0 : Nat, s0 ≤ 3 ∧ σ = [some (.ref a), some (.int (s0 : Int)), none, none], ?_, ?_⟩
    · obtain ⟨s0, hs0, es0⟩ := rem_nat (z := cellAt ns 0) (m := 4) (by decide)
      refine ⟨_, rfl, a, ns, 0, rfl, hS, _, _, rfl, rfl, by show (0 : Int) < 4; decide, rfl, s0, by omega, ?_⟩
      rw [← es0] <;> rfl
    rintro σ H1 ⟨rfl, s0, hs0, rfl⟩
    refine ⟨fun σ H2 => H2 = H1 ∧ ∃ r0 : Nat, 1 ≤ r0 ∧ r0 ≤ 3 ∧ σ = [some (.ref a), some (.int (s0 : Int)), some (.int (r0 : Int)), none], ?_, ?_⟩
    · obtain ⟨r0, hr0, er0⟩ := rem_nat (z := cellAt ns 1) (m := 3) (by decide)
      refine ⟨_, rfl, a, ns, 1, rfl, hS, _, _, rfl, rfl, by show (0 : Int) < 3; decide, _, _, rfl, rfl, rfl, r0 + 1, by omega, by omega, ?_⟩
      rw [show ((r0 + 1 : Nat) : Int) = 1 + cellAt ns 1 % 3 by omega] <;> rfl
    rintro σ H2 ⟨rfl, r0, hr1, hr3, rfl⟩
    refine ⟨fun σ H3 => ∃ s1 r1 : Nat, In9 s1 r1 ∧ σ = [some (.ref a), some (.int (s1 : Int)), some (.int (r1 : Int)), none], ?_, ?_⟩
    · refine ⟨_, rfl, a, ns, 2, rfl, hS, _, _, rfl, rfl, by show (0 : Int) < 4; decide, rfl, _, rfl, ?_⟩
      refine ite2 (fun c => ?_) (fun c => ?_)
      · obtain ⟨r0, hr0, er0⟩ := rem_nat (z := cellAt ns 1) (m := 2) (by decide)
        refine ⟨_, rfl, a, ns, 1, rfl, hS, _, _, rfl, rfl, by show (0 : Int) < 2; decide, _, _, rfl, rfl, 4, r0 + 1, ⟨by omega, .inr ⟨rfl, by omega⟩⟩, ?_⟩
        rw [show ((r0 + 1 : Nat) : Int) = 1 + cellAt ns 1 % 2 by omega] <;> rfl
      · exact ⟨s0, r0, ⟨hr1, .inl ⟨hs0, hr3⟩⟩, rfl⟩
    rintro σ H3 ⟨s1, r1, h9, rfl⟩
    obtain ⟨m, e1, e2, e3⟩ := few_all h9
    obtain ⟨g1, g2⟩ := h9
    refine ⟨fun σ H4 => σ = [some (.ref a), some (.int (s1 : Int)), some (.int (r1 : Int)), some (.int (m : Int))], ⟨_, rfl, _, rfl, s1, r1, m, rfl, by omega, e1, fun H' => rfl⟩, ?_⟩
    rintro σ H4 rfl
    refine ⟨_, rfl, _, rfl, .inl ⟨s1, r1, rfl, by omega, g1, by omega, ?_⟩⟩
    rw [e2]
    refine ⟨_, rfl, rfl, _, rfl, ?_⟩
    rw [show decide (V.int (m : Int) = V.int (m : Int)) = true from decide_eq_true rfl]
    refine iteT ?_
    refine ⟨_, rfl, _, rfl, .inl ⟨s1, r1, rfl, by omega, g1, by omega, fun p H5 ps hp sm hps hP hD => ?_⟩⟩
    have pl := plan_len (s := s1) (r := r1) (by omega) g1 (by omega)
    refine ⟨p, ps, rfl, SqL.of hP, hD, by rw [len_of hps]; omega, fun H6 _ => ?_⟩
    rw [hps, e3]
    refine ⟨_, rfl, rfl, ?_⟩
    rw [show decide (V.int (m : Int) = V.int (m : Int)) = true from decide_eq_true rfl]
    exact k _

-- @@ end
end
theorem all_mk {l : PySem.W.OpenLaw} {w : World} {K : PySem.W.Frag} {h : Heap} {mg : Str → Option Value} {fa : Addr} (X : K.In h) (G : h.Ns mainGlobals mg) (hfa : mg "law" = some (.ref fa))
    {oc_is_among kV_is_among dc_is_among pm_is_among cd_is_among ct_is_among : Value} {od_is_among an_is_among : Option Addr} {sl_is_among : Array (Option Value)} {f_is_among : Addr}
    {oc_need_counts kV_need_counts dc_need_counts pm_need_counts cd_need_counts ct_need_counts : Value} {od_need_counts an_need_counts : Option Addr} {sl_need_counts : Array (Option Value)} {f_need_counts : Addr}
    {oc_choices kV_choices dc_choices pm_choices cd_choices ct_choices : Value} {od_choices an_choices : Option Addr} {sl_choices : Array (Option Value)} {f_choices : Addr}
    {oc_ways kV_ways dc_ways pm_ways cd_ways ct_ways : Value} {od_ways an_ways : Option Addr} {sl_ways : Array (Option Value)} {f_ways : Addr}
    {oc_often kV_often dc_often pm_often cd_often ct_often : Value} {od_often an_often : Option Addr} {sl_often : Array (Option Value)} {f_often : Addr}
    {oc_cost kV_cost dc_cost pm_cost cd_cost ct_cost : Value} {od_cost an_cost : Option Addr} {sl_cost : Array (Option Value)} {f_cost : Addr}
    {oc_least kV_least dc_least pm_least cd_least ct_least : Value} {od_least an_least : Option Addr} {sl_least : Array (Option Value)} {f_least : Addr}
    {oc_first_mark kV_first_mark dc_first_mark pm_first_mark cd_first_mark ct_first_mark : Value} {od_first_mark an_first_mark : Option Addr} {sl_first_mark : Array (Option Value)} {f_first_mark : Addr}
    {oc_again_and_again kV_again_and_again dc_again_and_again pm_again_and_again cd_again_and_again ct_again_and_again : Value} {od_again_and_again an_again_and_again : Option Addr} {sl_again_and_again : Array (Option Value)} {f_again_and_again : Addr}
    {oc_from_mark kV_from_mark dc_from_mark pm_from_mark cd_from_mark ct_from_mark : Value} {od_from_mark an_from_mark : Option Addr} {sl_from_mark : Array (Option Value)} {f_from_mark : Addr}
    {oc_plan kV_plan dc_plan pm_plan cd_plan ct_plan : Value} {od_plan an_plan : Option Addr} {sl_plan : Array (Option Value)} {f_plan : Addr}
    {oc_cost_of kV_cost_of dc_cost_of pm_cost_of cd_cost_of ct_cost_of : Value} {od_cost_of an_cost_of : Option Addr} {sl_cost_of : Array (Option Value)} {f_cost_of : Addr}
    {oc_l_cell_at kV_l_cell_at dc_l_cell_at pm_l_cell_at cd_l_cell_at ct_l_cell_at : Value} {od_l_cell_at an_l_cell_at : Option Addr} {sl_l_cell_at : Array (Option Value)} {f_l_cell_at : Addr}
    {oc_l_onward kV_l_onward dc_l_onward pm_l_onward cd_l_onward ct_l_onward : Value} {od_l_onward an_l_onward : Option Addr} {sl_l_onward : Array (Option Value)} {f_l_onward : Addr}
    {oc_l_fewest kV_l_fewest dc_l_fewest pm_l_fewest cd_l_fewest ct_l_fewest : Value} {od_l_fewest an_l_fewest : Option Addr} {sl_l_fewest : Array (Option Value)} {f_l_fewest : Addr}
    {oc_law kV_law dc_law pm_law cd_law ct_law : Value} {od_law an_law : Option Addr} {sl_law : Array (Option Value)} {f_law : Addr}
    {t_MOST_STEPS : Tok}
    {t_MOST_ROOM : Tok}
    {C_BadCount : Addr}
    (a_is_among : PySem.W.nsIn K mainGlobals "is_among" = some (some (.ref f_is_among)))
    (l_is_among : K.lookup f_is_among = some ⟨oc_is_among, od_is_among, .func (PySem.W.fnOf "is_among" "is_among" (defArgs s_is_among) (defBody s_is_among) (defScope s_is_among) .none kV_is_among dc_is_among pm_is_among an_is_among cd_is_among ct_is_among), sl_is_among⟩)
    (c_is_among : PySem.W.codeIn K cd_is_among "is_among" = true)
    (k_is_among : PySem.W.keepIn K (.ref f_is_among) = true)
    (a_need_counts : PySem.W.nsIn K mainGlobals "need_counts" = some (some (.ref f_need_counts)))
    (l_need_counts : K.lookup f_need_counts = some ⟨oc_need_counts, od_need_counts, .func (PySem.W.fnOf "need_counts" "need_counts" (defArgs s_need_counts) (defBody s_need_counts) (defScope s_need_counts) .none kV_need_counts dc_need_counts pm_need_counts an_need_counts cd_need_counts ct_need_counts), sl_need_counts⟩)
    (c_need_counts : PySem.W.codeIn K cd_need_counts "need_counts" = true)
    (k_need_counts : PySem.W.keepIn K (.ref f_need_counts) = true)
    (a_choices : PySem.W.nsIn K mainGlobals "choices" = some (some (.ref f_choices)))
    (l_choices : K.lookup f_choices = some ⟨oc_choices, od_choices, .func (PySem.W.fnOf "choices" "choices" (defArgs s_choices) (defBody s_choices) (defScope s_choices) .none kV_choices dc_choices pm_choices an_choices cd_choices ct_choices), sl_choices⟩)
    (c_choices : PySem.W.codeIn K cd_choices "choices" = true)
    (k_choices : PySem.W.keepIn K (.ref f_choices) = true)
    (a_ways : PySem.W.nsIn K mainGlobals "ways" = some (some (.ref f_ways)))
    (l_ways : K.lookup f_ways = some ⟨oc_ways, od_ways, .func (PySem.W.fnOf "ways" "ways" (defArgs s_ways) (defBody s_ways) (defScope s_ways) .none kV_ways dc_ways pm_ways an_ways cd_ways ct_ways), sl_ways⟩)
    (c_ways : PySem.W.codeIn K cd_ways "ways" = true)
    (k_ways : PySem.W.keepIn K (.ref f_ways) = true)
    (a_often : PySem.W.nsIn K mainGlobals "often" = some (some (.ref f_often)))
    (l_often : K.lookup f_often = some ⟨oc_often, od_often, .func (PySem.W.fnOf "often" "often" (defArgs s_often) (defBody s_often) (defScope s_often) .none kV_often dc_often pm_often an_often cd_often ct_often), sl_often⟩)
    (c_often : PySem.W.codeIn K cd_often "often" = true)
    (k_often : PySem.W.keepIn K (.ref f_often) = true)
    (a_cost : PySem.W.nsIn K mainGlobals "cost" = some (some (.ref f_cost)))
    (l_cost : K.lookup f_cost = some ⟨oc_cost, od_cost, .func (PySem.W.fnOf "cost" "cost" (defArgs s_cost) (defBody s_cost) (defScope s_cost) .none kV_cost dc_cost pm_cost an_cost cd_cost ct_cost), sl_cost⟩)
    (c_cost : PySem.W.codeIn K cd_cost "cost" = true)
    (k_cost : PySem.W.keepIn K (.ref f_cost) = true)
    (a_least : PySem.W.nsIn K mainGlobals "least" = some (some (.ref f_least)))
    (l_least : K.lookup f_least = some ⟨oc_least, od_least, .func (PySem.W.fnOf "least" "least" (defArgs s_least) (defBody s_least) (defScope s_least) .none kV_least dc_least pm_least an_least cd_least ct_least), sl_least⟩)
    (c_least : PySem.W.codeIn K cd_least "least" = true)
    (k_least : PySem.W.keepIn K (.ref f_least) = true)
    (a_first_mark : PySem.W.nsIn K mainGlobals "first_mark" = some (some (.ref f_first_mark)))
    (l_first_mark : K.lookup f_first_mark = some ⟨oc_first_mark, od_first_mark, .func (PySem.W.fnOf "first_mark" "first_mark" (defArgs s_first_mark) (defBody s_first_mark) (defScope s_first_mark) .none kV_first_mark dc_first_mark pm_first_mark an_first_mark cd_first_mark ct_first_mark), sl_first_mark⟩)
    (c_first_mark : PySem.W.codeIn K cd_first_mark "first_mark" = true)
    (k_first_mark : PySem.W.keepIn K (.ref f_first_mark) = true)
    (a_again_and_again : PySem.W.nsIn K mainGlobals "again_and_again" = some (some (.ref f_again_and_again)))
    (l_again_and_again : K.lookup f_again_and_again = some ⟨oc_again_and_again, od_again_and_again, .func (PySem.W.fnOf "again_and_again" "again_and_again" (defArgs s_again_and_again) (defBody s_again_and_again) (defScope s_again_and_again) .none kV_again_and_again dc_again_and_again pm_again_and_again an_again_and_again cd_again_and_again ct_again_and_again), sl_again_and_again⟩)
    (c_again_and_again : PySem.W.codeIn K cd_again_and_again "again_and_again" = true)
    (k_again_and_again : PySem.W.keepIn K (.ref f_again_and_again) = true)
    (a_from_mark : PySem.W.nsIn K mainGlobals "from_mark" = some (some (.ref f_from_mark)))
    (l_from_mark : K.lookup f_from_mark = some ⟨oc_from_mark, od_from_mark, .func (PySem.W.fnOf "from_mark" "from_mark" (defArgs s_from_mark) (defBody s_from_mark) (defScope s_from_mark) .none kV_from_mark dc_from_mark pm_from_mark an_from_mark cd_from_mark ct_from_mark), sl_from_mark⟩)
    (c_from_mark : PySem.W.codeIn K cd_from_mark "from_mark" = true)
    (k_from_mark : PySem.W.keepIn K (.ref f_from_mark) = true)
    (a_plan : PySem.W.nsIn K mainGlobals "plan" = some (some (.ref f_plan)))
    (l_plan : K.lookup f_plan = some ⟨oc_plan, od_plan, .func (PySem.W.fnOf "plan" "plan" (defArgs s_plan) (defBody s_plan) (defScope s_plan) .none kV_plan dc_plan pm_plan an_plan cd_plan ct_plan), sl_plan⟩)
    (c_plan : PySem.W.codeIn K cd_plan "plan" = true)
    (k_plan : PySem.W.keepIn K (.ref f_plan) = true)
    (a_cost_of : PySem.W.nsIn K mainGlobals "cost_of" = some (some (.ref f_cost_of)))
    (l_cost_of : K.lookup f_cost_of = some ⟨oc_cost_of, od_cost_of, .func (PySem.W.fnOf "cost_of" "cost_of" (defArgs s_cost_of) (defBody s_cost_of) (defScope s_cost_of) .none kV_cost_of dc_cost_of pm_cost_of an_cost_of cd_cost_of ct_cost_of), sl_cost_of⟩)
    (c_cost_of : PySem.W.codeIn K cd_cost_of "cost_of" = true)
    (k_cost_of : PySem.W.keepIn K (.ref f_cost_of) = true)
    (a_l_cell_at : PySem.W.nsIn K mainGlobals "_law_cell_at" = some (some (.ref f_l_cell_at)))
    (l_l_cell_at : K.lookup f_l_cell_at = some ⟨oc_l_cell_at, od_l_cell_at, .func (PySem.W.fnOf "_law_cell_at" "_law_cell_at" (defArgs s_l_cell_at) (defBody s_l_cell_at) (defScope s_l_cell_at) .none kV_l_cell_at dc_l_cell_at pm_l_cell_at an_l_cell_at cd_l_cell_at ct_l_cell_at), sl_l_cell_at⟩)
    (c_l_cell_at : PySem.W.codeIn K cd_l_cell_at "_law_cell_at" = true)
    (k_l_cell_at : PySem.W.keepIn K (.ref f_l_cell_at) = true)
    (a_l_onward : PySem.W.nsIn K mainGlobals "_law_onward" = some (some (.ref f_l_onward)))
    (l_l_onward : K.lookup f_l_onward = some ⟨oc_l_onward, od_l_onward, .func (PySem.W.fnOf "_law_onward" "_law_onward" (defArgs s_l_onward) (defBody s_l_onward) (defScope s_l_onward) .none kV_l_onward dc_l_onward pm_l_onward an_l_onward cd_l_onward ct_l_onward), sl_l_onward⟩)
    (c_l_onward : PySem.W.codeIn K cd_l_onward "_law_onward" = true)
    (k_l_onward : PySem.W.keepIn K (.ref f_l_onward) = true)
    (a_l_fewest : PySem.W.nsIn K mainGlobals "_law_fewest" = some (some (.ref f_l_fewest)))
    (l_l_fewest : K.lookup f_l_fewest = some ⟨oc_l_fewest, od_l_fewest, .func (PySem.W.fnOf "_law_fewest" "_law_fewest" (defArgs s_l_fewest) (defBody s_l_fewest) (defScope s_l_fewest) .none kV_l_fewest dc_l_fewest pm_l_fewest an_l_fewest cd_l_fewest ct_l_fewest), sl_l_fewest⟩)
    (c_l_fewest : PySem.W.codeIn K cd_l_fewest "_law_fewest" = true)
    (k_l_fewest : PySem.W.keepIn K (.ref f_l_fewest) = true)
    (a_law : PySem.W.nsIn K mainGlobals "law" = some (some (.ref f_law)))
    (l_law : K.lookup f_law = some ⟨oc_law, od_law, .func (PySem.W.fnOf "law" "law" (defArgs s_law) (defBody s_law) (defScope s_law) .none kV_law dc_law pm_law an_law cd_law ct_law), sl_law⟩)
    (c_law : PySem.W.codeIn K cd_law "law" = true)
    (k_law : PySem.W.keepIn K (.ref f_law) = true)
    (v_MOST_STEPS : PySem.W.nsIn K mainGlobals "MOST_STEPS" = some (some (.int 100 t_MOST_STEPS)))
    (v_MOST_ROOM : PySem.W.nsIn K mainGlobals "MOST_ROOM" = some (some (.int 12 t_MOST_ROOM)))
    (z_isinstance : PySem.W.nsIn K mainGlobals "isinstance" = some none)
    (z_bool : PySem.W.nsIn K mainGlobals "bool" = some none)
    (z_int : PySem.W.nsIn K mainGlobals "int" = some none)
    (z_range : PySem.W.nsIn K mainGlobals "range" = some none)
    (z_min : PySem.W.nsIn K mainGlobals "min" = some none)
    (z_sum : PySem.W.nsIn K mainGlobals "sum" = some none)
    (z_len : PySem.W.nsIn K mainGlobals "len" = some none)
    (z_tuple : PySem.W.nsIn K mainGlobals "tuple" = some none)
    (z_sorted : PySem.W.nsIn K mainGlobals "sorted" = some none)
    (gBadCount : PySem.W.nsIn K mainGlobals "BadCount" = some (some (.ref C_BadCount)))
    (xBadCount : PySem.W.excIn K C_BadCount [.type "ValueError", .type "Exception", .type "BaseException", .type "object"] "ValueError.__new__" = true)
    (kBadCount : PySem.W.keepIn K (.ref C_BadCount) = true) (bBadCount : PySem.W.subIn K (.ref C_BadCount) (.type "BaseException") = some true) (tBadCount : PySem.W.typeIn K (.ref C_BadCount) = some (.type "type")) :
    ∃ fd : FuncData, (∀ (s : Shared) (v : Value), BindsTo s fd ⟨[v], []⟩ [("_law_script", v)]) ∧ ∀ base : Heap, K.In base → base.Ns mainGlobals mg → FnOk l.prog w K mg base (L2.CX l.prog w) 107 fa fd ["_law_script"] (sp_law K) := by
  have e := hfa.symm.trans (PySem.W.mg_of X G a_law)
  cases e
  have T : Txt K mg := {
    d_is_among := ⟨_, _, PySem.W.mg_of X G a_is_among, fun_mk (st := s_is_among) l_is_among c_is_among k_is_among, (fun_mk (st := s_is_among) l_is_among c_is_among k_is_among).binds (ps := ["thing", "low", "high"]) fun _ _ _ _ _ _ us hl => match us, hl with | [_, _, _], _ => rfl⟩,
    d_need_counts := ⟨_, _, PySem.W.mg_of X G a_need_counts, fun_mk (st := s_need_counts) l_need_counts c_need_counts k_need_counts, (fun_mk (st := s_need_counts) l_need_counts c_need_counts k_need_counts).binds (ps := ["steps", "room"]) fun _ _ _ _ _ _ us hl => match us, hl with | [_, _], _ => rfl⟩,
    d_choices := ⟨_, _, PySem.W.mg_of X G a_choices, fun_mk (st := s_choices) l_choices c_choices k_choices, (fun_mk (st := s_choices) l_choices c_choices k_choices).binds (ps := ["many", "chosen"]) fun _ _ _ _ _ _ us hl => match us, hl with | [_, _], _ => rfl⟩,
    d_ways := ⟨_, _, PySem.W.mg_of X G a_ways, fun_mk (st := s_ways) l_ways c_ways k_ways, (fun_mk (st := s_ways) l_ways c_ways k_ways).binds (ps := ["room", "times"]) fun _ _ _ _ _ _ us hl => match us, hl with | [_, _], _ => rfl⟩,
    d_often := ⟨_, _, PySem.W.mg_of X G a_often, fun_mk (st := s_often) l_often c_often k_often, (fun_mk (st := s_often) l_often c_often k_often).binds (ps := ["steps", "room"]) fun _ _ _ _ _ _ us hl => match us, hl with | [_, _], _ => rfl⟩,
    d_cost := ⟨_, _, PySem.W.mg_of X G a_cost, fun_mk (st := s_cost) l_cost c_cost k_cost, (fun_mk (st := s_cost) l_cost c_cost k_cost).binds (ps := ["steps", "room"]) fun _ _ _ _ _ _ us hl => match us, hl with | [_, _], _ => rfl⟩,
    d_least := ⟨_, _, PySem.W.mg_of X G a_least, fun_mk (st := s_least) l_least c_least k_least, (fun_mk (st := s_least) l_least c_least k_least).binds (ps := ["steps", "room"]) fun _ _ _ _ _ _ us hl => match us, hl with | [_, _], _ => rfl⟩,
    d_first_mark := ⟨_, _, PySem.W.mg_of X G a_first_mark, fun_mk (st := s_first_mark) l_first_mark c_first_mark k_first_mark, (fun_mk (st := s_first_mark) l_first_mark c_first_mark k_first_mark).binds (ps := ["steps", "room"]) fun _ _ _ _ _ _ us hl => match us, hl with | [_, _], _ => rfl⟩,
    d_again_and_again := ⟨_, _, PySem.W.mg_of X G a_again_and_again, fun_mk (st := s_again_and_again) l_again_and_again c_again_and_again k_again_and_again, (fun_mk (st := s_again_and_again) l_again_and_again c_again_and_again k_again_and_again).binds (ps := ["start", "steps"]) fun _ _ _ _ _ _ us hl => match us, hl with | [_, _], _ => rfl⟩,
    d_from_mark := ⟨_, _, PySem.W.mg_of X G a_from_mark, fun_mk (st := s_from_mark) l_from_mark c_from_mark k_from_mark, (fun_mk (st := s_from_mark) l_from_mark c_from_mark k_from_mark).binds (ps := ["start", "steps", "room"]) fun _ _ _ _ _ _ us hl => match us, hl with | [_, _, _], _ => rfl⟩,
    d_plan := ⟨_, _, PySem.W.mg_of X G a_plan, fun_mk (st := s_plan) l_plan c_plan k_plan, (fun_mk (st := s_plan) l_plan c_plan k_plan).binds (ps := ["steps", "room"]) fun _ _ _ _ _ _ us hl => match us, hl with | [_, _], _ => rfl⟩,
    d_cost_of := ⟨_, _, PySem.W.mg_of X G a_cost_of, fun_mk (st := s_cost_of) l_cost_of c_cost_of k_cost_of, (fun_mk (st := s_cost_of) l_cost_of c_cost_of k_cost_of).binds (ps := ["deeds"]) fun _ _ _ _ _ _ us hl => match us, hl with | [_], _ => rfl⟩,
    d_l_cell_at := ⟨_, _, PySem.W.mg_of X G a_l_cell_at, fun_mk (st := s_l_cell_at) l_l_cell_at c_l_cell_at k_l_cell_at, (fun_mk (st := s_l_cell_at) l_l_cell_at c_l_cell_at k_l_cell_at).binds (ps := ["_law_script", "_law_k"]) fun _ _ _ _ _ _ us hl => match us, hl with | [_, _], _ => rfl⟩,
    d_l_onward := ⟨_, _, PySem.W.mg_of X G a_l_onward, fun_mk (st := s_l_onward) l_l_onward c_l_onward k_l_onward, (fun_mk (st := s_l_onward) l_l_onward c_l_onward k_l_onward).binds (ps := ["_law_node", "_law_steps", "_law_room"]) fun _ _ _ _ _ _ us hl => match us, hl with | [_, _, _], _ => rfl⟩,
    d_l_fewest := ⟨_, _, PySem.W.mg_of X G a_l_fewest, fun_mk (st := s_l_fewest) l_l_fewest c_l_fewest k_l_fewest, (fun_mk (st := s_l_fewest) l_l_fewest c_l_fewest k_l_fewest).binds (ps := ["_law_steps", "_law_room"]) fun _ _ _ _ _ _ us hl => match us, hl with | [_, _], _ => rfl⟩,
    d_law := ⟨_, _, PySem.W.mg_of X G a_law, fun_mk (st := s_law) l_law c_law k_law, (fun_mk (st := s_law) l_law c_law k_law).binds (ps := ["_law_script"]) fun _ _ _ _ _ _ us hl => match us, hl with | [_], _ => rfl⟩,
    c_MOST_STEPS := ⟨_, PySem.W.mg_of X G v_MOST_STEPS⟩,
    c_MOST_ROOM := ⟨_, PySem.W.mg_of X G v_MOST_ROOM⟩,
    n_isinstance := PySem.W.mg_none_of X G z_isinstance,
    n_bool := PySem.W.mg_none_of X G z_bool,
    n_int := PySem.W.mg_none_of X G z_int,
    n_range := PySem.W.mg_none_of X G z_range,
    n_min := PySem.W.mg_none_of X G z_min,
    n_sum := PySem.W.mg_none_of X G z_sum,
    n_len := PySem.W.mg_none_of X G z_len,
    n_tuple := PySem.W.mg_none_of X G z_tuple,
    n_sorted := PySem.W.mg_none_of X G z_sorted,
    aBadCount := C_BadCount,
    x_BadCount := ⟨PySem.W.mg_of X G gBadCount, xBadCount, kBadCount, bBadCount, tBadCount⟩ }
  refine ⟨PySem.W.fnOf "law" "law" (defArgs s_law) (defBody s_law) (defScope s_law) .none kV_law dc_law pm_law an_law cd_law ct_law, fun s v => .of_eq rfl, fun base _ _ => ?_⟩
  exact ok_law_at T (fun_mk (st := s_law) l_law c_law k_law)
theorem walk {l : PySem.W.OpenLaw} {q : Program} {loose : List Str} {XP : (Str → Option Value) → Heap → Prop} {YP : World → Heap → Prop} {d : DefRec} {K : Params → PySem.W.Frag} (hn : l.most = some 63) (hdf : d.params.defaults = [])
    (hY : ∀ (w : World) (h : Heap), YP w h → (K w.params).In h)
    (F : ∀ (w : World) (mg : Str → Option Value) (fa : Addr) (h : Heap), (K w.params).In h → h.Ns mainGlobals mg → mg d.name = some (.ref fa) →
      ∃ fd : FuncData, (∀ (s : Shared) (u : Value), BindsTo s fd ⟨[u], []⟩ [("_law_script", u)]) ∧ ∀ base : Heap, (K w.params).In base → base.Ns mainGlobals mg → FnOk l.prog w (K w.params) mg base (L2.CX l.prog w) 107 fa fd ["_law_script"] (sp_law (K w.params))) :
    PySem.W.WalkO q loose XP YP l.row.toRowW d [] (fun f vs => PySem.call f vs) :=
  L2.walk_of (n := 63) (k := 107) (x := "_law_script") (CX := fun w => L2.CX l.prog w) (sp := fun w => sp_law (K w.params)) hn (by decide) hdf ⟨rfl, by decide, by decide⟩ hY F (fun _ _ _ _ hl _ hS => law_true hS hl) fun _ _ _ _ _ z => cx0_no z
end BM
open PySem PySem.W PyProof.Rows
set_option maxRecDepth 100000 in
set_option maxHeartbeats 0 in
theorem PySem.Challenge.cw_backmarks_k09_whole_all_tried_holds : PySem.Challenge.rw_backmarks_k09_whole_all_tried.Holds := by
  w_on; o_law; k_head; (case hw => w_witness2)
  k_fill
  refine BM.walk (l := PySem.Challenge.rw_backmarks_k09_whole_all_tried) rfl rfl (fun w h Y => PySem.W.kIn_of Y) ?F
  case F =>
    intro w mg fa h KX G hmg
    refine' BM.all_mk (l := PySem.Challenge.rw_backmarks_k09_whole_all_tried) KX G hmg ?a_is_among ?l_is_among ?c_is_among ?k_is_among ?a_need_counts ?l_need_counts ?c_need_counts ?k_need_counts ?a_choices ?l_choices ?c_choices ?k_choices ?a_ways ?l_ways ?c_ways ?k_ways ?a_often ?l_often ?c_often ?k_often ?a_cost ?l_cost ?c_cost ?k_cost ?a_least ?l_least ?c_least ?k_least ?a_first_mark ?l_first_mark ?c_first_mark ?k_first_mark ?a_again_and_again ?l_again_and_again ?c_again_and_again ?k_again_and_again ?a_from_mark ?l_from_mark ?c_from_mark ?k_from_mark ?a_plan ?l_plan ?c_plan ?k_plan ?a_cost_of ?l_cost_of ?c_cost_of ?k_cost_of ?a_l_cell_at ?l_l_cell_at ?c_l_cell_at ?k_l_cell_at ?a_l_onward ?l_l_onward ?c_l_onward ?k_l_onward ?a_l_fewest ?l_l_fewest ?c_l_fewest ?k_l_fewest ?a_law ?l_law ?c_law ?k_law ?v_MOST_STEPS ?v_MOST_ROOM ?z_isinstance ?z_bool ?z_int ?z_range ?z_min ?z_sum ?z_len ?z_tuple ?z_sorted ?gBadCount ?xBadCount ?kBadCount ?bBadCount ?tBadCount
    (case a_is_among => k_is)
    (case l_is_among => k_is)
    (case c_is_among => k_is)
    (case k_is_among => k_is)
    (case a_need_counts => k_is)
    (case l_need_counts => k_is)
    (case c_need_counts => k_is)
    (case k_need_counts => k_is)
    (case a_choices => k_is)
    (case l_choices => k_is)
    (case c_choices => k_is)
    (case k_choices => k_is)
    (case a_ways => k_is)
    (case l_ways => k_is)
    (case c_ways => k_is)
    (case k_ways => k_is)
    (case a_often => k_is)
    (case l_often => k_is)
    (case c_often => k_is)
    (case k_often => k_is)
    (case a_cost => k_is)
    (case l_cost => k_is)
    (case c_cost => k_is)
    (case k_cost => k_is)
    (case a_least => k_is)
    (case l_least => k_is)
    (case c_least => k_is)
    (case k_least => k_is)
    (case a_first_mark => k_is)
    (case l_first_mark => k_is)
    (case c_first_mark => k_is)
    (case k_first_mark => k_is)
    (case a_again_and_again => k_is)
    (case l_again_and_again => k_is)
    (case c_again_and_again => k_is)
    (case k_again_and_again => k_is)
    (case a_from_mark => k_is)
    (case l_from_mark => k_is)
    (case c_from_mark => k_is)
    (case k_from_mark => k_is)
    (case a_plan => k_is)
    (case l_plan => k_is)
    (case c_plan => k_is)
    (case k_plan => k_is)
    (case a_cost_of => k_is)
    (case l_cost_of => k_is)
    (case c_cost_of => k_is)
    (case k_cost_of => k_is)
    (case a_l_cell_at => k_is)
    (case l_l_cell_at => k_is)
    (case c_l_cell_at => k_is)
    (case k_l_cell_at => k_is)
    (case a_l_onward => k_is)
    (case l_l_onward => k_is)
    (case c_l_onward => k_is)
    (case k_l_onward => k_is)
    (case a_l_fewest => k_is)
    (case l_l_fewest => k_is)
    (case c_l_fewest => k_is)
    (case k_l_fewest => k_is)
    (case a_law => k_is)
    (case l_law => k_is)
    (case c_law => k_is)
    (case k_law => k_is)
    (case v_MOST_STEPS => k_is)
    (case v_MOST_ROOM => k_is)
    (case z_isinstance => k_is)
    (case z_bool => k_is)
    (case z_int => k_is)
    (case z_range => k_is)
    (case z_min => k_is)
    (case z_sum => k_is)
    (case z_len => k_is)
    (case z_tuple => k_is)
    (case z_sorted => k_is)
    (case gBadCount => k_is)
    (case xBadCount => k_exc)
    (case kBadCount => k_is)
    (case bBadCount => k_is)
    (case tBadCount => k_is)
#print axioms PySem.Challenge.cw_backmarks_k09_whole_all_tried_holds
