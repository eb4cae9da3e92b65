import PyProof.Rows.All
import Wide.All
import OpenK.AllK
import Wide.FinOn
import PyProof.EqAt
import PyProof.EqKinds
import PyProof.TupleCall
import HandS.ForMost
import HandS.Exc
import HandS.TryOnly
import HandS.ExcOwn
import HandS.WordsExc
import HandS.IsInst
import HandS.ExcIs
import HandS.Evl
import PySem.Challenge.RW_backmarks_k11_whole_by_how_often
set_option Elab.async false
set_option linter.all false
set_option maxRecDepth 100000
set_option maxHeartbeats 4000000
/-! ## Common words: a def as it stands, what it promises, an error class, things that are whole numbers or not -/
namespace BM
open PySem PySem.Spec PyProof.Rows L2

/-- the def named x of the module's top -/
def Def (K : PySem.W.Frag) (mg : Str → Option Value) (x qual : Str) (st : Stmt) (ps : List Str) : Prop :=
  ∃ (f : Addr) (fd : FuncData), mg x = some (.ref f) ∧ Fun K x qual st f fd ∧ Binds K fd ps []
/-- it keeps its promise -/
def OkF (P : Program) (w : World) (K : PySem.W.Frag) (mg : Str → Option Value) (base : Heap) (x : Str) (k : Nat) (ps : List Str) (sp : Sp) : Prop :=
  ∃ (f : Addr) (fd : FuncData), mg x = some (.ref f) ∧ PySem.W.keepIn K (.ref f) = true ∧ Binds K fd ps [] ∧ FnOk P w K mg base (L2.CX P w) k f fd ps sp
/-- a class of the program's own errors, without a body of its own -/
structure XC (K : PySem.W.Frag) (mg : Str → Option Value) (n : Str) (C : Addr) : Prop where
  g : mg n = some (.ref C)
  x : PySem.W.excIn K C [.type "ValueError", .type "Exception", .type "BaseException", .type "object"] "ValueError.__new__" = true
  k : PySem.W.keepIn K (.ref C) = true
  b : PySem.W.subIn K (.ref C) (.type "BaseException") = some true
  t : PySem.W.typeIn K (.ref C) = some (.type "type")
section
variable {P : Program} {w : World} {K : PySem.W.Frag} {mg : Str → Option Value} {base : Heap}
theorem okf {x qual : Str} {st : Stmt} {N ps : List Str} {k : Nat} {sp : Sp} (D : Def K mg x qual st ps) (S : FnScope N ps (defScope st)) (len : ∀ vs H Q E, sp vs H Q E → vs.length = ps.length)
    (hbody : ∀ (f : Addr) (cdv : Value) (A : Around) (outer : List Env) (s : Shared) (H : Hp) (vs : List V) (Q : VK) (E : XK), Room k (A.deeper (envOfC qual (defScope st) s.heap.objs.size f cdv)) → sp vs H Q E →
      ∃ t, PSs (cxOf (L2.CX P w) P w K mg base N qual (defScope st) f cdv A outer s H E) (defBody st) t ∧ t { nx := fun _ H' => Q .non H', rt := Q } (start N vs) H) : OkF P w K mg base x (k + 1) ps sp := by
  obtain ⟨f, fd, hm, F, hb⟩ := D
  exact ⟨f, fd, hm, F.kp, hb, F.okX S len (fun cdv A outer s H vs Q E hr h => hbody f cdv A outer s H vs Q E hr h)⟩
theorem OkF.mono {x : Str} {j k : Nat} {ps : List Str} {sp : Sp} (F : OkF P w K mg base x j ps sp) (h : j ≤ k) : OkF P w K mg base x k ps sp := by
  obtain ⟨f, fd, hm, hk, hb, G⟩ := F
  exact ⟨f, fd, hm, hk, hb, G.mono h⟩
end
/-- a thing, and the whole number that it is (no truth value is one) -/
inductive Thg (K : PySem.W.Frag) (H : Hp) : V → Option Int → Prop where
  | int (i : Int) : Thg K H (.int i) (some i)
  | bl (b : Bool) : Thg K H (.bl b) none
  | oth {x : V} {t : Value} (ty : TyX K H x t) (ni : PySem.W.kitOne K t (.type "int") = some false) : Thg K H x none
theorem Thg.non {K : PySem.W.Frag} {H : Hp} : Thg K H .non none := .oth (.base .non) (kit_ty (by decide +kernel))
theorem Thg.str {K : PySem.W.Frag} {H : Hp} (x : Str) : Thg K H (.str x) none := .oth (.base (.str x)) (kit_ty (by decide +kernel))
theorem Thg.lst {K : PySem.W.Frag} {H : Hp} {a : Addr} {xs : List V} (e : H a = some (.lst xs)) : Thg K H (.ref a) none := .oth (.base (.lst e)) (kit_ty (by decide +kernel))
theorem Thg.tup {K : PySem.W.Frag} {H : Hp} {a : Addr} {xs : List V} (e : H a = some (.tup xs)) : Thg K H (.ref a) none := .oth (.base (.tup e)) (kit_ty (by decide +kernel))
theorem Thg.dK {K : PySem.W.Frag} {H : Hp} {a : Addr} {xs : List (Key × V)} (e : H a = some (.dK xs)) : Thg K H (.ref a) none := .oth (.base (.dK e)) (kit_ty (by decide +kernel))
def among (o : Option Int) (lo hi : Int) : Bool := match o with
  | some i => decide (lo ≤ i) && decide (i ≤ hi)
  | none => false
def whole (o : Option Int) : Bool := o.isSome
/-- a new list, a new tuple: what stood stands, and it is there -/
def RetL (H : Hp) (xs : List V) (Q : VK) : Prop := ∀ p H', H p = none → Same H H' → H' p = some (.lst xs) → Q (.ref p) H'
def RetT (H : Hp) (xs : List V) (Q : VK) : Prop := ∀ p H', H p = none → Same H H' → H' p = some (.tup xs) → Q (.ref p) H'
theorem Same.new {H : Hp} {p : Addr} {o : HO} (h : H p = none) : Same H (upd H p o) := fun a u e => by
  rw [upd_ne (ne_of_none e h)]
  exact e
theorem Same.mut {H H' : Hp} {p : Addr} {o : HO} (e : Same H H') (h : H p = none) : Same H (upd H' p o) := fun a u ha => by
  rw [upd_ne (ne_of_none ha h)]
  exact e a u ha
theorem get_map {α β : Type} {f : α → β} {xs : List α} {i : Nat} {y : β} (h : (xs.map f)[i]? = some y) : ∃ x, xs[i]? = some x ∧ y = f x := by
  rw [List.getElem?_map] at h
  cases e : xs[i]? with
  | none =>
    rw [e] at h
    cases h
  | some x =>
    rw [e] at h
    exact ⟨x, rfl, (Option.some.inj h).symm⟩
theorem take_succ {α : Type} {l : List α} {i : Nat} {x : α} (h : l[i]? = some x) : l.take (i + 1) = l.take i ++ [x] := by
  rw [List.take_add_one, h] <;> rfl
theorem at_map {xs : List Int} {z : Int} {j : Nat} {v : Int} (e : z = (j : Int)) (h : xs[j]? = some v) : atI (xs.map V.int) z = some (V.int v) := by
  rw [e]
  refine atI_nat ?_
  rw [List.getElem?_map, h] <;> rfl
theorem sz5 {n : Nat} (h : n ≤ 100000) : n ≤ sizeLine := Nat.le_trans h (by decide)
theorem sz5' {n : Nat} (h : n < 100000) : n < sizeLine := Nat.lt_of_lt_of_le h (by decide)
theorem cx0_no {P : Program} {w : World} {H : Hp} {s : Shared} {e : Value} {s' : Shared} (h : L2.CX P w [] H s (fun _ _ _ => False) e s') : False := by
  obtain ⟨_, _, _, _, _, _, _, _, _, _, _, _, z⟩ := h
  exact z.elim
/-- the law's: a list of at most 63 whole numbers is handed in, True comes out -/
def sp_law (K : PySem.W.Frag) : Sp := fun vs H Q _ => ∃ (a : Addr) (ns : List Int), vs = [.ref a] ∧ SqL K H a (ns.map V.int) ∧ ns.length ≤ 63 ∧ ∀ H', Q (.bl true) H'
theorem law_true {K : PySem.W.Frag} {H : Hp} {a : Addr} {ns : List Int} (hS : SqL K H a (ns.map V.int)) (hl : ns.length ≤ 63) : sp_law K [.ref a] H (fun v _ => v = .bl true) (fun _ _ _ => False) := ⟨a, ns, rfl, hS, hl, fun _ => rfl⟩
/-- a remainder as a natural number -/
theorem rem_nat {z m : Int} (hm : 0 < m) : ∃ s : Nat, (s : Int) < m ∧ z % m = (s : Int) := by
  have h1 := Int.emod_nonneg z (show m ≠ 0 by omega)
  have h2 := Int.emod_lt_of_pos z hm
  exact ⟨(z % m).toNat, by omega, by omega⟩
end BM

/-! ## Data that is compared -/
namespace BM
open PySem PySem.Spec PyProof.Rows L2
def Sh (n : Nat) (d : PyData) : Prop := d.canLay0 = true ∧ d.depth ≤ n
theorem canAll : ∀ {ds : List PyData}, (∀ d ∈ ds, d.canLay0 = true) → PyData.canLayAll0 ds = true
  | [], _ => rfl
  | d :: r, h => by
    have h1 := h d List.mem_cons_self
    have h2 := canAll (ds := r) fun e he => h e (List.mem_cons_of_mem _ he)
    simp [PyData.canLayAll0, h1, h2]
theorem depAll {n : Nat} : ∀ {ds : List PyData}, (∀ d ∈ ds, d.depth ≤ n) → PyData.depthAll ds ≤ n
  | [], _ => by
    show 0 ≤ n
    omega
  | d :: r, h => by
    have h1 := h d List.mem_cons_self
    have h2 := depAll (ds := r) fun e he => h e (List.mem_cons_of_mem _ he)
    show max d.depth (PyData.depthAll r) ≤ n
    omega
theorem Sh.non {n : Nat} : Sh n .none := ⟨rfl, Nat.zero_le _⟩
theorem Sh.bl {n : Nat} (b : Bool) : Sh n (.bool b) := ⟨rfl, Nat.zero_le _⟩
theorem Sh.int {n : Nat} (i : Int) : Sh n (.int i) := ⟨rfl, Nat.zero_le _⟩
theorem Sh.str {n : Nat} {x : Str} (h : (PyData.str x).canLay0 = true) : Sh n (.str x) := ⟨h, Nat.zero_le _⟩
theorem Sh.lst {n : Nat} {ds : List PyData} (h : ∀ d ∈ ds, Sh n d) : Sh (n + 1) (.list ds) :=
  ⟨canAll fun d hd => (h d hd).1, by
    have := depAll fun d hd => (h d hd).2
    show PyData.depthAll ds + 1 ≤ n + 1
    omega⟩
theorem Sh.tup {n : Nat} {ds : List PyData} (h : ∀ d ∈ ds, Sh n d) : Sh (n + 1) (.tuple ds) :=
  ⟨canAll fun d hd => (h d hd).1, by
    have := depAll fun d hd => (h d hd).2
    show PyData.depthAll ds + 1 ≤ n + 1
    omega⟩
theorem Sh.shaped {n : Nat} {d : PyData} (h : Sh n d) (hn : n ≤ 64) : SeqAt.shaped d = true := by
  unfold SeqAt.shaped
  rw [h.1, Bool.true_and]
  exact decide_eq_true (Nat.le_trans h.2 hn)
theorem Sh.refl {n : Nat} {d : PyData} (h : Sh n d) : PyData.eqv d d = true := SeqAt.eqv_refl d h.1
theorem sh_ints {n : Nat} (ns : List Int) : Sh (n + 1) (.list (ns.map PyData.int)) := .lst fun d hd => by
  obtain ⟨i, _, rfl⟩ := List.mem_map.mp hd
  exact .int i
/-- values paired with data, by place -/
theorem dp_all {K : PySem.W.Frag} {H : Hp} : ∀ {vs : List V} {ds : List PyData}, vs.length = ds.length → (∀ (i : Nat) (v : V) (d : PyData), vs[i]? = some v → ds[i]? = some d → Dp K H v d) → DpAll K H vs ds
  | [], [], _, _ => .nil
  | [], _ :: _, h, _ => by simp at h
  | _ :: _, [], h, _ => by simp at h
  | v :: vs, d :: ds, h, k => .cons (k 0 v d rfl rfl) (dp_all (by simpa using h) fun i w e hw he => k (i + 1) w e hw he)
theorem dp_ints {K : PySem.W.Frag} {H : Hp} : ∀ ns : List Int, DpAll K H (ns.map V.int) (ns.map PyData.int)
  | [] => .nil
  | i :: r => .cons (.int i) (dp_ints r)
theorem atI_end {α : Type} {xs : List α} {v : α} (h : xs[xs.length - 1]? = some v) : atI xs (-1) = some v := by
  obtain ⟨hl, e⟩ := List.getElem?_eq_some_iff.mp h
  unfold atI ixN
  rw [if_neg (by decide), if_pos (by omega)]
  have e1 : ((-1 : Int) + (xs.length : Int)).toNat = xs.length - 1 := by omega
  rw [e1]
  exact h
end BM

/-! ## The tables, in plain Lean -/
namespace BM
open PySem PySem.Spec PyProof.Rows L2
def choStep (m : Nat) (f t : Nat) : Nat := f * (m - t) / (t + 1)
def choN (m c : Nat) : Nat := (List.range c).foldl (choStep m) 1
def waysN (r t : Nat) : Nat := choN (r + t) r
def oftGo (s r : Nat) : Nat → Nat → Nat
  | 0, t => t
  | n + 1, t => if waysN r t ≤ s then oftGo s r n (t + 1) else t
/-- how often -/
def oftN (s r : Nat) : Nat := oftGo s r 101 0
def costN (s r : Nat) : Int := if oftN s r = 0 then 0 else (oftN s r : Int) * ((s : Int) + 1) - (waysN (r + 1) (oftN s r - 1) : Int)
theorem choN_succ (m c : Nat) : choN m (c + 1) = choStep m (choN m c) c := by
  unfold choN
  rw [List.range_succ, List.foldl_append] <;> rfl
theorem ways_far : ∀ r, r < 14 → 1 ≤ r → 100 < waysN r 101 := by decide +kernel
theorem oftGo_le {s r : Nat} : ∀ n t, oftGo s r n t ≤ n + t
  | 0, t => by
    show t ≤ 0 + t
    omega
  | n + 1, t => by
    have h := oftGo_le (s := s) (r := r) n (t + 1)
    show (if waysN r t ≤ s then oftGo s r n (t + 1) else t) ≤ n + 1 + t
    split <;> omega
theorem oftN_le (s r : Nat) : oftN s r ≤ 101 := oftGo_le 101 0
theorem oft_yes {s r n t : Nat} (h : waysN r t ≤ s) : oftGo s r (n + 1) t = oftGo s r n (t + 1) := if_pos h
theorem oft_no {s r n t : Nat} (h : ¬ waysN r t ≤ s) : oftGo s r n t = t := by
  cases n with
  | zero => rfl
  | succ n => exact if_neg h
def goodC (o1 o2 : Option Int) : Bool := among o1 0 100 && among o2 1 12
/-- the best of the marks met so far -/
def bestStep (above found : List Int) (many : Nat) (b : Option Int) (j : Nat) : Option Int :=
  let w := ((j : Int) + 1) + above.getD (many - (j + 1)) 0 + found.getD j 0
  match b with
  | none => some w
  | some v => if w < v then some w else some v
def bestN (above found : List Int) (many : Nat) (j : Nat) : Option Int := (List.range j).foldl (bestStep above found many) none
def nextN (above : List Int) : Nat → List Int
  | 0 => [0]
  | n + 1 => nextN above n ++ [(bestN above (nextN above n) (n + 1) (n + 1)).getD 0]
theorem nextN_len (above : List Int) : ∀ n, (nextN above n).length = n + 1
  | 0 => rfl
  | n + 1 => by
    show (nextN above n ++ [_]).length = n + 1 + 1
    rw [List.length_append, nextN_len above n] <;> rfl
theorem bestN_succ (above found : List Int) (many j : Nat) : bestN above found many (j + 1) = bestStep above found many (bestN above found many j) j := by
  unfold bestN
  rw [List.range_succ, List.foldl_append] <;> rfl
theorem bestStep_some (above found : List Int) (many : Nat) (b : Option Int) (j : Nat) : ∃ v, bestStep above found many b j = some v := by
  unfold bestStep
  cases b with
  | none => exact ⟨_, rfl⟩
  | some v =>
    dsimp only
    split
    · exact ⟨_, rfl⟩
    · exact ⟨_, rfl⟩
def lineOne (n : Nat) : List Int := (List.range (n + 1)).map fun (m : Nat) => ((m : Int) * ((m : Int) + 1)) / 2
def tableN (n : Nat) : Nat → List (List Int)
  | 0 => [lineOne n]
  | r + 1 => tableN n r ++ [nextN ((tableN n r).getLastD []) n]
def oV : Option Int → V
  | none => .non
  | some i => .int i
theorem tableN_len (n : Nat) : ∀ r, (tableN n r).length = r + 1
  | 0 => rfl
  | r + 1 => by
    show (tableN n r ++ [_]).length = r + 1 + 1
    rw [List.length_append, tableN_len n r] <;> rfl
end BM
namespace BM
open PySem PySem.Spec PyProof.Rows L2
def lineK (n : Nat) : Nat → List Int
  | 0 => lineOne n
  | k + 1 => nextN (lineK n k) n
theorem lineK_len (n : Nat) : ∀ k, (lineK n k).length = n + 1
  | 0 => by
    show (lineOne n).length = n + 1
    unfold lineOne
    rw [List.length_map, List.length_range]
  | k + 1 => nextN_len _ n
/-- the rows stand at these places -/
structure Rows (H : Hp) (as : List Addr) (r : Nat) (f : Nat → List Int) : Prop where
  len : as.length = r
  at' : ∀ i a, as[i]? = some a → H a = some (.lst ((f i).map V.int))
def RetRows (H : Hp) (r : Nat) (f : Nat → List Int) (Q : VK) : Prop :=
  ∀ p as H', H p = none → (∀ a ∈ as, H a = none) → Same H H' → H' p = some (.lst (as.map V.ref)) → Rows H' as r f → Q (.ref p) H'
theorem lineOne_take (m : Nat) : (((List.range m).map fun (m : Nat) => ((m : Int) * ((m : Int) + 1)) / 2).map V.int) ++ [V.int (((m : Int) * ((m : Int) + 1)) / 2)] = ((List.range (m + 1)).map fun (m : Nat) => ((m : Int) * ((m : Int) + 1)) / 2).map V.int := by
  rw [List.range_succ, List.map_append, List.map_append] <;> rfl
end BM

/-! ## The least cost: as a greatest of straight lines -/
namespace BM
theorem ways_zero : ∀ r, r < 15 → waysN r 0 = 1 := by decide +kernel
theorem ways_nil : ∀ t, t < 104 → waysN 0 t = 1 := by decide +kernel
theorem pascal' : ((List.range 13).all fun r => (List.range 103).all fun t => waysN (r + 1) (t + 1) == waysN (r + 1) t + waysN r (t + 1)) = true := by decide +kernel
theorem pascal {r t : Nat} (hr : r < 13) (ht : t < 103) : waysN (r + 1) (t + 1) = waysN (r + 1) t + waysN r (t + 1) :=
  eq_of_beq (List.all_eq_true.mp (List.all_eq_true.mp pascal' r (List.mem_range.mpr hr)) t (List.mem_range.mpr ht))
theorem ways_pos : ∀ r t, r < 14 → t < 104 → 1 ≤ waysN r t
  | 0, t, _, ht => by rw [ways_nil t ht]; omega
  | r + 1, 0, hr, _ => by rw [ways_zero (r + 1) (by omega)]; omega
  | r + 1, t + 1, hr, ht => by
    have h := ways_pos (r + 1) t hr (by omega)
    rw [pascal (by omega) (by omega)]
    omega
theorem ways_up {r t : Nat} (hr : r < 13) (ht : t < 103) : waysN (r + 1) t < waysN (r + 1) (t + 1) := by
  have h := ways_pos r (t + 1) (by omega) (by omega)
  rw [pascal hr ht]
  omega
theorem ways_mono {r t : Nat} (h1 : 1 ≤ r) (hr : r < 14) : ∀ d, t + d < 104 → waysN r t + d ≤ waysN r (t + d)
  | 0, _ => Nat.le_refl _
  | d + 1, h => by
    have i := ways_mono (t := t) h1 hr d (by omega)
    obtain ⟨q, rfl⟩ : ∃ q, r = q + 1 := ⟨r - 1, by omega⟩
    have u := ways_up (r := q) (t := t + d) (by omega) (by omega)
    show waysN (q + 1) t + (d + 1) ≤ waysN (q + 1) (t + d + 1)
    omega
theorem ways_lt {r a b : Nat} (h1 : 1 ≤ r) (hr : r < 14) (hb : b < 104) (h : a ≤ b) : waysN r a + (b - a) ≤ waysN r b := by
  have := ways_mono (t := a) h1 hr (b - a) (by omega)
  have e : a + (b - a) = b := by omega
  rw [e] at this
  exact this
theorem ways_ge {r t : Nat} (h1 : 1 ≤ r) (hr : r < 14) (ht : t < 104) : t + 1 ≤ waysN r t := by
  have := ways_lt (a := 0) (b := t) h1 hr ht (Nat.zero_le _)
  rw [ways_zero r (by omega)] at this
  omega
theorem oftGo_spec {s r : Nat} : ∀ n t, (∀ u, u < t → waysN r u ≤ s) → (s < waysN r (n + t)) → (∀ u, u < oftGo s r n t → waysN r u ≤ s) ∧ s < waysN r (oftGo s r n t)
  | 0, t, h, hs => by
    rw [Nat.zero_add] at hs
    exact ⟨h, hs⟩
  | n + 1, t, h, hs => by
    by_cases c : waysN r t ≤ s
    · rw [oft_yes c]
      refine oftGo_spec n (t + 1) (fun u hu => ?_) (by rw [show n + (t + 1) = n + 1 + t by omega]; exact hs)
      by_cases e : u = t
      · rw [e]
        exact c
      · exact h u (by omega)
    · rw [oft_no c]
      exact ⟨h, by omega⟩
theorem oft_spec {s r : Nat} (hs : s ≤ 101) (h1 : 1 ≤ r) (hr : r < 14) : (∀ u, u < oftN s r → waysN r u ≤ s) ∧ s < waysN r (oftN s r) := by
  refine oftGo_spec 101 0 (fun u hu => by omega) ?_
  show s < waysN r 101
  have := ways_ge (t := 101) h1 hr (by omega)
  omega
theorem oft_le {s r : Nat} (hs : s ≤ 101) (h1 : 1 ≤ r) (hr : r < 14) : oftN s r ≤ s := by
  have h := (oft_spec hs h1 hr).1
  by_cases c : oftN s r ≤ s
  · exact c
  · have q := h s (by omega)
    have := ways_ge (t := s) h1 hr (by omega)
    omega
def phi (r s t : Nat) : Int := if t = 0 then 0 else (t : Int) * ((s : Int) + 1) - (waysN (r + 1) (t - 1) : Int)
theorem cost_phi (s r : Nat) : costN s r = phi r s (oftN s r) := rfl
theorem phi_step {r s t : Nat} (hr : r < 13) (ht : t < 103) : phi r s (t + 1) = phi r s t + ((s : Int) + 1) - (waysN r t : Int) := by
  cases t with
  | zero =>
    show (if (0 + 1 : Nat) = 0 then (0 : Int) else ((0 + 1 : Nat) : Int) * ((s : Int) + 1) - (waysN (r + 1) 0 : Int)) = 0 + ((s : Int) + 1) - (waysN r 0 : Int)
    rw [if_neg (by omega), ways_zero (r + 1) (by omega), ways_zero r (by omega)]
    omega
  | succ t =>
    have p := pascal (r := r) (t := t) hr (by omega)
    show (if (t + 1 + 1 : Nat) = 0 then (0 : Int) else ((t + 1 + 1 : Nat) : Int) * ((s : Int) + 1) - (waysN (r + 1) (t + 1) : Int)) = (if (t + 1 : Nat) = 0 then (0 : Int) else ((t + 1 : Nat) : Int) * ((s : Int) + 1) - (waysN (r + 1) t : Int)) + ((s : Int) + 1) - (waysN r (t + 1) : Int)
    rw [if_neg (by omega), if_neg (by omega), p]
    have e : ((t + 1 + 1 : Nat) : Int) * ((s : Int) + 1) = ((t + 1 : Nat) : Int) * ((s : Int) + 1) + ((s : Int) + 1) := by
      rw [Int.natCast_add (t + 1) 1, Int.add_mul]
      show _ + (1 : Int) * _ = _
      rw [Int.one_mul]
    rw [e, Int.natCast_add]
    omega
/-- the least cost is the greatest of the lines -/
theorem phi_le {r s t : Nat} (hs : s ≤ 101) (h1 : 1 ≤ r) (hr : r < 13) (ht : t ≤ 103) : phi r s t ≤ costN s r := by
  obtain ⟨a, b⟩ := oft_spec (s := s) (r := r) hs h1 (by omega)
  have o := oft_le (s := s) (r := r) hs h1 (by omega)
  rw [cost_phi]
  have up : ∀ d, d ≤ oftN s r → phi r s (oftN s r - d) ≤ phi r s (oftN s r) := by
    intro d
    induction d with
    | zero => intro _; exact Int.le_refl _
    | succ d ih =>
      intro hd
      have i := ih (by omega)
      have st := phi_step (r := r) (s := s) (t := oftN s r - (d + 1)) (by omega) (by omega)
      have w := a (oftN s r - (d + 1)) (by omega)
      have e : oftN s r - (d + 1) + 1 = oftN s r - d := by omega
      rw [e] at st
      omega
  have down : ∀ d, oftN s r + d ≤ 103 → phi r s (oftN s r + d) ≤ phi r s (oftN s r) := by
    intro d
    induction d with
    | zero => intro _; exact Int.le_refl _
    | succ d ih =>
      intro hd
      have i := ih (by omega)
      have st := phi_step (r := r) (s := s) (t := oftN s r + d) (by omega) (by omega)
      have w := ways_lt (r := r) (a := oftN s r) (b := oftN s r + d) h1 (by omega) (by omega) (by omega)
      rw [show oftN s r + (d + 1) = oftN s r + d + 1 by omega]
      omega
  by_cases c : t ≤ oftN s r
  · have := up (oftN s r - t) (by omega)
    rw [show oftN s r - (oftN s r - t) = t by omega] at this
    exact this
  · have := down (t - oftN s r) (by omega)
    rw [show oftN s r + (t - oftN s r) = t by omega] at this
    exact this
theorem cost_nonneg {s r : Nat} (hs : s ≤ 101) (h1 : 1 ≤ r) (hr : r < 13) : 0 ≤ costN s r := phi_le (t := 0) hs h1 hr (by omega)
/-- no mark does better -/
theorem cost_mark {s r m : Nat} (hs : s ≤ 101) (h1 : 1 ≤ r) (hr : r < 12) (hm : 1 ≤ m) (hms : m ≤ s) : costN s (r + 1) ≤ (m : Int) + costN (s - m) r + costN (m - 1) (r + 1) := by
  rw [cost_phi s (r + 1)]
  have o := oft_le (s := s) (r := r + 1) hs (by omega) (by omega)
  cases e : oftN s (r + 1) with
  | zero =>
    have a := cost_nonneg (s := s - m) (r := r) (by omega) h1 (by omega)
    have b := cost_nonneg (s := m - 1) (r := r + 1) (by omega) (by omega) (by omega)
    show (0 : Int) ≤ _
    omega
  | succ t =>
    rw [e] at o
    have a := phi_le (s := s - m) (r := r) (t := t + 1) (by omega) h1 (by omega) (by omega)
    have b := phi_le (s := m - 1) (r := r + 1) (t := t) (by omega) (by omega) (by omega) (by omega)
    have e1 : phi (r + 1) s (t + 1) = ((t + 1 : Nat) : Int) * ((s : Int) + 1) - (waysN (r + 1 + 1) t : Int) := by
      show (if (t + 1 : Nat) = 0 then (0 : Int) else _) = _
      rw [if_neg (by omega)] <;> rfl
    have e2 : phi r (s - m) (t + 1) = ((t + 1 : Nat) : Int) * (((s - m : Nat) : Int) + 1) - (waysN (r + 1) t : Int) := by
      show (if (t + 1 : Nat) = 0 then (0 : Int) else _) = _
      rw [if_neg (by omega)] <;> rfl
    have q1 : ((t + 1 : Nat) : Int) * (((s - m : Nat) : Int) + 1) + ((t + 1 : Nat) : Int) * (m : Int) = ((t + 1 : Nat) : Int) * ((s : Int) + 1) := by
      rw [← Int.mul_add]
      congr 1
      omega
    have e3 : phi (r + 1) (m - 1) t = (t : Int) * (m : Int) - (if t = 0 then 0 else (waysN (r + 1 + 1) (t - 1) : Int)) := by
      show (if t = 0 then (0 : Int) else (t : Int) * (((m - 1 : Nat) : Int) + 1) - _) = _
      by_cases c : t = 0
      · rw [if_pos c, if_pos c, c]
        show (0 : Int) = 0 * (m : Int) - 0
        rw [Int.zero_mul] <;> rfl
      · rw [if_neg c, if_neg c, show (((m - 1 : Nat) : Int) + 1) = (m : Int) by omega]
    have q2 : ((t + 1 : Nat) : Int) * (m : Int) = (t : Int) * (m : Int) + (m : Int) := by
      rw [Int.natCast_add t 1, Int.add_mul]
      show _ + (1 : Int) * _ = _
      rw [Int.one_mul]
    have p : (waysN (r + 1 + 1) t : Int) = (if t = 0 then 0 else (waysN (r + 1 + 1) (t - 1) : Int)) + (waysN (r + 1) t : Int) := by
      cases t with
      | zero =>
        rw [if_pos rfl, ways_zero (r + 1 + 1) (by omega), ways_zero (r + 1) (by omega)] <;> rfl
      | succ t =>
        rw [if_neg (by omega), pascal (r := r + 1) (t := t) (by omega) (by omega), Int.natCast_add] <;> rfl
    omega
/-- one room more never costs more -/
theorem cost_room {s r : Nat} (hs : s ≤ 101) (h1 : 1 ≤ r) (hr : r < 12) : costN s (r + 1) ≤ costN s r := by
  rw [cost_phi s (r + 1)]
  have o := oft_le (s := s) (r := r + 1) hs (by omega) (by omega)
  refine Int.le_trans ?_ (phi_le (t := oftN s (r + 1)) hs h1 (by omega) (by omega))
  unfold phi
  by_cases c : oftN s (r + 1) = 0
  · rw [if_pos c, if_pos c]
    exact Int.le_refl _
  · rw [if_neg c, if_neg c]
    have : waysN (r + 1) (oftN s (r + 1) - 1) ≤ waysN (r + 1 + 1) (oftN s (r + 1) - 1) := by
      have hu : oftN s (r + 1) - 1 < 103 := by omega
      generalize oftN s (r + 1) - 1 = u at hu ⊢
      cases u with
      | zero => rw [ways_zero (r + 1) (by omega), ways_zero (r + 1 + 1) (by omega)]; omega
      | succ t =>
        rw [pascal (r := r + 1) (t := t) (by omega) (by omega)]
        omega
    omega
end BM

/-! ## The table's lines tell the least cost -/
namespace BM
def markN (s r : Nat) : Nat := min (waysN r (oftN s r - 1)) (s + 1 - waysN (r - 1) (oftN s r - 1))
def markOk (s r : Nat) : Bool := s == 0 || (decide (1 ≤ markN s (r + 1)) && decide (markN s (r + 1) ≤ s) && decide (costN s (r + 1) = (markN s (r + 1) : Int) + costN (s - markN s (r + 1)) r + costN (markN s (r + 1) - 1) (r + 1)))
theorem markOk1 : ((List.range 101).all fun s => (List.range 2).all fun r => markOk s (r + 1)) = true := by decide +kernel
theorem markOk2 : ((List.range 101).all fun s => (List.range 4).all fun r => markOk s (r + 3)) = true := by decide +kernel
theorem markOk3 : ((List.range 101).all fun s => (List.range 5).all fun r => markOk s (r + 7)) = true := by decide +kernel
theorem mark_ok {s r : Nat} (hs : s ≤ 100) (h0 : 1 ≤ s) (h1 : 1 ≤ r) (hr : r < 12) : 1 ≤ markN s (r + 1) ∧ markN s (r + 1) ≤ s ∧ costN s (r + 1) = (markN s (r + 1) : Int) + costN (s - markN s (r + 1)) r + costN (markN s (r + 1) - 1) (r + 1) := by
  have h : markOk s r = true := by
    by_cases c : r < 3
    · have := List.all_eq_true.mp (List.all_eq_true.mp markOk1 s (List.mem_range.mpr (by omega))) (r - 1) (List.mem_range.mpr (by omega))
      rw [show r - 1 + 1 = r by omega] at this
      exact this
    · by_cases c2 : r < 7
      · have := List.all_eq_true.mp (List.all_eq_true.mp markOk2 s (List.mem_range.mpr (by omega))) (r - 3) (List.mem_range.mpr (by omega))
        rw [show r - 3 + 3 = r by omega] at this
        exact this
      · have := List.all_eq_true.mp (List.all_eq_true.mp markOk3 s (List.mem_range.mpr (by omega))) (r - 7) (List.mem_range.mpr (by omega))
        rw [show r - 7 + 7 = r by omega] at this
        exact this
  unfold markOk at h
  rw [Bool.or_eq_true] at h
  rcases h with h | h
  · have := eq_of_beq h
    omega
  · simp only [Bool.and_eq_true, decide_eq_true_eq] at h
    exact ⟨h.1.1, h.1.2, h.2⟩
theorem one_ok : ((List.range 101).all fun s => decide (costN s 1 = ((s : Int) * ((s : Int) + 1)) / 2)) = true := by decide +kernel
theorem cost_one {s : Nat} (hs : s ≤ 100) : costN s 1 = ((s : Int) * ((s : Int) + 1)) / 2 :=
  of_decide_eq_true (List.all_eq_true.mp one_ok s (List.mem_range.mpr (by omega)))
theorem best_min {above found : List Int} {many : Nat} {w : Nat → Int} (hw : ∀ j, j < many → ((j : Int) + 1) + above.getD (many - (j + 1)) 0 + found.getD j 0 = w j) :
    ∀ j, j ≤ many → (bestN above found many j = none ∧ j = 0) ∨ ∃ v, bestN above found many j = some v ∧ (∃ i, i < j ∧ v = w i) ∧ ∀ i, i < j → v ≤ w i
  | 0, _ => .inl ⟨rfl, rfl⟩
  | j + 1, h => by
    have e := bestN_succ above found many j
    have ew := hw j (by omega)
    have st : ∀ b, bestStep above found many b j = match b with | none => some (w j) | some v => if w j < v then some (w j) else some v := by
      intro b
      unfold bestStep
      rw [ew]
    rw [st] at e
    rcases best_min hw j (by omega) with ⟨h0, rfl⟩ | ⟨v, hv, ⟨i, hi, hvi⟩, hm⟩
    · rw [h0] at e
      refine .inr ⟨w 0, e, ⟨0, by omega, rfl⟩, fun i hi => ?_⟩
      rw [show i = 0 by omega]
      exact Int.le_refl _
    · rw [hv] at e
      by_cases c : w j < v
      · have e' : bestN above found many (j + 1) = some (w j) := e.trans (if_pos c)
        refine .inr ⟨w j, e', ⟨j, by omega, rfl⟩, fun i' hi' => ?_⟩
        by_cases q : i' = j
        · rw [q]
          exact Int.le_refl _
        · have := hm i' (by omega)
          omega
      · have e' : bestN above found many (j + 1) = some v := e.trans (if_neg c)
        refine .inr ⟨v, e', ⟨i, by omega, hvi⟩, fun i' hi' => ?_⟩
        by_cases q : i' = j
        · rw [q]
          omega
        · exact hm i' (by omega)
def lineC (n r : Nat) : List Int := (List.range (n + 1)).map fun m => costN m r
theorem lineC_get {n r j : Nat} (h : j ≤ n) : (lineC n r).getD j 0 = costN j r := by
  unfold lineC
  rw [List.getD_eq_getElem?_getD, List.getElem?_map, List.getElem?_range (by omega)] <;> rfl
theorem next_line {n r : Nat} (h1 : 1 ≤ r) (hr : r < 12) : ∀ k, k ≤ n → n ≤ 100 → nextN (lineC n r) k = lineC k (r + 1)
  | 0, _, _ => by
    show [(0 : Int)] = [costN 0 (r + 1)]
    have o := oft_le (s := 0) (r := r + 1) (by omega) (by omega) (by omega)
    have e : costN 0 (r + 1) = 0 := by
      unfold costN
      rw [if_pos (by omega)]
    rw [e]
  | k + 1, hk, hn => by
    have ih := next_line h1 hr k (by omega) hn
    have e : lineC (k + 1) (r + 1) = lineC k (r + 1) ++ [costN (k + 1) (r + 1)] := by
      unfold lineC
      rw [List.range_succ (n := k + 1), List.map_append] <;> rfl
    show nextN (lineC n r) k ++ [(bestN (lineC n r) (nextN (lineC n r) k) (k + 1) (k + 1)).getD 0] = _
    rw [ih, e]
    have hw : ∀ j, j < k + 1 → ((j : Int) + 1) + (lineC n r).getD (k + 1 - (j + 1)) 0 + (lineC k (r + 1)).getD j 0 = ((j : Int) + 1) + costN (k + 1 - (j + 1)) r + costN j (r + 1) := fun j hj => by
      rw [lineC_get (by omega), lineC_get (by omega)]
    rcases best_min hw (k + 1) (Nat.le_refl _) with ⟨_, h0⟩ | ⟨v, hv, ⟨i, hi, hvi⟩, hm⟩
    · omega
    · rw [hv]
      obtain ⟨m1, m2, m3⟩ := mark_ok (s := k + 1) (r := r) (by omega) (by omega) h1 hr
      have a := hm (markN (k + 1) (r + 1) - 1) (by omega)
      have b := cost_mark (s := k + 1) (r := r) (m := i + 1) (by omega) h1 hr (by omega) (by omega)
      rw [show markN (k + 1) (r + 1) - 1 + 1 = markN (k + 1) (r + 1) by omega] at a
      rw [show i + 1 - 1 = i by omega] at b
      have ev : v = costN (k + 1) (r + 1) := by omega
      rw [ev] <;> rfl
theorem lineK_eq {n : Nat} (hn : n ≤ 100) : ∀ k, k < 12 → lineK n k = lineC n (k + 1)
  | 0, _ => by
    show lineOne n = lineC n 1
    unfold lineOne lineC
    refine List.map_congr_left fun m hm => ?_
    exact (cost_one (by have := List.mem_range.mp hm; omega)).symm
  | k + 1, hk => by
    show nextN (lineK n k) n = lineC n (k + 1 + 1)
    rw [lineK_eq hn k (by omega)]
    exact next_line (by omega) (by omega) n (Nat.le_refl _) hn
end BM

/-! ## The counts of law k11 -/
namespace BM
def sumsGo (t : Nat) : List Nat → List Nat
  | [] => []
  | c :: r => (t + c) :: sumsGo (t + c) r
def countsN (n : Nat) : Nat → List Nat
  | 0 => List.replicate n 1
  | r + 1 => sumsGo 0 (countsN n r)
theorem sumsGo_len : ∀ (t : Nat) (l : List Nat), (sumsGo t l).length = l.length
  | _, [] => rfl
  | t, c :: r => congrArg (· + 1) (sumsGo_len (t + c) r)
theorem countsN_len (n : Nat) : ∀ r, (countsN n r).length = n
  | 0 => List.length_replicate
  | r + 1 => (sumsGo_len 0 _).trans (countsN_len n r)
theorem sumsGo_snoc : ∀ (t : Nat) (l : List Nat) (x : Nat), sumsGo t (l ++ [x]) = sumsGo t l ++ [t + l.sum + x]
  | t, [], x => by
    show [t + x] = [t + 0 + x]
    rw [Nat.add_zero]
  | t, c :: r, x => by
    show (t + c) :: sumsGo (t + c) (r ++ [x]) = (t + c) :: (sumsGo (t + c) r ++ [t + (c :: r).sum + x])
    rw [sumsGo_snoc (t + c) r x, List.sum_cons, Nat.add_assoc t c]
theorem sum_ways {r : Nat} (hr : r < 13) : ∀ n, n < 103 → ((List.range (n + 1)).map (waysN r)).sum = waysN (r + 1) n
  | 0, _ => by
    show waysN r 0 + 0 = waysN (r + 1) 0
    rw [ways_zero r (by omega), ways_zero (r + 1) (by omega)]
  | n + 1, h => by
    rw [List.range_succ, List.map_append, List.sum_append, sum_ways hr n (by omega), pascal hr (by omega)]
    show _ + (waysN r (n + 1) + 0) = _
    omega
theorem counts_eq {n : Nat} (hn : n ≤ 103) : ∀ r, r < 14 → countsN n r = (List.range n).map (waysN r)
  | 0, _ => by
    show List.replicate n 1 = _
    refine List.ext_getElem (by rw [List.length_replicate, List.length_map, List.length_range]) fun i h1 h2 => ?_
    rw [List.length_replicate] at h1
    rw [List.getElem_replicate, List.getElem_map, List.getElem_range, ways_nil i (by omega)]
  | r + 1, hr => by
    have ih := counts_eq hn r (by omega)
    show sumsGo 0 (countsN n r) = _
    rw [ih]
    have go : ∀ m, m ≤ n → sumsGo 0 ((List.range m).map (waysN r)) = (List.range m).map (waysN (r + 1)) := by
      intro m
      induction m with
      | zero => intro _; rfl
      | succ m im =>
        intro hm
        have s1 := sum_ways (r := r) (by omega) m (by omega)
        rw [List.range_succ, List.map_append, List.sum_append] at s1
        rw [List.range_succ, List.map_append, List.map_append]
        show sumsGo 0 (List.map (waysN r) (List.range m) ++ [waysN r m]) = _
        rw [sumsGo_snoc, im (by omega)]
        have e : 0 + ((List.range m).map (waysN r)).sum + waysN r m = waysN (r + 1) m := by
          have s2 : ((List.range m).map (waysN r)).sum + (waysN r m + 0) = waysN (r + 1) m := s1
          omega
        rw [e] <;> rfl
    exact go n (Nat.le_refl _)
theorem filter_len {p : Nat → Bool} {o : Nat} : ∀ n, (∀ t, t < n → p t = decide (t < o)) → ((List.range n).filter p).length = min n o
  | 0, _ => by
    show 0 = min 0 o
    omega
  | n + 1, h => by
    rw [List.range_succ, List.filter_append, List.length_append, filter_len n fun t ht => h t (by omega)]
    have hn := h n (by omega)
    by_cases c : n < o
    · rw [decide_eq_true c] at hn
      rw [List.filter_cons, if_pos hn]
      show min n o + 1 = min (n + 1) o
      omega
    · rw [decide_eq_false c] at hn
      rw [List.filter_cons, if_neg (by rw [hn]; decide)]
      show min n o + 0 = min (n + 1) o
      omega
theorem ways_le_iff {s r t : Nat} (hs : s ≤ 101) (h1 : 1 ≤ r) (hr : r < 14) (ht : t < 104) : waysN r t ≤ s ↔ t < oftN s r := by
  obtain ⟨a, b⟩ := oft_spec (s := s) (r := r) hs h1 hr
  constructor
  · intro h
    by_cases c : t < oftN s r
    · exact c
    · have := ways_lt (r := r) (a := oftN s r) (b := t) h1 hr ht (by omega)
      omega
  · exact a t
theorem times_eq {s r : Nat} (hs : s ≤ 100) (h1 : 1 ≤ r) (hr : r < 13) : ((countsN (s + 2) r).filter fun c => decide (c ≤ s)).length = oftN s r := by
  rw [counts_eq (by omega) r (by omega), List.filter_map, List.length_map, filter_len (o := oftN s r)]
  · have := oft_le (s := s) (r := r) (by omega) h1 (by omega)
    omega
  · intro t ht
    show decide (waysN r t ≤ s) = _
    exact decide_eq_decide.mpr (ways_le_iff (by omega) h1 (by omega) (by omega))
theorem due_eq {s r : Nat} (hs : s ≤ 100) (h1 : 1 ≤ r) (hr : r < 13) : (if oftN s r > 0 then (oftN s r : Int) * ((s : Int) + 1) - ((countsN (oftN s r) (r + 1)).getD (oftN s r - 1) 0 : Int) else 0) = costN s r := by
  have o := oft_le (s := s) (r := r) (by omega) h1 (by omega)
  unfold costN
  by_cases c : oftN s r = 0
  · rw [if_neg (by omega), if_pos c]
  · rw [if_pos (by omega), if_neg c, counts_eq (by omega) (r + 1) (by omega), List.getD_eq_getElem?_getD, List.getElem?_map, List.getElem?_range (by omega)] <;> rfl
theorem in_line {s r : Nat} (hs : s < 100) (h1 : 1 ≤ r) (hr : r < 13) : ((countsN (s + 2) r).any fun c => c == s + 1) = decide (waysN r (oftN s r) = s + 1) := by
  have o := oft_le (s := s) (r := r) (by omega) h1 (by omega)
  obtain ⟨a, b⟩ := oft_spec (s := s) (r := r) (by omega) h1 (by omega)
  rw [counts_eq (by omega) r (by omega)]
  by_cases c : waysN r (oftN s r) = s + 1
  · rw [decide_eq_true c]
    refine List.any_eq_true.mpr ⟨waysN r (oftN s r), List.mem_map.mpr ⟨oftN s r, List.mem_range.mpr (by omega), rfl⟩, ?_⟩
    rw [c]
    exact beq_self_eq_true _
  · rw [decide_eq_false c]
    refine Bool.eq_false_iff.mpr fun h => ?_
    obtain ⟨x, hx, e⟩ := List.any_eq_true.mp h
    obtain ⟨t, ht, rfl⟩ := List.mem_map.mp hx
    have ht' := List.mem_range.mp ht
    have e' := eq_of_beq e
    by_cases q : t < oftN s r
    · have := a t q
      omega
    · have := ways_lt (r := r) (a := oftN s r) (b := t) h1 (by omega) (by omega) (by omega)
      by_cases q2 : t = oftN s r
      · rw [q2] at e'
        omega
      · omega
theorem oft_is {s r t : Nat} (hs : s ≤ 101) (h1 : 1 ≤ r) (hr : r < 14) (ht : t < 104) (a : ∀ u, u < t → waysN r u ≤ s) (b : s < waysN r t) : oftN s r = t := by
  have h := ways_le_iff (t := t) hs h1 hr ht
  have o := oft_le hs h1 hr
  have o2 := (oft_spec hs h1 hr).2
  by_cases c : oftN s r < t
  · have := a _ c
    omega
  · by_cases c2 : t < oftN s r
    · have := h.mpr c2
      omega
    · omega
theorem phi_next {r s t : Nat} : phi r (s + 1) t = phi r s t + (t : Int) := by
  unfold phi
  by_cases c : t = 0
  · rw [if_pos c, if_pos c, c] <;> rfl
  · rw [if_neg c, if_neg c]
    have e : (t : Int) * (((s + 1 : Nat) : Int) + 1) = (t : Int) * ((s : Int) + 1) + (t : Int) := by
      rw [Int.natCast_add s 1, Int.mul_add (t : Int) (_ + _) 1, Int.mul_one] <;> rfl
    rw [e]
    omega
theorem cost_next {s r : Nat} (hs : s < 100) (h1 : 1 ≤ r) (hr : r < 13) : costN (s + 1) r = costN s r + (oftN s r : Int) + (if (decide (waysN r (oftN s r) = s + 1)) = true then 1 else 0) := by
  have o := oft_le (s := s) (r := r) (by omega) h1 (by omega)
  obtain ⟨a, b⟩ := oft_spec (s := s) (r := r) (by omega) h1 (by omega)
  rw [cost_phi, cost_phi]
  by_cases c : waysN r (oftN s r) = s + 1
  · rw [if_pos (decide_eq_true c)]
    have up := ways_lt (r := r) (a := oftN s r) (b := oftN s r + 1) h1 (by omega) (by omega) (by omega)
    have e : oftN (s + 1) r = oftN s r + 1 := oft_is (by omega) h1 (by omega) (by omega) (fun u hu => by
      by_cases q : u = oftN s r
      · rw [q]; omega
      · have := a u (by omega)
        omega) (by omega)
    rw [e, phi_step (by omega) (by omega), phi_next, c]
    omega
  · rw [if_neg (by rw [decide_eq_false c]; decide)]
    have e : oftN (s + 1) r = oftN s r := oft_is (by omega) h1 (by omega) (by omega) (fun u hu => by
      have := a u hu
      omega) (by omega)
    rw [e, phi_next]
    omega
theorem ways_one : ∀ r, r < 14 → waysN r 1 = r + 1 := by decide +kernel
theorem cost_wide {s r : Nat} (hs : s ≤ 100) (h1 : 1 ≤ r) (hr : r < 13) (h : s ≤ r) : costN s r = (s : Int) := by
  by_cases c : s = 0
  · have o := oft_le (s := s) (r := r) (by omega) h1 (by omega)
    unfold costN
    rw [if_pos (by omega), c] <;> rfl
  · have e : oftN s r = 1 := oft_is (by omega) h1 (by omega) (by omega) (fun u hu => by
      rw [show u = 0 by omega, ways_zero r (by omega)]
      omega) (by rw [ways_one r (by omega)]; omega)
    unfold costN
    rw [e, if_neg (by omega), ways_zero (r + 1) (by omega)]
    omega
end BM

namespace BM
open PySem PySem.Spec PyProof.Rows L2
def top (i : Nat) : Stmt := PySem.Challenge.pw_backmarks_k11_whole_by_how_often.main.body.getD i (.Pass ⟨0, 0, 0, 0⟩)
abbrev s_is_among : Stmt := top 5
abbrev s_need_counts : Stmt := top 8
abbrev s_choices : Stmt := top 9
abbrev s_ways : Stmt := top 10
abbrev s_often : Stmt := top 11
abbrev s_cost : Stmt := top 12
abbrev s_least : Stmt := top 13
abbrev s_next_line : Stmt := top 14
abbrev s_table : Stmt := top 15
abbrev s_l_cell_at : Stmt := top 17
abbrev s_l_whole : Stmt := top 18
abbrev s_l_counts : Stmt := top 19
abbrev s_law : Stmt := top 20
/-- what the top has left -/
structure Txt (K : PySem.W.Frag) (mg : Str → Option Value) : Type where
  aBadCount : Addr
  d_is_among : Def K mg "is_among" "is_among" s_is_among ["thing", "low", "high"]
  d_need_counts : Def K mg "need_counts" "need_counts" s_need_counts ["steps", "room"]
  d_choices : Def K mg "choices" "choices" s_choices ["many", "chosen"]
  d_ways : Def K mg "ways" "ways" s_ways ["room", "times"]
  d_often : Def K mg "often" "often" s_often ["steps", "room"]
  d_cost : Def K mg "cost" "cost" s_cost ["steps", "room"]
  d_least : Def K mg "least" "least" s_least ["steps", "room"]
  d_next_line : Def K mg "next_line" "next_line" s_next_line ["above", "steps"]
  d_table : Def K mg "table" "table" s_table ["steps", "room"]
  d_l_cell_at : Def K mg "_law_cell_at" "_law_cell_at" s_l_cell_at ["_law_script", "_law_k"]
  d_l_whole : Def K mg "_law_whole" "_law_whole" s_l_whole ["_law_found"]
  d_l_counts : Def K mg "_law_counts" "_law_counts" s_l_counts ["_law_room", "_law_many"]
  d_law : Def K mg "law" "law" s_law ["_law_script"]
  c_MOST_STEPS : ∃ t, mg "MOST_STEPS" = some (.int 100 t)
  c_MOST_ROOM : ∃ t, mg "MOST_ROOM" = some (.int 12 t)
  n_isinstance : mg "isinstance" = none
  n_bool : mg "bool" = none
  n_int : mg "int" = none
  n_range : mg "range" = none
  n_len : mg "len" = none
  x_BadCount : XC K mg "BadCount" aBadCount
theorem sc_is_among : FnScope ["thing", "low", "high"] ["thing", "low", "high"] (defScope s_is_among) := ⟨rfl, rfl, rfl, by decide +kernel, rfl, by decide +kernel, by decide +kernel⟩
theorem sc_need_counts : FnScope ["steps", "room"] ["steps", "room"] (defScope s_need_counts) := ⟨rfl, rfl, rfl, by decide +kernel, rfl, by decide +kernel, by decide +kernel⟩
theorem sc_choices : FnScope ["many", "chosen", "found", "turn"] ["many", "chosen"] (defScope s_choices) := ⟨rfl, rfl, rfl, by decide +kernel, rfl, by decide +kernel, by decide +kernel⟩
theorem sc_ways : FnScope ["room", "times"] ["room", "times"] (defScope s_ways) := ⟨rfl, rfl, rfl, by decide +kernel, rfl, by decide +kernel, by decide +kernel⟩
theorem sc_often : FnScope ["steps", "room", "times"] ["steps", "room"] (defScope s_often) := ⟨rfl, rfl, rfl, by decide +kernel, rfl, by decide +kernel, by decide +kernel⟩
theorem sc_cost : FnScope ["steps", "room", "times"] ["steps", "room"] (defScope s_cost) := ⟨rfl, rfl, rfl, by decide +kernel, rfl, by decide +kernel, by decide +kernel⟩
theorem sc_least : FnScope ["steps", "room"] ["steps", "room"] (defScope s_least) := ⟨rfl, rfl, rfl, by decide +kernel, rfl, by decide +kernel, by decide +kernel⟩
theorem sc_next_line : FnScope ["above", "steps", "found", "many", "best", "mark", "whole"] ["above", "steps"] (defScope s_next_line) := ⟨rfl, rfl, rfl, by decide +kernel, rfl, by decide +kernel, by decide +kernel⟩
theorem sc_table : FnScope ["steps", "room", "found", "turn", "many"] ["steps", "room"] (defScope s_table) := ⟨rfl, rfl, rfl, by decide +kernel, rfl, by decide +kernel, by decide +kernel⟩
theorem sc_l_cell_at : FnScope ["_law_script", "_law_k"] ["_law_script", "_law_k"] (defScope s_l_cell_at) := ⟨rfl, rfl, rfl, by decide +kernel, rfl, by decide +kernel, by decide +kernel⟩
theorem sc_l_whole : FnScope ["_law_found"] ["_law_found"] (defScope s_l_whole) := ⟨rfl, rfl, rfl, by decide +kernel, rfl, by decide +kernel, by decide +kernel⟩
theorem sc_l_counts : FnScope ["_law_room", "_law_many", "_law_line", "_law_turn", "_law_sums", "_law_total", "_law_count"] ["_law_room", "_law_many"] (defScope s_l_counts) := ⟨rfl, rfl, rfl, by decide +kernel, rfl, by decide +kernel, by decide +kernel⟩
theorem sc_law : FnScope ["_law_script", "_law_steps", "_law_room", "_law_line", "_law_times", "_law_due", "_law_found", "_law_few", "_law_lines", "_law_count", "_law_one"] ["_law_script"] (defScope s_law) := ⟨rfl, rfl, rfl, by decide +kernel, rfl, by decide +kernel, by decide +kernel⟩
section
variable {P : Program} {w : World} {K : PySem.W.Frag} {mg : Str → Option Value} {base : Heap}
/-- is_among(thing, low, high) -/
def sp_is_among (K : PySem.W.Frag) : Sp := fun vs H Q _ => ∃ (x : V) (lo hi : Int) (o : Option Int), vs = [x, .int lo, .int hi] ∧ Thg K H x o ∧ Q (.bl (among o lo hi)) H
theorem ok_is_among (T : Txt K mg) : OkF P w K mg base "is_among" 1 ["thing", "low", "high"] (sp_is_among K) := by
  refine okf T.d_is_among sc_is_among (fun vs H Q E h => ?_) (fun f cdv A outer s H vs Q E hr h => ?_)
  · obtain ⟨x, lo, hi, o, rfl, th, k⟩ := h
    rfl
  · obtain ⟨x, lo, hi, o, rfl, th, k⟩ := h
    refine ⟨_, (pss_one (ps_ret (pe_and (pe_callB call_isi (by rfl) T.n_isinstance (by decide +kernel) (pa_cons (pv 0) (pa_cons (pe_bltn (v := .ty "int") (by rfl) T.n_int (by decide +kernel) rfl) pa_nil))) (pe_and (pe_not (pe_callB call_isi (by rfl) T.n_isinstance (by decide +kernel) (pa_cons (pv 0) (pa_cons (pe_bltn (v := .ty "bool") (by rfl) T.n_bool (by decide +kernel) rfl) pa_nil)))) (pe_one (pe_chain op_le op_le (pv 1) (pv 0) (pv 2))))))), ?_⟩
    refine ⟨_, rfl, ?_⟩
    cases th with
    | int i =>
      refine ⟨_, _, _, _, true, rfl, .ty "int", .base (.int i), kit_ty (by decide +kernel), true, rfl, iteT ?_⟩
      refine ⟨_, rfl, _, _, _, _, false, rfl, .ty "bool", .base (.int i), kit_ty (by decide +kernel), false, rfl, true, rfl, iteT ?_⟩
      refine ⟨_, rfl, _, rfl, _, _, rfl, rfl, _, rfl, ?_⟩
      refine ite2 (fun c => ?_) (fun c => ?_)
      · refine ⟨_, rfl, _, _, rfl, rfl, ?_⟩
        have e : among (some i) lo hi = decide (i ≤ hi) := by
          show (decide (lo ≤ i) && decide (i ≤ hi)) = decide (i ≤ hi)
          rw [c, Bool.true_and]
        rw [e] at k
        exact k
      · have e : among (some i) lo hi = false := by
          show (decide (lo ≤ i) && decide (i ≤ hi)) = false
          rw [Bool.eq_false_iff.mpr c, Bool.false_and]
        rw [e] at k
        exact k
    | bl b =>
      refine ⟨_, _, _, _, true, rfl, .ty "int", .base (.bl b), kit_ty (by decide +kernel), true, rfl, iteT ?_⟩
      refine ⟨_, rfl, _, _, _, _, true, rfl, .ty "bool", .base (.bl b), kit_ty (by decide +kernel), true, rfl, false, rfl, iteF ?_⟩
      exact k
    | oth ty ni =>
      refine ⟨_, _, _, _, false, rfl, .ty "int", ty, ni, false, rfl, iteF ?_⟩
      exact k
def sp_need_counts (K : PySem.W.Frag) (C : Addr) : Sp := fun vs H Q E => ∃ (x y : V) (o1 o2 : Option Int), vs = [x, y] ∧ Thg K H x o1 ∧ Thg K H y o2 ∧ (goodC o1 o2 = true → Q .non H) ∧ (goodC o1 o2 = false → E (.ref C) none H)
theorem ok_need_counts (T : Txt K mg) : OkF P w K mg base "need_counts" 2 ["steps", "room"] (sp_need_counts K T.aBadCount) := by
  obtain ⟨f_is_among, fd_is_among, m_is_among, k_is_among, b_is_among, G_is_among⟩ := ok_is_among (P := P) (w := w) (base := base) T
  refine okf T.d_need_counts sc_need_counts (fun vs H Q E h => ?_) (fun f cdv A outer s H vs Q E hr h => ?_)
  · obtain ⟨x, y, o1, o2, rfl, t1, t2, kg, kb⟩ := h
    rfl
  · obtain ⟨x, y, o1, o2, rfl, t1, t2, kg, kb⟩ := h
    refine ⟨_, (pss_cons (ps_if (pt_not (pt_val (pe_call G_is_among (hr.mono (by decide)) (by rfl) m_is_among k_is_among b_is_among .nil passL (pa_cons (pv 0) (pa_cons pe_int (pa_cons (pe_glob (v := .int 100) (by rfl) T.c_MOST_STEPS.choose_spec ⟨_, rfl⟩) pa_nil))))))
        (pss_one (ps_raise rfl (takes_of rfl rfl rfl rfl) (pmk_own PySem.F.excBase_ValueError T.x_BadCount.x T.x_BadCount.g T.x_BadCount.k (raises_own T.x_BadCount.b T.x_BadCount.t) rfl)))
        pss_nil)
        (pss_one (ps_if (pt_not (pt_val (pe_call G_is_among (hr.mono (by decide)) (by rfl) m_is_among k_is_among b_is_among .nil passL (pa_cons (pv 1) (pa_cons pe_int (pa_cons (pe_glob (v := .int 12) (by rfl) T.c_MOST_ROOM.choose_spec ⟨_, rfl⟩) pa_nil))))))
        (pss_one (ps_raise rfl (takes_of rfl rfl rfl rfl) (pmk_own PySem.F.excBase_ValueError T.x_BadCount.x T.x_BadCount.g T.x_BadCount.k (raises_own T.x_BadCount.b T.x_BadCount.t) rfl)))
        pss_nil))), ?_⟩
    refine ⟨_, rfl, x, 0, 100, o1, rfl, t1, _, rfl, ?_⟩
    cases c1 : among o1 0 100 with
    | false =>
      refine iteT ?_
      refine kb ?_
      unfold goodC
      rw [c1, Bool.false_and]
    | true =>
      refine iteF ?_
      refine ⟨_, rfl, y, 1, 12, o2, rfl, t2, _, rfl, ?_⟩
      cases c2 : among o2 1 12 with
      | false =>
        refine iteT ?_
        refine kb ?_
        unfold goodC
        rw [c1, c2, Bool.true_and]
      | true =>
        refine iteF ?_
        refine kg ?_
        unfold goodC
        rw [c1, c2, Bool.true_and]
def sp_choices : Sp := fun vs H Q _ => ∃ m c : Nat, vs = [.int (m : Int), .int (c : Int)] ∧ c ≤ m ∧ m ≤ 1000 ∧ Q (.int (choN m c : Int)) H
theorem ok_choices (T : Txt K mg) : OkF P w K mg base "choices" 1 ["many", "chosen"] (sp_choices) := by
  refine okf T.d_choices sc_choices (fun vs H Q E h => ?_) (fun f cdv A outer s H vs Q E hr h => ?_)
  · obtain ⟨m, c, rfl, hc, hm, k⟩ := h
    rfl
  · obtain ⟨m, c, rfl, hc, hm, k⟩ := h
    refine ⟨_, (pss_cons (ps_set (i := 2) sc_choices.nd rfl (Or.inl rfl) pe_int)
        (pss_cons (ps_for (passes_of rfl) rfl (pi_range1 (by rfl) T.n_range (pa_cons (pv 1) pa_nil)) (pg_name (i := 3) sc_choices.nd rfl (Or.inl rfl))
        (pss_one (ps_set (i := 2) sc_choices.nd rfl (Or.inl rfl) (pe_op op_fdiv (pe_op op_mul (pv 2) (pe_op op_sub (pv 0) (pv 3))) (pe_op op_add (pv 3) pe_int)))))
        (pss_one (ps_ret (pv 2))))), ?_⟩
    refine ⟨_, rfl, _, rfl, by omega, by omega, ?_⟩
    refine for_range (lo := 0) (n := (c : Int).toNat) (fun i σ H' => H' = H ∧ ∃ v, σ = [some (.int (m : Int)), some (.int (c : Int)), some (.int (choN m i : Int)), v]) ⟨rfl, none, rfl⟩ ?_ ?_
    · rintro i σ H' hi ⟨rfl, v, rfl⟩
      rw [Int.toNat_natCast] at hi
      refine ⟨_, rfl, _, rfl, _, rfl, _, _, rfl, rfl, _, _, rfl, rfl, .inr ⟨by show -(2 ^ 64 : Int) < (m : Int) - (0 + (i : Int)); omega, by show (m : Int) - (0 + (i : Int)) < 2 ^ 64; omega⟩, _, rfl, _, _, rfl, rfl, _, _, rfl, rfl, ⟨by show (0 : Int) < 0 + (i : Int) + 1; omega, by show (0 : Int) + (i : Int) + 1 < 1073741824; omega⟩, ?_⟩
      refine ⟨rfl, some (.int (0 + (i : Int))), ?_⟩
      have e1 : ((m : Int) - (0 + (i : Int))) = ((m - i : Nat) : Int) := by omega
      have e2 : ((0 : Int) + (i : Int) + 1) = ((i + 1 : Nat) : Int) := by omega
      have e : ((choN m i : Int) * ((m : Int) - (0 + (i : Int)))) / (0 + (i : Int) + 1) = (choN m (i + 1) : Int) := by
        rw [e1, e2, choN_succ]
        show _ = ((choN m i * (m - i) / (i + 1) : Nat) : Int)
        rw [Int.natCast_ediv, Int.natCast_mul]
      show [some (V.int (m : Int)), some (V.int (c : Int)), some (V.int (((choN m i : Int) * ((m : Int) - (0 + (i : Int)))) / (0 + (i : Int) + 1))), some (V.int (0 + (i : Int)))] = _
      rw [e]
    · rintro σ H' ⟨rfl, v, rfl⟩
      rw [Int.toNat_natCast]
      exact ⟨_, rfl, k⟩
def sp_ways : Sp := fun vs H Q _ => ∃ r t : Nat, vs = [.int (r : Int), .int (t : Int)] ∧ r + t ≤ 1000 ∧ Q (.int (waysN r t : Int)) H
theorem ok_ways (T : Txt K mg) : OkF P w K mg base "ways" 2 ["room", "times"] (sp_ways) := by
  obtain ⟨f_choices, fd_choices, m_choices, k_choices, b_choices, G_choices⟩ := ok_choices (P := P) (w := w) (base := base) T
  refine okf T.d_ways sc_ways (fun vs H Q E h => ?_) (fun f cdv A outer s H vs Q E hr h => ?_)
  · obtain ⟨r, t, rfl, hb, k⟩ := h
    rfl
  · obtain ⟨r, t, rfl, hb, k⟩ := h
    refine ⟨_, (pss_one (ps_ret (pe_call G_choices (hr.mono (by decide)) (by rfl) m_choices k_choices b_choices .nil passL (pa_cons (pe_op op_add (pv 0) (pv 1)) (pa_cons (pv 0) pa_nil))))), ?_⟩
    exact ⟨_, rfl, _, rfl, _, _, rfl, rfl, _, rfl, r + t, r, by rw [Int.natCast_add] <;> rfl, Nat.le_add_right _ _, hb, k⟩
def sp_often : Sp := fun vs H Q _ => ∃ s r : Nat, vs = [.int (s : Int), .int (r : Int)] ∧ s ≤ 100 ∧ 1 ≤ r ∧ r ≤ 12 ∧ Q (.int (oftN s r : Int)) H
theorem ok_often (T : Txt K mg) : OkF P w K mg base "often" 3 ["steps", "room"] (sp_often) := by
  obtain ⟨f_ways, fd_ways, m_ways, k_ways, b_ways, G_ways⟩ := ok_ways (P := P) (w := w) (base := base) T
  refine okf T.d_often sc_often (fun vs H Q E h => ?_) (fun f cdv A outer s H vs Q E hr h => ?_)
  · obtain ⟨s', r, rfl, hs, h1, h2, k⟩ := h
    rfl
  · obtain ⟨s', r, rfl, hs, h1, h2, k⟩ := h
    refine ⟨_, (pss_cons (ps_set (i := 2) sc_often.nd rfl (Or.inl rfl) pe_int)
        (pss_cons (ps_while (passes_of rfl) (pt_cmpR op_le (pe_call G_ways (hr.mono (by decide)) (by rfl) m_ways k_ways b_ways .nil passL (pa_cons (pv 1) (pa_cons (pv 2) pa_nil))) (pv 0) (nomark _))
        (pss_one (ps_set (i := 2) sc_often.nd rfl (Or.inl rfl) (pe_op op_add (pv 2) pe_int))))
        (pss_one (ps_ret (pv 2))))), ?_⟩
    refine ⟨fun n σ H' => ∃ t : Nat, t + n = 101 ∧ H' = H ∧ σ = [some (.int (s' : Int)), some (.int (r : Int)), some (.int (t : Int))] ∧ oftGo s' r n t = oftN s' r, ⟨101, 0, rfl, rfl, rfl, rfl⟩, ?_⟩
    rintro n σ H' ⟨t, ht, rfl, rfl, e⟩
    refine ⟨_, rfl, _, rfl, r, t, rfl, by omega, _, rfl, _, _, rfl, rfl, _, rfl, ?_⟩
    refine ite2 (fun c => ?_) (fun c => ?_)
    · have c' : waysN r t ≤ s' := by
        have := of_decide_eq_true c
        omega
      cases n with
      | zero =>
        have f := ways_far r (by omega) h1
        have z : t = 101 := by omega
        rw [z] at c'
        omega
      | succ n =>
        rw [oft_yes c'] at e
        refine ⟨fun σ' H'' => ∃ t : Nat, t + n = 101 ∧ H'' = H' ∧ σ' = [some (.int (s' : Int)), some (.int (r : Int)), some (.int (t : Int))] ∧ oftGo s' r n t = oftN s' r, fun σ' H'' q => ⟨n, Nat.lt_succ_self n, q⟩, ?_⟩
        exact ⟨_, rfl, _, _, rfl, rfl, t + 1, by omega, rfl, rfl, e⟩
    · have c' : ¬ waysN r t ≤ s' := fun z => c (decide_eq_true (by omega))
      rw [oft_no c'] at e
      rw [← e] at k
      exact ⟨_, rfl, k⟩
def sp_cost : Sp := fun vs H Q _ => ∃ s r : Nat, vs = [.int (s : Int), .int (r : Int)] ∧ s ≤ 100 ∧ 1 ≤ r ∧ r ≤ 12 ∧ Q (.int (costN s r)) H
theorem ok_cost (T : Txt K mg) : OkF P w K mg base "cost" 4 ["steps", "room"] (sp_cost) := by
  obtain ⟨f_often, fd_often, m_often, k_often, b_often, G_often⟩ := ok_often (P := P) (w := w) (base := base) T
  obtain ⟨f_ways, fd_ways, m_ways, k_ways, b_ways, G_ways⟩ := ok_ways (P := P) (w := w) (base := base) T
  refine okf T.d_cost sc_cost (fun vs H Q E h => ?_) (fun f cdv A outer s H vs Q E hr h => ?_)
  · obtain ⟨s', r, rfl, hs, h1, h2, k⟩ := h
    rfl
  · obtain ⟨s', r, rfl, hs, h1, h2, k⟩ := h
    refine ⟨_, (pss_cons (ps_set (i := 2) sc_cost.nd rfl (Or.inl rfl) (pe_call G_often (hr.mono (by decide)) (by rfl) m_often k_often b_often .nil passL (pa_cons (pv 0) (pa_cons (pv 1) pa_nil))))
        (pss_cons (ps_if (pt_cmpR op_eq (pv 2) pe_int (nomark _))
        (pss_one (ps_ret pe_int))
        pss_nil)
        (pss_one (ps_ret (pe_op op_sub (pe_op op_mul (pv 2) (pe_op op_add (pv 0) pe_int)) (pe_call G_ways (hr.mono (by decide)) (by rfl) m_ways k_ways b_ways .nil passL (pa_cons (pe_op op_add (pv 1) pe_int) (pa_cons (pe_op op_sub (pv 2) pe_int) pa_nil)))))))), ?_⟩
    refine ⟨_, rfl, _, rfl, s', r, rfl, hs, h1, h2, ?_⟩
    refine ⟨_, rfl, rfl, _, rfl, ?_⟩
    have lb := oftN_le s' r
    refine ite2 (fun c => ?_) (fun c => ?_)
    · have c' : oftN s' r = 0 := by
        have := V.int.inj (of_decide_eq_true c)
        omega
      unfold costN at k
      rw [if_pos c'] at k
      exact k
    · have c' : ¬ oftN s' r = 0 := fun z => c (decide_eq_true (by rw [z] <;> rfl))
      unfold costN at k
      rw [if_neg c'] at k
      refine ⟨_, rfl, _, rfl, _, _, rfl, rfl, _, _, rfl, rfl, .inl ⟨by omega, by omega⟩, _, rfl, _, _, rfl, rfl, _, rfl, _, _, rfl, rfl, r + 1, oftN s' r - 1, ?_, by omega, _, _, rfl, rfl, k⟩
      have e : ((oftN s' r : Int) - 1) = ((oftN s' r - 1 : Nat) : Int) := by omega
      show [V.int ((r : Int) + 1), V.int ((oftN s' r : Int) - 1)] = _
      rw [e] <;> rfl
def sp_least (K : PySem.W.Frag) (C : Addr) : Sp := fun vs H Q E => (∃ s r : Nat, vs = [.int (s : Int), .int (r : Int)] ∧ s ≤ 100 ∧ 1 ≤ r ∧ r ≤ 12 ∧ Q (.int (costN s r)) H) ∨
  (∃ (x y : V) (o1 o2 : Option Int), vs = [x, y] ∧ Thg K H x o1 ∧ Thg K H y o2 ∧ goodC o1 o2 = false ∧ E (.ref C) none H)
theorem good_ok {s r : Nat} (h1 : s ≤ 100) (h2 : 1 ≤ r) (h3 : r ≤ 12) : goodC (some (s : Int)) (some (r : Int)) = true := by
  show ((decide ((0 : Int) ≤ (s : Int)) && decide ((s : Int) ≤ 100)) && (decide ((1 : Int) ≤ (r : Int)) && decide ((r : Int) ≤ 12))) = true
  simp only [Bool.and_eq_true, decide_eq_true_eq]
  omega
theorem good_nums {K : PySem.W.Frag} {H : Hp} {x y : V} {o1 o2 : Option Int} (t1 : Thg K H x o1) (t2 : Thg K H y o2) (g : goodC o1 o2 = true) : ∃ s r : Nat, s ≤ 100 ∧ 1 ≤ r ∧ r ≤ 12 ∧ x = .int (s : Int) ∧ y = .int (r : Int) := by
  unfold goodC at g
  obtain ⟨g1, g2⟩ := (Bool.and_eq_true _ _ ▸ g : _ ∧ _)
  cases t1 with
  | int i =>
    cases t2 with
    | int j =>
      have g1' : (decide ((0 : Int) ≤ i) && decide (i ≤ 100)) = true := g1
      have g2' : (decide ((1 : Int) ≤ j) && decide (j ≤ 12)) = true := g2
      simp only [Bool.and_eq_true, decide_eq_true_eq] at g1' g2'
      exact ⟨i.toNat, j.toNat, by omega, by omega, by omega, by rw [Int.toNat_of_nonneg g1'.1], by rw [Int.toNat_of_nonneg (by omega)]⟩
    | bl b => exact absurd (show false = true from g2) (by decide)
    | oth _ _ => exact absurd (show false = true from g2) (by decide)
  | bl b => exact absurd (show false = true from g1) (by decide)
  | oth _ _ => exact absurd (show false = true from g1) (by decide)
theorem ok_least (T : Txt K mg) : OkF P w K mg base "least" 5 ["steps", "room"] (sp_least K T.aBadCount) := by
  obtain ⟨f_need_counts, fd_need_counts, m_need_counts, k_need_counts, b_need_counts, G_need_counts⟩ := ok_need_counts (P := P) (w := w) (base := base) T
  obtain ⟨f_cost, fd_cost, m_cost, k_cost, b_cost, G_cost⟩ := ok_cost (P := P) (w := w) (base := base) T
  refine okf T.d_least sc_least (fun vs H Q E h => ?_) (fun f cdv A outer s H vs Q E hr h => ?_)
  · rcases h with ⟨s', r, rfl, h1, h2, h3, k⟩ | ⟨x, y, o1, o2, rfl, t1, t2, g, k⟩ <;> rfl
  · skip
    refine ⟨_, (pss_cons (ps_expr (pe_call G_need_counts (hr.mono (by decide)) (by rfl) m_need_counts k_need_counts b_need_counts .nil (passes_call (W := fun cls d _ H => E cls d H) (takes_of rfl rfl rfl rfl) (fun _ _ _ _ h => h)) (pa_cons (pv 0) (pa_cons (pv 1) pa_nil))))
        (pss_one (ps_ret (pe_call G_cost (hr.mono (by decide)) (by rfl) m_cost k_cost b_cost .nil passL (pa_cons (pv 0) (pa_cons (pv 1) pa_nil)))))), ?_⟩
    rcases h with ⟨s', r, rfl, h1, h2, h3, k⟩ | ⟨x, y, o1, o2, rfl, t1, t2, g, k⟩
    · refine ⟨_, rfl, _, rfl, _, _, _, _, rfl, .int _, .int _, fun _ => ?_, fun z => absurd (good_ok h1 h2 h3) (by rw [z]; decide)⟩
      exact ⟨_, rfl, _, rfl, s', r, rfl, h1, h2, h3, k⟩
    · exact ⟨_, rfl, _, rfl, x, y, o1, o2, rfl, t1, t2, fun z => absurd g (by rw [z]; decide), fun _ => k⟩
def sp_next_line (K : PySem.W.Frag) : Sp := fun vs H Q _ => ∃ (a : Addr) (row : List Int) (n : Nat), vs = [.ref a, .int (n : Int)] ∧ SqL K H a (row.map V.int) ∧ n ≤ 100 ∧ row.length = n + 1 ∧ RetL H ((nextN row n).map V.int) Q
theorem ok_next_line (T : Txt K mg) : OkF P w K mg base "next_line" 1 ["above", "steps"] (sp_next_line K) := by
  refine okf T.d_next_line sc_next_line (fun vs H Q E h => ?_) (fun f cdv A outer s H vs Q E hr h => ?_)
  · obtain ⟨a, row, n, rfl, hS, hn, hl, k⟩ := h
    rfl
  · obtain ⟨a, row, n, rfl, hS, hn, hl, k⟩ := h
    refine ⟨_, (pss_cons (ps_set (i := 2) sc_next_line.nd rfl (Or.inl rfl) (pe_lst (pa_cons pe_int pa_nil)))
        (pss_cons (ps_for (passes_of rfl) rfl (pi_range2 (by rfl) T.n_range (pa_cons pe_int (pa_cons (pe_op op_add (pv 1) pe_int) pa_nil))) (pg_name (i := 3) sc_next_line.nd rfl (Or.inl rfl))
        (pss_cons (ps_set (i := 4) sc_next_line.nd rfl (Or.inl rfl) pe_non)
        (pss_cons (ps_for (passes_of rfl) rfl (pi_range2 (by rfl) T.n_range (pa_cons pe_int (pa_cons (pe_op op_add (pv 3) pe_int) pa_nil))) (pg_name (i := 5) sc_next_line.nd rfl (Or.inl rfl))
        (pss_cons (ps_set (i := 6) sc_next_line.nd rfl (Or.inl rfl) (pe_op op_add (pe_op op_add (pv 5) (pe_ix ix_list (pv 0) (pe_op op_sub (pv 3) (pv 5)) (fun _ _ => rfl))) (pe_ix ix_list (pv 2) (pe_op op_sub (pv 5) pe_int) (fun _ _ => rfl))))
        (pss_one (ps_if (PW.pt (pw_or (pt_cmpR op_isN (pv 4) pe_non (nomark _)) (pw_or1 (pt_cmpR op_lt (pv 6) (pv 4) (nomark _)))))
        (pss_one (ps_set (i := 4) sc_next_line.nd rfl (Or.inl rfl) (pv 6)))
        pss_nil))))
        (pss_one (ps_expr (pe_bm PySem.F.plainAttrs_list PySem.F.slot_list_append PySem.F.type_list_append mt_append (pv 2) (pa_cons (pv 4) pa_nil)))))))
        (pss_one (ps_ret (pv 2))))), ?_⟩
    refine ⟨by show 1 ≤ sizeLine; decide, fun p hp => ?_⟩
    refine ⟨_, rfl, _, _, rfl, rfl, _, _, rfl, by omega, ?_⟩
    have e0 : ((n : Int) + 1 - 1).toNat = n := by omega
    refine for_range (lo := 1) (n := ((n : Int) + 1 - 1).toNat) (fun i σ H' => ∃ u b m w, σ = [some (.ref a), some (.int (n : Int)), some (.ref p), u, b, m, w] ∧ Same H H' ∧ H' p = some (.lst ((nextN row i).map V.int))) ⟨none, none, none, none, rfl, Same.new hp, upd_same⟩ ?_ ?_
    · rintro i σ H' hi ⟨u, b, m, w, rfl, sm, hP⟩
      rw [e0] at hi
      refine ⟨_, rfl, _, _, rfl, rfl, _, _, rfl, by omega, ?_⟩
      have e1 : ((1 : Int) + (i : Int) + 1 - 1).toNat = i + 1 := by omega
      refine for_range (lo := 1) (n := ((1 : Int) + (i : Int) + 1 - 1).toNat) (fun j σ H2 => ∃ m w, σ = [some (.ref a), some (.int (n : Int)), some (.ref p), some (.int (1 + (i : Int))), some (oV (bestN row (nextN row i) (i + 1) j)), m, w] ∧ H2 = H') ⟨_, _, rfl, rfl⟩ ?_ ?_
      · rintro j σ H2 hj ⟨m, w, rfl, rfl⟩
        rw [e1] at hj
        have q1 : (1 : Int) + (i : Int) - (1 + (j : Int)) = ((i + 1 - (j + 1) : Nat) : Int) := by omega
        have q2 : (1 : Int) + (j : Int) - 1 = ((j : Nat) : Int) := by omega
        have r1 : row[i + 1 - (j + 1)]? = some (row.getD (i + 1 - (j + 1)) 0) := by
          rw [List.getElem?_eq_getElem (by omega), List.getD_eq_getElem?_getD, List.getElem?_eq_getElem (by omega)] <;> rfl
        have r2 : (nextN row i)[j]? = some ((nextN row i).getD j 0) := by
          rw [List.getElem?_eq_getElem (by rw [nextN_len]; omega), List.getD_eq_getElem?_getD, List.getElem?_eq_getElem (by rw [nextN_len]; omega)] <;> rfl
        refine ⟨_, rfl, _, rfl, _, rfl, _, rfl, _, _, rfl, rfl, a, _, _, _, rfl, rfl, sm.seq hS, at_map q1 r1, _, _, rfl, rfl, _, rfl, _, rfl, _, _, rfl, rfl, p, _, _, _, rfl, rfl, SqL.of hP, at_map q2 r2, _, _, rfl, rfl, ?_⟩
        have ew : (1 : Int) + (j : Int) + row.getD (i + 1 - (j + 1)) 0 + (nextN row i).getD j 0 = ((j : Int) + 1) + row.getD (i + 1 - (j + 1)) 0 + (nextN row i).getD j 0 := by omega
        have eb := bestN_succ row (nextN row i) (i + 1) j
        refine ⟨_, rfl, rfl, _, rfl, ?_⟩
        cases eo : bestN row (nextN row i) (i + 1) j with
        | none =>
          refine iteT (iteT ?_)
          rw [eo] at eb
          have eb' : bestN row (nextN row i) (i + 1) (j + 1) = some ((1 : Int) + (j : Int) + row.getD (i + 1 - (j + 1)) 0 + (nextN row i).getD j 0) := by
            rw [eb, ew] <;> rfl
          rw [eb']
          exact ⟨_, rfl, _, _, rfl, rfl⟩
        | some v =>
          refine iteF ?_
          refine ⟨_, rfl, _, rfl, _, _, rfl, rfl, _, rfl, ?_⟩
          rw [eo] at eb
          have eb' : bestN row (nextN row i) (i + 1) (j + 1) = if (1 : Int) + (j : Int) + row.getD (i + 1 - (j + 1)) 0 + (nextN row i).getD j 0 < v then some ((1 : Int) + (j : Int) + row.getD (i + 1 - (j + 1)) 0 + (nextN row i).getD j 0) else some v := by
            rw [eb, ew] <;> rfl
          refine ite2 (fun c => ?_) (fun c => ?_)
          · rw [if_pos (of_decide_eq_true c)] at eb'
            rw [eb']
            exact ⟨_, rfl, _, _, rfl, rfl⟩
          · rw [if_neg (fun z => c (decide_eq_true z))] at eb'
            rw [eb']
            exact ⟨_, _, rfl, rfl⟩
      · rintro σ H2 ⟨m, w, rfl, rfl⟩
        rw [e1]
        obtain ⟨v, hv⟩ : ∃ v, bestN row (nextN row i) (i + 1) (i + 1) = some v := by
          rw [bestN_succ]
          exact bestStep_some _ _ _ _ _
        have ln := nextN_len row i
        refine ⟨_, rfl, .inl ⟨rfl, _, SqL.of hP⟩, _, rfl, p, _, _, rfl, rfl, hP, sz5' (by rw [List.length_map]; omega), ?_⟩
        refine ⟨_, _, _, _, rfl, Same.mut sm hp, ?_⟩
        rw [upd_same, hv]
        show _ = some (HO.lst ((nextN row i ++ [(bestN row (nextN row i) (i + 1) (i + 1)).getD 0]).map V.int))
        rw [hv, List.map_append] <;> rfl
    · rintro σ H' ⟨u, b, m, w, rfl, sm, hP⟩
      rw [e0] at hP
      exact ⟨_, rfl, k p H' hp sm hP⟩
def sp_table (K : PySem.W.Frag) (C : Addr) : Sp := fun vs H Q E => (∃ s r : Nat, vs = [.int (s : Int), .int (r : Int)] ∧ s ≤ 100 ∧ 1 ≤ r ∧ r ≤ 12 ∧ RetRows H r (lineK s) Q) ∨
  (∃ (x y : V) (o1 o2 : Option Int), vs = [x, y] ∧ Thg K H x o1 ∧ Thg K H y o2 ∧ goodC o1 o2 = false ∧ E (.ref C) none H)
theorem ok_table (T : Txt K mg) : OkF P w K mg base "table" 3 ["steps", "room"] (sp_table K T.aBadCount) := by
  obtain ⟨f_need_counts, fd_need_counts, m_need_counts, k_need_counts, b_need_counts, G_need_counts⟩ := ok_need_counts (P := P) (w := w) (base := base) T
  obtain ⟨f_next_line, fd_next_line, m_next_line, k_next_line, b_next_line, G_next_line⟩ := ok_next_line (P := P) (w := w) (base := base) T
  refine okf T.d_table sc_table (fun vs H Q E h => ?_) (fun f cdv A outer s H vs Q E hr h => ?_)
  · rcases h with ⟨s', r, rfl, h1, h2, h3, k⟩ | ⟨x, y, o1, o2, rfl, t1, t2, g, k⟩ <;> rfl
  · skip
    refine ⟨_, (pss_cons (ps_expr (pe_call G_need_counts (hr.mono (by decide)) (by rfl) m_need_counts k_need_counts b_need_counts .nil (passes_call (W := fun cls d _ H => E cls d H) (takes_of rfl rfl rfl rfl) (fun _ _ _ _ h => h)) (pa_cons (pv 0) (pa_cons (pv 1) pa_nil))))
        (pss_cons (ps_set (i := 2) sc_table.nd rfl (Or.inl rfl) (pe_lst (pa_cons (pe_lc (own := [("many", 4)]) rfl sc_table.nd (pi_range1 (by rfl) T.n_range (pa_cons (pe_op op_add (pv 0) pe_int) pa_nil)) (blkOk_by (own := [("many", 4)]) (N := ["steps", "room", "found", "turn", "many"]) (sc := defScope s_table) (by decide +kernel)) (fun _ _ _ _ _ => (pg_name (i := 4) sc_table.nd rfl (Or.inl rfl))) (fun _ _ _ _ _ => pts_nil) (fun _ _ _ _ _ => (pe_op op_fdiv (pe_op op_mul (pv 4) (pe_op op_add (pv 4) pe_int)) pe_int))) pa_nil)))
        (pss_cons (ps_for (passes_of rfl) rfl (pi_range2 (by rfl) T.n_range (pa_cons pe_int (pa_cons (pv 1) pa_nil))) (pg_name (i := 3) sc_table.nd rfl (Or.inl rfl))
        (pss_one (ps_expr (pe_bm PySem.F.plainAttrs_list PySem.F.slot_list_append PySem.F.type_list_append mt_append (pv 2) (pa_cons (pe_call G_next_line (hr.mono (by decide)) (by rfl) m_next_line k_next_line b_next_line .nil passL (pa_cons (pe_ix ix_list (pv 2) (pe_un un_neg pe_int) (fun _ _ => rfl)) (pa_cons (pv 0) pa_nil))) pa_nil)))))
        (pss_one (ps_ret (pv 2)))))), ?_⟩
    rcases h with ⟨n, r, rfl, h1, h2, h3, k⟩ | ⟨x, y, o1, o2, rfl, t1, t2, g, k⟩
    case inr => exact ⟨_, rfl, _, rfl, x, y, o1, o2, rfl, t1, t2, fun z => absurd g (by rw [z]; decide), fun _ => k⟩
    refine ⟨_, rfl, _, rfl, _, _, _, _, rfl, .int _, .int _, fun _ => ?_, fun z => absurd (good_ok h1 h2 h3) (by rw [z]; decide)⟩
    refine ⟨_, rfl, _, _, rfl, rfl, _, rfl, by omega, by omega, fun D hD => ?_⟩
    have e0 : ((n : Int) + 1).toNat = n + 1 := by omega
    refine lc_range (lo := 0) (n := ((n : Int) + 1).toNat) (fun i H' => Same H H' ∧ H' D = some (.lst (((List.range i).map fun (m : Nat) => ((m : Int) * ((m : Int) + 1)) / 2).map V.int))) ⟨Same.new hD, upd_same⟩ ?_ ?_
    · rintro i H' hi ⟨sm, hP⟩
      rw [e0] at hi
      have ei : (0 : Int) + (i : Int) = (i : Int) := Int.zero_add _
      refine ⟨rfl, ?_⟩
      refine ⟨_, rfl, _, rfl, _, _, rfl, rfl, _, _, rfl, rfl, .inl ⟨by show -(2 ^ 64 : Int) < 0 + (i : Int); omega, by show 0 + (i : Int) < 2 ^ 64; omega⟩, _, _, rfl, rfl, ⟨by decide, by decide⟩, _, hP, sz5' (by rw [List.length_map, List.length_map, List.length_range]; omega), Same.mut sm hD, ?_⟩
      rw [upd_same, ← lineOne_take i, ei]
    · rintro H1 ⟨sm, hP⟩
      rw [e0] at hP
      refine ⟨by show 1 ≤ sizeLine; decide, fun p hp => ?_⟩
      refine ⟨_, rfl, _, _, rfl, by omega, ?_⟩
      have e1 : ((r : Int) - 1).toNat = r - 1 := by omega
      have npD : D ≠ p := ne_of_none hP hp
      have hp0 : H p = none := sm.free hp
      refine for_range (lo := 1) (n := ((r : Int) - 1).toNat) (fun i σ H' => ∃ (as : List Addr) (u : Option V), σ = [some (.int (n : Int)), some (.int (r : Int)), some (.ref p), u, none] ∧ (∀ a ∈ as, H a = none) ∧ Same H H' ∧ H' p = some (.lst (as.map V.ref)) ∧ Rows H' as (i + 1) (lineK n)) ⟨[D], none, rfl, fun a ha => ?_, sm.trans (Same.new hp), upd_same, rfl, fun i a ha => ?_⟩ ?_ ?_
      · rw [List.mem_singleton.mp ha]
        exact hD
      · cases i with
        | succ i => simp at ha
        | zero =>
          have ea : D = a := Option.some.inj ha
          rw [← ea, upd_ne npD]
          exact hP
      · rintro i σ H' hi ⟨as, u, rfl, ha, sm', hP', R⟩
        rw [e1] at hi
        obtain ⟨al, hal⟩ : ∃ al, as[i]? = some al := ⟨as[i]'(by rw [R.len]; omega), List.getElem?_eq_getElem _⟩
        refine ⟨_, rfl, .inl ⟨rfl, _, SqL.of hP'⟩, _, rfl, _, rfl, p, _, _, _, rfl, rfl, SqL.of hP', atI_end (v := .ref al) ?_, _, rfl, ?_⟩
        · rw [List.length_map, R.len, List.getElem?_map, show i + 1 - 1 = i from rfl, hal] <;> rfl
        refine ⟨al, lineK n i, n, rfl, SqL.of (R.at' i al hal), h1, lineK_len n i, fun q H2 hq sm2 hQ => ?_⟩
        have npq : p ≠ q := ne_of_none hP' hq
        refine ⟨p, _, _, rfl, rfl, sm2 _ _ hP', sz5' (by rw [List.length_map, R.len]; omega), ?_⟩
        refine ⟨as ++ [q], _, rfl, fun a hm => ?_, Same.mut (sm'.trans sm2) hp0, ?_, by rw [List.length_append, R.len] <;> rfl, fun j a hj => ?_⟩
        · rcases List.mem_append.mp hm with z | z
          · exact ha a z
          · rw [List.mem_singleton.mp z]
            exact sm'.free hq
        · rw [upd_same, List.map_append] <;> rfl
        · have hne : a ≠ p := fun z => by
            by_cases hj2 : j < as.length
            · rw [List.getElem?_append_left hj2] at hj
              have w := R.at' j a hj
              rw [z, hP'] at w
              have w' := congrArg List.head? (HO.lst.inj (Option.some.inj w))
              have l2 := lineK_len n j
              cases e5 : lineK n j with
              | nil =>
                rw [e5] at l2
                simp at l2
              | cons c cs =>
                cases as with
                | nil => simp at hj2
                | cons a0 as0 =>
                  rw [e5] at w'
                  have w2 : some (V.ref a0) = some (V.int c) := w'
                  cases w2
            · rw [List.getElem?_append_right (by omega)] at hj
              have : j - as.length = 0 := by
                have := (List.getElem?_eq_some_iff.mp hj).1
                simp at this
                omega
              rw [this] at hj
              have : q = a := Option.some.inj hj
              exact npq (this.trans z).symm
          rw [upd_ne hne]
          by_cases hj2 : j < as.length
          · rw [List.getElem?_append_left hj2] at hj
            exact sm2 _ _ (R.at' j a hj)
          · rw [List.getElem?_append_right (by omega)] at hj
            have e7 : j - as.length = 0 := by
              have := (List.getElem?_eq_some_iff.mp hj).1
              simp at this
              omega
            rw [e7] at hj
            have e8 : q = a := Option.some.inj hj
            have e9 : j = i + 1 := by
              have := R.len
              omega
            rw [← e8, e9]
            exact hQ
      · rintro σ H' ⟨as, u, rfl, ha, sm', hP', R⟩
        rw [e1] at R
        have e2 : r - 1 + 1 = r := by omega
        rw [e2] at R
        exact ⟨_, rfl, k p as H' hp0 ha sm' hP' R⟩

/-- _law_cell_at(script, k): the k-th number, or 0 -/
def cellAt (ns : List Int) (k : Nat) : Int := ns.getD k 0
def sp_l_cell_at (K : PySem.W.Frag) : Sp := fun vs H Q _ => ∃ (a : Addr) (ns : List Int) (j : Nat), vs = [.ref a, .int (j : Int)] ∧ SqL K H a (ns.map V.int) ∧ Q (.int (cellAt ns j)) H
theorem ok_l_cell_at (T : Txt K mg) : OkF P w K mg base "_law_cell_at" 1 ["_law_script", "_law_k"] (sp_l_cell_at K) := by
  refine okf T.d_l_cell_at sc_l_cell_at (fun vs H Q E h => ?_) (fun f cdv A outer s H vs Q E hr h => ?_)
  · obtain ⟨a, ns, j, rfl, hS, k⟩ := h
    rfl
  · obtain ⟨a, ns, j, rfl, hS, k⟩ := h
    refine ⟨_, (pss_cons (ps_if (pt_cmpR op_lt (pv 1) (pe_callB call_len_seq (by rfl) T.n_len PySem.boot_len (pa_cons (pv 0) pa_nil)) (nomark _))
        (pss_one (ps_ret (pe_ix ix_list (pv 0) (pv 1) (fun _ _ => rfl))))
        pss_nil)
        (pss_one (ps_ret pe_int))), ?_⟩
    refine ⟨_, rfl, _, rfl, a, _, rfl, .inl hS, _, _, rfl, rfl, _, rfl, ?_⟩
    refine ite2 (fun c => ?_) (fun c => ?_)
    · have c' := of_decide_eq_true c
      rw [List.length_map] at c'
      have hj : j < ns.length := by omega
      refine ⟨_, rfl, _, rfl, a, _, _, .int (cellAt ns j), rfl, rfl, hS, ?_, k⟩
      refine at_map rfl ?_
      unfold cellAt
      rw [List.getElem?_eq_getElem hj, List.getD_eq_getElem?_getD, List.getElem?_eq_getElem hj] <;> rfl
    · have c' : ¬ ((j : Int) < ((ns.map V.int).length : Int)) := fun z => c (decide_eq_true z)
      rw [List.length_map] at c'
      have e : cellAt ns j = 0 := by
        unfold cellAt
        rw [List.getD_eq_getElem?_getD, List.getElem?_eq_none (by omega)] <;> rfl
      rw [e] at k
      exact k

def sp_l_whole (K : PySem.W.Frag) : Sp := fun vs H Q _ => ∃ (x : V) (o : Option Int), vs = [x] ∧ Thg K H x o ∧ Q (.bl (whole o)) H
theorem ok_l_whole (T : Txt K mg) : OkF P w K mg base "_law_whole" 1 ["_law_found"] (sp_l_whole K) := by
  refine okf T.d_l_whole sc_l_whole (fun vs H Q E h => ?_) (fun f cdv A outer s H vs Q E hr h => ?_)
  · obtain ⟨x, o, rfl, th, k⟩ := h
    rfl
  · obtain ⟨x, o, rfl, th, k⟩ := h
    refine ⟨_, (pss_one (ps_ret (pe_and (pe_callB call_isi (by rfl) T.n_isinstance (by decide +kernel) (pa_cons (pv 0) (pa_cons (pe_bltn (v := .ty "int") (by rfl) T.n_int (by decide +kernel) rfl) pa_nil))) (pe_one (pe_not (pe_callB call_isi (by rfl) T.n_isinstance (by decide +kernel) (pa_cons (pv 0) (pa_cons (pe_bltn (v := .ty "bool") (by rfl) T.n_bool (by decide +kernel) rfl) pa_nil)))))))), ?_⟩
    refine ⟨_, rfl, ?_⟩
    cases th with
    | int i =>
      refine ⟨_, _, _, _, true, rfl, .ty "int", .base (.int i), kit_ty (by decide +kernel), true, rfl, iteT ?_⟩
      exact ⟨_, rfl, _, _, _, _, false, rfl, .ty "bool", .base (.int i), kit_ty (by decide +kernel), false, rfl, k⟩
    | bl b =>
      refine ⟨_, _, _, _, true, rfl, .ty "int", .base (.bl b), kit_ty (by decide +kernel), true, rfl, iteT ?_⟩
      exact ⟨_, rfl, _, _, _, _, true, rfl, .ty "bool", .base (.bl b), kit_ty (by decide +kernel), true, rfl, k⟩
    | oth ty ni =>
      refine ⟨_, _, _, _, false, rfl, .ty "int", ty, ni, false, rfl, iteF ?_⟩
      exact k
def nV (c : Nat) : V := .int (c : Int)
theorem rep_ones (n : Nat) : (List.replicate ((n : Int)).toNat [V.int 1]).flatten = (List.replicate n 1).map nV := by
  rw [Int.toNat_natCast]
  induction n with
  | zero => rfl
  | succ n ih =>
    rw [List.replicate_succ, List.replicate_succ, List.flatten_cons, ih] <;> rfl
def sp_l_counts : Sp := fun vs H Q _ => ∃ r n : Nat, vs = [.int (r : Int), .int (n : Int)] ∧ r ≤ 13 ∧ n ≤ 103 ∧ RetL H ((countsN n r).map nV) Q
theorem ok_l_counts (T : Txt K mg) : OkF P w K mg base "_law_counts" 1 ["_law_room", "_law_many"] (sp_l_counts) := by
  refine okf T.d_l_counts sc_l_counts (fun vs H Q E h => ?_) (fun f cdv A outer s H vs Q E hr h => ?_)
  · obtain ⟨r, n, rfl, hr1, hn, k⟩ := h
    rfl
  · obtain ⟨r, n, rfl, hr1, hn, k⟩ := h
    refine ⟨_, (pss_cons (ps_set (i := 2) sc_l_counts.nd rfl (Or.inl rfl) (pe_op op_rep (pe_lst (pa_cons pe_int pa_nil)) (pv 1)))
        (pss_cons (ps_for (passes_of rfl) rfl (pi_range1 (by rfl) T.n_range (pa_cons (pv 0) pa_nil)) (pg_name (i := 3) sc_l_counts.nd rfl (Or.inl rfl))
        (pss_cons (ps_set (i := 4) sc_l_counts.nd rfl (Or.inl rfl) (pe_lst pa_nil))
        (pss_cons (ps_set (i := 5) sc_l_counts.nd rfl (Or.inl rfl) pe_int)
        (pss_cons (ps_for (passes_of rfl) rfl (pi_list (pv 2)) (pg_name (i := 6) sc_l_counts.nd rfl (Or.inl rfl))
        (pss_cons (ps_set (i := 5) sc_l_counts.nd rfl (Or.inl rfl) (pe_op op_add (pv 5) (pv 6)))
        (pss_one (ps_expr (pe_bm PySem.F.plainAttrs_list PySem.F.slot_list_append PySem.F.type_list_append mt_append (pv 4) (pa_cons (pv 5) pa_nil))))))
        (pss_one (ps_set (i := 2) sc_l_counts.nd rfl (Or.inl rfl) (pv 4)))))))
        (pss_one (ps_ret (pv 2))))), ?_⟩
    refine ⟨by show 1 ≤ sizeLine; decide, fun l hl => ?_⟩
    refine ⟨_, rfl, l, _, _, rfl, rfl, upd_same, by omega, by omega, sz5 (by rw [Int.toNat_natCast]; show 1 * n ≤ 100000; omega), fun p hp => ?_⟩
    refine ⟨_, rfl, _, rfl, by omega, by omega, ?_⟩
    rw [rep_ones]
    have hl0 : H p = none := (Same.new hl).free hp
    refine for_range (lo := 0) (n := (r : Int).toNat) (fun i σ H' => ∃ p u1 u2 u3 u4, σ = [some (.int (r : Int)), some (.int (n : Int)), some (.ref p), u1, u2, u3, u4] ∧ H p = none ∧ Same H H' ∧ H' p = some (.lst ((countsN n i).map nV)))
      ⟨p, none, none, none, none, rfl, hl0, (Same.new hl).trans (Same.new hp), upd_same⟩ ?_ ?_
    · rintro i σ H' hi ⟨p, u1, u2, u3, u4, rfl, hp0, sm, hP⟩
      rw [Int.toNat_natCast] at hi
      refine ⟨by show 0 ≤ sizeLine; decide, fun q hq => ?_⟩
      have npq : p ≠ q := ne_of_none hP hq
      refine ⟨_, rfl, p, rfl, ⟨_, SqL.of (by rw [upd_ne npq]; exact hP)⟩, ?_⟩
      refine for_list (K := K) (a := p) (xs := (countsN n i).map nV) (fun j σ H2 => ∃ c, σ = [some (.int (r : Int)), some (.int (n : Int)), some (.ref p), some (.int (0 + (i : Int))), some (.ref q), some (.int ((((countsN n i).take j).sum : Nat) : Int)), c] ∧ Same H' H2 ∧ H2 q = some (.lst ((sumsGo 0 ((countsN n i).take j)).map nV)))
        ⟨u4, rfl, Same.new hq, upd_same⟩ (fun j σ H2 _ ⟨_, _, s2, _⟩ => SqL.of (s2 _ _ hP)) ?_ ?_
      · rintro j y σ H2 hj ⟨c, rfl, s2, hQ⟩
        obtain ⟨z, hz, rfl⟩ := get_map hj
        have hjl := (List.getElem?_eq_some_iff.mp hz).1
        rw [countsN_len] at hjl
        refine ⟨_, rfl, _, rfl, _, _, rfl, rfl, ?_⟩
        have es : ((((countsN n i).take j).sum : Nat) : Int) + (z : Int) = ((((countsN n i).take (j + 1)).sum : Nat) : Int) := by
          rw [take_succ hz, List.sum_append, List.sum_cons, List.sum_nil]
          omega
        refine ⟨_, rfl, .inl ⟨rfl, _, SqL.of hQ⟩, _, rfl, q, _, _, rfl, rfl, hQ, sz5' (by rw [List.length_map, sumsGo_len, List.length_take]; omega), ?_⟩
        rw [← es]
        refine ⟨_, rfl, Same.mut s2 hq, ?_⟩
        rw [upd_same, take_succ hz, sumsGo_snoc, List.map_append]
        have e3 : ((0 + ((countsN n i).take j).sum + z : Nat) : Int) = ((((countsN n i).take j).sum : Nat) : Int) + (z : Int) := by omega
        show _ = some (HO.lst (_ ++ [V.int ((0 + ((countsN n i).take j).sum + z : Nat) : Int)]))
        rw [e3] <;> rfl
      · rintro σ H2 ⟨c, rfl, s2, hQ⟩
        rw [List.length_map, List.take_length] at hQ
        exact ⟨_, rfl, q, _, _, _, _, rfl, sm.free hq, sm.trans s2, hQ⟩
    · rintro σ H' ⟨p, u1, u2, u3, u4, rfl, hp0, sm, hP⟩
      rw [Int.toNat_natCast] at hP
      exact ⟨_, rfl, k p H' hp0 sm hP⟩
theorem any_line (l : List Nat) (s : Nat) : inV (V.int ((s : Int) + 1)) (l.map nV) = l.any fun c => c == s + 1 := by
  unfold inV
  rw [List.any_map]
  refine congrArg (l.any ·) (funext fun c => ?_)
  show ((c : Int) == (s : Int) + 1) = (c == s + 1)
  by_cases h : c = s + 1
  · rw [h]
    have : (((s + 1 : Nat) : Int) == (s : Int) + 1) = true := beq_iff_eq.mpr rfl
    rw [this, beq_self_eq_true]
  · rw [beq_false_of_ne h, beq_false_of_ne (fun z : (c : Int) = (s : Int) + 1 => h (by omega))]
theorem all_flat (l : List Nat) : (l.map nV).all flatV = true := List.all_eq_true.mpr fun v hv => by
  obtain ⟨c, _, rfl⟩ := List.mem_map.mp hv
  rfl
theorem ok_law_at (T : Txt K mg) {f : Addr} {fd : FuncData} (F : Fun K "law" "law" s_law f fd) : FnOk P w K mg base (L2.CX P w) 6 f fd ["_law_script"] (sp_law K) := by
  obtain ⟨f_l_cell_at, fd_l_cell_at, m_l_cell_at, k_l_cell_at, b_l_cell_at, G_l_cell_at⟩ := ok_l_cell_at (P := P) (w := w) (base := base) T
  obtain ⟨f_l_counts, fd_l_counts, m_l_counts, k_l_counts, b_l_counts, G_l_counts⟩ := ok_l_counts (P := P) (w := w) (base := base) T
  obtain ⟨f_least, fd_least, m_least, k_least, b_least, G_least⟩ := ok_least (P := P) (w := w) (base := base) T
  obtain ⟨f_l_whole, fd_l_whole, m_l_whole, k_l_whole, b_l_whole, G_l_whole⟩ := ok_l_whole (P := P) (w := w) (base := base) T
  obtain ⟨f_table, fd_table, m_table, k_table, b_table, G_table⟩ := ok_table (P := P) (w := w) (base := base) T
  refine F.okX sc_law (fun vs H Q E h => ?_) (fun cdv A outer s H vs Q E hr h => ?_)
  · obtain ⟨a, ns, rfl, hS, hl, k⟩ := h
    rfl
  · obtain ⟨a, ns, rfl, hS, hl, k⟩ := h
    refine ⟨_, (pss_cons (ps_set (i := 1) sc_law.nd rfl (Or.inr rfl) (pe_op op_mod (pe_call G_l_cell_at (hr.mono (by decide)) (by rfl) m_l_cell_at k_l_cell_at b_l_cell_at .nil passL (pa_cons (pv 0) (pa_cons pe_int pa_nil))) pe_int))
        (pss_cons (ps_set (i := 2) sc_law.nd rfl (Or.inr rfl) (pe_op op_add pe_int (pe_op op_mod (pe_call G_l_cell_at (hr.mono (by decide)) (by rfl) m_l_cell_at k_l_cell_at b_l_cell_at .nil passL (pa_cons (pv 0) (pa_cons pe_int pa_nil))) pe_int)))
        (Evl.pss_cut (ps_if (pt_cmpR op_eq (pe_op op_mod (pe_call G_l_cell_at (hr.mono (by decide)) (by rfl) m_l_cell_at k_l_cell_at b_l_cell_at .nil passL (pa_cons (pv 0) (pa_cons pe_int pa_nil))) pe_int) pe_int (nomark _))
        (pss_one (ps_set (i := 2) sc_law.nd rfl (Or.inr rfl) (pe_op op_add pe_int (pe_op op_mod (pe_call G_l_cell_at (hr.mono (by decide)) (by rfl) m_l_cell_at k_l_cell_at b_l_cell_at .nil passL (pa_cons (pv 0) (pa_cons pe_int pa_nil))) pe_int))))
        pss_nil)
        (pss_cons (ps_set (i := 3) sc_law.nd rfl (Or.inl rfl) (pe_call G_l_counts (hr.mono (by decide)) (by rfl) m_l_counts k_l_counts b_l_counts .nil passL (pa_cons (pv 2) (pa_cons (pe_op op_add (pv 1) pe_int) pa_nil))))
        (Evl.pss_cut (ps_set (i := 4) sc_law.nd rfl (Or.inl rfl) (pe_callB call_len_seq (by rfl) T.n_len PySem.boot_len (pa_cons (pe_lc (own := [("_law_count", 9)]) rfl sc_law.nd (pi_list (pv 3)) (blkOk_by (own := [("_law_count", 9)]) (N := ["_law_script", "_law_steps", "_law_room", "_law_line", "_law_times", "_law_due", "_law_found", "_law_few", "_law_lines", "_law_count", "_law_one"]) (sc := defScope s_law) (by decide +kernel)) (fun _ _ _ _ _ => (pg_name (i := 9) sc_law.nd rfl (Or.inl rfl))) (fun _ _ _ _ _ => (pts_one (pt_cmpR op_le (pv 9) (pv 1) (nomark _)))) (fun _ _ _ _ _ => (pv 9))) pa_nil)))
        (pss_cons (ps_set (i := 5) sc_law.nd rfl (Or.inl rfl) pe_int)
        (Evl.pss_cut (ps_if (pt_cmpR op_gt (pv 4) pe_int (nomark _))
        (pss_one (ps_set (i := 5) sc_law.nd rfl (Or.inl rfl) (pe_op op_sub (pe_op op_mul (pv 4) (pe_op op_add (pv 1) pe_int)) (pe_ix ix_list (pe_call G_l_counts (hr.mono (by decide)) (by rfl) m_l_counts k_l_counts b_l_counts .nil passL (pa_cons (pe_op op_add (pv 2) pe_int) (pa_cons (pv 4) pa_nil))) (pe_op op_sub (pv 4) pe_int) (fun _ _ => rfl)))))
        pss_nil)
        (pss_cons (ps_set (i := 6) sc_law.nd rfl (Or.inl rfl) (pe_call G_least (hr.mono (by decide)) (by rfl) m_least k_least b_least .nil passL (pa_cons (pv 1) (pa_cons (pv 2) pa_nil))))
        (pss_cons (ps_if (PW.pt (pw_or (pt_not (pt_val (pe_call G_l_whole (hr.mono (by decide)) (by rfl) m_l_whole k_l_whole b_l_whole .nil passL (pa_cons (pv 6) pa_nil)))) (pw_or1 (pt_cmpR op_ne (pv 6) (pv 5) (nomark _)))))
        (pss_one (ps_ret pe_bl))
        pss_nil)
        (Evl.pss_cut (ps_if (pt_cmpR op_eq (pe_op op_mod (pe_call G_l_cell_at (hr.mono (by decide)) (by rfl) m_l_cell_at k_l_cell_at b_l_cell_at .nil passL (pa_cons (pv 0) (pa_cons pe_int pa_nil))) pe_int) pe_int (nomark _))
        (Evl.pss_cut (ps_set (i := 7) sc_law.nd rfl (Or.inl rfl) (pe_op op_mod (pv 1) pe_int))
        (pss_cons (ps_set (i := 8) sc_law.nd rfl (Or.inl rfl) (pe_call G_table (hr.mono (by decide)) (by rfl) m_table k_table b_table .nil passL (pa_cons (pv 7) (pa_cons (pv 2) pa_nil))))
        (pss_one (ps_if (PW.pt (pw_or (pt_cmpR op_ne (pe_callB call_len_seq (by rfl) T.n_len PySem.boot_len (pa_cons (pv 8) pa_nil)) (pv 2) (nomark _)) (pw_or1 (pt_cmpR (op_neD hr.units) (pe_ix ix_list (pv 8) (pe_un un_neg pe_int) (fun _ _ => rfl)) (pe_lc (own := [("_law_one", 10)]) rfl sc_law.nd (pi_range1 (by rfl) T.n_range (pa_cons (pe_op op_add (pv 7) pe_int) pa_nil)) (blkOk_by (own := [("_law_one", 10)]) (N := ["_law_script", "_law_steps", "_law_room", "_law_line", "_law_times", "_law_due", "_law_found", "_law_few", "_law_lines", "_law_count", "_law_one"]) (sc := defScope s_law) (by decide +kernel)) (fun _ _ _ _ _ => (pg_name (i := 10) sc_law.nd rfl (Or.inl rfl))) (fun _ _ _ _ _ => pts_nil) (fun _ _ _ _ _ => (pe_call G_least (hr.mono (by decide)) (by rfl) m_least k_least b_least .nil passL (pa_cons (pv 10) (pa_cons (pv 2) pa_nil))))) (nomark _)))))
        (pss_one (ps_ret pe_bl))
        pss_nil))))
        pss_nil)
        (Evl.pss_cut (ps_if (PW.pt (pw_and (pt_cmpR op_lt (pv 2) pe_int (nomark _)) (pw_and1 (pt_cmpR op_gt (pe_call G_least (hr.mono (by decide)) (by rfl) m_least k_least b_least .nil passL (pa_cons (pv 1) (pa_cons (pe_op op_add (pv 2) pe_int) pa_nil))) (pv 6) (nomark _)))))
        (pss_one (ps_ret pe_bl))
        pss_nil)
        (Evl.pss_cut (ps_if (PW.pt (pw_and (pt_cmpR op_lt (pv 1) pe_int (nomark _)) (pw_and1 (pt_cmpR op_ne (pe_call G_least (hr.mono (by decide)) (by rfl) m_least k_least b_least .nil passL (pa_cons (pe_op op_add (pv 1) pe_int) (pa_cons (pv 2) pa_nil))) (pe_op op_add (pe_op op_add (pv 6) (pv 4)) (pe_callTy call_int1 (by rfl) T.n_int (by decide +kernel) (pa_cons (pe_cmpR op_in_seq (pe_op op_add (pv 1) pe_int) (pv 3) (by rfl)) pa_nil))) (nomark _)))))
        (pss_one (ps_ret pe_bl))
        pss_nil)
        (pss_one (ps_ret (pe_or (pe_cmpR op_lt (pv 2) (pv 1) (nomark _)) (pe_one (pe_cmpR op_eq (pv 6) (pv 1) (nomark _)))))))))))))))))), ?_⟩
    refine ⟨_, rfl, a, ns, 0, rfl, hS, _, _, rfl, rfl, by show (0 : Int) < 101; decide, ?_⟩
    refine ⟨_, rfl, a, ns, 1, rfl, hS, _, _, rfl, rfl, by show (0 : Int) < 12; decide, _, _, rfl, rfl, ?_⟩
    obtain ⟨s0, hs0, es0⟩ := rem_nat (z := cellAt ns 0) (m := 101) (by decide)
    obtain ⟨r1, hr1, er1⟩ := rem_nat (z := cellAt ns 1) (m := 12) (by decide)
    obtain ⟨r2, hr2, er2⟩ := rem_nat (z := cellAt ns 1) (m := 3) (by decide)
    refine ⟨fun σ H' => H' = H ∧ ∃ r' : Nat, 1 ≤ r' ∧ r' ≤ 12 ∧ σ = [some (.ref a), some (.int (s0 : Int)), some (.int (r' : Int)), none, none, none, none, none, none, none, none], ?_, ?_⟩
    · refine ⟨_, rfl, a, ns, 2, rfl, hS, _, _, rfl, rfl, by show (0 : Int) < 3; decide, rfl, _, rfl, ?_⟩
      refine ite2 (fun c => ?_) (fun c => ?_)
      · refine ⟨_, rfl, a, ns, 1, rfl, hS, _, _, rfl, rfl, by show (0 : Int) < 3; decide, _, _, rfl, rfl, ?_⟩
        refine ⟨rfl, 1 + r2, by omega, by omega, ?_⟩
        show [some (V.ref a), some (V.int (cellAt ns 0 % 101)), some (V.int (1 + cellAt ns 1 % 3)), none, none, none, none, none, none, none, none] = _
        rw [es0, er2, Int.natCast_add] <;> rfl
      · refine ⟨rfl, 1 + r1, by omega, by omega, ?_⟩
        show [some (V.ref a), some (V.int (cellAt ns 0 % 101)), some (V.int (1 + cellAt ns 1 % 12)), none, none, none, none, none, none, none, none] = _
        rw [es0, er1, Int.natCast_add] <;> rfl
    rintro σ H' ⟨rfl, r', h1, h2, rfl⟩
    refine ⟨_, rfl, _, rfl, _, _, rfl, rfl, r', s0 + 2, rfl, by omega, by omega, fun p H1 hp sm1 hP => ?_⟩
    refine ⟨fun σ H2 => Same H1 H2 ∧ σ = [some (.ref a), some (.int (s0 : Int)), some (.int (r' : Int)), some (.ref p), some (.int (oftN s0 r' : Int)), none, none, none, none, none, none], ?_, ?_⟩
    · refine ⟨_, rfl, p, rfl, ⟨_, SqL.of hP⟩, fun D hD => ?_⟩
      refine lc_list (K := K) (a := p) (xs := (countsN (s0 + 2) r').map nV) (fun i H2 => Same H1 H2 ∧ H2 D = some (.lst ((((countsN (s0 + 2) r').take i).filter fun c => decide (c ≤ s0)).map nV))) ⟨Same.new hD, upd_same⟩ (fun i H2 _ ⟨s2, _⟩ => SqL.of (s2 _ _ hP)) ?_ ?_
      · rintro i y H2 hi ⟨s2, hQ⟩
        obtain ⟨z, hz, rfl⟩ := get_map hi
        have hzl := (List.getElem?_eq_some_iff.mp hz).1
        rw [countsN_len] at hzl
        refine ⟨rfl, ?_⟩
        refine ⟨_, rfl, _, rfl, _, _, rfl, rfl, _, rfl, ?_⟩
        have en : decide (((z : Nat) : Int) ≤ (s0 : Int)) = decide (z ≤ s0) := decide_eq_decide.mpr (by omega)
        rw [take_succ hz, List.filter_append, List.filter_cons]
        by_cases c : z ≤ s0
        · rw [en, decide_eq_true c, if_pos rfl]
          refine iteT ?_
          refine ⟨_, rfl, _, hQ, sz5' ?_, Same.mut s2 hD, ?_⟩
          · rw [List.length_map]
            have := List.length_filter_le (fun c => decide (c ≤ s0)) ((countsN (s0 + 2) r').take i)
            rw [List.length_take] at this
            omega
          · rw [upd_same, List.map_append] <;> rfl
        · rw [en, decide_eq_false c, if_neg Bool.false_ne_true]
          refine iteF ?_
          rw [List.filter_nil, List.append_nil]
          exact ⟨s2, hQ⟩
      · rintro H2 ⟨s2, hQ⟩
        rw [List.length_map, List.take_length] at hQ
        refine ⟨D, _, rfl, .inl (SqL.of hQ), ?_⟩
        rw [List.length_map, times_eq (by omega) h1 (by omega)]
        exact ⟨s2, rfl⟩
    rintro σ H2 ⟨s2, rfl⟩
    have ob := oft_le (s := s0) (r := r') (by omega) h1 (by omega)
    refine ⟨fun σ H3 => Same H1 H3 ∧ σ = [some (.ref a), some (.int (s0 : Int)), some (.int (r' : Int)), some (.ref p), some (.int (oftN s0 r' : Int)), some (.int (costN s0 r')), none, none, none, none, none], ?_, ?_⟩
    · have de := due_eq (s := s0) (r := r') (by omega) h1 (by omega)
      refine ⟨_, rfl, _, _, rfl, rfl, _, rfl, ?_⟩
      refine ite2 (fun c => ?_) (fun c => ?_)
      · have c' : oftN s0 r' > 0 := by
          have := of_decide_eq_true c
          omega
        rw [if_pos c'] at de
        refine ⟨_, rfl, _, rfl, _, _, rfl, rfl, _, _, rfl, rfl, .inl ⟨by omega, by omega⟩, _, rfl, _, _, rfl, rfl, _, rfl, r' + 1, oftN s0 r', rfl, by omega, by omega, fun q H3 hq s3 hQ => ?_⟩
        refine ⟨_, rfl, _, _, rfl, rfl, q, _, _, nV ((countsN (oftN s0 r') (r' + 1)).getD (oftN s0 r' - 1) 0), rfl, rfl, SqL.of hQ, at_of (j := oftN s0 r' - 1) (by omega) ?_, _, _, rfl, rfl, s2.trans s3, ?_⟩
        · rw [List.getElem?_map, List.getElem?_eq_getElem (by rw [countsN_len]; omega), List.getD_eq_getElem?_getD, List.getElem?_eq_getElem (by rw [countsN_len]; omega)] <;> rfl
        · rw [← de] <;> rfl
      · have c' : ¬ oftN s0 r' > 0 := fun z => c (decide_eq_true (by omega))
        rw [if_neg c'] at de
        rw [← de]
        exact ⟨s2, rfl⟩
    rintro σ H3 ⟨s3, rfl⟩
    refine ⟨_, rfl, _, rfl, .inl ⟨_, r', rfl, by omega, h1, h2, ?_⟩⟩
    refine ⟨_, rfl, .int (costN s0 r'), some _, rfl, .int _, _, rfl, iteF ?_⟩
    refine ⟨_, rfl, _, rfl, rfl, _, rfl, iteNS rfl ?_⟩
    have sH : Same H' H3 := sm1.trans s3
    refine ⟨fun σ H4 => Same H3 H4 ∧ ∃ u v, σ = [some (.ref a), some (.int (s0 : Int)), some (.int (r' : Int)), some (.ref p), some (.int (oftN s0 r' : Int)), some (.int (costN s0 r')), some (.int (costN s0 r')), u, v, none, none], ?_, ?_⟩
    · refine ⟨_, rfl, a, ns, 2, rfl, sH.seq hS, _, _, rfl, rfl, by show (0 : Int) < 16; decide, rfl, _, rfl, ?_⟩
      refine ite2 (fun c => ?_) (fun c => ?_)
      · obtain ⟨w, hw, ew⟩ := rem_nat (z := (s0 : Int)) (m := 31) (by decide)
        refine ⟨fun σ H4 => H4 = H3 ∧ σ = [some (.ref a), some (.int (s0 : Int)), some (.int (r' : Int)), some (.ref p), some (.int (oftN s0 r' : Int)), some (.int (costN s0 r')), some (.int (costN s0 r')), some (.int (w : Int)), none, none, none], ?_, ?_⟩
        · refine ⟨_, rfl, _, _, rfl, rfl, by show (0 : Int) < 31; decide, rfl, ?_⟩
          rw [← ew] <;> rfl
        rintro σ H4 ⟨rfl, rfl⟩
        refine ⟨_, rfl, _, rfl, .inl ⟨_, r', rfl, by omega, h1, h2, fun q as H4 hq ha s4 hQ R => ?_⟩⟩
        refine ⟨_, rfl, q, _, rfl, .inl (SqL.of hQ), _, rfl, rfl, _, rfl, ?_⟩
        have el : ((as.map V.ref).length : Int) = (r' : Int) := by rw [List.length_map, R.len]
        rw [el]
        refine iteNS rfl ?_
        obtain ⟨al, hal⟩ : ∃ al, as[r' - 1]? = some al := ⟨as[r' - 1]'(by rw [R.len]; omega), List.getElem?_eq_getElem _⟩
        refine ⟨_, rfl, _, rfl, q, _, _, _, rfl, rfl, SqL.of hQ, atI_end (v := .ref al) ?_, ?_⟩
        · rw [List.length_map, R.len, List.getElem?_map, hal] <;> rfl
        refine ⟨_, rfl, _, _, rfl, rfl, _, rfl, by omega, by omega, fun D hD => ?_⟩
        have e0 : ((w : Int) + 1).toNat = w + 1 := by omega
        refine lc_range (lo := 0) (n := ((w : Int) + 1).toNat) (fun i H5 => Same H4 H5 ∧ H5 D = some (.lst (((List.range i).map fun m => costN m r').map V.int))) ⟨Same.new hD, upd_same⟩ ?_ ?_
        · rintro i H5 hi ⟨s5, hP5⟩
          rw [e0] at hi
          refine ⟨rfl, ?_⟩
          have ei : (0 : Int) + (i : Int) = (i : Int) := Int.zero_add _
          rw [ei]
          refine ⟨_, rfl, _, rfl, .inl ⟨_, r', rfl, by omega, h1, h2, ?_⟩⟩
          refine ⟨_, hP5, sz5' (by rw [List.length_map, List.length_map, List.length_range]; omega), Same.mut s5 hD, ?_⟩
          rw [upd_same, List.range_succ, List.map_append, List.map_append] <;> rfl
        · rintro H5 ⟨s5, hP5⟩
          rw [e0] at hP5
          have hrow := s5 _ _ (R.at' (r' - 1) al hal)
          rw [lineK_eq (by omega) _ (by omega), show r' - 1 + 1 = r' by omega] at hrow
          refine ⟨.list ((lineC w r').map PyData.int), .list ((lineC w r').map PyData.int), .lst (SqL.of hrow) (dp_ints _), .lst (SqL.of hP5) (dp_ints _), (sh_ints (n := 0) _).shaped (by decide), (sh_ints (n := 0) _).shaped (by decide), _, rfl, ?_⟩
          rw [(sh_ints (n := 0) (lineC w r')).refl]
          refine iteF ?_
          exact ⟨s4.trans s5, _, _, rfl⟩
      · exact ⟨Same.refl _, _, _, rfl⟩
    rintro σ H4 ⟨s4, u, v, rfl⟩
    refine ⟨fun σ H5 => H5 = H4 ∧ σ = [some (.ref a), some (.int (s0 : Int)), some (.int (r' : Int)), some (.ref p), some (.int (oftN s0 r' : Int)), some (.int (costN s0 r')), some (.int (costN s0 r')), u, v, none, none], ?_, ?_⟩
    · refine ⟨_, rfl, _, _, rfl, rfl, _, rfl, ?_⟩
      by_cases c : (r' : Int) < 12
      · rw [decide_eq_true c]
        refine iteT ?_
        refine ⟨_, rfl, _, rfl, _, _, rfl, rfl, .inl ⟨s0, r' + 1, rfl, by omega, by omega, by omega, _, rfl, _, _, rfl, rfl, _, rfl, ?_⟩⟩
        have cr := cost_room (s := s0) (r := r') (by omega) h1 (by omega)
        rw [decide_eq_false (show ¬ costN s0 r' < costN s0 (r' + 1) by omega)]
        exact iteF ⟨rfl, rfl⟩
      · rw [decide_eq_false c]
        exact iteF (iteF ⟨rfl, rfl⟩)
    rintro σ H5 ⟨rfl, rfl⟩
    refine ⟨fun σ H5 => σ = [some (.ref a), some (.int (s0 : Int)), some (.int (r' : Int)), some (.ref p), some (.int (oftN s0 r' : Int)), some (.int (costN s0 r')), some (.int (costN s0 r')), u, v, none, none], ?_, ?_⟩
    · refine ⟨_, rfl, _, _, rfl, rfl, _, rfl, ?_⟩
      by_cases c : (s0 : Int) < 100
      · rw [decide_eq_true c]
        refine iteT ?_
        refine ⟨_, rfl, _, _, rfl, rfl, _, rfl, .inl ⟨s0 + 1, r', rfl, by omega, h1, h2, ?_⟩⟩
        have hP5 := s4 _ _ (s3 _ _ hP)
        refine ⟨_, rfl, _, rfl, _, _, rfl, rfl, _, rfl, _, _, rfl, rfl, _, rfl, p, _, rfl, .inl (SqL.of hP5), rfl, all_flat _, .inr ⟨_, rfl, _, _, rfl, rfl, rfl, _, rfl, ?_⟩⟩
        have cn := cost_next (s := s0) (r := r') (by omega) h1 (by omega)
        rw [← in_line (by omega) h1 (by omega), ← any_line] at cn
        refine iteNS ?_ rfl
        rw [cn] <;> rfl
      · rw [decide_eq_false c]
        exact iteF (iteF rfl)
    rintro σ H6 rfl
    refine ⟨_, rfl, _, rfl, _, _, rfl, rfl, _, rfl, ?_⟩
    refine ite2 (fun c => ?_) (fun c => ?_)
    · exact k _
    · have hw : s0 ≤ r' := by
        by_cases z : (r' : Int) < (s0 : Int)
        · exact absurd (decide_eq_true z) c
        · omega
      refine ⟨_, rfl, _, rfl, rfl, ?_⟩
      rw [cost_wide (by omega) h1 (by omega) hw, decide_eq_true rfl]
      exact k _

end
theorem all_mk {l : PySem.W.OpenLaw} {w : World} {K : PySem.W.Frag} {h : Heap} {mg : Str → Option Value} {fa : Addr} (X : K.In h) (G : h.Ns mainGlobals mg) (hfa : mg "law" = some (.ref fa))
    {oc_is_among kV_is_among dc_is_among pm_is_among cd_is_among ct_is_among : Value} {od_is_among an_is_among : Option Addr} {sl_is_among : Array (Option Value)} {f_is_among : Addr}
    {oc_need_counts kV_need_counts dc_need_counts pm_need_counts cd_need_counts ct_need_counts : Value} {od_need_counts an_need_counts : Option Addr} {sl_need_counts : Array (Option Value)} {f_need_counts : Addr}
    {oc_choices kV_choices dc_choices pm_choices cd_choices ct_choices : Value} {od_choices an_choices : Option Addr} {sl_choices : Array (Option Value)} {f_choices : Addr}
    {oc_ways kV_ways dc_ways pm_ways cd_ways ct_ways : Value} {od_ways an_ways : Option Addr} {sl_ways : Array (Option Value)} {f_ways : Addr}
    {oc_often kV_often dc_often pm_often cd_often ct_often : Value} {od_often an_often : Option Addr} {sl_often : Array (Option Value)} {f_often : Addr}
    {oc_cost kV_cost dc_cost pm_cost cd_cost ct_cost : Value} {od_cost an_cost : Option Addr} {sl_cost : Array (Option Value)} {f_cost : Addr}
    {oc_least kV_least dc_least pm_least cd_least ct_least : Value} {od_least an_least : Option Addr} {sl_least : Array (Option Value)} {f_least : Addr}
    {oc_next_line kV_next_line dc_next_line pm_next_line cd_next_line ct_next_line : Value} {od_next_line an_next_line : Option Addr} {sl_next_line : Array (Option Value)} {f_next_line : Addr}
    {oc_table kV_table dc_table pm_table cd_table ct_table : Value} {od_table an_table : Option Addr} {sl_table : Array (Option Value)} {f_table : Addr}
    {oc_l_cell_at kV_l_cell_at dc_l_cell_at pm_l_cell_at cd_l_cell_at ct_l_cell_at : Value} {od_l_cell_at an_l_cell_at : Option Addr} {sl_l_cell_at : Array (Option Value)} {f_l_cell_at : Addr}
    {oc_l_whole kV_l_whole dc_l_whole pm_l_whole cd_l_whole ct_l_whole : Value} {od_l_whole an_l_whole : Option Addr} {sl_l_whole : Array (Option Value)} {f_l_whole : Addr}
    {oc_l_counts kV_l_counts dc_l_counts pm_l_counts cd_l_counts ct_l_counts : Value} {od_l_counts an_l_counts : Option Addr} {sl_l_counts : Array (Option Value)} {f_l_counts : Addr}
    {oc_law kV_law dc_law pm_law cd_law ct_law : Value} {od_law an_law : Option Addr} {sl_law : Array (Option Value)} {f_law : Addr}
    {t_MOST_STEPS : Tok}
    {t_MOST_ROOM : Tok}
    {C_BadCount : Addr}
    (a_is_among : PySem.W.nsIn K mainGlobals "is_among" = some (some (.ref f_is_among)))
    (l_is_among : K.lookup f_is_among = some ⟨oc_is_among, od_is_among, .func (PySem.W.fnOf "is_among" "is_among" (defArgs s_is_among) (defBody s_is_among) (defScope s_is_among) .none kV_is_among dc_is_among pm_is_among an_is_among cd_is_among ct_is_among), sl_is_among⟩)
    (c_is_among : PySem.W.codeIn K cd_is_among "is_among" = true)
    (k_is_among : PySem.W.keepIn K (.ref f_is_among) = true)
    (a_need_counts : PySem.W.nsIn K mainGlobals "need_counts" = some (some (.ref f_need_counts)))
    (l_need_counts : K.lookup f_need_counts = some ⟨oc_need_counts, od_need_counts, .func (PySem.W.fnOf "need_counts" "need_counts" (defArgs s_need_counts) (defBody s_need_counts) (defScope s_need_counts) .none kV_need_counts dc_need_counts pm_need_counts an_need_counts cd_need_counts ct_need_counts), sl_need_counts⟩)
    (c_need_counts : PySem.W.codeIn K cd_need_counts "need_counts" = true)
    (k_need_counts : PySem.W.keepIn K (.ref f_need_counts) = true)
    (a_choices : PySem.W.nsIn K mainGlobals "choices" = some (some (.ref f_choices)))
    (l_choices : K.lookup f_choices = some ⟨oc_choices, od_choices, .func (PySem.W.fnOf "choices" "choices" (defArgs s_choices) (defBody s_choices) (defScope s_choices) .none kV_choices dc_choices pm_choices an_choices cd_choices ct_choices), sl_choices⟩)
    (c_choices : PySem.W.codeIn K cd_choices "choices" = true)
    (k_choices : PySem.W.keepIn K (.ref f_choices) = true)
    (a_ways : PySem.W.nsIn K mainGlobals "ways" = some (some (.ref f_ways)))
    (l_ways : K.lookup f_ways = some ⟨oc_ways, od_ways, .func (PySem.W.fnOf "ways" "ways" (defArgs s_ways) (defBody s_ways) (defScope s_ways) .none kV_ways dc_ways pm_ways an_ways cd_ways ct_ways), sl_ways⟩)
    (c_ways : PySem.W.codeIn K cd_ways "ways" = true)
    (k_ways : PySem.W.keepIn K (.ref f_ways) = true)
    (a_often : PySem.W.nsIn K mainGlobals "often" = some (some (.ref f_often)))
    (l_often : K.lookup f_often = some ⟨oc_often, od_often, .func (PySem.W.fnOf "often" "often" (defArgs s_often) (defBody s_often) (defScope s_often) .none kV_often dc_often pm_often an_often cd_often ct_often), sl_often⟩)
    (c_often : PySem.W.codeIn K cd_often "often" = true)
    (k_often : PySem.W.keepIn K (.ref f_often) = true)
    (a_cost : PySem.W.nsIn K mainGlobals "cost" = some (some (.ref f_cost)))
    (l_cost : K.lookup f_cost = some ⟨oc_cost, od_cost, .func (PySem.W.fnOf "cost" "cost" (defArgs s_cost) (defBody s_cost) (defScope s_cost) .none kV_cost dc_cost pm_cost an_cost cd_cost ct_cost), sl_cost⟩)
    (c_cost : PySem.W.codeIn K cd_cost "cost" = true)
    (k_cost : PySem.W.keepIn K (.ref f_cost) = true)
    (a_least : PySem.W.nsIn K mainGlobals "least" = some (some (.ref f_least)))
    (l_least : K.lookup f_least = some ⟨oc_least, od_least, .func (PySem.W.fnOf "least" "least" (defArgs s_least) (defBody s_least) (defScope s_least) .none kV_least dc_least pm_least an_least cd_least ct_least), sl_least⟩)
    (c_least : PySem.W.codeIn K cd_least "least" = true)
    (k_least : PySem.W.keepIn K (.ref f_least) = true)
    (a_next_line : PySem.W.nsIn K mainGlobals "next_line" = some (some (.ref f_next_line)))
    (l_next_line : K.lookup f_next_line = some ⟨oc_next_line, od_next_line, .func (PySem.W.fnOf "next_line" "next_line" (defArgs s_next_line) (defBody s_next_line) (defScope s_next_line) .none kV_next_line dc_next_line pm_next_line an_next_line cd_next_line ct_next_line), sl_next_line⟩)
    (c_next_line : PySem.W.codeIn K cd_next_line "next_line" = true)
    (k_next_line : PySem.W.keepIn K (.ref f_next_line) = true)
    (a_table : PySem.W.nsIn K mainGlobals "table" = some (some (.ref f_table)))
    (l_table : K.lookup f_table = some ⟨oc_table, od_table, .func (PySem.W.fnOf "table" "table" (defArgs s_table) (defBody s_table) (defScope s_table) .none kV_table dc_table pm_table an_table cd_table ct_table), sl_table⟩)
    (c_table : PySem.W.codeIn K cd_table "table" = true)
    (k_table : PySem.W.keepIn K (.ref f_table) = true)
    (a_l_cell_at : PySem.W.nsIn K mainGlobals "_law_cell_at" = some (some (.ref f_l_cell_at)))
    (l_l_cell_at : K.lookup f_l_cell_at = some ⟨oc_l_cell_at, od_l_cell_at, .func (PySem.W.fnOf "_law_cell_at" "_law_cell_at" (defArgs s_l_cell_at) (defBody s_l_cell_at) (defScope s_l_cell_at) .none kV_l_cell_at dc_l_cell_at pm_l_cell_at an_l_cell_at cd_l_cell_at ct_l_cell_at), sl_l_cell_at⟩)
    (c_l_cell_at : PySem.W.codeIn K cd_l_cell_at "_law_cell_at" = true)
    (k_l_cell_at : PySem.W.keepIn K (.ref f_l_cell_at) = true)
    (a_l_whole : PySem.W.nsIn K mainGlobals "_law_whole" = some (some (.ref f_l_whole)))
    (l_l_whole : K.lookup f_l_whole = some ⟨oc_l_whole, od_l_whole, .func (PySem.W.fnOf "_law_whole" "_law_whole" (defArgs s_l_whole) (defBody s_l_whole) (defScope s_l_whole) .none kV_l_whole dc_l_whole pm_l_whole an_l_whole cd_l_whole ct_l_whole), sl_l_whole⟩)
    (c_l_whole : PySem.W.codeIn K cd_l_whole "_law_whole" = true)
    (k_l_whole : PySem.W.keepIn K (.ref f_l_whole) = true)
    (a_l_counts : PySem.W.nsIn K mainGlobals "_law_counts" = some (some (.ref f_l_counts)))
    (l_l_counts : K.lookup f_l_counts = some ⟨oc_l_counts, od_l_counts, .func (PySem.W.fnOf "_law_counts" "_law_counts" (defArgs s_l_counts) (defBody s_l_counts) (defScope s_l_counts) .none kV_l_counts dc_l_counts pm_l_counts an_l_counts cd_l_counts ct_l_counts), sl_l_counts⟩)
    (c_l_counts : PySem.W.codeIn K cd_l_counts "_law_counts" = true)
    (k_l_counts : PySem.W.keepIn K (.ref f_l_counts) = true)
    (a_law : PySem.W.nsIn K mainGlobals "law" = some (some (.ref f_law)))
    (l_law : K.lookup f_law = some ⟨oc_law, od_law, .func (PySem.W.fnOf "law" "law" (defArgs s_law) (defBody s_law) (defScope s_law) .none kV_law dc_law pm_law an_law cd_law ct_law), sl_law⟩)
    (c_law : PySem.W.codeIn K cd_law "law" = true)
    (k_law : PySem.W.keepIn K (.ref f_law) = true)
    (v_MOST_STEPS : PySem.W.nsIn K mainGlobals "MOST_STEPS" = some (some (.int 100 t_MOST_STEPS)))
    (v_MOST_ROOM : PySem.W.nsIn K mainGlobals "MOST_ROOM" = some (some (.int 12 t_MOST_ROOM)))
    (z_isinstance : PySem.W.nsIn K mainGlobals "isinstance" = some none)
    (z_bool : PySem.W.nsIn K mainGlobals "bool" = some none)
    (z_int : PySem.W.nsIn K mainGlobals "int" = some none)
    (z_range : PySem.W.nsIn K mainGlobals "range" = some none)
    (z_len : PySem.W.nsIn K mainGlobals "len" = some none)
    (gBadCount : PySem.W.nsIn K mainGlobals "BadCount" = some (some (.ref C_BadCount)))
    (xBadCount : PySem.W.excIn K C_BadCount [.type "ValueError", .type "Exception", .type "BaseException", .type "object"] "ValueError.__new__" = true)
    (kBadCount : PySem.W.keepIn K (.ref C_BadCount) = true) (bBadCount : PySem.W.subIn K (.ref C_BadCount) (.type "BaseException") = some true) (tBadCount : PySem.W.typeIn K (.ref C_BadCount) = some (.type "type")) :
    ∃ fd : FuncData, (∀ (s : Shared) (v : Value), BindsTo s fd ⟨[v], []⟩ [("_law_script", v)]) ∧ ∀ base : Heap, K.In base → base.Ns mainGlobals mg → FnOk l.prog w K mg base (L2.CX l.prog w) 6 fa fd ["_law_script"] (sp_law K) := by
  have e := hfa.symm.trans (PySem.W.mg_of X G a_law)
  cases e
  have T : Txt K mg := {
    d_is_among := ⟨_, _, PySem.W.mg_of X G a_is_among, fun_mk (st := s_is_among) l_is_among c_is_among k_is_among, (fun_mk (st := s_is_among) l_is_among c_is_among k_is_among).binds (ps := ["thing", "low", "high"]) fun _ _ _ _ _ _ us hl => match us, hl with | [_, _, _], _ => rfl⟩,
    d_need_counts := ⟨_, _, PySem.W.mg_of X G a_need_counts, fun_mk (st := s_need_counts) l_need_counts c_need_counts k_need_counts, (fun_mk (st := s_need_counts) l_need_counts c_need_counts k_need_counts).binds (ps := ["steps", "room"]) fun _ _ _ _ _ _ us hl => match us, hl with | [_, _], _ => rfl⟩,
    d_choices := ⟨_, _, PySem.W.mg_of X G a_choices, fun_mk (st := s_choices) l_choices c_choices k_choices, (fun_mk (st := s_choices) l_choices c_choices k_choices).binds (ps := ["many", "chosen"]) fun _ _ _ _ _ _ us hl => match us, hl with | [_, _], _ => rfl⟩,
    d_ways := ⟨_, _, PySem.W.mg_of X G a_ways, fun_mk (st := s_ways) l_ways c_ways k_ways, (fun_mk (st := s_ways) l_ways c_ways k_ways).binds (ps := ["room", "times"]) fun _ _ _ _ _ _ us hl => match us, hl with | [_, _], _ => rfl⟩,
    d_often := ⟨_, _, PySem.W.mg_of X G a_often, fun_mk (st := s_often) l_often c_often k_often, (fun_mk (st := s_often) l_often c_often k_often).binds (ps := ["steps", "room"]) fun _ _ _ _ _ _ us hl => match us, hl with | [_, _], _ => rfl⟩,
    d_cost := ⟨_, _, PySem.W.mg_of X G a_cost, fun_mk (st := s_cost) l_cost c_cost k_cost, (fun_mk (st := s_cost) l_cost c_cost k_cost).binds (ps := ["steps", "room"]) fun _ _ _ _ _ _ us hl => match us, hl with | [_, _], _ => rfl⟩,
    d_least := ⟨_, _, PySem.W.mg_of X G a_least, fun_mk (st := s_least) l_least c_least k_least, (fun_mk (st := s_least) l_least c_least k_least).binds (ps := ["steps", "room"]) fun _ _ _ _ _ _ us hl => match us, hl with | [_, _], _ => rfl⟩,
    d_next_line := ⟨_, _, PySem.W.mg_of X G a_next_line, fun_mk (st := s_next_line) l_next_line c_next_line k_next_line, (fun_mk (st := s_next_line) l_next_line c_next_line k_next_line).binds (ps := ["above", "steps"]) fun _ _ _ _ _ _ us hl => match us, hl with | [_, _], _ => rfl⟩,
    d_table := ⟨_, _, PySem.W.mg_of X G a_table, fun_mk (st := s_table) l_table c_table k_table, (fun_mk (st := s_table) l_table c_table k_table).binds (ps := ["steps", "room"]) fun _ _ _ _ _ _ us hl => match us, hl with | [_, _], _ => rfl⟩,
    d_l_cell_at := ⟨_, _, PySem.W.mg_of X G a_l_cell_at, fun_mk (st := s_l_cell_at) l_l_cell_at c_l_cell_at k_l_cell_at, (fun_mk (st := s_l_cell_at) l_l_cell_at c_l_cell_at k_l_cell_at).binds (ps := ["_law_script", "_law_k"]) fun _ _ _ _ _ _ us hl => match us, hl with | [_, _], _ => rfl⟩,
    d_l_whole := ⟨_, _, PySem.W.mg_of X G a_l_whole, fun_mk (st := s_l_whole) l_l_whole c_l_whole k_l_whole, (fun_mk (st := s_l_whole) l_l_whole c_l_whole k_l_whole).binds (ps := ["_law_found"]) fun _ _ _ _ _ _ us hl => match us, hl with | [_], _ => rfl⟩,
    d_l_counts := ⟨_, _, PySem.W.mg_of X G a_l_counts, fun_mk (st := s_l_counts) l_l_counts c_l_counts k_l_counts, (fun_mk (st := s_l_counts) l_l_counts c_l_counts k_l_counts).binds (ps := ["_law_room", "_law_many"]) fun _ _ _ _ _ _ us hl => match us, hl with | [_, _], _ => rfl⟩,
    d_law := ⟨_, _, PySem.W.mg_of X G a_law, fun_mk (st := s_law) l_law c_law k_law, (fun_mk (st := s_law) l_law c_law k_law).binds (ps := ["_law_script"]) fun _ _ _ _ _ _ us hl => match us, hl with | [_], _ => rfl⟩,
    c_MOST_STEPS := ⟨_, PySem.W.mg_of X G v_MOST_STEPS⟩,
    c_MOST_ROOM := ⟨_, PySem.W.mg_of X G v_MOST_ROOM⟩,
    n_isinstance := PySem.W.mg_none_of X G z_isinstance,
    n_bool := PySem.W.mg_none_of X G z_bool,
    n_int := PySem.W.mg_none_of X G z_int,
    n_range := PySem.W.mg_none_of X G z_range,
    n_len := PySem.W.mg_none_of X G z_len,
    aBadCount := C_BadCount,
    x_BadCount := ⟨PySem.W.mg_of X G gBadCount, xBadCount, kBadCount, bBadCount, tBadCount⟩ }
  refine ⟨PySem.W.fnOf "law" "law" (defArgs s_law) (defBody s_law) (defScope s_law) .none kV_law dc_law pm_law an_law cd_law ct_law, fun s v => .of_eq rfl, fun base _ _ => ?_⟩
  exact ok_law_at T (fun_mk (st := s_law) l_law c_law k_law)
theorem walk {l : PySem.W.OpenLaw} {q : Program} {loose : List Str} {XP : (Str → Option Value) → Heap → Prop} {YP : World → Heap → Prop} {d : DefRec} {K : Params → PySem.W.Frag} (hn : l.most = some 63) (hdf : d.params.defaults = [])
    (hY : ∀ (w : World) (h : Heap), YP w h → (K w.params).In h)
    (F : ∀ (w : World) (mg : Str → Option Value) (fa : Addr) (h : Heap), (K w.params).In h → h.Ns mainGlobals mg → mg d.name = some (.ref fa) →
      ∃ fd : FuncData, (∀ (s : Shared) (u : Value), BindsTo s fd ⟨[u], []⟩ [("_law_script", u)]) ∧ ∀ base : Heap, (K w.params).In base → base.Ns mainGlobals mg → FnOk l.prog w (K w.params) mg base (L2.CX l.prog w) 6 fa fd ["_law_script"] (sp_law (K w.params))) :
    PySem.W.WalkO q loose XP YP l.row.toRowW d [] (fun f vs => PySem.call f vs) :=
  L2.walk_of (n := 63) (k := 6) (x := "_law_script") (CX := fun w => L2.CX l.prog w) (sp := fun w => sp_law (K w.params)) hn (by decide) hdf ⟨rfl, by decide, by decide⟩ hY F (fun _ _ _ _ hl _ hS => law_true hS hl) fun _ _ _ _ _ z => cx0_no z
end BM
open PySem PySem.W PyProof.Rows
set_option maxRecDepth 100000 in
set_option maxHeartbeats 0 in
theorem PySem.Challenge.cw_backmarks_k11_whole_by_how_often_holds : PySem.Challenge.rw_backmarks_k11_whole_by_how_often.Holds := by
  w_on; o_law; k_head; (case hw => w_witness2)
  k_fill
  refine BM.walk (l := PySem.Challenge.rw_backmarks_k11_whole_by_how_often) rfl rfl (fun w h Y => PySem.W.kIn_of Y) ?F
  case F =>
    intro w mg fa h KX G hmg
    refine' BM.all_mk (l := PySem.Challenge.rw_backmarks_k11_whole_by_how_often) KX G hmg ?a_is_among ?l_is_among ?c_is_among ?k_is_among ?a_need_counts ?l_need_counts ?c_need_counts ?k_need_counts ?a_choices ?l_choices ?c_choices ?k_choices ?a_ways ?l_ways ?c_ways ?k_ways ?a_often ?l_often ?c_often ?k_often ?a_cost ?l_cost ?c_cost ?k_cost ?a_least ?l_least ?c_least ?k_least ?a_next_line ?l_next_line ?c_next_line ?k_next_line ?a_table ?l_table ?c_table ?k_table ?a_l_cell_at ?l_l_cell_at ?c_l_cell_at ?k_l_cell_at ?a_l_whole ?l_l_whole ?c_l_whole ?k_l_whole ?a_l_counts ?l_l_counts ?c_l_counts ?k_l_counts ?a_law ?l_law ?c_law ?k_law ?v_MOST_STEPS ?v_MOST_ROOM ?z_isinstance ?z_bool ?z_int ?z_range ?z_len ?gBadCount ?xBadCount ?kBadCount ?bBadCount ?tBadCount
    (case a_is_among => k_is)
    (case l_is_among => k_is)
    (case c_is_among => k_is)
    (case k_is_among => k_is)
    (case a_need_counts => k_is)
    (case l_need_counts => k_is)
    (case c_need_counts => k_is)
    (case k_need_counts => k_is)
    (case a_choices => k_is)
    (case l_choices => k_is)
    (case c_choices => k_is)
    (case k_choices => k_is)
    (case a_ways => k_is)
    (case l_ways => k_is)
    (case c_ways => k_is)
    (case k_ways => k_is)
    (case a_often => k_is)
    (case l_often => k_is)
    (case c_often => k_is)
    (case k_often => k_is)
    (case a_cost => k_is)
    (case l_cost => k_is)
    (case c_cost => k_is)
    (case k_cost => k_is)
    (case a_least => k_is)
    (case l_least => k_is)
    (case c_least => k_is)
    (case k_least => k_is)
    (case a_next_line => k_is)
    (case l_next_line => k_is)
    (case c_next_line => k_is)
    (case k_next_line => k_is)
    (case a_table => k_is)
    (case l_table => k_is)
    (case c_table => k_is)
    (case k_table => k_is)
    (case a_l_cell_at => k_is)
    (case l_l_cell_at => k_is)
    (case c_l_cell_at => k_is)
    (case k_l_cell_at => k_is)
    (case a_l_whole => k_is)
    (case l_l_whole => k_is)
    (case c_l_whole => k_is)
    (case k_l_whole => k_is)
    (case a_l_counts => k_is)
    (case l_l_counts => k_is)
    (case c_l_counts => k_is)
    (case k_l_counts => k_is)
    (case a_law => k_is)
    (case l_law => k_is)
    (case c_law => k_is)
    (case k_law => k_is)
    (case v_MOST_STEPS => k_is)
    (case v_MOST_ROOM => k_is)
    (case z_isinstance => k_is)
    (case z_bool => k_is)
    (case z_int => k_is)
    (case z_range => k_is)
    (case z_len => k_is)
    (case gBadCount => k_is)
    (case xBadCount => k_exc)
    (case kBadCount => k_is)
    (case bBadCount => k_is)
    (case tBadCount => k_is)
#print axioms PySem.Challenge.cw_backmarks_k11_whole_by_how_often_holds
