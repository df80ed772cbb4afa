import PyProof.Rows.All
import Wide.All
import Wide.FinOn
import OpenK.AllK
import KE.KSortTupG
import KE.KStateDown
import HandS.ForMost
import HandS.Evl
import HandS.IsInst
import HandS.Zip
import HandS.TupAny
import HandS.Conv
import HandS.Style
import HandS.Walk
import HandS.Defaults
import HandS.Sort
import HandS.Base
import HandS.Call
import HandS.Ends
import HandS.Words
import HandS.Head0
import HandS.Head1
import HandS.Head2
import HandS.HeadEnd
import HandS.HeadHook1
import HandS.HeadHook2
import PySem.Challenge.RW_closereckoned_k07_whole_seams_and_clumps
set_option Elab.async false
set_option linter.all false
set_option maxRecDepth 100000
set_option maxHeartbeats 4000000
/-! Ly: data over the heap (Dt, Tp, Hold), what a reading gives (EvG, EvN, EvI), statements. -/
namespace Ck
open PySem PySem.Spec PyProof.Rows L2 Evl
/-! ### data -/
inductive Dt where
  | non | bl (b : Bool) | int (i : Int) | str (x : Str) | tup (l : List Dt)
abbrev Dt.nat (n : Nat) : Dt := .int (n : Int)
mutual
inductive Tp (K : PySem.W.Frag) (H : Hp) : V → Dt → Prop where
  | non : Tp K H .non .non
  | bl (b : Bool) : Tp K H (.bl b) (.bl b)
  | int (i : Int) : Tp K H (.int i) (.int i)
  | str (x : Str) : Tp K H (.str x) (.str x)
  | tup {a : Addr} {xs : List V} {ds : List Dt} : SqT K H a xs → Tps K H xs ds → Tp K H (.ref a) (.tup ds)
inductive Tps (K : PySem.W.Frag) (H : Hp) : List V → List Dt → Prop where
  | nil : Tps K H [] []
  | cons {v : V} {vs : List V} {d : Dt} {ds : List Dt} : Tp K H v d → Tps K H vs ds → Tps K H (v :: vs) (d :: ds)
end
def Tx (K : PySem.W.Frag) (H H' : Hp) : Prop := ∀ a xs, SqT K H a xs → SqT K H' a xs
section
variable {K : PySem.W.Frag} {H H' H2 : Hp} {v : V} {d : Dt} {vs xs : List V} {ds : List Dt}
theorem Tx.refl : Tx K H H := fun _ _ h => h
theorem Tx.trans (a : Tx K H H') (b : Tx K H' H2) : Tx K H H2 := fun x o h => b x o (a x o h)
theorem Tx.of (e : Ex H H') : Tx K H H' := fun _ _ h => ex_t e h
theorem Tp.tx (e : Tx K H H') (h : Tp K H v d) : Tp K H' v d :=
  Tp.rec (motive_1 := fun v d _ => Tp K H' v d) (motive_2 := fun vs ds _ => Tps K H' vs ds) .non .bl .int .str (fun hs _ ih => .tup (e _ _ hs) ih) .nil (fun _ _ h1 h2 => .cons h1 h2) h
theorem Tps.tx (e : Tx K H H') (h : Tps K H vs ds) : Tps K H' vs ds :=
  Tps.rec (motive_1 := fun v d _ => Tp K H' v d) (motive_2 := fun vs ds _ => Tps K H' vs ds) .non .bl .int .str (fun hs _ ih => .tup (e _ _ hs) ih) .nil (fun _ _ h1 h2 => .cons h1 h2) h
theorem Tp.mono (e : Ex H H') (h : Tp K H v d) : Tp K H' v d := h.tx (.of e)
theorem Tps.mono (e : Ex H H') (h : Tps K H vs ds) : Tps K H' vs ds := h.tx (.of e)
theorem Tp.intI {i : Int} (h : Tp K H v (.int i)) : v = .int i := by cases h; rfl
theorem Tp.blI {b : Bool} (h : Tp K H v (.bl b)) : v = .bl b := by cases h; rfl
theorem Tp.nonI (h : Tp K H v .non) : v = .non := by cases h; rfl
theorem Tp.strI {x : Str} (h : Tp K H v (.str x)) : v = .str x := by cases h; rfl
theorem Tp.tupI (h : Tp K H v (.tup ds)) : ∃ a xs, v = .ref a ∧ SqT K H a xs ∧ Tps K H xs ds := by
  cases h with
  | tup h1 h2 => exact ⟨_, _, rfl, h1, h2⟩
theorem Tps.len : ∀ {xs : List V} {ds : List Dt}, Tps K H xs ds → xs.length = ds.length
  | [], [], _ => rfl
  | [], _ :: _, h => by cases h
  | _ :: _, [], h => by cases h
  | x :: xs, d :: ds, h => by
    cases h with
    | cons _ t => rw [List.length_cons, List.length_cons, Tps.len t]
theorem Tps.get : ∀ {xs : List V} {ds : List Dt} {j : Nat} {d : Dt}, Tps K H xs ds → ds[j]? = some d → ∃ v, xs[j]? = some v ∧ Tp K H v d
  | _, [], _, _, _, e => by simp at e
  | [], _ :: _, _, _, h, _ => by cases h
  | x :: xs, d :: ds, 0, d', h, e => by
    cases h with
    | cons h1 t =>
      have e1 : d = d' := Option.some.inj e
      subst e1
      exact ⟨x, rfl, h1⟩
  | x :: xs, d :: ds, j + 1, d', h, e => by
    cases h with
    | cons h1 t =>
      obtain ⟨v, q1, q2⟩ := Tps.get (j := j) (d := d') t (by simpa using e)
      exact ⟨v, by simpa using q1, q2⟩
theorem Tps.get' : ∀ {xs : List V} {ds : List Dt} {j : Nat} {v : V}, Tps K H xs ds → xs[j]? = some v → ∃ d, ds[j]? = some d ∧ Tp K H v d
  | [], _, _, _, _, e => by simp at e
  | _ :: _, [], _, _, h, _ => by cases h
  | x :: xs, d :: ds, 0, v, h, e => by
    cases h with
    | cons h1 t =>
      have e1 : x = v := Option.some.inj e
      subst e1
      exact ⟨d, rfl, h1⟩
  | x :: xs, d :: ds, j + 1, v, h, e => by
    cases h with
    | cons h1 t =>
      obtain ⟨v, q1, q2⟩ := Tps.get' (j := j) (v := v) t (by simpa using e)
      exact ⟨v, by simpa using q1, q2⟩
theorem Tps.append : ∀ {xs ys : List V} {ds es : List Dt}, Tps K H xs ds → Tps K H ys es → Tps K H (xs ++ ys) (ds ++ es)
  | [], _, [], _, _, h => h
  | [], _, _ :: _, _, h, _ => by cases h
  | _ :: _, _, [], _, h, _ => by cases h
  | _ :: _, _, _ :: _, _, h, q => by
    cases h with
    | cons h1 t => exact .cons h1 (Tps.append t q)
theorem Tps.set : ∀ {xs : List V} {ds : List Dt} (j : Nat), Tps K H xs ds → Tp K H v d → Tps K H (xs.set j v) (ds.set j d)
  | [], [], _, _, _ => .nil
  | [], _ :: _, _, h, _ => by cases h
  | _ :: _, [], _, h, _ => by cases h
  | _ :: _, _ :: _, 0, h, q => by
    cases h with
    | cons h1 t => exact .cons q t
  | _ :: _, _ :: _, j + 1, h, q => by
    cases h with
    | cons h1 t => exact .cons h1 (Tps.set j t q)
theorem Tps.take : ∀ {xs : List V} {ds : List Dt} (j : Nat), Tps K H xs ds → Tps K H (xs.take j) (ds.take j)
  | _, _, 0, _ => .nil
  | [], [], _ + 1, _ => .nil
  | [], _ :: _, _, h => by cases h
  | _ :: _, [], _, h => by cases h
  | _ :: _, _ :: _, j + 1, h => by
    cases h with
    | cons h1 t => exact .cons h1 (Tps.take j t)
theorem Tps.drop : ∀ {xs : List V} {ds : List Dt} (j : Nat), Tps K H xs ds → Tps K H (xs.drop j) (ds.drop j)
  | _, _, 0, h => h
  | [], [], _ + 1, _ => .nil
  | [], _ :: _, _, h => by cases h
  | _ :: _, [], _, h => by cases h
  | _ :: _, _ :: _, j + 1, h => by
    cases h with
    | cons h1 t => exact Tps.drop j t
theorem Tps.reverse : ∀ {xs : List V} {ds : List Dt}, Tps K H xs ds → Tps K H xs.reverse ds.reverse
  | [], [], _ => .nil
  | [], _ :: _, h => by cases h
  | _ :: _, [], h => by cases h
  | x :: xs, d :: ds, h => by
    cases h with
    | cons h1 t =>
      rw [List.reverse_cons, List.reverse_cons]
      exact (Tps.reverse t).append (.cons h1 .nil)
theorem Tps.ints : ∀ {xs : List V} {ns : List Int}, Tps K H xs (ns.map Dt.int) → xs = ns.map V.int
  | [], [], _ => rfl
  | [], _ :: _, h => by cases h
  | _ :: _, [], h => by cases h
  | x :: xs, n :: ns, h => by
    cases h with
    | cons h1 t => rw [h1.intI, Tps.ints t]; rfl
theorem Tps.nats {ns : List Nat} (h : Tps K H xs (ns.map Dt.nat)) : xs = ns.map fun n : Nat => V.int (n : Int) := by
  have e : ns.map Dt.nat = (ns.map fun n : Nat => (n : Int)).map Dt.int := by rw [List.map_map]; rfl
  rw [e] at h
  rw [h.ints, List.map_map]
  rfl
theorem Tps.bls : ∀ {xs : List V} {bs : List Bool}, Tps K H xs (bs.map Dt.bl) → xs = bs.map V.bl
  | [], [], _ => rfl
  | [], _ :: _, h => by cases h
  | _ :: _, [], h => by cases h
  | x :: xs, n :: ns, h => by
    cases h with
    | cons h1 t => rw [h1.blI, Tps.bls t]; rfl
theorem Tps.of_ints : ∀ {ns : List Int}, Tps K H (ns.map V.int) (ns.map Dt.int)
  | [] => .nil
  | n :: ns => .cons (.int n) Tps.of_ints
theorem Tps.of_fn {α : Type} {f : α → V} {g : α → Dt} : ∀ {l : List α}, (∀ a ∈ l, Tp K H (f a) (g a)) → Tps K H (l.map f) (l.map g)
  | [], _ => .nil
  | a :: l, h => .cons (h a (List.mem_cons_self ..)) (Tps.of_fn fun b hb => h b (List.mem_cons_of_mem _ hb))
end
/-- what a value may be said to be: data, or a list (that is read) -/
inductive Sh where
  | d (d : Dt) | s (l : List Dt)
def Hold (K : PySem.W.Frag) (H : Hp) (v : V) : Sh → Prop
  | .d d => Tp K H v d
  | .s ds => ∃ a xs, v = .ref a ∧ SqL K H a xs ∧ Tps K H xs ds
def Holds (K : PySem.W.Frag) (H : Hp) : List V → List Sh → Prop
  | [], [] => True
  | v :: vs, s :: ss => Hold K H v s ∧ Holds K H vs ss
  | _, _ => False
section
variable {K : PySem.W.Frag} {H H' : Hp} {v : V} {sh : Sh}
theorem Hold.mono (e : Ex H H') (h : Hold K H v sh) : Hold K H' v sh := by
  cases sh with
  | d d => exact Tp.mono e h
  | s ds =>
    obtain ⟨a, xs, rfl, h1, h2⟩ := h
    exact ⟨a, xs, rfl, ex_l e h1, h2.mono e⟩
theorem Holds.mono (e : Ex H H') : ∀ {vs : List V} {ss : List Sh}, Holds K H vs ss → Holds K H' vs ss
  | [], [], _ => True.intro
  | [], _ :: _, h => h.elim
  | _ :: _, [], h => h.elim
  | _ :: _, _ :: _, h => ⟨h.1.mono e, Holds.mono e h.2⟩
theorem Holds.len : ∀ {vs : List V} {ss : List Sh}, Holds K H vs ss → vs.length = ss.length
  | [], [], _ => rfl
  | [], _ :: _, h => h.elim
  | _ :: _, [], h => h.elim
  | _ :: _, _ :: _, h => congrArg Nat.succ (Holds.len h.2)
theorem Hold.lst {l : Addr} {xs : List V} {ds : List Dt} (h : H l = some (.lst xs)) (t : Tps K H xs ds) : Hold K H (.ref l) (.s ds) := ⟨l, xs, rfl, sq_of h, t⟩
end
/-! ### promises -/
/-- arguments a with pre, the shapes of the values; what comes back -/
def Pm {α : Type} (K : PySem.W.Frag) (pre : α → Prop) (args : α → List Sh) (res : α → Sh) : Sp := fun vs H Q _ => ∃ a : α, pre a ∧ Holds K H vs (args a) ∧ ∀ v H', Ex H H' → Hold K H' v (res a) → Q v H'
/-- .. told by a relation -/
def PmR {α β : Type} (K : PySem.W.Frag) (pre : α → Prop) (args : α → List Sh) (rel : α → β → Prop) (res : β → Sh) : Sp := fun vs H Q _ => ∃ a : α, pre a ∧ Holds K H vs (args a) ∧ ∀ v b H', rel a b → Ex H H' → Hold K H' v (res b) → Q v H'
/-- .. a new list -/
def PmN {α β : Type} (K : PySem.W.Frag) (pre : α → Prop) (args : α → List Sh) (rel : α → β → Prop) (res : β → List Dt) : Sp := fun vs H Q _ => ∃ a : α, pre a ∧ Holds K H vs (args a) ∧ ∀ p xs b H', rel a b → Ex H H' → H p = none → H' p = some (.lst xs) → Tps K H' xs (res b) → Q (.ref p) H'
/-! ### what a reading gives -/
def EvG (K : PySem.W.Frag) (te : TE) (σ : L2.St) (H : Hp) (sh : Sh) : Prop := ∀ H1, Ex H H1 → ∀ Q : VK, (∀ v H2, Ex H1 H2 → Hold K H2 v sh → Q v H2) → te σ H1 Q
def EvN (K : PySem.W.Frag) (te : TE) (σ : L2.St) (H : Hp) (ds : List Dt) : Prop := ∀ H1, Ex H H1 → ∀ Q : VK, (∀ p xs H2, H1 p = none → Ex H1 H2 → H2 p = some (.lst xs) → Tps K H2 xs ds → Q (.ref p) H2) → te σ H1 Q
def EvAs (K : PySem.W.Frag) (ta : TA) (σ : L2.St) (H : Hp) (ss : List Sh) : Prop := ∀ H1, Ex H H1 → ∀ Q : List V → Hp → Prop, (∀ vs H2, Ex H1 H2 → Holds K H2 vs ss → Q vs H2) → ta σ H1 Q
section
variable {K : PySem.W.Frag} {σ : L2.St} {H H' : Hp} {ta tb tc te tx : TE} {t u : TT} {v : V} {sa sb sc sh : Sh} {ss : List Sh} {tl : TA} {d : Dt} {ds es : List Dt} {a b c : Nat} {i j k : Int} {r : R2}
theorem EvG.mono (e : Ex H H') (h : EvG K te σ H sh) : EvG K te σ H' sh := fun H1 a Q q => h H1 (e.trans a) Q q
theorem EvN.mono (e : Ex H H') (h : EvN K te σ H ds) : EvN K te σ H' ds := fun H1 a Q q => h H1 (e.trans a) Q q
theorem EvAs.mono (e : Ex H H') (h : EvAs K tl σ H ss) : EvAs K tl σ H' ss := fun H1 a Q q => h H1 (e.trans a) Q q
theorem EvN.g (h : EvN K te σ H ds) : EvG K te σ H (.s ds) := fun H1 e Q q => h H1 e Q fun p xs H2 _ e2 hp ht => q _ H2 e2 (.lst hp ht)
theorem EvG.is (h : EvG K te σ H sh) (e : sh = sc) : EvG K te σ H sc := e ▸ h
theorem EvG.isI (h : EvG K te σ H (.d (.int i))) (e : i = j) : EvG K te σ H (.d (.int j)) := e ▸ h
theorem EvG.isB {x y : Bool} (h : EvG K te σ H (.d (.bl x))) (e : x = y) : EvG K te σ H (.d (.bl y)) := e ▸ h
theorem EvN.is (h : EvN K te σ H ds) (e : ds = es) : EvN K te σ H es := e ▸ h
theorem g_var {n : Nat} (h : σ[n]? = some (some v)) (hh : Hold K H v sh) : EvG K (tVar n) σ H sh := fun H1 e Q q => ⟨v, h, q v H1 (Ex.refl H1) (hh.mono e)⟩
theorem g_c (hh : ∀ H, Hold K H v sh) : EvG K (tC v) σ H sh := fun H1 e Q q => q v H1 (Ex.refl H1) (hh H1)
def xInt (i : Int) : TE := tC (.int i)
def xNat (n : Nat) : TE := tC (.int (n : Int))
def xBl (b : Bool) : TE := tC (.bl b)
def xStr (x : Str) : TE := tC (.str x)
def xNon : TE := tC .non
theorem g_int : EvG K (xInt i) σ H (.d (.int i)) := g_c fun _ => .int i
theorem g_nat : EvG K (xNat a) σ H (.d (.nat a)) := g_c fun _ => .int _
theorem g_bl {x : Bool} : EvG K (xBl x) σ H (.d (.bl x)) := g_c fun _ => .bl x
theorem g_str {x : Str} : EvG K (xStr x) σ H (.d (.str x)) := g_c fun _ => .str x
theorem g_non : EvG K xNon σ H (.d .non) := g_c fun _ => .non
theorem g_op (ha : EvG K ta σ H sa) (hb : EvG K tb σ H sb) (hr : ∀ x y H1, Ex H H1 → Hold K H1 x sa → Hold K H1 y sb → ∀ Q : VK, (∀ v H2, Ex H1 H2 → Hold K H2 v sc → Q v H2) → r x y H1 Q) : EvG K (tOp r ta tb) σ H sc := fun H1 e Q q =>
  ha H1 e _ fun x H2 e2 hx => hb H2 (e.trans e2) _ fun y H3 e3 hy => hr x y H3 ((e.trans e2).trans e3) (hx.mono e3) hy Q fun v H4 e4 hv => q v H4 ((e2.trans e3).trans e4) hv
/-! ints -/
def xAdd : TE → TE → TE := tOp (rI0 fun i j => .int (i + j))
def xSub : TE → TE → TE := tOp (rI0 fun i j => .int (i - j))
def xXor : TE → TE → TE := tOp (rI0 fun i j => .int (Builtin.bitXor i j))
def xMul : TE → TE → TE := tOp (rI CMul fun i j => .int (i * j))
def xFdiv : TE → TE → TE := tOp (rI CDiv fun i j => .int (i / j))
def xMod : TE → TE → TE := tOp (rI (fun _ j => 0 < j) fun i j => .int (i % j))
def xLt : TE → TE → TE := tOp (rI0 fun i j => .bl (decide (i < j)))
def xLe : TE → TE → TE := tOp (rI0 fun i j => .bl (decide (i ≤ j)))
def xGt : TE → TE → TE := tOp (rI0 fun i j => .bl (decide (j < i)))
def xGe : TE → TE → TE := tOp (rI0 fun i j => .bl (decide (j ≤ i)))
def xEq : TE → TE → TE := tOp rEq
def xNe : TE → TE → TE := tOp rNe
def xNeg : TE → TE := tUn (rU fun i => .int (-i))
theorem g_I0 {g : Int → Int → V} (hv : ∀ H, Hold K H (g i j) sc) (ha : EvG K ta σ H (.d (.int i))) (hb : EvG K tb σ H (.d (.int j))) : EvG K (tOp (rI0 g) ta tb) σ H sc :=
  g_op ha hb fun x y H1 _ hx hy Q q => ⟨i, j, Tp.intI hx, Tp.intI hy, q _ H1 (Ex.refl H1) (hv H1)⟩
theorem g_I {C : Int → Int → Prop} {g : Int → Int → V} (hc : C i j) (hv : ∀ H, Hold K H (g i j) sc) (ha : EvG K ta σ H (.d (.int i))) (hb : EvG K tb σ H (.d (.int j))) : EvG K (tOp (rI C g) ta tb) σ H sc :=
  g_op ha hb fun x y H1 _ hx hy Q q => ⟨i, j, Tp.intI hx, Tp.intI hy, hc, q _ H1 (Ex.refl H1) (hv H1)⟩
theorem g_add (ha : EvG K ta σ H (.d (.int i))) (hb : EvG K tb σ H (.d (.int j))) : EvG K (xAdd ta tb) σ H (.d (.int (i + j))) := g_I0 (fun _ => .int _) ha hb
theorem g_sub (ha : EvG K ta σ H (.d (.int i))) (hb : EvG K tb σ H (.d (.int j))) : EvG K (xSub ta tb) σ H (.d (.int (i - j))) := g_I0 (fun _ => .int _) ha hb
theorem g_xor (ha : EvG K ta σ H (.d (.int i))) (hb : EvG K tb σ H (.d (.int j))) : EvG K (xXor ta tb) σ H (.d (.int (Builtin.bitXor i j))) := g_I0 (fun _ => .int _) ha hb
theorem g_mul (ha : EvG K ta σ H (.d (.int i))) (hb : EvG K tb σ H (.d (.int j))) (hc : CMul i j) : EvG K (xMul ta tb) σ H (.d (.int (i * j))) := g_I hc (fun _ => .int _) ha hb
theorem g_fdiv (ha : EvG K ta σ H (.d (.int i))) (hb : EvG K tb σ H (.d (.int j))) (hc : CDiv i j) : EvG K (xFdiv ta tb) σ H (.d (.int (i / j))) := g_I hc (fun _ => .int _) ha hb
theorem g_mod (ha : EvG K ta σ H (.d (.int i))) (hb : EvG K tb σ H (.d (.int j))) (hc : 0 < j) : EvG K (xMod ta tb) σ H (.d (.int (i % j))) := g_I (C := fun _ j => 0 < j) hc (fun _ => .int _) ha hb
theorem g_lt (ha : EvG K ta σ H (.d (.int i))) (hb : EvG K tb σ H (.d (.int j))) : EvG K (xLt ta tb) σ H (.d (.bl (decide (i < j)))) := g_I0 (fun _ => .bl _) ha hb
theorem g_le (ha : EvG K ta σ H (.d (.int i))) (hb : EvG K tb σ H (.d (.int j))) : EvG K (xLe ta tb) σ H (.d (.bl (decide (i ≤ j)))) := g_I0 (fun _ => .bl _) ha hb
theorem g_gt (ha : EvG K ta σ H (.d (.int i))) (hb : EvG K tb σ H (.d (.int j))) : EvG K (xGt ta tb) σ H (.d (.bl (decide (j < i)))) := g_I0 (fun _ => .bl _) ha hb
theorem g_ge (ha : EvG K ta σ H (.d (.int i))) (hb : EvG K tb σ H (.d (.int j))) : EvG K (xGe ta tb) σ H (.d (.bl (decide (j ≤ i)))) := g_I0 (fun _ => .bl _) ha hb
theorem g_eq (ha : EvG K ta σ H (.d (.int i))) (hb : EvG K tb σ H (.d (.int j))) : EvG K (xEq ta tb) σ H (.d (.bl (decide (i = j)))) :=
  g_op ha hb fun x y H1 _ hx hy Q q => by
    rw [Tp.intI hx, Tp.intI hy]
    refine ⟨rfl, q _ H1 (Ex.refl H1) ?_⟩
    have e : decide (V.int i = V.int j) = decide (i = j) := by
      by_cases h : i = j
      · rw [decide_eq_true h, decide_eq_true (congrArg V.int h)]
      · rw [decide_eq_false h, decide_eq_false fun z => h (V.int.inj z)]
    rw [e]
    exact .bl _
theorem g_ne (ha : EvG K ta σ H (.d (.int i))) (hb : EvG K tb σ H (.d (.int j))) : EvG K (xNe ta tb) σ H (.d (.bl (!decide (i = j)))) :=
  g_op ha hb fun x y H1 _ hx hy Q q => by
    rw [Tp.intI hx, Tp.intI hy]
    refine ⟨rfl, q _ H1 (Ex.refl H1) ?_⟩
    have e : decide (V.int i = V.int j) = decide (i = j) := by
      by_cases h : i = j
      · rw [decide_eq_true h, decide_eq_true (congrArg V.int h)]
      · rw [decide_eq_false h, decide_eq_false fun z => h (V.int.inj z)]
    rw [e]
    exact .bl _
theorem g_eqB {x y : Bool} (ha : EvG K ta σ H (.d (.bl x))) (hb : EvG K tb σ H (.d (.bl y))) : EvG K (xEq ta tb) σ H (.d (.bl (x == y))) :=
  g_op ha hb fun x' y' H1 _ hx hy Q q => by
    rw [Tp.blI hx, Tp.blI hy]
    refine ⟨rfl, q _ H1 (Ex.refl H1) ?_⟩
    have e : decide (V.bl x = V.bl y) = (x == y) := by cases x <;> cases y <;> rfl
    rw [e]
    exact .bl _
theorem g_neB {x y : Bool} (ha : EvG K ta σ H (.d (.bl x))) (hb : EvG K tb σ H (.d (.bl y))) : EvG K (xNe ta tb) σ H (.d (.bl (x != y))) :=
  g_op ha hb fun x' y' H1 _ hx hy Q q => by
    rw [Tp.blI hx, Tp.blI hy]
    refine ⟨rfl, q _ H1 (Ex.refl H1) ?_⟩
    have e : (!decide (V.bl x = V.bl y)) = (x != y) := by cases x <;> cases y <;> rfl
    rw [e]
    exact .bl _
theorem g_neg (ha : EvG K ta σ H (.d (.int i))) : EvG K (xNeg ta) σ H (.d (.int (-i))) := fun H1 e Q q =>
  ha H1 e _ fun x H2 e2 hx => ⟨i, Tp.intI hx, q _ H2 e2 (.int _)⟩
theorem g_addN (ha : EvG K ta σ H (.d (.nat a))) (hb : EvG K tb σ H (.d (.nat b))) : EvG K (xAdd ta tb) σ H (.d (.nat (a + b))) := (g_add ha hb).isI (Int.natCast_add a b).symm
theorem g_subN (ha : EvG K ta σ H (.d (.nat a))) (hb : EvG K tb σ H (.d (.nat b))) (h : b ≤ a) : EvG K (xSub ta tb) σ H (.d (.nat (a - b))) := (g_sub ha hb).isI (Int.ofNat_sub h).symm
theorem g_mulN (ha : EvG K ta σ H (.d (.nat a))) (hb : EvG K tb σ H (.d (.nat b))) (h : a < 100000) : EvG K (xMul ta tb) σ H (.d (.nat (a * b))) := (g_mul ha hb (.inl ⟨by omega, by omega⟩)).isI (Int.natCast_mul a b).symm
theorem g_fdivN (ha : EvG K ta σ H (.d (.nat a))) (hb : EvG K tb σ H (.d (.nat b))) (h : 0 < b ∧ b < 100000) : EvG K (xFdiv ta tb) σ H (.d (.nat (a / b))) := (g_fdiv ha hb ⟨by omega, by omega⟩).isI (Int.natCast_ediv a b).symm
theorem g_modN (ha : EvG K ta σ H (.d (.nat a))) (hb : EvG K tb σ H (.d (.nat b))) (h : 0 < b) : EvG K (xMod ta tb) σ H (.d (.nat (a % b))) := (g_mod ha hb (by omega)).isI (Int.natCast_emod a b).symm
theorem decN {p q : Prop} [Decidable p] [Decidable q] (h : p ↔ q) : decide p = decide q := decide_eq_decide.mpr h
theorem g_ltN (ha : EvG K ta σ H (.d (.nat a))) (hb : EvG K tb σ H (.d (.nat b))) : EvG K (xLt ta tb) σ H (.d (.bl (decide (a < b)))) := (g_lt ha hb).isB (decN Int.ofNat_lt)
theorem g_leN (ha : EvG K ta σ H (.d (.nat a))) (hb : EvG K tb σ H (.d (.nat b))) : EvG K (xLe ta tb) σ H (.d (.bl (decide (a ≤ b)))) := (g_le ha hb).isB (decN Int.ofNat_le)
theorem g_gtN (ha : EvG K ta σ H (.d (.nat a))) (hb : EvG K tb σ H (.d (.nat b))) : EvG K (xGt ta tb) σ H (.d (.bl (decide (b < a)))) := (g_gt ha hb).isB (decN Int.ofNat_lt)
theorem g_geN (ha : EvG K ta σ H (.d (.nat a))) (hb : EvG K tb σ H (.d (.nat b))) : EvG K (xGe ta tb) σ H (.d (.bl (decide (b ≤ a)))) := (g_ge ha hb).isB (decN Int.ofNat_le)
theorem g_eqN (ha : EvG K ta σ H (.d (.nat a))) (hb : EvG K tb σ H (.d (.nat b))) : EvG K (xEq ta tb) σ H (.d (.bl (decide (a = b)))) := (g_eq ha hb).isB (decN Int.ofNat_inj)
theorem g_neN (ha : EvG K ta σ H (.d (.nat a))) (hb : EvG K tb σ H (.d (.nat b))) : EvG K (xNe ta tb) σ H (.d (.bl (!decide (a = b)))) := (g_ne ha hb).isB (congrArg Bool.not (decN Int.ofNat_inj))
/-! and, or, not, is None, if -/
def xAnd : TE → TE → TE := tAndV
def xOr : TE → TE → TE := tOrV
def xNot : TE → TE := tNotV
theorem g_and {x y : Bool} (h1 : EvG K ta σ H (.d (.bl x))) (h2 : x = true → EvG K tb σ H (.d (.bl y))) : EvG K (xAnd ta tb) σ H (.d (.bl (x && y))) := fun H1 e Q q => h1 H1 e _ fun v H2 e2 hv => ⟨x, Tp.blI hv, by
  cases x with
  | true =>
    show tb σ H2 Q
    exact h2 rfl H2 (e.trans e2) Q fun v H3 e3 hv => q v H3 (e2.trans e3) hv
  | false =>
    show Q (.bl false) H2
    exact q _ H2 e2 (.bl _)⟩
theorem g_or {x y : Bool} (h1 : EvG K ta σ H (.d (.bl x))) (h2 : x = false → EvG K tb σ H (.d (.bl y))) : EvG K (xOr ta tb) σ H (.d (.bl (x || y))) := fun H1 e Q q => h1 H1 e _ fun v H2 e2 hv => ⟨x, Tp.blI hv, by
  cases x with
  | true =>
    show Q (.bl true) H2
    exact q _ H2 e2 (.bl _)
  | false =>
    show tb σ H2 Q
    exact h2 rfl H2 (e.trans e2) Q fun v H3 e3 hv => q v H3 (e2.trans e3) hv⟩
theorem g_not {x : Bool} (h1 : EvG K ta σ H (.d (.bl x))) : EvG K (xNot ta) σ H (.d (.bl (!x))) := fun H1 e Q q => h1 H1 e _ fun v H2 e2 hv => ⟨x, Tp.blI hv, q _ H2 e2 (.bl _)⟩
theorem g_if {x : Bool} (h : EvT t σ H x) (h1 : x = true → EvG K ta σ H sh) (h2 : x = false → EvG K tb σ H sh) : EvG K (tIf t ta tb) σ H sh := fun H1 e Q q => h H1 e _ fun H2 e2 => by
  cases x with
  | true =>
    show ta σ H2 Q
    exact h1 rfl H2 (e.trans e2) Q fun v H3 e3 hv => q v H3 (e2.trans e3) hv
  | false =>
    show tb σ H2 Q
    exact h2 rfl H2 (e.trans e2) Q fun v H3 e3 hv => q v H3 (e2.trans e3) hv
/-- is the data None -/
def isNone : Dt → Bool
  | .non => true
  | _ => false
theorem Tp.isN (h : Tp K H v d) : decide (v = .non) = isNone d := by cases h <;> rfl
def xIsN (ta : TE) : TE := tIsN ta
def xNotN (ta : TE) : TE := tNotN ta
theorem g_isN (ha : EvG K ta σ H (.d d)) : EvG K (xIsN ta) σ H (.d (.bl (isNone d))) := fun H1 e Q q => ha H1 e _ fun v H2 e2 hv => by
  show Q (.bl (decide (v = .non))) H2
  rw [Tp.isN hv]
  exact q _ H2 e2 (.bl _)
theorem g_notN (ha : EvG K ta σ H (.d d)) : EvG K (xNotN ta) σ H (.d (.bl (!isNone d))) := fun H1 e Q q => ha H1 e _ fun v H2 e2 hv => by
  show Q (.bl (!decide (v = .non))) H2
  rw [Tp.isN hv]
  exact q _ H2 e2 (.bl _)
/-! tests -/
theorem t_val {x : Bool} (h : EvG K te σ H (.d (.bl x))) : EvT (tB te) σ H x := fun H1 e _ q => h H1 e _ fun v H2 e2 hv => ⟨x, Tp.blI hv, q H2 e2⟩
theorem t_yes : EvT tYes σ H true := fun H1 e _ q => q H1 (Ex.refl H1)
/-! items, lengths -/
def xIxL (K : PySem.W.Frag) : TE → TE → TE := tOp (rIxL K)
def xIxT (K : PySem.W.Frag) : TE → TE → TE := tOp (rIxT K)
theorem g_ixT (ha : EvG K ta σ H (.d (.tup ds))) (hb : EvG K tb σ H (.d (.nat a))) (h : ds[a]? = some d) : EvG K (xIxT K ta tb) σ H (.d d) :=
  g_op ha hb fun x y H1 _ hx hy Q q => by
    obtain ⟨p, xs, rfl, h1, h2⟩ := Tp.tupI hx
    obtain ⟨v, h3, h4⟩ := h2.get h
    exact ⟨p, xs, (a : Int), v, rfl, Tp.intI hy, h1, atI_nat h3, q v H1 (Ex.refl H1) h4⟩
theorem g_ixL (ha : EvG K ta σ H (.s ds)) (hb : EvG K tb σ H (.d (.nat a))) (h : ds[a]? = some d) : EvG K (xIxL K ta tb) σ H (.d d) :=
  g_op ha hb fun x y H1 _ hx hy Q q => by
    obtain ⟨p, xs, rfl, h1, h2⟩ := hx
    obtain ⟨v, h3, h4⟩ := h2.get h
    exact ⟨p, xs, (a : Int), v, rfl, Tp.intI hy, h1, atI_nat h3, q v H1 (Ex.refl H1) h4⟩
theorem as_nil : EvAs K tNil σ H [] := fun H1 e Q q => q [] H1 (Ex.refl H1) True.intro
theorem as_cons (h : EvG K ta σ H sh) (hr : EvAs K tl σ H ss) : EvAs K (tCons ta tl) σ H (sh :: ss) := fun H1 e Q q =>
  h H1 e _ fun x H2 e2 hx => hr H2 (e.trans e2) _ fun vs H3 e3 hv => q _ H3 (e2.trans e3) ⟨hx.mono e3, hv⟩
theorem g_cb {r : List V → Hp → VK → Prop} (h : EvAs K tl σ H ss) (hr : ∀ vs H1, Ex H H1 → Holds K H1 vs ss → ∀ Q : VK, (∀ v H2, Ex H1 H2 → Hold K H2 v sh → Q v H2) → r vs H1 Q) : EvG K (tCB r tl) σ H sh := fun H1 e Q q =>
  h H1 e _ fun vs H2 e2 hv => hr vs H2 (e.trans e2) hv Q fun v H3 e3 hv => q v H3 (e2.trans e3) hv
theorem n_cb {r : List V → Hp → VK → Prop} (h : EvAs K tl σ H ss) (hr : ∀ vs H1, Ex H H1 → Holds K H1 vs ss → ∀ Q : VK, (∀ p xs H2, H1 p = none → Ex H1 H2 → H2 p = some (.lst xs) → Tps K H2 xs ds → Q (.ref p) H2) → r vs H1 Q) : EvN K (tCB r tl) σ H ds := fun H1 e Q q =>
  h H1 e _ fun vs H2 e2 hv => hr vs H2 (e.trans e2) hv Q fun p xs H3 hp e3 h1 h2 => q p xs H3 (fresh_back e2 hp) (e2.trans e3) h1 h2
theorem h1_of {vs : List V} (h : Holds K H vs [sh]) : ∃ v, vs = [v] ∧ Hold K H v sh := by
  match vs, h with
  | [v], h => exact ⟨v, rfl, h.1⟩
theorem h2_of {vs : List V} (h : Holds K H vs [sa, sb]) : ∃ v w, vs = [v, w] ∧ Hold K H v sa ∧ Hold K H w sb := by
  match vs, h with
  | [v, w], h => exact ⟨v, w, rfl, h.1, h.2.1⟩
theorem h3_of {vs : List V} (h : Holds K H vs [sa, sb, sc]) : ∃ v w x, vs = [v, w, x] ∧ Hold K H v sa ∧ Hold K H w sb ∧ Hold K H x sc := by
  match vs, h with
  | [v, w, x], h => exact ⟨v, w, x, rfl, h.1, h.2.1, h.2.2.1⟩
theorem h4_of {vs : List V} (h : Holds K H vs [sa, sb, sc, sh]) : ∃ v w x y, vs = [v, w, x, y] ∧ Hold K H v sa ∧ Hold K H w sb ∧ Hold K H x sc ∧ Hold K H y sh := by
  match vs, h with
  | [v, w, x, y], h => exact ⟨v, w, x, y, rfl, h.1, h.2.1, h.2.2.1, h.2.2.2.1⟩
theorem h5_of {sd : Sh} {vs : List V} (h : Holds K H vs [sa, sb, sc, sh, sd]) : ∃ v w x y z, vs = [v, w, x, y, z] ∧ Hold K H v sa ∧ Hold K H w sb ∧ Hold K H x sc ∧ Hold K H y sh ∧ Hold K H z sd := by
  match vs, h with
  | [v, w, x, y, z], h => exact ⟨v, w, x, y, z, rfl, h.1, h.2.1, h.2.2.1, h.2.2.2.1, h.2.2.2.2.1⟩
def xLen (K : PySem.W.Frag) (ta : TE) : TE := tCB (fun xs H Q => ∃ p ys, xs = [.ref p] ∧ (SqL K H p ys ∨ SqT K H p ys) ∧ Q (.int ys.length) H) (tCons ta tNil)
theorem g_lenL (ha : EvG K ta σ H (.s ds)) : EvG K (xLen K ta) σ H (.d (.nat ds.length)) := g_cb (as_cons ha as_nil) fun vs H1 _ hv Q q => by
  obtain ⟨v, rfl, a, xs, rfl, h1, h2⟩ := h1_of hv
  exact ⟨a, xs, rfl, .inl h1, q _ H1 (Ex.refl H1) (h2.len ▸ .int _)⟩
theorem g_lenT (ha : EvG K ta σ H (.d (.tup ds))) : EvG K (xLen K ta) σ H (.d (.nat ds.length)) := g_cb (as_cons ha as_nil) fun vs H1 _ hv Q q => by
  obtain ⟨v, rfl, hw⟩ := h1_of hv
  obtain ⟨a, xs, rfl, h1, h2⟩ := Tp.tupI hw
  exact ⟨a, xs, rfl, .inr h1, q _ H1 (Ex.refl H1) (h2.len ▸ .int _)⟩
def xTupOf (K : PySem.W.Frag) (ta : TE) : TE := tCB (fun xs H Q => ∃ p ys, xs = [.ref p] ∧ ((SqL K H p ys ∧ ∀ l, H l = none → Q (.ref l) (upd H l (.tup ys))) ∨ (SqT K H p ys ∧ Q (.ref p) H))) (tCons ta tNil)
theorem g_tupOf (ha : EvG K ta σ H (.s ds)) : EvG K (xTupOf K ta) σ H (.d (.tup ds)) := g_cb (as_cons ha as_nil) fun vs H1 _ hv Q q => by
  obtain ⟨v, rfl, a, xs, rfl, h1, h2⟩ := h1_of hv
  exact ⟨a, xs, rfl, .inl ⟨h1, fun l hl => q _ _ (Ex.new hl) (.tup (st_of upd_same) (h2.mono (Ex.new hl)))⟩⟩
def xListOf (K : PySem.W.Frag) (ta : TE) : TE := tCB (fun xs H Q => ∃ p ys, xs = [.ref p] ∧ (SqL K H p ys ∨ SqT K H p ys) ∧ ∀ l, H l = none → Q (.ref l) (upd H l (.lst ys))) (tCons ta tNil)
theorem n_listOf (ha : EvG K ta σ H (.s ds)) : EvN K (xListOf K ta) σ H ds := n_cb (as_cons ha as_nil) fun vs H1 _ hv Q q => by
  obtain ⟨v, rfl, a, xs, rfl, h1, h2⟩ := h1_of hv
  exact ⟨a, xs, rfl, .inl h1, fun l hl => q l xs _ hl (Ex.new hl) upd_same (h2.mono (Ex.new hl))⟩
def xIntOf (ta : TE) : TE := tCB (fun xs H Q => (∃ i, xs = [.int i] ∧ Q (.int i) H) ∨ ∃ k, xs = [.bl k] ∧ Q (.int (if k then 1 else 0)) H) (tCons ta tNil)
theorem g_intOf (ha : EvG K ta σ H (.d (.int i))) : EvG K (xIntOf ta) σ H (.d (.int i)) := g_cb (as_cons ha as_nil) fun vs H1 _ hv Q q => by
  obtain ⟨v, rfl, hw⟩ := h1_of hv
  exact .inl ⟨i, by rw [Tp.intI hw], q _ H1 (Ex.refl H1) (.int _)⟩
def xAbs (ta : TE) : TE := tCB (fun xs H Q => ∃ i, xs = [.int i] ∧ Q (.int (if i < 0 then -i else i)) H) (tCons ta tNil)
theorem g_abs (ha : EvG K ta σ H (.d (.int i))) : EvG K (xAbs ta) σ H (.d (.nat i.natAbs)) := g_cb (as_cons ha as_nil) fun vs H1 _ hv Q q => by
  obtain ⟨v, rfl, hw⟩ := h1_of hv
  refine ⟨i, by rw [Tp.intI hw], q _ H1 (Ex.refl H1) ?_⟩
  have e : (if i < 0 then -i else i) = (i.natAbs : Int) := by split <;> omega
  rw [e]
  exact .int _
def xMax (ta tb : TE) : TE := tCB (fun xs H Q => ∃ i j, xs = [.int i, .int j] ∧ Q (.int (if j > i then j else i)) H) (tCons ta (tCons tb tNil))
def xMin (ta tb : TE) : TE := tCB (fun xs H Q => ∃ i j, xs = [.int i, .int j] ∧ Q (.int (if j < i then j else i)) H) (tCons ta (tCons tb tNil))
theorem g_maxN (ha : EvG K ta σ H (.d (.nat a))) (hb : EvG K tb σ H (.d (.nat b))) : EvG K (xMax ta tb) σ H (.d (.nat (max a b))) := g_cb (as_cons ha (as_cons hb as_nil)) fun vs H1 _ hv Q q => by
  obtain ⟨v, w, rfl, h1, h2⟩ := h2_of hv
  refine ⟨a, b, by rw [Tp.intI h1, Tp.intI h2], q _ H1 (Ex.refl H1) ?_⟩
  have e : (if (b : Int) > (a : Int) then (b : Int) else (a : Int)) = ((max a b : Nat) : Int) := by split <;> omega
  rw [e]
  exact .int _
theorem g_minN (ha : EvG K ta σ H (.d (.nat a))) (hb : EvG K tb σ H (.d (.nat b))) : EvG K (xMin ta tb) σ H (.d (.nat (min a b))) := g_cb (as_cons ha (as_cons hb as_nil)) fun vs H1 _ hv Q q => by
  obtain ⟨v, w, rfl, h1, h2⟩ := h2_of hv
  refine ⟨a, b, by rw [Tp.intI h1, Tp.intI h2], q _ H1 (Ex.refl H1) ?_⟩
  have e : (if (b : Int) < (a : Int) then (b : Int) else (a : Int)) = ((min a b : Nat) : Int) := by split <;> omega
  rw [e]
  exact .int _
def xSum (K : PySem.W.Frag) (ta : TE) : TE := tCB (rSum K) (tCons ta tNil)
theorem g_sum {ns : List Int} (ha : EvG K ta σ H (.s (ns.map Dt.int))) : EvG K (xSum K ta) σ H (.d (.int ns.sum)) := g_cb (as_cons ha as_nil) fun vs H1 _ hv Q q => by
  obtain ⟨v, rfl, a, xs, rfl, h1, h2⟩ := h1_of hv
  exact ⟨a, ns, rfl, by rw [← h2.ints]; exact h1, q _ H1 (Ex.refl H1) (.int _)⟩
def xAll (K : PySem.W.Frag) (ta : TE) : TE := tCB (rAll K) (tCons ta tNil)
theorem g_all {bs : List Bool} (ha : EvG K ta σ H (.s (bs.map Dt.bl))) : EvG K (xAll K ta) σ H (.d (.bl (bs.all id))) := g_cb (as_cons ha as_nil) fun vs H1 _ hv Q q => by
  obtain ⟨v, rfl, a, xs, rfl, h1, h2⟩ := h1_of hv
  exact ⟨a, bs, rfl, by rw [← h2.bls]; exact h1, q _ H1 (Ex.refl H1) (.bl _)⟩
/-- list(range(n)) -/
def xListRg (ta : TE) : TE := tLstRg (tRg1 ta)
theorem rgV_nat (n : Nat) : rgV 0 (n : Int) = (List.range n).map fun i : Nat => V.int (i : Int) := by
  unfold rgV
  rw [show ((n : Int) - 0).toNat = n by omega]
  apply List.map_congr_left
  intro i _
  rw [Int.zero_add]
theorem n_listRg (ha : EvG K ta σ H (.d (.nat a))) (h : a < 100000) : EvN K (xListRg ta) σ H ((List.range a).map Dt.nat) := fun H1 e Q q =>
  ha H1 e _ fun x H2 e2 hx => ⟨a, Tp.intI hx, .of_le (by omega) (by omega) (by omega) (by omega), fun p hp => by
    rw [rgV_nat]
    exact q p _ _ (fresh_back e2 hp) (e2.trans (Ex.new hp)) upd_same (Tps.of_fn fun _ _ => .int _)⟩
/-- isinstance(x, T) -/
def xIsi (K : PySem.W.Frag) (ta tb : TE) : TE := tCB (rIsi K) (tCons ta (tCons tb tNil))
def xTy (n : String) : TE := tC (.ty n)
def tyName : Dt → String
  | .non => "NoneType"
  | .bl _ => "bool"
  | .int _ => "int"
  | .str _ => "str"
  | .tup _ => "tuple"
theorem Tp.ty (h : Tp K H v d) : TyX K H v (.type (tyName d)) := by
  cases h with
  | non => exact .base .non
  | bl b => exact .base (.bl b)
  | int i => exact .base (.int i)
  | str x => exact .base (.str x)
  | tup h1 _ =>
    rcases h1 with (h1 | ⟨o, h1⟩) | ⟨o, its, n, h1, h2, _⟩
    · exact .base (.tup h1)
    · exact .fTuple h1
    · exact .kTuple h1 h2
theorem ev_ty {n : String} {Q : VK} {H : Hp} (q : Q (.ty n) H) : xTy n σ H Q := q
theorem g_isi {n : String} {x : Bool} (ha : EvG K ta σ H (.d d)) (hk : kitB (tyName d) n = some x) : EvG K (xIsi K ta (xTy n)) σ H (.d (.bl x)) := fun H1 e Q q =>
  ha H1 e _ fun v H2 e2 hv => ev_ty ⟨v, .ty n, .type (tyName d), .type n, x, rfl, .ty n, Tp.ty hv, kit_ty hk, q _ H2 e2 (.bl _)⟩
/-! displays, +, slices -/
def dOf : List Sh → List Dt
  | [] => []
  | .d d :: l => d :: dOf l
  | .s _ :: l => .non :: dOf l
theorem Holds.tps : ∀ {vs : List V} {l : List Dt}, Holds K H vs (l.map Sh.d) → Tps K H vs l
  | [], [], _ => .nil
  | [], _ :: _, h => h.elim
  | _ :: _, [], h => h.elim
  | _ :: _, _ :: _, h => .cons h.1 (Holds.tps h.2)
def xTup : TA → TE := tTup
def xLst : TA → TE := tLst
theorem sz_s {n : Nat} (h : n ≤ 100000) : n ≤ sizeLine := Nat.le_trans h (by decide)
theorem g_tup (h : EvAs K tl σ H (ds.map Sh.d)) (hl : ds.length ≤ 100000 := by decide) : EvG K (xTup tl) σ H (.d (.tup ds)) := fun H1 e Q q =>
  h H1 e _ fun vs H2 e2 hv => ⟨by rw [hv.len, List.length_map]; exact sz_s hl, fun p hp => q _ _ (e2.trans (Ex.new hp)) (.tup (st_of upd_same) (hv.tps.mono (Ex.new hp)))⟩
theorem n_lst (h : EvAs K tl σ H (ds.map Sh.d)) (hl : ds.length ≤ 100000 := by decide) : EvN K (xLst tl) σ H ds := fun H1 e Q q =>
  h H1 e _ fun vs H2 e2 hv => ⟨by rw [hv.len, List.length_map]; exact sz_s hl, fun p hp => q p vs _ (fresh_back e2 hp) (e2.trans (Ex.new hp)) upd_same (hv.tps.mono (Ex.new hp))⟩
def xCatT (K : PySem.W.Frag) : TE → TE → TE := tOp (rCatA K)
theorem g_catT (ha : EvG K ta σ H (.d (.tup ds))) (hb : EvG K tb σ H (.d (.tup es))) (h : ds.length + es.length ≤ 100000) : EvG K (xCatT K ta tb) σ H (.d (.tup (ds ++ es))) :=
  g_op ha hb fun x y H1 _ hx hy Q q => by
    obtain ⟨p, xs, rfl, h1, h2⟩ := Tp.tupI hx
    obtain ⟨p', ys, rfl, h3, h4⟩ := Tp.tupI hy
    refine ⟨p, p', xs, ys, rfl, rfl, h1, h3, by rw [h2.len, h4.len]; exact sz_s h, fun e => ?_, fun _ e => ?_, fun _ _ l hl => ?_⟩
    · subst e
      have e2 : ds = [] := List.length_eq_zero_iff.mp h2.len.symm
      subst e2
      exact q _ H1 (Ex.refl H1) (.tup h3 h4)
    · subst e
      have e2 : es = [] := List.length_eq_zero_iff.mp h4.len.symm
      subst e2
      rw [List.append_nil] at q
      exact q _ H1 (Ex.refl H1) (.tup h1 h2)
    · exact q _ _ (Ex.new hl) (.tup (st_of upd_same) ((h2.append h4).mono (Ex.new hl)))
def xCatL : TE → TE → TE := tOp rCat
def xRep : TE → TE → TE := tOp rRep
theorem Tps.rep {xs : List V} {ds : List Dt} (h : Tps K H xs ds) : ∀ n, Tps K H (List.replicate n xs).flatten (List.replicate n ds).flatten
  | 0 => .nil
  | n + 1 => by
    rw [List.replicate_succ, List.replicate_succ, List.flatten_cons, List.flatten_cons]
    exact h.append (Tps.rep h n)
theorem rep1 {α : Type} (x : α) : ∀ n, (List.replicate n [x]).flatten = List.replicate n x
  | 0 => rfl
  | n + 1 => by
    rw [List.replicate_succ, List.flatten_cons, rep1 x n]
    rfl
/-- [e] * n -/
theorem n_rep (ha : EvN K ta σ H [d]) (hb : EvG K tb σ H (.d (.nat a))) (h : a ≤ 100000) : EvN K (xRep ta tb) σ H (List.replicate a d) := fun H1 e Q q =>
  ha H1 e _ fun p xs H2 hp e2 h1 h2 => hb H2 (e.trans e2) _ fun y H3 e3 hy => ⟨p, a, xs, rfl, Tp.intI hy, e3 _ _ h1, by omega, by omega, by
      rw [h2.len]
      show 1 * (a : Int).toNat ≤ _
      rw [Nat.one_mul, Int.toNat_natCast]
      exact sz_s h, fun l hl => by
      rw [Int.toNat_natCast]
      refine q l _ _ (fresh_back (e2.trans e3) hl) ((e2.trans e3).trans (Ex.new hl)) upd_same ?_
      have z := ((h2.mono e3).rep a).mono (Ex.new (o := .lst (List.replicate a xs).flatten) hl)
      rw [rep1] at z
      exact z⟩
/-- slices of a tuple -/
def xSlT (K : PySem.W.Frag) : TE → TO → TO → TE := tSl (rSlA K)
def EvOs (K : PySem.W.Frag) (to : TO) (σ : L2.St) (H : Hp) (o : Option Int) : Prop := EvO to σ H o
def xPart (ta : TE) : TO := tPart ta
theorem o_none : EvO tNoPart σ H none := eo_none
theorem o_some (h : EvG K te σ H (.d (.int i))) : EvO (xPart te) σ H (some i) := fun H1 e _ q => h H1 e _ fun v H2 e2 hv => ⟨i, Tp.intI hv, q H2 e2⟩
/-- what a slice takes -/
def cutD (ds : List Dt) (lo hi : Option Int) : List Dt := (ds.drop (HT.sIx ds.length 0 lo)).take (HT.sIx ds.length ds.length hi - HT.sIx ds.length 0 lo)
theorem Tps.cut {xs : List V} (h : Tps K H xs ds) (lo hi : Option Int) : Tps K H (cutV xs lo hi) (cutD ds lo hi) := by
  unfold cutV cutD
  rw [h.len]
  exact (h.drop _).take _
theorem g_slT {tlo thi : TO} {lo hi : Option Int} (ha : EvG K te σ H (.d (.tup ds))) (h1 : EvO tlo σ H lo) (h2 : EvO thi σ H hi) : EvG K (xSlT K te tlo thi) σ H (.d (.tup (cutD ds lo hi))) := fun H1 e Q q =>
  ha H1 e _ fun x H2 e2 hx => h1 H2 (e.trans e2) _ fun H3 e3 => h2 H3 ((e.trans e2).trans e3) _ fun H4 e4 => by
    obtain ⟨p, xs, rfl, h3, h4⟩ := Tp.tupI (hx.mono (e3.trans e4))
    refine ⟨p, xs, rfl, h3, fun w => ?_, fun w l hl => ?_⟩
    · have ew : cutD ds lo hi = ds := by
        rw [h4.len] at w
        unfold cutD
        rw [w.1, w.2]
        show (ds.drop 0).take (ds.length - 0) = ds
        rw [List.drop_zero, Nat.sub_zero, List.take_length]
      rw [ew] at q
      exact q _ H4 ((e2.trans e3).trans e4) (.tup h3 h4)
    · exact q _ _ (((e2.trans e3).trans e4).trans (Ex.new hl)) (.tup (st_of upd_same) ((h4.cut lo hi).mono (Ex.new hl)))
def xSlL (K : PySem.W.Frag) : TE → TO → TO → TE := tSl (rSlL K)
theorem n_slL {tlo thi : TO} {lo hi : Option Int} (ha : EvG K te σ H (.s ds)) (h1 : EvO tlo σ H lo) (h2 : EvO thi σ H hi) : EvN K (xSlL K te tlo thi) σ H (cutD ds lo hi) := fun H1 e Q q =>
  ha H1 e _ fun x H2 e2 hx => h1 H2 (e.trans e2) _ fun H3 e3 => h2 H3 ((e.trans e2).trans e3) _ fun H4 e4 => by
    obtain ⟨p, xs, rfl, h3, h4⟩ := hx.mono (e3.trans e4)
    exact ⟨p, xs, rfl, h3, fun l hl => q l _ _ (fresh_back ((e2.trans e3).trans e4) hl) (((e2.trans e3).trans e4).trans (Ex.new hl)) upd_same ((h4.cut lo hi).mono (Ex.new hl))⟩
def xRevL (K : PySem.W.Frag) (ta : TE) : TE := tRevL K ta
theorem n_revL (ha : EvG K te σ H (.s ds)) : EvN K (xRevL K te) σ H ds.reverse := fun H1 e Q q =>
  ha H1 e _ fun x H2 e2 hx => by
    obtain ⟨p, xs, rfl, h3, h4⟩ := hx
    exact ⟨p, xs, rfl, h3, fun l hl => q l _ _ (fresh_back e2 hl) (e2.trans (Ex.new hl)) upd_same (h4.reverse.mono (Ex.new hl))⟩
/-- x in a list, a tuple of ints -/
def xIn (K : PySem.W.Frag) : TE → TE → TE := tOp (rIn K false)
def xNotIn (K : PySem.W.Frag) : TE → TE → TE := tOp (rIn K true)
theorem inV_ints (x : Int) : ∀ ns : List Int, inV (.int x) (ns.map V.int) = decide (x ∈ ns)
  | [] => rfl
  | n :: ns => by
    show (eqV (.int n) (.int x) || inV (.int x) (ns.map V.int)) = _
    rw [inV_ints x ns]
    show ((n == x) || decide (x ∈ ns)) = _
    by_cases h : n = x
    · subst h
      simp
    · have h' : ¬ x = n := fun e => h e.symm
      simp [h, h']
theorem flat_ints (ns : List Int) : (ns.map V.int).all flatV = true := by
  rw [List.all_map]
  apply List.all_eq_true.mpr
  intro x _
  rfl
theorem g_inT {ns : List Int} (ha : EvG K ta σ H (.d (.int i))) (hb : EvG K tb σ H (.d (.tup (ns.map Dt.int)))) : EvG K (xIn K ta tb) σ H (.d (.bl (decide (i ∈ ns)))) :=
  g_op ha hb fun x y H1 _ hx hy Q q => by
    obtain ⟨p, xs, rfl, h1, h2⟩ := Tp.tupI hy
    have e := h2.ints
    subst e
    rw [Tp.intI hx]
    refine ⟨p, _, rfl, .inr h1, rfl, flat_ints ns, ?_⟩
    show Q (.bl (inV (.int i) (ns.map V.int))) H1
    rw [inV_ints]
    exact q _ H1 (Ex.refl H1) (.bl _)
theorem g_inL {ns : List Int} (ha : EvG K ta σ H (.d (.int i))) (hb : EvG K tb σ H (.s (ns.map Dt.int))) : EvG K (xIn K ta tb) σ H (.d (.bl (decide (i ∈ ns)))) :=
  g_op ha hb fun x y H1 _ hx hy Q q => by
    obtain ⟨p, xs, rfl, h1, h2⟩ := hy
    have e := h2.ints
    subst e
    rw [Tp.intI hx]
    refine ⟨p, _, rfl, .inl h1, rfl, flat_ints ns, ?_⟩
    show Q (.bl (inV (.int i) (ns.map V.int))) H1
    rw [inV_ints]
    exact q _ H1 (Ex.refl H1) (.bl _)
theorem map_natint (ns : List Nat) : ns.map Dt.nat = (ns.map fun n : Nat => (n : Int)).map Dt.int := by rw [List.map_map]; rfl
theorem mem_natint (a : Nat) (ns : List Nat) : decide ((a : Int) ∈ ns.map fun n : Nat => (n : Int)) = decide (a ∈ ns) := by
  apply decN
  rw [List.mem_map]
  constructor
  · rintro ⟨b, h1, h2⟩
    rw [← Int.ofNat_inj.mp h2]
    exact h1
  · exact fun h => ⟨a, h, rfl⟩
theorem g_inTN {ns : List Nat} (ha : EvG K ta σ H (.d (.nat a))) (hb : EvG K tb σ H (.d (.tup (ns.map Dt.nat)))) : EvG K (xIn K ta tb) σ H (.d (.bl (decide (a ∈ ns)))) := by
  rw [map_natint] at hb
  exact (g_inT ha hb).isB (mem_natint a ns)
theorem g_inLN {ns : List Nat} (ha : EvG K ta σ H (.d (.nat a))) (hb : EvG K tb σ H (.s (ns.map Dt.nat))) : EvG K (xIn K ta tb) σ H (.d (.bl (decide (a ∈ ns)))) := by
  rw [map_natint] at hb
  exact (g_inL ha hb).isB (mem_natint a ns)
/-- 0 < x < n -/
def xChLt (ta tb tc : TE) : TE := tChain (rI0 fun i j => .bl (decide (i < j))) (rI0 fun i j => .bl (decide (i < j))) ta tb tc
theorem g_chLt (ha : EvG K ta σ H (.d (.nat a))) (hb : EvG K tb σ H (.d (.nat b))) (hc : EvG K tc σ H (.d (.nat c))) : EvG K (xChLt ta tb tc) σ H (.d (.bl (decide (a < b ∧ b < c)))) := fun H1 e Q q =>
  ha H1 e _ fun x H2 e2 hx => hb H2 (e.trans e2) _ fun y H3 e3 hy => by
    refine ⟨a, b, Tp.intI hx, Tp.intI hy, decide ((a : Int) < b), rfl, ?_⟩
    by_cases h : a < b
    · rw [decide_eq_true (Int.ofNat_lt.mpr h), if_pos rfl]
      refine hc H3 ((e.trans e2).trans e3) _ fun z H4 e4 hz => ⟨b, c, Tp.intI hy, Tp.intI hz, ?_⟩
      have ed : decide ((b : Int) < c) = decide (a < b ∧ b < c) := decN (by omega)
      show Q (.bl (decide ((b : Int) < c))) H4
      rw [ed]
      exact q _ H4 ((e2.trans e3).trans e4) (.bl _)
    · rw [decide_eq_false (fun z => h (Int.ofNat_lt.mp z)), if_neg Bool.false_ne_true]
      have ed : false = decide (a < b ∧ b < c) := (decide_eq_false (by omega)).symm
      rw [ed]
      exact q _ H3 (e2.trans e3) (.bl _)
/-! calls -/
def xCall (sp : Sp) (tl : TA) : TE := tCall sp [] E0 tl
theorem g_call {α : Type} {pre : α → Prop} {args : α → List Sh} {res : α → Sh} (a : α) (h : EvAs K tl σ H (args a)) (hp : pre a) : EvG K (xCall (Pm K pre args res) tl) σ H (res a) := fun H1 e Q q =>
  h H1 e _ fun vs H2 e2 hv => by
    show Pm K pre args res (vs ++ []) H2 Q E0
    rw [List.append_nil]
    exact ⟨a, hp, hv, fun v H3 e3 h3 => q v H3 (e2.trans e3) h3⟩
theorem n_call {α β : Type} {pre : α → Prop} {args : α → List Sh} {rel : α → β → Prop} {res : β → List Dt} {Q : VK} (a : α) (h : EvAs K tl σ H (args a)) (hp : pre a)
    (q : ∀ p xs b H2, rel a b → H p = none → Ex H H2 → H2 p = some (.lst xs) → Tps K H2 xs (res b) → Q (.ref p) H2) : xCall (PmN K pre args rel res) tl σ H Q :=
  h H (Ex.refl H) _ fun vs H2 e2 hv => by
    show PmN K pre args rel res (vs ++ []) H2 Q E0
    rw [List.append_nil]
    exact ⟨a, hp, hv, fun p xs b H3 hr e3 hn h3 h4 => q p xs b H3 hr (fresh_back e2 hn) (e2.trans e3) h3 h4⟩
theorem r_call {α β : Type} {pre : α → Prop} {args : α → List Sh} {rel : α → β → Prop} {res : β → Sh} {Q : VK} (a : α) (h : EvAs K tl σ H (args a)) (hp : pre a)
    (q : ∀ v b H2, rel a b → Ex H H2 → Hold K H2 v (res b) → Q v H2) : xCall (PmR K pre args rel res) tl σ H Q :=
  h H (Ex.refl H) _ fun vs H2 e2 hv => by
    show PmR K pre args rel res (vs ++ []) H2 Q E0
    rw [List.append_nil]
    exact ⟨a, hp, hv, fun v b H3 hr e3 h3 => q v b H3 hr (e2.trans e3) h3⟩
end
end Ck
set_option Elab.async false
set_option linter.all false
set_option maxRecDepth 100000
set_option maxHeartbeats 4000000
/-! Ly2: what is walked (EvI), comprehensions, statements, lists that change (Ml). -/
namespace Ck
open PySem PySem.Spec PyProof.Rows L2 Evl RZ
def YD (K : PySem.W.Frag) (ds : List Dt) : Nat → Hp → V → Hp → Prop := fun i H x H' => Ex H H' ∧ ∃ d, ds[i]? = some d ∧ Tp K H' x d
/-- wi walks ds as long as the heaps stand in S -/
def EvI (K : PySem.W.Frag) (S : Hp → Hp → Prop) (wi : TI) (σ : L2.St) (H : Hp) (ds : List Dt) : Prop := ∀ H1, Ex H H1 → ∀ R : It → Hp → Prop, (∀ J H2, Ex H1 H2 → (∃ G : Hp → Prop, (∀ H3, S H2 H3 → G H3) ∧ Walk J ds.length G (YD K ds)) → R J H2) → wi σ H1 R
section
variable {K : PySem.W.Frag} {σ : L2.St} {H H' Hb : Hp} {S S' : Hp → Hp → Prop} {ta tb tc te tx tl : TE} {t u : TT} {v : V} {sa sb sc sh : Sh} {ss : List Sh} {d : Dt} {ds es : List Dt} {a b c n : Nat} {i j k : Int} {wi : TI}
theorem EvI.weak (h : EvI K S wi σ H ds) (hs : ∀ H2 H3, S' H2 H3 → S H2 H3) : EvI K S' wi σ H ds := fun H1 e R r => h H1 e R fun J H2 e2 ⟨G, h1, h2⟩ => r J H2 e2 ⟨G, fun H3 q => h1 H3 (hs H2 H3 q), h2⟩
theorem EvI.is (h : EvI K S wi σ H ds) (e : ds = es) : EvI K S wi σ H es := e ▸ h
def xRng1 (ta : TE) : TI := iRng1 (tCons ta tNil)
def xRng2 (ta tb : TE) : TI := iRng2 (tCons ta (tCons tb tNil))
def xRng3 (ta tb tc : TE) : TI := iRng3 (tCons ta (tCons tb (tCons tc tNil)))
def xItL (K : PySem.W.Frag) (tl : TE) : TI := iList K tl
def xItT (K : PySem.W.Frag) (tl : TE) : TI := iTup K tl
def xZip (K : PySem.W.Frag) (ta tb : TE) : TI := iZipA K (tCons ta (tCons tb tNil))
theorem walk_D {lo : Int} {n : Nat} {G : Hp → Prop} {f : Nat → Dt} (hf : ∀ i, f i = .int (lo + i)) : Walk (Itr lo n) ((List.range n).map f).length G (YD K ((List.range n).map f)) := by
  rw [List.length_map, List.length_range]
  refine walk_range.mono (fun _ _ => True.intro) fun i H x H' hi _ y => ?_
  obtain ⟨rfl, rfl⟩ := y
  refine ⟨Ex.refl _, f i, ?_, by rw [hf]; exact .int _⟩
  rw [List.getElem?_map, List.getElem?_range hi]
  rfl
theorem i_rng1 (h : EvG K ta σ H (.d (.nat n))) (hn : n ≤ 100000) : EvI K S (xRng1 ta) σ H ((List.range n).map Dt.nat) := fun H1 e R r => by
    show iRng1 (tCons ta tNil) σ H1 R
    refine (as_cons h as_nil) H1 e _ fun vs H2 e2 hv => ?_
    obtain ⟨w, rfl, hw⟩ := h1_of hv
    refine ⟨n, by rw [Tp.intI hw], by omega, by omega, r _ _ e2 ⟨fun _ => True, fun _ _ => True.intro, ?_⟩⟩
    rw [Int.toNat_natCast]
    exact walk_D fun i => by rw [Int.zero_add]
theorem i_rng2 (h1 : EvG K ta σ H (.d (.nat a))) (h2 : EvG K tb σ H (.d (.nat b))) (hn : a ≤ 100000 ∧ b ≤ 100000) : EvI K S (xRng2 ta tb) σ H ((List.range (b - a)).map fun i => Dt.nat (a + i)) := fun H1 e R r => by
    show iRng2 (tCons ta (tCons tb tNil)) σ H1 R
    refine (as_cons h1 (as_cons h2 as_nil)) H1 e _ fun vs H2 e2 hv => ?_
    obtain ⟨w, z, rfl, hw, hz⟩ := h2_of hv
    refine ⟨a, b, by rw [Tp.intI hw, Tp.intI hz], ⟨by omega, by omega, by omega, by omega⟩, r _ _ e2 ⟨fun _ => True, fun _ _ => True.intro, ?_⟩⟩
    rw [show ((b : Int) - (a : Int)).toNat = b - a by omega]
    exact walk_D fun i => rfl
/-- range(n, -1, -1) -/
theorem i_rng3 (h1 : EvG K ta σ H (.d (.int i))) (h2 : EvG K tb σ H (.d (.int (-1)))) (h3 : EvG K tc σ H (.d (.int (-1)))) (hn : -1 ≤ i ∧ i ≤ 100000) :
    EvI K S (xRng3 ta tb tc) σ H ((List.range (i + 1).toNat).map fun (k : Nat) => Dt.int (i - (k : Int))) := fun H1 e R r => by
    show iRng3 (tCons ta (tCons tb (tCons tc tNil))) σ H1 R
    refine (as_cons h1 (as_cons h2 (as_cons h3 as_nil))) H1 e _ fun vs H2 e2 hv => ?_
    obtain ⟨x, y, z, rfl, hx, hy, hz⟩ := h3_of hv
    refine ⟨i, -1, -1, (i + 1).toNat, by rw [Tp.intI hx, Tp.intI hy, Tp.intI hz], ?_, r _ _ e2 ⟨fun _ => True, fun _ _ => True.intro, ?_⟩⟩
    · have z := RgC.neg (i := i) (j := -1) (by omega) (by omega) (by omega) (by omega)
      rw [show (i + 1).toNat = (i - -1).toNat by omega]
      exact z
    · rw [List.length_map, List.length_range]
      refine walk_rangeC.mono (fun _ _ => True.intro) fun m H x H' hi _ y => ?_
      obtain ⟨rfl, rfl⟩ := y
      refine ⟨Ex.refl _, .int (i - (m : Int)), ?_, ?_⟩
      · rw [List.getElem?_map, List.getElem?_range hi]
        rfl
      · rw [show i - (m : Int) = i + (m : Int) * -1 by omega]
        exact .int _
theorem walk_tD {p : Addr} {xs : List V} : Walk (Itt K p) xs.length (fun H => SqT K H p xs ∧ Tps K H xs ds) (YD K ds) :=
  walk_tup.mono (fun H h => h.1) fun i H x H' hi h y => by
    obtain ⟨rfl, hx⟩ := y
    obtain ⟨d, h1, h2⟩ := h.2.get' hx
    exact ⟨Ex.refl _, d, h1, h2⟩
theorem walk_lD {p : Addr} {xs : List V} : Walk (Itl K p) xs.length (fun H => SqL K H p xs ∧ Tps K H xs ds) (YD K ds) :=
  walk_list.mono (fun H h => h.1) fun i H x H' hi h y => by
    obtain ⟨rfl, hx⟩ := y
    obtain ⟨d, h1, h2⟩ := h.2.get' hx
    exact ⟨Ex.refl _, d, h1, h2⟩
theorem i_tup (h : EvG K tl σ H (.d (.tup ds))) : EvI K (Tx K) (xItT K tl) σ H ds := fun H1 e R r => h H1 e _ fun v H2 e2 hv => by
  obtain ⟨p, xs, rfl, h1, h2⟩ := Tp.tupI hv
  refine ⟨p, rfl, ⟨xs, h1⟩, r _ H2 e2 ⟨fun H => SqT K H p xs ∧ Tps K H xs ds, fun H3 q => ⟨q _ _ h1, h2.tx q⟩, ?_⟩⟩
  rw [← h2.len]
  exact walk_tD
theorem i_lst (h : EvG K tl σ H (.s ds)) : EvI K Ex (xItL K tl) σ H ds := fun H1 e R r => h H1 e _ fun v H2 e2 hv => by
  obtain ⟨p, xs, rfl, h1, h2⟩ := hv
  refine ⟨p, rfl, ⟨xs, h1⟩, r _ H2 e2 ⟨fun H => SqL K H p xs ∧ Tps K H xs ds, fun H3 q => ⟨ex_l q h1, h2.mono q⟩, ?_⟩⟩
  rw [← h2.len]
  exact walk_lD
/-- a list that stood in Hb, while others change -/
theorem i_lstV {m : Nat} (hv : σ[m]? = some (some v)) (hh : Hold K Hb v (.s ds)) (eb : Ex Hb H) : EvI K (fun _ H3 => Ex Hb H3) (xItL K (tVar m)) σ H ds := fun H1 e R r => by
  obtain ⟨p, xs, rfl, h1, h2⟩ := hh
  refine ⟨.ref p, hv, p, rfl, ⟨xs, ex_l (eb.trans e) h1⟩, r _ H1 (Ex.refl _) ⟨fun H => SqL K H p xs ∧ Tps K H xs ds, fun H3 q => ⟨ex_l q h1, h2.mono q⟩, ?_⟩⟩
  rw [← h2.len]
  exact walk_lD
/-- pairs of two tuples' items -/
def zipD : List Dt → List Dt → List Dt
  | d :: ds, e :: es => .tup [d, e] :: zipD ds es
  | _, _ => []
theorem zipD_len : ∀ (ds es : List Dt), (zipD ds es).length = min ds.length es.length
  | [], _ => by simp [zipD]
  | _ :: _, [] => by simp [zipD]
  | _ :: ds, _ :: es => by
    show (zipD ds es).length + 1 = min (ds.length + 1) (es.length + 1)
    rw [zipD_len ds es]
    omega
theorem zipD_get : ∀ {ds es : List Dt} {m : Nat} {d e : Dt}, ds[m]? = some d → es[m]? = some e → (zipD ds es)[m]? = some (.tup [d, e])
  | [], _, _, _, _, h, _ => by simp at h
  | _ :: _, [], _, _, _, _, h => by simp at h
  | x :: ds, y :: es, 0, d, e, h1, h2 => by
    have e1 : x = d := Option.some.inj h1
    have e2 : y = e := Option.some.inj h2
    rw [e1, e2]
    rfl
  | x :: ds, y :: es, m + 1, d, e, h1, h2 => zipD_get (ds := ds) (es := es) (m := m) (by simpa using h1) (by simpa using h2)
theorem i_zip (h1 : EvG K ta σ H (.d (.tup ds))) (h2 : EvG K tb σ H (.d (.tup es))) : EvI K (Tx K) (xZip K ta tb) σ H (zipD ds es) := fun H1 e R r => by
    show iZipA K (tCons ta (tCons tb tNil)) σ H1 R
    refine (as_cons h1 (as_cons h2 as_nil)) H1 e _ fun vs H2 e2 hv => ?_
    obtain ⟨w, z, rfl, hw, hz⟩ := h2_of hv
    obtain ⟨p, xs, rfl, p1, p2⟩ := Tp.tupI hw
    obtain ⟨q, ys, rfl, q1, q2⟩ := Tp.tupI hz
    refine ⟨p, q, xs, ys, rfl, .inr ⟨p1, q1, r _ H2 e2 ⟨fun H => (SqT K H p xs ∧ SqT K H q ys) ∧ (Tps K H xs ds ∧ Tps K H ys es), fun H3 s => ⟨⟨s _ _ p1, s _ _ q1⟩, p2.tx s, q2.tx s⟩, ?_⟩⟩⟩
    rw [zipD_len, ← p2.len, ← q2.len]
    refine ⟨fun m H hm s => ?_, fun H s => ?_, fun m H v H' hm s y => ?_⟩
    · have l1 : m < xs.length := by omega
      have l2 : m < ys.length := by omega
      exact ⟨xs, ys, xs[m], ys[m], s.1.1, s.1.2, by simp [l1], by simp [l2]⟩
    · exact ⟨xs, ys, s.1.1, s.1.2, by omega⟩
    · obtain ⟨T, x, z, rfl, nT, rfl, f1, f2⟩ := y
      obtain ⟨d, g1, g2⟩ := s.2.1.get' (f1 _ s.1.1)
      obtain ⟨d', g3, g4⟩ := s.2.2.get' (f2 _ s.1.2)
      exact ⟨Ex.new nT, _, zipD_get g1 g3, .tup (st_of upd_same) (.cons (g2.mono (Ex.new nT)) (.cons (g4.mono (Ex.new nT)) .nil))⟩
/-! ### comprehensions -/
section
variable {α β : Type} {l : List α} {g : α → Dt} {tg tg1 : TG} {tt tt1 : TT} {vs vs1 : List Nat}
theorem yes_go {σ : L2.St} {H : Hp} {A B : Hp → Prop} (h : A H) : tYes σ H (fun b H3 => if b = true then A H3 else B H3) := by
  show (if true = true then A H else B H)
  exact iteT h
theorem take_filter (c : α → Bool) (f : α → Dt) {m : Nat} {x : α} (h : l[m]? = some x) : ((l.take (m + 1)).filter c).map f = ((l.take m).filter c).map f ++ if c x = true then [f x] else [] := by
  rw [List.take_add_one, h]
  show ((l.take m ++ [x]).filter c).map f = _
  rw [List.filter_append, List.map_append]
  cases e : c x with
  | true => simp [List.filter_cons, e]
  | false => simp [List.filter_cons, e]
theorem n_lcG (c : α → Bool) (f : α → Dt) (hi : EvI K Ex wi σ H (l.map g)) (hz : l.length ≤ 40000)
    (hs : ∀ a ∈ l, ∀ x H1, Ex H H1 → Hold K H1 x (.d (g a)) → ∃ σ2, (∀ Q : L2.St → Hp → Prop, Q σ2 H1 → tg x (wipe σ vs) H1 Q) ∧ wipe σ2 vs = wipe σ vs ∧ EvT tt σ2 H1 (c a) ∧ (c a = true → EvG K te σ2 H1 (.d (f a)))) :
    EvN K (tLc wi tg tt te vs) σ H ((l.filter c).map f) := fun H0 e0 Q q => hi H0 e0 _ fun J H2 e2 ⟨G, hG, w⟩ D hD => by
  rw [List.length_map] at w
  refine lc_it w (fun m H' => Ex H2 H' ∧ ∃ xs, H' D = some (.lst xs) ∧ Tps K H' xs (((l.take m).filter c).map f)) ⟨Ex.new hD, [], upd_same, .nil⟩ (fun m H' _ p => hG H' p.1) ?_ ?_
  · rintro m x H3 H4 hm ⟨p1, xs, p2, p3⟩ ⟨e4, dd, y1, y2⟩
    obtain ⟨a, ha⟩ : ∃ a, l[m]? = some a := ⟨l[m], by simp [hm]⟩
    have ed : dd = g a := by
      rw [List.getElem?_map, ha] at y1
      exact (Option.some.inj y1).symm
    subst ed
    obtain ⟨σ2, s1, s2, s3, s4⟩ := hs a (List.mem_of_getElem? ha) x H4 ((e0.trans e2).trans (p1.trans e4)) y2
    refine s1 _ ⟨s2, s3 H4 (Ex.refl _) _ fun H5 e5 => ?_⟩
    have tf := take_filter c f ha
    cases hc : c a with
    | false =>
      show _ ∧ _
      rw [hc] at tf
      refine ⟨p1.trans (e4.trans e5), xs, e5 _ _ (e4 _ _ p2), ?_⟩
      rw [tf]
      show Tps K H5 xs (_ ++ [])
      rw [List.append_nil]
      exact p3.mono (e4.trans e5)
    | true =>
      refine (s4 hc) H5 e5 _ fun z H6 e6 hz' => ?_
      have pl := e6 _ _ (e5 _ _ (e4 _ _ p2))
      refine ⟨xs, pl, ?_, ?_⟩
      · rw [p3.len, List.length_map]
        have h1 := List.length_filter_le c (l.take m)
        rw [List.length_take] at h1
        exact sz_lt (by omega)
      · have eD : Ex H2 (upd H6 D (.lst (xs ++ [z]))) := Ex.mut (p1.trans (e4.trans (e5.trans e6))) hD
        have tx : Tx K H6 (upd H6 D (.lst (xs ++ [z]))) := fun b ys hb => by
          rcases hb with (hb | ⟨o, hb⟩) | hb
          · exact .inl (.inl (by rw [upd_ne (ne_of hb pl (by intro q; cases q))]; exact hb))
          · exact .inl (.inr ⟨o, by rw [upd_ne (ne_of hb pl (by intro q; cases q))]; exact hb⟩)
          · exact .inr hb
        refine ⟨eD, xs ++ [z], upd_same, ?_⟩
        rw [tf, hc, if_pos rfl]
        exact ((p3.mono (e4.trans (e5.trans e6))).append (.cons hz' .nil)).tx tx
  · rintro H3 ⟨p1, xs, p2, p3⟩
    rw [List.take_length] at p3
    exact q D xs H3 (fresh_back e2 hD) (e2.trans p1) p2 p3
theorem n_lcF {m : Nat} (c : α → Bool) (f : α → Dt) (hi : EvI K Ex wi σ H (l.map g)) (hz : l.length ≤ 40000) (hw : ∀ x, wipe ((wipe σ vs).set m (some x)) vs = wipe σ vs)
    (ht : ∀ a ∈ l, ∀ x H1, Ex H H1 → Hold K H1 x (.d (g a)) → EvT tt ((wipe σ vs).set m (some x)) H1 (c a)) (he : ∀ a ∈ l, ∀ x H1, Ex H H1 → Hold K H1 x (.d (g a)) → c a = true → EvG K te ((wipe σ vs).set m (some x)) H1 (.d (f a))) :
    EvN K (tLc wi (gName m) tt te vs) σ H ((l.filter c).map f) :=
  n_lcG c f hi hz fun a ha x H1 e hx => ⟨_, fun _ q => q, hw x, ht a ha x H1 e hx, he a ha x H1 e hx⟩
theorem n_lc {m : Nat} (f : α → Dt) (hi : EvI K Ex wi σ H (l.map g)) (hz : l.length ≤ 40000) (hw : ∀ x, wipe ((wipe σ vs).set m (some x)) vs = wipe σ vs)
    (he : ∀ a ∈ l, ∀ x H1, Ex H H1 → Hold K H1 x (.d (g a)) → EvG K te ((wipe σ vs).set m (some x)) H1 (.d (f a))) :
    EvN K (tLc wi (gName m) tYes te vs) σ H (l.map f) := by
  have z := n_lcF (tt := tYes) (te := te) (fun _ => true) f hi hz hw (fun a ha x H1 e hx => t_yes) (fun a ha x H1 e hx _ => he a ha x H1 e hx)
  rw [List.filter_eq_self.mpr (by intros; rfl)] at z
  exact z
/-- [e for x in .. for y in ..] -/
theorem n_lc2 {wi1 : TI} {m m1 : Nat} (r : α → List β) (g1 : α → β → Dt) (f : α → β → Dt) (hi : EvI K Ex wi σ H (l.map g)) (hz : l.length ≤ 200) (hz1 : ∀ a ∈ l, (r a).length ≤ 200) (hw : ∀ x, wipe ((wipe σ vs).set m (some x)) vs = wipe σ vs)
    (hw1 : ∀ x y, wipe ((wipe ((wipe σ vs).set m (some x)) vs1).set m1 (some y)) vs1 = wipe ((wipe σ vs).set m (some x)) vs1)
    (hi1 : ∀ a ∈ l, ∀ x H1, Ex H H1 → Hold K H1 x (.d (g a)) → EvI K (fun _ _ => True) wi1 ((wipe σ vs).set m (some x)) H1 ((r a).map (g1 a)))
    (he : ∀ a ∈ l, ∀ b ∈ r a, ∀ x y H1, Ex H H1 → Hold K H1 x (.d (g a)) → Hold K H1 y (.d (g1 a b)) → EvG K te ((wipe ((wipe σ vs).set m (some x)) vs1).set m1 (some y)) H1 (.d (f a b))) :
    EvN K (tLc2 wi (gName m) tYes wi1 (gName m1) tYes te vs vs1) σ H (l.flatMap fun a => (r a).map (f a)) := fun H0 e0 Q q => hi H0 e0 _ fun J H2 e2 ⟨G, hG, w⟩ D hD => by
  rw [List.length_map] at w
  have bnd : ∀ ll : List α, (∀ a ∈ ll, (r a).length ≤ 200) → (ll.flatMap fun a => (r a).map (f a)).length ≤ ll.length * 200 := by
    intro ll
    induction ll with
    | nil => intro _; exact Nat.zero_le _
    | cons a ll ih =>
      intro h
      rw [List.flatMap_cons, List.length_append, List.length_map, List.length_cons]
      have h1 := h a (List.mem_cons_self ..)
      have h2 := ih fun b hb => h b (List.mem_cons_of_mem _ hb)
      omega
  have upT : ∀ {H6 : Hp} {xs ys : List V}, H6 D = some (.lst xs) → Tx K H6 (upd H6 D (.lst ys)) := fun {H6 xs ys} pl b zs hb => by
    rcases hb with (hb | ⟨o, hb⟩) | hb
    · exact .inl (.inl (by rw [upd_ne (ne_of hb pl (by intro q; cases q))]; exact hb))
    · exact .inl (.inr ⟨o, by rw [upd_ne (ne_of hb pl (by intro q; cases q))]; exact hb⟩)
    · exact .inr hb
  let mir : Nat → List Dt := fun m => (l.take m).flatMap fun a => (r a).map (f a)
  let PO : Nat → Hp → Prop := fun m H' => Ex H2 H' ∧ ∃ xs, H' D = some (.lst xs) ∧ Tps K H' xs (mir m)
  refine ⟨fun i n H => n = l.length - i ∧ i ≤ l.length ∧ PO i H, ⟨l.length, by simp, Nat.zero_le _, Ex.new hD, [], upd_same, .nil⟩, ?_⟩
  rintro i n H3 ⟨rfl, hi', p1, xs, p2, p3⟩
  by_cases hlt : i < l.length
  · refine .inr ⟨w.goes i H3 hlt (hG _ p1), PO (i + 1), fun H' p' => ⟨l.length - (i + 1), by omega, rfl, hlt, p'⟩, fun x H4 y => ?_⟩
    obtain ⟨e4, dd, y1, y2⟩ := w.yields i H3 x H4 hlt (hG _ p1) y
    obtain ⟨a, ha⟩ : ∃ a, l[i]? = some a := ⟨l[i], by simp [hlt]⟩
    have ed : dd = g a := by
      rw [List.getElem?_map, ha] at y1
      exact (Option.some.inj y1).symm
    subst ed
    have hmem := List.mem_of_getElem? ha
    have eA : Ex H H4 := (e0.trans e2).trans (p1.trans e4)
    refine ⟨hw x, ?_⟩
    refine yes_go ?_
    refine hi1 a hmem x H4 eA y2 H4 (Ex.refl _) _ fun J1 H5 e5 ⟨G1, hG1, w1⟩ => ?_
    rw [List.length_map] at w1
    have e25 : Ex H2 H5 := p1.trans (e4.trans e5)
    have pD5 : H5 D = some (.lst xs) := e5 _ _ (e4 _ _ p2)
    let PI : Nat → Hp → Prop := fun k H' => Tx K H4 H' ∧ Ex H2 H' ∧ ∃ ys, H' D = some (.lst ys) ∧ Tps K H' ys (mir i ++ ((r a).take k).map (f a))
    refine ⟨fun k n H => n = (r a).length - k ∧ k ≤ (r a).length ∧ PI k H, ⟨(r a).length, by simp, Nat.zero_le _, .of e5, e25, xs, pD5, ?_⟩, ?_⟩
    · show Tps K H5 xs (mir i ++ [])
      rw [List.append_nil]
      exact p3.mono (e4.trans e5)
    rintro k n H6 ⟨rfl, hk', t0, t1, ys, t2, t3⟩
    by_cases hk : k < (r a).length
    · refine .inr ⟨w1.goes k H6 hk (hG1 _ True.intro), PI (k + 1), fun H' p' => ⟨(r a).length - (k + 1), by omega, rfl, hk, p'⟩, fun y' H7 yy => ?_⟩
      obtain ⟨e7, dd', z1, z2⟩ := w1.yields k H6 y' H7 hk (hG1 _ True.intro) yy
      obtain ⟨b, hb⟩ : ∃ b, (r a)[k]? = some b := ⟨(r a)[k], by simp [hk]⟩
      have ed' : dd' = g1 a b := by
        rw [List.getElem?_map, hb] at z1
        exact (Option.some.inj z1).symm
      subst ed'
      refine ⟨hw1 x y', ?_⟩
      refine yes_go ?_
      refine he a hmem b (List.mem_of_getElem? hb) x y' H7 ((e0.trans e2).trans (t1.trans e7)) (y2.tx (t0.trans (.of e7))) z2 H7 (Ex.refl _) _ fun zv H8 e8 hz' => ?_
      have pl := e8 _ _ (e7 _ _ t2)
      refine ⟨ys, pl, ?_, (t0.trans (.of (e7.trans e8))).trans (upT pl), Ex.mut (t1.trans (e7.trans e8)) hD, ys ++ [zv], upd_same, ?_⟩
      · rw [t3.len, List.length_append, List.length_map, List.length_take]
        have h1 : (mir i).length ≤ (l.take i).length * 200 := bnd (l.take i) fun c hc => hz1 c (List.mem_of_mem_take hc)
        have h2 := hz1 a hmem
        rw [List.length_take] at h1
        have h3 : min i l.length * 200 ≤ 200 * 200 := Nat.mul_le_mul_right _ (by omega)
        exact sz_lt (by omega)
      · have tf : mir i ++ ((r a).take (k + 1)).map (f a) = (mir i ++ ((r a).take k).map (f a)) ++ [f a b] := by
          rw [List.take_add_one, hb, List.map_append, List.append_assoc]
          rfl
        rw [tf]
        exact ((t3.mono (e7.trans e8)).append (.cons hz' .nil)).tx (upT pl)
    · have ek : k = (r a).length := by omega
      subst ek
      refine .inl ⟨w1.stops H6 (hG1 _ True.intro), t1, ys, t2, ?_⟩
      have tf : mir (i + 1) = mir i ++ ((r a).take (r a).length).map (f a) := by
        show (l.take (i + 1)).flatMap _ = (l.take i).flatMap _ ++ _
        rw [List.take_add_one, ha, List.flatMap_append, List.take_length]
        simp
      rw [tf]
      exact t3
  · have e : i = l.length := by omega
    subst e
    refine .inl ⟨w.stops H3 (hG _ p1), q D xs H3 (fresh_back e2 hD) (e2.trans p1) p2 ?_⟩
    have em : mir l.length = l.flatMap fun a => (r a).map (f a) := by
      show (l.take l.length).flatMap _ = _
      rw [List.take_length]
    rw [← em]
    exact p3
end
end
end Ck
set_option Elab.async false
set_option linter.all false
set_option maxRecDepth 100000
set_option maxHeartbeats 4000000
/-! Ly3: statements, loops, targets, lists that change. -/
namespace Ck
open PySem PySem.Spec PyProof.Rows L2 Evl
section
variable {K : PySem.W.Frag} {σ : L2.St} {H H' Hb : Hp} {S S' : Hp → Hp → Prop} {ta tb tc te tx tl ti : TE} {t u : TT} {v : V} {sa sb sc sh : Sh} {ss : List Sh} {d d1 d2 d3 d4 d5 : Dt} {ds es : List Dt} {a b c n : Nat} {i j k : Int} {wi : TI}
variable {D : Ends} {tu tw tz : TS} {tg : TG}
theorem u_asg {m : Nat} (h : EvG K te σ H sh) (k : ∀ v H1, Ex H H1 → Hold K H1 v sh → tz D (σ.set m (some v)) H1) : tSeq (tAsg te (gName m)) tz D σ H := h H (Ex.refl H) _ fun v H1 e hv => k v H1 e hv
theorem v_asg {m : Nat} (h : EvG K te σ H sh) (k : ∀ v H1, Ex H H1 → Hold K H1 v sh → D.nx (σ.set m (some v)) H1) : tAsg te (gName m) D σ H := h H (Ex.refl H) _ fun v H1 e hv => k v H1 e hv
theorem u_asgI {m : Nat} (h : EvG K te σ H (.d (.int i))) (k : ∀ H1, Ex H H1 → tz D (σ.set m (some (.int i))) H1) : tSeq (tAsg te (gName m)) tz D σ H := h H (Ex.refl H) _ fun v H1 e hv => by
  rw [Tp.intI hv]
  exact k H1 e
theorem v_asgI {m : Nat} (h : EvG K te σ H (.d (.int i))) (k : ∀ H1, Ex H H1 → D.nx (σ.set m (some (.int i))) H1) : tAsg te (gName m) D σ H := h H (Ex.refl H) _ fun v H1 e hv => by
  rw [Tp.intI hv]
  exact k H1 e
theorem u_asgN {m : Nat} (h : EvN K te σ H ds) (k : ∀ p xs H1, H p = none → Ex H H1 → H1 p = some (.lst xs) → Tps K H1 xs ds → tz D (σ.set m (some (.ref p))) H1) : tSeq (tAsg te (gName m)) tz D σ H := h H (Ex.refl H) _ fun p xs H1 hp e h1 h2 => k p xs H1 hp e h1 h2
theorem v_asgN {m : Nat} (h : EvN K te σ H ds) (k : ∀ p xs H1, H p = none → Ex H H1 → H1 p = some (.lst xs) → Tps K H1 xs ds → D.nx (σ.set m (some (.ref p))) H1) : tAsg te (gName m) D σ H := h H (Ex.refl H) _ fun p xs H1 hp e h1 h2 => k p xs H1 hp e h1 h2
/-- by any target -/
theorem u_asgT (h : EvG K te σ H sh) (k : ∀ v H1, Ex H H1 → Hold K H1 v sh → tg v σ H1 (tz D)) : tSeq (tAsg te tg) tz D σ H := h H (Ex.refl H) _ fun v H1 e hv => k v H1 e hv
theorem v_ret (h : EvG K te σ H sh) (k : ∀ v H1, Ex H H1 → Hold K H1 v sh → D.rt v H1) : tRet te D σ H := h H (Ex.refl H) _ k
theorem v_retN (h : EvN K te σ H ds) (k : ∀ p xs H1, H p = none → Ex H H1 → H1 p = some (.lst xs) → Tps K H1 xs ds → D.rt (.ref p) H1) : tRet te D σ H := h H (Ex.refl H) _ k
theorem u_drop (h : EvG K te σ H sh) (k : ∀ H1, Ex H H1 → tz D σ H1) : tSeq (tDrop te) tz D σ H := h H (Ex.refl H) _ fun v H1 e _ => k H1 e
theorem v_drop (h : EvG K te σ H sh) (k : ∀ H1, Ex H H1 → D.nx σ H1) : tDrop te D σ H := h H (Ex.refl H) _ fun v H1 e _ => k H1 e
/-! targets -/
theorem tgn {m : Nat} {Q : L2.St → Hp → Prop} (h : Q (σ.set m (some v)) H) : gName m v σ H Q := h
theorem tg2 {m1 m2 : Nat} {Q : L2.St → Hp → Prop} (hv : Tp K H v (.tup [d1, d2])) (h : ∀ v1 v2, Hold K H v1 (.d d1) → Hold K H v2 (.d d2) → Q ((σ.set m1 (some v1)).set m2 (some v2)) H) : gTup K 2 (gCons (gName m1) (gCons (gName m2) gNil)) v σ H Q := by
  obtain ⟨p, xs, rfl, h1, h2⟩ := Tp.tupI hv
  cases h2 with
  | cons q1 h2 =>
    cases h2 with
    | cons q2 h2 =>
      cases h2
      exact ⟨p, _, rfl, h1, rfl, _, _, rfl, _, _, rfl, rfl, h _ _ q1 q2⟩
theorem tg3 {m1 m2 m3 : Nat} {Q : L2.St → Hp → Prop} (hv : Tp K H v (.tup [d1, d2, d3])) (h : ∀ v1 v2 v3, Hold K H v1 (.d d1) → Hold K H v2 (.d d2) → Hold K H v3 (.d d3) → Q (((σ.set m1 (some v1)).set m2 (some v2)).set m3 (some v3)) H) : gTup K 3 (gCons (gName m1) (gCons (gName m2) (gCons (gName m3) gNil))) v σ H Q := by
  obtain ⟨p, xs, rfl, h1, h2⟩ := Tp.tupI hv
  cases h2 with
  | cons q1 h2 =>
    cases h2 with
    | cons q2 h2 =>
      cases h2 with
      | cons q3 h2 =>
        cases h2
        exact ⟨p, _, rfl, h1, rfl, _, _, rfl, _, _, rfl, _, _, rfl, rfl, h _ _ _ q1 q2 q3⟩
theorem tg5 {m1 m2 m3 m4 m5 : Nat} {Q : L2.St → Hp → Prop} (hv : Tp K H v (.tup [d1, d2, d3, d4, d5]))
    (h : ∀ v1 v2 v3 v4 v5, Hold K H v1 (.d d1) → Hold K H v2 (.d d2) → Hold K H v3 (.d d3) → Hold K H v4 (.d d4) → Hold K H v5 (.d d5) → Q (((((σ.set m1 (some v1)).set m2 (some v2)).set m3 (some v3)).set m4 (some v4)).set m5 (some v5)) H) :
    gTup K 5 (gCons (gName m1) (gCons (gName m2) (gCons (gName m3) (gCons (gName m4) (gCons (gName m5) gNil))))) v σ H Q := by
  obtain ⟨p, xs, rfl, h1, h2⟩ := Tp.tupI hv
  cases h2 with
  | cons q1 h2 =>
    cases h2 with
    | cons q2 h2 =>
      cases h2 with
      | cons q3 h2 =>
        cases h2 with
        | cons q4 h2 =>
          cases h2 with
          | cons q5 h2 =>
            cases h2
            exact ⟨p, _, rfl, h1, rfl, _, _, rfl, _, _, rfl, _, _, rfl, _, _, rfl, _, _, rfl, rfl, h _ _ _ _ _ q1 q2 q3 q4 q5⟩
/-! loops -/
section
variable {α : Type} {l : List α} {g : α → Dt}
theorem v_forS (P : Hp → Nat → L2.St → Hp → Prop) (hi : EvI K S wi σ H (l.map g)) (h0 : ∀ H2, Ex H H2 → P H2 0 σ H2) (hS : ∀ H2 i σ' H', Ex H H2 → P H2 i σ' H' → S H2 H')
    (hs : ∀ H2 i a x σ' H' H1, Ex H H2 → l[i]? = some a → P H2 i σ' H' → Ex H' H1 → Hold K H1 x (.d (g a)) → tg x σ' H1 fun σ2 H3 => tu { D with nx := P H2 (i + 1), ct := P H2 (i + 1), bk := D.nx } σ2 H3)
    (hd : ∀ H2 σ' H', Ex H H2 → P H2 l.length σ' H' → D.nx σ' H') : tFor wi tg tu D σ H := by
  refine hi H (Ex.refl H) _ fun J H2 e2 ⟨G, hG, w⟩ => ?_
  rw [List.length_map] at w
  refine for_it w (P H2) (h0 H2 e2) (fun i σ' H' _ p => hG H' (hS H2 i σ' H' e2 p)) (fun i x σ' H3 H4 hm p y => ?_) (fun σ' H' p => hd H2 σ' H' e2 p)
  obtain ⟨e4, dd, y1, y2⟩ := y
  obtain ⟨a, ha⟩ : ∃ a, l[i]? = some a := ⟨l[i], by simp [hm]⟩
  have ed : dd = g a := by
    rw [List.getElem?_map, ha] at y1
    exact (Option.some.inj y1).symm
  subst ed
  exact hs H2 i a x σ' H3 H4 e2 ha p e4 y2
theorem u_forS (P : Hp → Nat → L2.St → Hp → Prop) (hi : EvI K S wi σ H (l.map g)) (h0 : ∀ H2, Ex H H2 → P H2 0 σ H2) (hS : ∀ H2 i σ' H', Ex H H2 → P H2 i σ' H' → S H2 H')
    (hs : ∀ H2 i a x σ' H' H1, Ex H H2 → l[i]? = some a → P H2 i σ' H' → Ex H' H1 → Hold K H1 x (.d (g a)) → tg x σ' H1 fun σ2 H3 => tu { D with nx := P H2 (i + 1), ct := P H2 (i + 1), bk := tz D } σ2 H3)
    (hd : ∀ H2 σ' H', Ex H H2 → P H2 l.length σ' H' → tz D σ' H') : tSeq (tFor wi tg tu) tz D σ H := v_forS (D := { D with nx := tz D }) P hi h0 hS hs hd
/-- nothing that stood changes -/
theorem v_for (P : Nat → L2.St → Prop) (hi : EvI K Ex wi σ H (l.map g)) (h0 : P 0 σ)
    (hs : ∀ H2 i a x σ' H1, Ex H H2 → Ex H2 H1 → l[i]? = some a → P i σ' → Hold K H1 x (.d (g a)) → tg x σ' H1 fun σ2 H3 => tu { D with nx := fun σ4 H4 => Ex H2 H4 ∧ P (i + 1) σ4, ct := fun σ4 H4 => Ex H2 H4 ∧ P (i + 1) σ4, bk := D.nx } σ2 H3)
    (hd : ∀ σ' H', Ex H H' → P l.length σ' → D.nx σ' H') : tFor wi tg tu D σ H :=
  v_forS (fun H2 i σ' H' => Ex H2 H' ∧ P i σ') hi (fun H2 _ => ⟨Ex.refl _, h0⟩) (fun _ _ _ _ _ p => p.1) (fun H2 i a x σ' H' H1 e2 ha p e hx => hs H2 i a x σ' H1 e2 (p.1.trans e) ha p.2 hx) fun H2 σ' H' e p => hd σ' H' (e.trans p.1) p.2
theorem u_for (P : Nat → L2.St → Prop) (hi : EvI K Ex wi σ H (l.map g)) (h0 : P 0 σ)
    (hs : ∀ H2 i a x σ' H1, Ex H H2 → Ex H2 H1 → l[i]? = some a → P i σ' → Hold K H1 x (.d (g a)) → tg x σ' H1 fun σ2 H3 => tu { D with nx := fun σ4 H4 => Ex H2 H4 ∧ P (i + 1) σ4, ct := fun σ4 H4 => Ex H2 H4 ∧ P (i + 1) σ4, bk := tz D } σ2 H3)
    (hd : ∀ σ' H', Ex H H' → P l.length σ' → tz D σ' H') : tSeq (tFor wi tg tu) tz D σ H := v_for (D := { D with nx := tz D }) P hi h0 hs hd
end
/-! lists that change -/
/-- the list at l is younger than Hb, all else of Hb stands -/
def Ml (K : PySem.W.Frag) (Hb H : Hp) (l : Addr) (ds : List Dt) : Prop := Hb l = none ∧ Ex Hb H ∧ ∃ xs, H l = some (.lst xs) ∧ Tps K H xs ds
def ExB (l : Addr) (H H' : Hp) : Prop := ∀ a o, a ≠ l → H a = some o → H' a = some o
variable {l : Addr}
theorem ExB.of {H H' : Hp} (e : Ex H H') : ExB l H H' := fun a o _ h => e a o h
theorem ExB.trans {H H1 H2 : Hp} (a : ExB l H H1) (b : ExB l H1 H2) : ExB l H H2 := fun x o n h => b x o n (a x o n h)
theorem Ml.ex {H1 : Hp} (h : Ml K Hb H l ds) (e : Ex H H1) : Ml K Hb H1 l ds := by
  obtain ⟨h1, h2, xs, h3, h4⟩ := h
  exact ⟨h1, h2.trans e, xs, e _ _ h3, h4.mono e⟩
theorem Ml.hold (h : Ml K Hb H l ds) : Hold K H (.ref l) (.s ds) := by
  obtain ⟨h1, h2, xs, h3, h4⟩ := h
  exact .lst h3 h4
theorem Ml.new {p : Addr} {xs : List V} {H1 : Hp} (hp : H p = none) (e : Ex H H1) (h1 : H1 p = some (.lst xs)) (h2 : Tps K H1 xs ds) : Ml K H H1 p ds := ⟨hp, e, xs, h1, h2⟩
theorem Ml.base {Hc : Hp} (h : Ml K Hb H l ds) (e : Ex Hc Hb) : Ml K Hc H l ds := by
  obtain ⟨h1, h2, h3⟩ := h
  exact ⟨fresh_back e h1, e.trans h2, h3⟩
theorem tx_upd {xs : List V} {o : HO} (h : H l = some (.lst xs)) : Tx K H (upd H l o) := fun b ys hb => by
  rcases hb with (hb | ⟨o', hb⟩) | hb
  · exact .inl (.inl (by rw [upd_ne (ne_of hb h (by intro q; cases q))]; exact hb))
  · exact .inl (.inr ⟨o', by rw [upd_ne (ne_of hb h (by intro q; cases q))]; exact hb⟩)
  · exact .inr hb
theorem Ml.put {H1 : Hp} {xs ys : List V} (h : Ml K Hb H l ds) (e : Ex H H1) (h1 : H1 l = some (.lst xs)) (h2 : Tps K H1 ys es) : Ml K Hb (upd H1 l (.lst ys)) l es ∧ ExB l H (upd H1 l (.lst ys)) ∧ Tx K H (upd H1 l (.lst ys)) := by
  obtain ⟨q1, q2, _⟩ := h
  refine ⟨⟨q1, Ex.mut (q2.trans e) q1, ys, upd_same, h2.tx (tx_upd h1)⟩, fun a o na ha => ?_, (Tx.of e).trans (tx_upd h1)⟩
  rw [upd_ne na]
  exact e _ _ ha
def sApp (K : PySem.W.Frag) (m : Nat) (te : TE) : TS := tDrop (tBM K "list" rAppend (tVar m) (tCons te tNil))
def sSet (m : Nat) (ti te : TE) : TS := tAsg te (gSub (tVar m) ti rSetL)
theorem v_app {m : Nat} (hm : Ml K Hb H l ds) (hv : σ[m]? = some (some (.ref l))) (h : EvG K te σ H (.d d)) (hz : ds.length < 100000) (k : ∀ H1, Ml K Hb H1 l (ds ++ [d]) → ExB l H H1 → Tx K H H1 → D.nx σ H1) : sApp K m te D σ H := by
  obtain ⟨q1, q2, xs, q3, q4⟩ := id hm
  refine ⟨.ref l, hv, .inl ⟨rfl, xs, sq_of q3⟩, h H (Ex.refl H) _ fun v H1 e1 hv' => ?_⟩
  have q5 := (q4.mono e1).append (.cons hv' .nil)
  obtain ⟨z1, z2, z3⟩ := hm.put e1 (e1 _ _ q3) q5
  exact ⟨l, xs, v, rfl, rfl, e1 _ _ q3, sz_lt (by rw [q4.len]; exact hz), k _ z1 z2 z3⟩
theorem u_app {m : Nat} (hm : Ml K Hb H l ds) (hv : σ[m]? = some (some (.ref l))) (h : EvG K te σ H (.d d)) (hz : ds.length < 100000) (k : ∀ H1, Ml K Hb H1 l (ds ++ [d]) → ExB l H H1 → Tx K H H1 → tz D σ H1) : tSeq (sApp K m te) tz D σ H := v_app (D := { D with nx := tz D }) hm hv h hz k
theorem v_set {m : Nat} (hm : Ml K Hb H l ds) (hv : σ[m]? = some (some (.ref l))) (h : EvG K te σ H (.d d)) (hi : EvG K ti σ H (.d (.nat a))) (hj : a < ds.length) (k : ∀ H1, Ml K Hb H1 l (ds.set a d) → ExB l H H1 → Tx K H H1 → D.nx σ H1) : sSet m ti te D σ H := by
  obtain ⟨q1, q2, xs, q3, q4⟩ := id hm
  refine h H (Ex.refl H) _ fun v H1 e1 hv' => ⟨.ref l, hv, hi H1 e1 _ fun w H2 e2 hw => ?_⟩
  have q5 := (q4.mono (e1.trans e2)).set a (hv'.mono e2)
  obtain ⟨z1, z2, z3⟩ := hm.put (e1.trans e2) ((e1.trans e2) _ _ q3) q5
  exact ⟨l, xs, (a : Int), a, rfl, Tp.intI hw, (e1.trans e2) _ _ q3, ixN_nat (by rw [q4.len]; exact hj), k _ z1 z2 z3⟩
theorem u_set {m : Nat} (hm : Ml K Hb H l ds) (hv : σ[m]? = some (some (.ref l))) (h : EvG K te σ H (.d d)) (hi : EvG K ti σ H (.d (.nat a))) (hj : a < ds.length) (k : ∀ H1, Ml K Hb H1 l (ds.set a d) → ExB l H H1 → Tx K H H1 → tz D σ H1) : tSeq (sSet m ti te) tz D σ H := v_set (D := { D with nx := tz D }) hm hv h hi hj k
/-- lists that are joined -/
theorem n_catL (ha : EvG K ta σ H (.s ds)) (hb : EvN K tb σ H es) (hk : ∀ H1, Ex H H1 → ∀ Q : VK, (∀ p xs H2, Ex H1 H2 → H2 p = some (.lst xs) → Tps K H2 xs ds → Q (.ref p) H2) → ta σ H1 Q) (hz : ds.length + es.length ≤ 100000) : EvN K (xCatL ta tb) σ H (ds ++ es) := fun H1 e Q q =>
  hk H1 e _ fun p xs H2 e2 h1 h2 => hb H2 (e.trans e2) _ fun p' ys H3 hp e3 h3 h4 => ⟨p, p', xs, ys, rfl, rfl, e3 _ _ h1, h3, by rw [h2.len, h4.len]; exact sz_s hz, fun l hl => q l _ _ (fresh_back (e2.trans e3) hl) ((e2.trans e3).trans (Ex.new hl)) upd_same (((h2.mono e3).append h4).mono (Ex.new hl))⟩
end
end Ck
set_option Elab.async false
set_option linter.all false
set_option maxRecDepth 100000
set_option maxHeartbeats 4000000
/-! Ls: sorted of a list of tuples of ints that already ascend by their first items. -/
namespace Ck
open PySem PySem.Spec PyProof.Rows L2 Evl PySem.W PyProof.Rows.G
abbrev noS : Nat → Bool := fun _ => false
/-- the value v is a tuple of the ints ns -/
def IsTn (h : Heap) (v : Value) (ns : List Int) : Prop := ∃ t its, v = Value.ref t ∧ Vals (ns.map V.int) its ∧ IsTup h t its.toArray
theorem items_of : ∀ {ns : List Int} {its : List Value} {i : Nat}, Vals (ns.map V.int) its → tupItems noS i its = some (ns.map Sum.inl)
  | [], [], _, _ => rfl
  | [], _ :: _, _, h => by cases h
  | _ :: _, [], _, h => by cases h
  | n :: ns, u :: us, i, h => by
    cases h with
    | cons r t =>
      obtain ⟨k, rfl⟩ := r
      have e := items_of (i := i + 1) t
      show (if noS i = true then none else (tupItems noS (i + 1) us).map (Sum.inl n :: ·)) = _
      rw [if_neg Bool.false_ne_true, e]
      rfl
theorem key_of {h : Heap} {v : Value} {ns : List Int} (x : IsTn h v ns) : tupKeyC h noS v = some (ns.map Sum.inl) := by
  obtain ⟨t, its, rfl, r, o, ho, hc, n, hd⟩ := x
  unfold tupKeyC
  have e1 : isTupObj h (.ref t) = true := by
    unfold isTupObj
    simp only [ho, hc]
    decide
  rw [if_pos e1]
  unfold tupKey
  simp only [ho, hd]
  exact items_of r
theorem tup_of {h : Heap} {v : Value} {n : Int} {ns : List Int} (x : IsTn h v (n :: ns)) : ∃ f, TupOf h noS v f := by
  obtain ⟨t, its, rfl, r, o, ho, hc, m, hd⟩ := x
  cases its with
  | nil => cases r
  | cons u us =>
    cases r with
    | cons r1 r2 =>
      obtain ⟨k, rfl⟩ := r1
      exact ⟨.int n k, t, o, _, m, rfl, ho, hc, hd, rfl, fun _ => ⟨n, k, rfl⟩, fun q => Bool.noConfusion q⟩
theorem tups_of {h : Heap} : ∀ {vs : List Value} {nss : List (List Int)}, Paired (IsTn h) vs nss → (∀ n ∈ nss, n ≠ []) → ∃ fs, TupsOf h noS vs fs
  | [], [], _, _ => ⟨[], .nil⟩
  | [], _ :: _, x, _ => by cases x
  | _ :: _, [], x, _ => by cases x
  | v :: vs, n :: nss, x, hn => by
    cases x with
    | cons x1 x2 =>
      obtain ⟨fs, h1⟩ := tups_of x2 fun m hm => hn m (List.mem_cons_of_mem _ hm)
      cases n with
      | nil => exact absurd rfl (hn [] (List.mem_cons_self ..))
      | cons a r =>
        obtain ⟨f, h2⟩ := tup_of x1
        exact ⟨f :: fs, .cons h2 h1⟩
theorem paired_mem {α β : Type} {R : α → β → Prop} : ∀ {xs : List α} {ys : List β} {x : α}, Paired R xs ys → x ∈ xs → ∃ y, y ∈ ys ∧ R x y
  | [], _, _, _, h => by cases h
  | _ :: _, [], _, h, _ => by cases h
  | a :: xs, b :: ys, x, h, hm => by
    cases h with
    | cons h1 h2 =>
      rcases List.mem_cons.mp hm with rfl | hm
      · exact ⟨b, List.mem_cons_self .., h1⟩
      · obtain ⟨y, q1, q2⟩ := paired_mem h2 hm
        exact ⟨y, List.mem_cons_of_mem _ q1, q2⟩
theorem paired_get {α β : Type} {R : α → β → Prop} : ∀ {xs : List α} {ys : List β} {i : Nat} {x : α}, Paired R xs ys → xs[i]? = some x → ∃ y, ys[i]? = some y ∧ R x y
  | [], _, _, _, _, h => by simp at h
  | _ :: _, [], _, _, h, _ => by cases h
  | a :: xs, b :: ys, 0, x, h, e => by
    cases h with
    | cons h1 h2 =>
      have e1 : a = x := Option.some.inj e
      subst e1
      exact ⟨b, rfl, h1⟩
  | a :: xs, b :: ys, i + 1, x, h, e => by
    cases h with
    | cons h1 h2 =>
      obtain ⟨y, q1, q2⟩ := paired_get (i := i) (x := x) h2 (by simpa using e)
      exact ⟨y, by simpa using q1, q2⟩
/-- one list's first item below the other's -/
def Fst (n m : List Int) : Prop := ∃ x y, n.head? = some x ∧ m.head? = some y ∧ x < y
theorem fst_lt {n m : List Int} (h : Fst n m) : lexLt itemOrd (m.map Sum.inl) (n.map Sum.inl) = false := by
  obtain ⟨x, y, h1, h2, h3⟩ := h
  cases n with
  | nil => cases h1
  | cons a r =>
    cases m with
    | nil => cases h2
    | cons b t =>
      have e1 : a = x := Option.some.inj h1
      have e2 : b = y := Option.some.inj h2
      subst e1 e2
      refine lex_false.mpr ⟨?_, .inl ?_⟩
      · show decide (b < a) = false
        exact decide_eq_false (by omega)
      · show decide (a < b) = true
        exact decide_eq_true h3
theorem sorted_of {h : Heap} {vs : List Value} {nss : List (List Int)} (x : Paired (IsTn h) vs nss) (hs : nss.Pairwise Fst) : SortedToK (tupKindC h noS) (pairsOf vs) (pairsOf vs).size := by
  intro i j hij hj
  rw [pairsOf_size] at hj
  have kk : ∀ k, k < vs.length → ∃ ns, nss[k]? = some ns ∧ KK (tupKindC h noS) (pairsOf vs) k = ns.map Sum.inl := fun k hk => by
    have e1 : vs[k]? = some vs[k] := by simp [hk]
    obtain ⟨ns, h1, h2⟩ := paired_get x e1
    refine ⟨ns, h1, ?_⟩
    have e2 : (pairsOf vs)[k]? = some (vs[k], vs[k]) := by
      rw [← Array.getElem?_toList, pairsOf_toList, List.getElem?_zip_eq_some]
      exact ⟨e1, e1⟩
    unfold KK
    rw [e2]
    show ((tupKeyC h noS vs[k]).getD []) = _
    rw [key_of h2]
    rfl
  obtain ⟨n1, a1, a2⟩ := kk i (by omega)
  obtain ⟨n2, b1, b2⟩ := kk j hj
  show lexLt itemOrd (KK (tupKindC h noS) (pairsOf vs) j) (KK (tupKindC h noS) (pairsOf vs) i) = false
  rw [a2, b2]
  rcases Nat.lt_or_ge i j with hlt | hge
  · refine fst_lt ?_
    obtain ⟨l1, q1⟩ := List.getElem?_eq_some_iff.mp a1
    obtain ⟨l2, q2⟩ := List.getElem?_eq_some_iff.mp b1
    rw [← q1, ← q2]
    exact List.pairwise_iff_getElem.mp hs i j l1 l2 hlt
  · have e : i = j := by omega
    subst e
    rw [a1] at b1
    have e2 := Option.some.inj b1
    subst e2
    exact (listOrd itemOrd).irrefl _
def rSortX (K : PySem.W.Frag) : List V → Hp → VK → Prop := fun vs H Q => ∃ (a : Addr) (xs : List V) (nss : List (List Int)), vs = [V.ref a] ∧ SqL K H a xs ∧ Paired (fun x (ns : List Int) => ∃ t, x = V.ref t ∧ SqT K H t (ns.map V.int)) xs nss ∧
  nss.Pairwise Fst ∧ (∀ n ∈ nss, n ≠ []) ∧ ∀ p, H p = none → Q (.ref p) (upd H p (.lst xs))
section
variable {X : Cx}
theorem tn_of {pins : List (Addr × Obj)} {s : Shared} {σ : L2.St} {H : Hp} (I : Inv X pins σ H s) : ∀ {xs : List V} {us : List Value} {nss : List (List Int)}, Vals xs us → Paired (fun x (ns : List Int) => ∃ t, x = V.ref t ∧ SqT X.K H t (ns.map V.int)) xs nss → Paired (IsTn s.heap) us nss
  | [], [], [], _, _ => .nil
  | [], [], _ :: _, _, h => by cases h
  | [], _ :: _, _, h, _ => by cases h
  | _ :: _, [], _, h, _ => by cases h
  | _ :: _, _ :: _, [], _, h => by cases h
  | x :: xs, u :: us, ns :: nss, r, h => by
    cases r with
    | cons r1 r2 =>
      cases h with
      | cons h1 h2 =>
        obtain ⟨t, rfl, ht⟩ := h1
        obtain ⟨its, q1, q2, _⟩ := I.tuple ht
        exact .cons ⟨t, its, r1, q1, q2⟩ (tn_of I r2 h2)
theorem cr_sortX (_ : X.A.units + 1 < cLine) : CallR X (.builtin "sorted") (rSortX X.K) := by
  intro pins s σ H vs us Q I r h
  obtain ⟨a, xs, nss, rfl, hs, hx, hp, hn, q⟩ := h
  obtain ⟨its, rv, hl, hz⟩ := I.list hs
  obtain ⟨u, rfl, ru⟩ := vals1 r
  obtain rfl : u = Value.ref a := ru
  have hz' : its.length ≤ sizeLine := by rw [← rv.length]; exact hz
  have ht := tn_of I rv hx
  obtain ⟨fs, hf⟩ := tups_of ht hn
  have hk : ∀ v, v ∈ its → ∃ l, tupKeyC s.heap noS v = some l := fun v hv => by
    obtain ⟨ns, _, h2⟩ := paired_mem ht hv
    exact ⟨_, key_of h2⟩
  refine sorted_tups (shape := noS) (fs := fs) hl.isList hf hk hz' fun st' p1 p2 p3 => ?_
  have e : arrOf st' = pairsOf its := sorted_stable_unique (tupKeys hk) p1 (Array.Perm.refl _) p2 (sorted_of ht hp) p3 (Stable.refl _)
  rw [e]
  have e2 : (pairsOf its).map (·.2) = its.toArray := by
    apply Array.toList_inj.mp
    rw [Array.toList_map, pairsOf_toList]
    simp [List.map_snd_zip]
  rw [e2]
  obtain ⟨n, hn'⟩ := sortedAll_at s.heap its its.toArray
  refine ⟨.ref (s.heap.objs.size + 1), upd H (s.heap.objs.size + 1) (.lst xs), I.laid (t' := s.toks) (fun b o => sortedAll_old) (Nat.le_succ _) ⟨hz, its, n, rv, hn'⟩, rfl, q _ (I.hok.fresh (Nat.le_succ _))⟩
end
def xSorted (K : PySem.W.Frag) (ta : TE) : TE := tCB (rSortX K) (tCons ta tNil)
section
variable {K : PySem.W.Frag} {σ : L2.St} {H : Hp} {ta : TE}
theorem paired_tp {H : Hp} : ∀ {xs : List V} {nss : List (List Int)}, Tps K H xs (nss.map fun ns => Dt.tup (ns.map Dt.int)) → Paired (fun x (ns : List Int) => ∃ t, x = V.ref t ∧ SqT K H t (ns.map V.int)) xs nss
  | [], [], _ => .nil
  | [], _ :: _, h => by cases h
  | _ :: _, [], h => by cases h
  | x :: xs, n :: nss, h => by
    cases h with
    | cons h1 h2 =>
      obtain ⟨a, ys, rfl, q1, q2⟩ := h1.tupI
      exact .cons ⟨a, rfl, by rw [← q2.ints]; exact q1⟩ (paired_tp h2)
theorem n_sorted {nss : List (List Int)} (ha : EvG K ta σ H (.s (nss.map fun ns => Dt.tup (ns.map Dt.int)))) (hp : nss.Pairwise Fst) (hn : ∀ n ∈ nss, n ≠ []) : EvN K (xSorted K ta) σ H (nss.map fun ns => Dt.tup (ns.map Dt.int)) := n_cb (as_cons ha as_nil) fun vs H1 _ hv Q q => by
  obtain ⟨v, rfl, a, xs, rfl, h1, h2⟩ := h1_of hv
  exact ⟨a, xs, nss, rfl, h1, paired_tp h2, hp, hn, fun l hl => q l xs _ hl (Ex.new hl) upd_same (h2.mono (Ex.new hl))⟩
end
end Ck
set_option Elab.async false
set_option linter.all false
set_option maxRecDepth 100000
set_option maxHeartbeats 4000000
namespace Ck
open PySem PySem.Spec PyProof.Rows L2 Evl RZ
def N_a_want : List Str := ["good", "word"]
def t_a_want (K : PySem.W.Frag) : TS :=
  (tIfS (tNot (tB (tVar 0))) tNever tNext)
def N_integer_fits : List Str := ["thing"]
def t_integer_fits (K : PySem.W.Frag) : TS :=
  (tRet (xAnd (xIsi K (tVar 0) (xTy "int")) (xNot (xIsi K (tVar 0) (xTy "bool")))))
def N_number_fits : List Str := ["thing"]
def t_number_fits (K : PySem.W.Frag) (sp_integer_fits : Sp) : TS :=
  (tRet (xAnd (xCall sp_integer_fits (tCons (tVar 0) tNil)) (xGe (tVar 0) (xNat 0))))
def N_many_fits : List Str := ["thing"]
def t_many_fits (K : PySem.W.Frag) (sp_integer_fits : Sp) : TS :=
  (tRet (xAnd (xCall sp_integer_fits (tCons (tVar 0) tNil)) (xGe (tVar 0) (xNat 1))))
def N_sizes_fit : List Str := ["thing", "size"]
def t_sizes_fit (K : PySem.W.Frag) (sp_many_fits : Sp) : TS :=
  (tRet (xAnd (xIsi K (tVar 0) (xTy "tuple")) (xAnd (xGt (xLen K (tVar 0)) (xNat 0)) (xAll K (tLc (xItT K (tVar 0)) (gName 1) tYes (xCall sp_many_fits (tCons (tVar 1) tNil)) [1])))))
def N_setting_fits : List Str := ["sizes", "thing", "choice", "size"]
def t_setting_fits (K : PySem.W.Frag) (sp_number_fits : Sp) : TS :=
  (tSeq (tIfS (tOr (tNot (tB (xIsi K (tVar 1) (xTy "tuple")))) (tB (xNe (xLen K (tVar 1)) (xLen K (tVar 0))))) (tRet (xBl false)) tNext)
    (tRet (xAll K (tLc (xZip K (tVar 1) (tVar 0)) (gTup K 2 (gCons (gName 2) (gCons (gName 3) gNil))) tYes (xAnd (xCall sp_number_fits (tCons (tVar 2) tNil)) (xLt (tVar 2) (tVar 3))) [2, 3]))))
def N_house_fits : List Str := ["many", "thing"]
def t_house_fits (K : PySem.W.Frag) (sp_number_fits : Sp) : TS :=
  (tRet (xAnd (xCall sp_number_fits (tCons (tVar 1) tNil)) (xLt (tVar 1) (tVar 0))))
def N_lot_fits : List Str := ["many", "thing", "last", "house"]
def t_lot_fits (K : PySem.W.Frag) (sp_house_fits : Sp) : TS :=
  (tSeq (tIfS (tNot (tB (xIsi K (tVar 1) (xTy "tuple")))) (tRet (xBl false)) tNext)
    (tSeq (tAsg (xNeg (xNat 1)) (gName 2))
    (tSeq (tFor (xItT K (tVar 1)) (gName 3) (tSeq (tIfS (tOr (tNot (tB (xCall sp_house_fits (tCons (tVar 0) (tCons (tVar 3) tNil))))) (tB (xLe (tVar 3) (tVar 2)))) (tRet (xBl false)) tNext)
    (tAsg (tVar 3) (gName 2))))
    (tRet (xBl true)))))
def N_spans_of : List Str := ["sizes", "spans", "_", "house"]
def t_spans_of (K : PySem.W.Frag) : TS :=
  (tSeq (tAsg (tLc (xItT K (tVar 0)) (gName 2) tYes (xNat 1) [2]) (gName 1))
    (tSeq (tFor (xRng3 (xSub (xLen K (tVar 0)) (xNat 2)) (xNeg (xNat 1)) (xNeg (xNat 1))) (gName 3) (sSet 1 (tVar 3) (xMul (xIxL K (tVar 1) (xAdd (tVar 3) (xNat 1))) (xIxT K (tVar 0) (xAdd (tVar 3) (xNat 1))))))
    (tRet (tVar 1))))
def N_many_settings : List Str := ["sizes", "many", "size"]
def t_many_settings (K : PySem.W.Frag) : TS :=
  (tSeq (tAsg (xNat 1) (gName 1))
    (tSeq (tFor (xItT K (tVar 0)) (gName 2) (tAsg (xMul (tVar 1) (tVar 2)) (gName 1)))
    (tRet (tVar 1))))
def N_place_by : List Str := ["sizes", "setting", "place", "house"]
def t_place_by (K : PySem.W.Frag) : TS :=
  (tSeq (tAsg (xNat 0) (gName 2))
    (tSeq (tFor (xRng1 (xLen K (tVar 0))) (gName 3) (tAsg (xAdd (xMul (tVar 2) (xIxT K (tVar 0) (tVar 3))) (xIxT K (tVar 1) (tVar 3))) (gName 2)))
    (tRet (tVar 2))))
def N_setting_by : List Str := ["sizes", "place", "spans", "house"]
def t_setting_by (K : PySem.W.Frag) (sp_spans_of : Sp) : TS :=
  (tSeq (tAsg (xCall sp_spans_of (tCons (tVar 0) tNil)) (gName 2))
    (tRet (xTupOf K (tLc (xRng1 (xLen K (tVar 0))) (gName 3) tYes (xMod (xFdiv (tVar 1) (xIxL K (tVar 2) (tVar 3))) (xIxT K (tVar 0) (tVar 3))) [3]))))
def N_corner_places : List Str := ["sizes", "lot", "spans", "places", "house", "place", "choice"]
def t_corner_places (K : PySem.W.Frag) (sp_spans_of : Sp) : TS :=
  (tSeq (tAsg (xCall sp_spans_of (tCons (tVar 0) tNil)) (gName 2))
    (tSeq (tAsg (xLst (tCons (xNat 0) tNil)) (gName 3))
    (tSeq (tFor (xItL K (tVar 1)) (gName 4) (tAsg (tLc2 (xItL K (tVar 3)) (gName 5) tYes (xRng1 (xIxT K (tVar 0) (tVar 4))) (gName 6) tYes (xAdd (tVar 5) (xMul (tVar 6) (xIxL K (tVar 2) (tVar 4)))) [5, 6] [6]) (gName 3)))
    (tRet (tVar 3)))))
def N_odd_spot : List Str := ["sizes", "table", "one", "other", "spans", "rest", "house", "place", "first", "near", "second", "far"]
def t_odd_spot (K : PySem.W.Frag) (sp_spans_of sp_corner_places : Sp) : TS :=
  (tSeq (tAsg (xCall sp_spans_of (tCons (tVar 0) tNil)) (gName 4))
    (tSeq (tAsg (tLc (xRng1 (xLen K (tVar 0))) (gName 6) (tAnd (tB (xNe (tVar 6) (tVar 2))) (tB (xNe (tVar 6) (tVar 3)))) (tVar 6) [6]) (gName 5))
    (tSeq (tFor (xItL K (xCall sp_corner_places (tCons (tVar 0) (tCons (tVar 5) tNil)))) (gName 7) (tFor (xRng2 (xNat 1) (xIxT K (tVar 0) (tVar 2))) (gName 8) (tSeq (tAsg (xAdd (tVar 7) (xMul (tVar 8) (xIxL K (tVar 4) (tVar 2)))) (gName 9))
    (tFor (xRng2 (xNat 1) (xIxT K (tVar 0) (tVar 3))) (gName 10) (tSeq (tAsg (xMul (tVar 10) (xIxL K (tVar 4) (tVar 3))) (gName 11))
    (tIfS (tB (xEq (xXor (xXor (xXor (xIxT K (tVar 1) (tVar 7)) (xIxT K (tVar 1) (tVar 9))) (xIxT K (tVar 1) (xAdd (tVar 7) (tVar 11)))) (xIxT K (tVar 1) (xAdd (tVar 9) (tVar 11)))) (xNat 1))) (tRet (xTup (tCons (tVar 7) (tCons (tVar 8) (tCons (tVar 10) tNil))))) tNext))))))
    (tRet xNon))))
def N_is_number : List Str := ["thing"]
def t_is_number (K : PySem.W.Frag) (sp_number_fits : Sp) : TS :=
  (tRet (xCall sp_number_fits (tCons (tVar 0) tNil)))
def N_is_bit : List Str := ["thing"]
def t_is_bit (K : PySem.W.Frag) (sp_number_fits : Sp) : TS :=
  (tRet (xAnd (xCall sp_number_fits (tCons (tVar 0) tNil)) (xLe (tVar 0) (xNat 1))))
def N_is_sizes : List Str := ["thing"]
def t_is_sizes (K : PySem.W.Frag) (sp_sizes_fit : Sp) : TS :=
  (tRet (xCall sp_sizes_fit (tCons (tVar 0) tNil)))
def N_is_setting : List Str := ["sizes", "thing"]
def t_is_setting (K : PySem.W.Frag) (sp_a_want sp_sizes_fit sp_setting_fits : Sp) : TS :=
  (tSeq (tDrop (xCall sp_a_want (tCons (xCall sp_sizes_fit (tCons (tVar 0) tNil)) (tCons (xStr "sizes") tNil))))
    (tRet (xCall sp_setting_fits (tCons (tVar 0) (tCons (tVar 1) tNil)))))
def N_is_lot : List Str := ["many", "thing"]
def t_is_lot (K : PySem.W.Frag) (sp_a_want sp_many_fits sp_lot_fits : Sp) : TS :=
  (tSeq (tDrop (xCall sp_a_want (tCons (xCall sp_many_fits (tCons (tVar 0) tNil)) (tCons (xStr "many") tNil))))
    (tRet (xCall sp_lot_fits (tCons (tVar 0) (tCons (tVar 1) tNil)))))
def N_is_table : List Str := ["sizes", "thing", "bit"]
def t_is_table (K : PySem.W.Frag) (sp_a_want sp_is_sizes sp_many_settings sp_is_bit : Sp) : TS :=
  (tSeq (tDrop (xCall sp_a_want (tCons (xCall sp_is_sizes (tCons (tVar 0) tNil)) (tCons (xStr "sizes") tNil))))
    (tSeq (tIfS (tOr (tNot (tB (xIsi K (tVar 1) (xTy "tuple")))) (tB (xNe (xLen K (tVar 1)) (xCall sp_many_settings (tCons (tVar 0) tNil))))) (tRet (xBl false)) tNext)
    (tSeq (tFor (xItT K (tVar 1)) (gName 2) (tIfS (tNot (tB (xCall sp_is_bit (tCons (tVar 2) tNil)))) (tRet (xBl false)) tNext))
    (tRet (xBl true)))))
def N_want_houses : List Str := ["sizes", "table", "one", "other"]
def t_want_houses (K : PySem.W.Frag) (sp_a_want sp_is_sizes sp_is_table sp_is_number : Sp) : TS :=
  (tSeq (tDrop (xCall sp_a_want (tCons (xCall sp_is_sizes (tCons (tVar 0) tNil)) (tCons (xStr "sizes") tNil))))
    (tSeq (tDrop (xCall sp_a_want (tCons (xCall sp_is_table (tCons (tVar 0) (tCons (tVar 1) tNil))) (tCons (xStr "table") tNil))))
    (tSeq (tDrop (xCall sp_a_want (tCons (xAnd (xCall sp_is_number (tCons (tVar 2) tNil)) (xLt (tVar 2) (xLen K (tVar 0)))) (tCons (xStr "one") tNil))))
    (tDrop (xCall sp_a_want (tCons (xAnd (xCall sp_is_number (tCons (tVar 3) tNil)) (xAnd (xLt (tVar 3) (xLen K (tVar 0))) (xNe (tVar 3) (tVar 2)))) (tCons (xStr "other") tNil)))))))
def N_odd_four : List Str := ["sizes", "table", "one", "other", "spot", "place", "first", "second"]
def t_odd_four (K : PySem.W.Frag) (sp_want_houses sp_odd_spot sp_setting_by : Sp) : TS :=
  (tSeq (tDrop (xCall sp_want_houses (tCons (tVar 0) (tCons (tVar 1) (tCons (tVar 2) (tCons (tVar 3) tNil))))))
    (tSeq (tAsg (xCall sp_odd_spot (tCons (tVar 0) (tCons (tVar 1) (tCons (tVar 2) (tCons (tVar 3) tNil))))) (gName 4))
    (tSeq (tIfS (tB (xIsN (tVar 4))) (tRet xNon) tNext)
    (tSeq (tAsg (tVar 4) (gTup K 3 (gCons (gName 5) (gCons (gName 6) (gCons (gName 7) gNil)))))
    (tRet (xTup (tCons (xCall sp_setting_by (tCons (tVar 0) (tCons (tVar 5) tNil))) (tCons (tVar 2) (tCons (tVar 6) (tCons (tVar 3) (tCons (tVar 7) tNil)))))))))))
def N_are_knit : List Str := ["sizes", "table", "one", "other"]
def t_are_knit (K : PySem.W.Frag) (sp_want_houses sp_odd_spot : Sp) : TS :=
  (tSeq (tDrop (xCall sp_want_houses (tCons (tVar 0) (tCons (tVar 1) (tCons (tVar 2) (tCons (tVar 3) tNil))))))
    (tRet (xNotN (xCall sp_odd_spot (tCons (tVar 0) (tCons (tVar 1) (tCons (tVar 2) (tCons (tVar 3) tNil))))))))
def N_knit_pairs : List Str := ["sizes", "table", "pairs", "one", "other"]
def t_knit_pairs (K : PySem.W.Frag) (sp_a_want sp_is_sizes sp_is_table sp_odd_spot : Sp) : TS :=
  (tSeq (tDrop (xCall sp_a_want (tCons (xCall sp_is_sizes (tCons (tVar 0) tNil)) (tCons (xStr "sizes") tNil))))
    (tSeq (tDrop (xCall sp_a_want (tCons (xCall sp_is_table (tCons (tVar 0) (tCons (tVar 1) tNil))) (tCons (xStr "table") tNil))))
    (tSeq (tAsg (xLst tNil) (gName 2))
    (tSeq (tFor (xRng1 (xLen K (tVar 0))) (gName 3) (tFor (xRng2 (xAdd (tVar 3) (xNat 1)) (xLen K (tVar 0))) (gName 4) (tIfS (tB (xNotN (xCall sp_odd_spot (tCons (tVar 0) (tCons (tVar 1) (tCons (tVar 3) (tCons (tVar 4) tNil))))))) (sApp K 2 (xTup (tCons (tVar 3) (tCons (tVar 4) tNil)))) tNext)))
    (tRet (xTupOf K (tVar 2)))))))
def N_clumps_of : List Str := ["sizes", "table", "marks", "pairs", "house", "one", "other", "low", "high", "mark", "clumps"]
def t_clumps_of (K : PySem.W.Frag) (sp_knit_pairs : Sp) : TS :=
  (tSeq (tAsg (xLst tNil) (gName 2))
    (tSeq (tAsg (xCall sp_knit_pairs (tCons (tVar 0) (tCons (tVar 1) tNil))) (gName 3))
    (tSeq (tFor (xRng1 (xLen K (tVar 0))) (gName 4) (sApp K 2 (tVar 4)))
    (tSeq (tFor (xItT K (tVar 3)) (gTup K 2 (gCons (gName 5) (gCons (gName 6) gNil))) (tSeq (tAsg (xMin (xIxL K (tVar 2) (tVar 5)) (xIxL K (tVar 2) (tVar 6))) (gName 7))
    (tSeq (tAsg (xMax (xIxL K (tVar 2) (tVar 5)) (xIxL K (tVar 2) (tVar 6))) (gName 8))
    (tAsg (tLc (xItL K (tVar 2)) (gName 9) tYes (tIf (tB (xEq (tVar 9) (tVar 8))) (tVar 7) (tVar 9)) [9]) (gName 2)))))
    (tSeq (tAsg (xLst tNil) (gName 10))
    (tSeq (tFor (xRng1 (xLen K (tVar 0))) (gName 9) (tIfS (tB (xIn K (tVar 9) (tVar 2))) (sApp K 10 (xTupOf K (tLc (xRng1 (xLen K (tVar 0))) (gName 4) (tB (xEq (xIxL K (tVar 2) (tVar 4)) (tVar 9))) (tVar 4) [4]))) tNext))
    (tRet (xTupOf K (tVar 10)))))))))
def N_idle_houses : List Str := ["sizes", "table", "house"]
def t_idle_houses (K : PySem.W.Frag) (sp_a_want sp_is_sizes sp_is_table sp_is_idle : Sp) : TS :=
  (tSeq (tDrop (xCall sp_a_want (tCons (xCall sp_is_sizes (tCons (tVar 0) tNil)) (tCons (xStr "sizes") tNil))))
    (tSeq (tDrop (xCall sp_a_want (tCons (xCall sp_is_table (tCons (tVar 0) (tCons (tVar 1) tNil))) (tCons (xStr "table") tNil))))
    (tRet (xTupOf K (tLc (xRng1 (xLen K (tVar 0))) (gName 2) (tB (xCall sp_is_idle (tCons (tVar 0) (tCons (tVar 1) (tCons (tVar 2) tNil))))) (tVar 2) [2])))))
def N_is_idle : List Str := ["sizes", "table", "house", "span", "place", "near", "choice"]
def t_is_idle (K : PySem.W.Frag) (sp_spans_of sp_corner_places : Sp) : TS :=
  (tSeq (tAsg (xIxL K (xCall sp_spans_of (tCons (tVar 0) tNil)) (tVar 2)) (gName 3))
    (tSeq (tFor (xItL K (xCall sp_corner_places (tCons (tVar 0) (tCons (tLc (xRng1 (xLen K (tVar 0))) (gName 5) (tB (xNe (tVar 5) (tVar 2))) (tVar 5) [5]) tNil)))) (gName 4) (tFor (xRng2 (xNat 1) (xIxT K (tVar 0) (tVar 2))) (gName 6) (tIfS (tB (xNe (xIxT K (tVar 1) (xAdd (tVar 4) (xMul (tVar 6) (tVar 3)))) (xIxT K (tVar 1) (tVar 4)))) (tRet (xBl false)) tNext)))
    (tRet (xBl true))))
def N_is_four : List Str := ["sizes", "thing", "setting", "one", "first", "other", "second"]
def t_is_four (K : PySem.W.Frag) (sp_a_want sp_is_sizes sp_is_setting sp_is_change : Sp) : TS :=
  (tSeq (tDrop (xCall sp_a_want (tCons (xCall sp_is_sizes (tCons (tVar 0) tNil)) (tCons (xStr "sizes") tNil))))
    (tSeq (tIfS (tOr (tNot (tB (xIsi K (tVar 1) (xTy "tuple")))) (tOr (tB (xNe (xLen K (tVar 1)) (xNat 5))) (tNot (tB (xCall sp_is_setting (tCons (tVar 0) (tCons (xIxT K (tVar 1) (xNat 0)) tNil))))))) (tRet (xBl false)) tNext)
    (tSeq (tAsg (tVar 1) (gTup K 5 (gCons (gName 2) (gCons (gName 3) (gCons (gName 4) (gCons (gName 5) (gCons (gName 6) gNil)))))))
    (tRet (xAnd (xCall sp_is_change (tCons (tVar 0) (tCons (tVar 2) (tCons (tVar 3) (tCons (tVar 4) tNil))))) (xAnd (xCall sp_is_change (tCons (tVar 0) (tCons (tVar 2) (tCons (tVar 5) (tCons (tVar 6) tNil))))) (xNe (tVar 3) (tVar 5))))))))
def N_is_change : List Str := ["sizes", "setting", "house", "choice"]
def t_is_change (K : PySem.W.Frag) (sp_is_number : Sp) : TS :=
  (tSeq (tIfS (tOr (tNot (tB (xCall sp_is_number (tCons (tVar 2) tNil)))) (tOr (tB (xGe (tVar 2) (xLen K (tVar 0)))) (tNot (tB (xCall sp_is_number (tCons (tVar 3) tNil)))))) (tRet (xBl false)) tNext)
    (tRet (xAnd (xLt (tVar 3) (xIxT K (tVar 0) (tVar 2))) (xNe (tVar 3) (xIxT K (tVar 1) (tVar 2))))))
def N_changed : List Str := ["setting", "house", "choice"]
def t_changed (K : PySem.W.Frag) : TS :=
  (tRet (xCatT K (xCatT K (xSlT K (tVar 0) tNoPart (xPart (tVar 1))) (xTup (tCons (tVar 2) tNil))) (xSlT K (tVar 0) (xPart (xAdd (tVar 1) (xNat 1))) tNoPart)))
def N_four_settings : List Str := ["sizes", "four", "setting", "one", "first", "other", "second", "near"]
def t_four_settings (K : PySem.W.Frag) (sp_a_want sp_is_sizes sp_is_four sp_changed : Sp) : TS :=
  (tSeq (tDrop (xCall sp_a_want (tCons (xCall sp_is_sizes (tCons (tVar 0) tNil)) (tCons (xStr "sizes") tNil))))
    (tSeq (tDrop (xCall sp_a_want (tCons (xCall sp_is_four (tCons (tVar 0) (tCons (tVar 1) tNil))) (tCons (xStr "four") tNil))))
    (tSeq (tAsg (tVar 1) (gTup K 5 (gCons (gName 2) (gCons (gName 3) (gCons (gName 4) (gCons (gName 5) (gCons (gName 6) gNil)))))))
    (tSeq (tAsg (xCall sp_changed (tCons (tVar 2) (tCons (tVar 3) (tCons (tVar 4) tNil)))) (gName 7))
    (tRet (xTup (tCons (tVar 2) (tCons (tVar 7) (tCons (xCall sp_changed (tCons (tVar 2) (tCons (tVar 5) (tCons (tVar 6) tNil)))) (tCons (xCall sp_changed (tCons (tVar 7) (tCons (tVar 5) (tCons (tVar 6) tNil)))) tNil))))))))))
def N_is_odd : List Str := ["sizes", "table", "four", "total", "setting"]
def t_is_odd (K : PySem.W.Frag) (sp_a_want sp_is_sizes sp_is_table sp_is_four sp_four_settings sp_place_by : Sp) : TS :=
  (tSeq (tDrop (xCall sp_a_want (tCons (xCall sp_is_sizes (tCons (tVar 0) tNil)) (tCons (xStr "sizes") tNil))))
    (tSeq (tDrop (xCall sp_a_want (tCons (xCall sp_is_table (tCons (tVar 0) (tCons (tVar 1) tNil))) (tCons (xStr "table") tNil))))
    (tSeq (tDrop (xCall sp_a_want (tCons (xCall sp_is_four (tCons (tVar 0) (tCons (tVar 2) tNil))) (tCons (xStr "four") tNil))))
    (tSeq (tAsg (xNat 0) (gName 3))
    (tSeq (tFor (xItT K (xCall sp_four_settings (tCons (tVar 0) (tCons (tVar 2) tNil)))) (gName 4) (tAsg (xXor (tVar 3) (xIxT K (tVar 1) (xCall sp_place_by (tCons (tVar 0) (tCons (tVar 4) tNil))))) (gName 3)))
    (tRet (xEq (tVar 3) (xNat 1))))))))
def N_is_seam : List Str := ["sizes", "table", "lot", "one", "other"]
def t_is_seam (K : PySem.W.Frag) (sp_a_want sp_is_sizes sp_is_table sp_is_lot sp_knit_pairs : Sp) : TS :=
  (tSeq (tDrop (xCall sp_a_want (tCons (xCall sp_is_sizes (tCons (tVar 0) tNil)) (tCons (xStr "sizes") tNil))))
    (tSeq (tDrop (xCall sp_a_want (tCons (xCall sp_is_table (tCons (tVar 0) (tCons (tVar 1) tNil))) (tCons (xStr "table") tNil))))
    (tSeq (tDrop (xCall sp_a_want (tCons (xCall sp_is_lot (tCons (xLen K (tVar 0)) (tCons (tVar 2) tNil))) (tCons (xStr "lot") tNil))))
    (tSeq (tFor (xItT K (xCall sp_knit_pairs (tCons (tVar 0) (tCons (tVar 1) tNil)))) (gTup K 2 (gCons (gName 3) (gCons (gName 4) gNil))) (tIfS (tB (xNe (xIn K (tVar 3) (tVar 2)) (xIn K (tVar 4) (tVar 2)))) (tRet (xBl false)) tNext))
    (tRet (xBl true))))))
def N_law_row : List Str := ["_law_script", "_law_many", "_law_k", "_law_seed", "_law_row_here", "_law_cell", "_law_big", "_law_mixed"]
def t_law_row (K : PySem.W.Frag) : TS :=
  (tSeq (tIfS (tB (xEq (xLen K (tVar 0)) (xNat 0))) (tRet (tLc (xRng1 (tVar 1)) (gName 2) tYes (xAdd (tVar 2) (xNat 1)) [2])) tNext)
    (tSeq (tAsg (xNat 2477) (gName 3))
    (tSeq (tAsg (xLst tNil) (gName 4))
    (tSeq (tFor (xItL K (tVar 0)) (gName 5) (tSeq (tAsg (xMod (xIntOf (xAdd (xMul (tVar 3) (xNat 50021)) (tVar 5))) (xNat 2147483629)) (gName 3))
    (tSeq (tAsg (xAbs (tVar 5)) (gName 6))
    (tIfS (tB (xGe (tVar 6) (xNat 1000000000000000000))) (tFor (xRng1 (xNat 60)) (gName 2) (tIfS (tB (xGt (tVar 6) (xNat 0))) (tSeq (sApp K 4 (xMod (xIntOf (tVar 6)) (xNat 5040)))
    (tAsg (xFdiv (tVar 6) (xNat 5040)) (gName 6))) tNext)) tNext))))
    (tSeq (tFor (xRng1 (tVar 1)) (gName 2) (tSeq (tAsg (xMod (xIntOf (xAdd (xAdd (xMul (tVar 3) (xNat 39373)) (xNat 77)) (tVar 2))) (xNat 2147483629)) (gName 3))
    (tSeq (tAsg (xMod (xIntOf (xAdd (xAdd (xMul (tVar 3) (tVar 3)) (xFdiv (tVar 3) (xNat 6421))) (xNat 5))) (xNat 2147483587)) (gName 7))
    (sApp K 4 (xMod (xIntOf (xFdiv (tVar 7) (xNat 83))) (xNat 5040))))))
    (tRet (tVar 4)))))))
def N_law_same : List Str := ["_law_a", "_law_b", "_law_k"]
def t_law_same (K : PySem.W.Frag) (sp_law_same : Sp) : TS :=
  (tSeq (tIfS (tB (xIsi K (tVar 1) (xTy "tuple"))) (tSeq (tIfS (tOr (tNot (tB (xIsi K (tVar 0) (xTy "tuple")))) (tB (xNe (xLen K (tVar 0)) (xLen K (tVar 1))))) (tRet (xBl false)) tNext)
    (tSeq (tFor (xRng1 (xLen K (tVar 1))) (gName 2) (tIfS (tNot (tB (xCall sp_law_same (tCons (xIxT K (tVar 0) (tVar 2)) (tCons (xIxT K (tVar 1) (tVar 2)) tNil))))) (tRet (xBl false)) tNext))
    (tRet (xBl true)))) tNext)
    (tSeq (tIfS (tB (xIsN (tVar 1))) (tRet (xIsN (tVar 0))) tNext)
    (tSeq (tIfS (tB (xIsi K (tVar 1) (xTy "bool"))) (tRet (xAnd (xIsi K (tVar 0) (xTy "bool")) (xEq (tVar 0) (tVar 1)))) tNext)
    (tSeq (tIfS (tB (xIsi K (tVar 1) (xTy "int"))) (tRet (xAnd (xIsi K (tVar 0) (xTy "int")) (xAnd (xNot (xIsi K (tVar 0) (xTy "bool"))) (xEq (tVar 0) (tVar 1))))) tNext)
    (tRet (xAnd (xIsi K (tVar 0) (xTy "str")) (xEq (tVar 0) (tVar 1))))))))
def N_law_settings : List Str := ["_law_s", "_law_rows", "_law_many", "_law_more", "_law_x", "_law_c"]
def t_law_settings (K : PySem.W.Frag) : TS :=
  (tSeq (tAsg (xLst (tCons (xTup tNil) tNil)) (gName 1))
    (tSeq (tFor (xItT K (tVar 0)) (gName 2) (tSeq (tAsg (xLst tNil) (gName 3))
    (tSeq (tFor (xItL K (tVar 1)) (gName 4) (tFor (xRng1 (tVar 2)) (gName 5) (sApp K 3 (xCatT K (tVar 4) (xTup (tCons (tVar 5) tNil))))))
    (tAsg (xListOf K (tVar 3)) (gName 1)))))
    (tRet (tVar 1))))
def N_law_steps : List Str := ["_law_s", "_law_steps_here", "_law_k", "_law_h"]
def t_law_steps (K : PySem.W.Frag) : TS :=
  (tSeq (tAsg (xRep (xLst (tCons (xNat 1) tNil)) (xLen K (tVar 0))) (gName 1))
    (tSeq (tFor (xRng2 (xNat 1) (xLen K (tVar 0))) (gName 2) (tSeq (tAsg (xSub (xSub (xLen K (tVar 0)) (xNat 1)) (tVar 2)) (gName 3))
    (sSet 1 (tVar 3) (xMul (xIxL K (tVar 1) (xAdd (tVar 3) (xNat 1))) (xIxT K (tVar 0) (xAdd (tVar 3) (xNat 1)))))))
    (tRet (tVar 1))))
def N_law_sizes : List Str := ["_law_row_here", "_law_n", "_law_cap", "_law_s", "_law_product", "_law_k", "_law_c", "_law_turn"]
def t_law_sizes (K : PySem.W.Frag) : TS :=
  (tSeq (tAsg (xAdd (xNat 1) (xMod (xIntOf (xIxL K (tVar 0) (xNat 0))) (xNat 6))) (gName 1))
    (tSeq (tAsg (xNat 16) (gName 2))
    (tSeq (tIfS (tB (xEq (xMod (xIntOf (xIxL K (tVar 0) (xNat 1))) (xNat 8)) (xNat 2))) (tAsg (xNat 64) (gName 2)) tNext)
    (tSeq (tIfS (tB (xEq (xMod (xIntOf (xIxL K (tVar 0) (xNat 1))) (xNat 8)) (xNat 5))) (tAsg (xNat 32) (gName 2)) tNext)
    (tSeq (tAsg (xLst tNil) (gName 3))
    (tSeq (tAsg (xNat 1) (gName 4))
    (tSeq (tFor (xRng1 (tVar 1)) (gName 5) (tSeq (tAsg (xIxL K (xLst (tCons (xNat 2) (tCons (xNat 3) (tCons (xNat 2) (tCons (xNat 1) (tCons (xNat 2) (tCons (xNat 4) tNil))))))) (xMod (xIntOf (xIxL K (tVar 0) (xAdd (xNat 2) (tVar 5)))) (xNat 6))) (gName 6))
    (tSeq (tFor (xRng1 (xNat 3)) (gName 7) (tIfS (tB (xGt (xMul (tVar 4) (tVar 6)) (tVar 2))) (tAsg (xSub (tVar 6) (xNat 1)) (gName 6)) tNext))
    (tSeq (tAsg (xMul (tVar 4) (tVar 6)) (gName 4))
    (sApp K 3 (tVar 6))))))
    (tSeq (tIfS (tB (xEq (xMod (xIntOf (xIxL K (tVar 0) (xNat 8))) (xNat 2)) (xNat 1))) (tAsg (xRevL K (tVar 3)) (gName 3)) tNext)
    (tRet (xTupOf K (tVar 3)))))))))))
def N_law_on : List Str := ["_law_s", "_law_steps_here", "_law_l", "_law_x", "_law_h"]
def t_law_on_L (K : PySem.W.Frag) : TS :=
  (tRet (xSum K (tLc (xItL K (tVar 2)) (gName 4) tYes (xMul (xIxT K (tVar 3) (tVar 4)) (xIxL K (tVar 1) (tVar 4))) [4])))
def t_law_on_T (K : PySem.W.Frag) : TS :=
  (tRet (xSum K (tLc (xItT K (tVar 2)) (gName 4) tYes (xMul (xIxT K (tVar 3) (tVar 4)) (xIxL K (tVar 1) (tVar 4))) [4])))
def N_law_summed : List Str := ["_law_row_here", "_law_s", "_law_start", "_law_rows", "_law_steps_here", "_law_t", "_law_turn", "_law_l", "_law_h", "_law_k"]
def t_law_summed (K : PySem.W.Frag) (sp_law_settings sp_law_steps sp_law_on_L : Sp) : TS :=
  (tSeq (tAsg (xCall sp_law_settings (tCons (tVar 1) tNil)) (gName 3))
    (tSeq (tAsg (xCall sp_law_steps (tCons (tVar 1) tNil)) (gName 4))
    (tSeq (tAsg (xRep (xLst (tCons (xMod (xIntOf (xIxL K (tVar 0) (tVar 2))) (xNat 2)) tNil)) (xLen K (tVar 3))) (gName 5))
    (tSeq (tFor (xRng1 (xNat 3)) (gName 6) (tSeq (tAsg (tLc (xRng1 (xLen K (tVar 1))) (gName 8) (tB (xEq (xMod (xFdiv (xIxL K (tVar 0) (xAdd (xAdd (tVar 2) (xNat 1)) (tVar 8))) (xNat 2)) (xNat 3)) (tVar 6))) (tVar 8) [8]) (gName 7))
    (tFor (xRng1 (xLen K (tVar 3))) (gName 9) (sSet 5 (tVar 9) (xMod (xIntOf (xAdd (xIxL K (tVar 5) (tVar 9)) (xFdiv (xIxL K (tVar 0) (xAdd (xAdd (xAdd (tVar 2) (xNat 10)) (tVar 6)) (xCall sp_law_on_L (tCons (tVar 1) (tCons (tVar 4) (tCons (tVar 7) (tCons (xIxL K (tVar 3) (tVar 9)) tNil))))))) (xNat 7)))) (xNat 2))))))
    (tRet (tVar 5))))))
def N_law_by_terms : List Str := ["_law_row_here", "_law_s", "_law_start", "_law_rows", "_law_t", "_law_turn", "_law_pick", "_law_l", "_law_h", "_law_k", "_law_hit"]
def t_law_by_terms (K : PySem.W.Frag) (sp_law_settings : Sp) : TS :=
  (tSeq (tAsg (xCall sp_law_settings (tCons (tVar 1) tNil)) (gName 3))
    (tSeq (tAsg (xRep (xLst (tCons (xMod (xIntOf (xIxL K (tVar 0) (tVar 2))) (xNat 2)) tNil)) (xLen K (tVar 3))) (gName 4))
    (tSeq (tFor (xRng1 (xNat 4)) (gName 5) (tSeq (tAsg (xIxL K (tVar 0) (xAdd (xAdd (tVar 2) (xNat 1)) (tVar 5))) (gName 6))
    (tSeq (tAsg (tLc (xRng1 (xLen K (tVar 1))) (gName 8) (tB (xEq (xMod (xFdiv (xIxL K (tVar 0) (xAdd (xAdd (xAdd (tVar 2) (xNat 5)) (xMul (xNat 6) (tVar 5))) (tVar 8))) (xNat 2)) (xNat 3)) (xNat 1))) (tVar 8) [8]) (gName 7))
    (tSeq (tAsg (xSlL K (tVar 7) tNoPart (xPart (xAdd (xNat 1) (xMod (xIntOf (tVar 6)) (xNat 3))))) (gName 7))
    (tIfS (tB (xGt (xMod (xFdiv (tVar 6) (xNat 3)) (xNat 4)) (xNat 0))) (tFor (xRng1 (xLen K (tVar 3))) (gName 9) (tSeq (tAsg (xSum K (tLc (xItL K (tVar 7)) (gName 8) (tB (xEq (xIxT K (xIxL K (tVar 3) (tVar 9)) (tVar 8)) (xAdd (xNat 1) (xMod (xIntOf (xFdiv (xIxL K (tVar 0) (xAdd (xAdd (xAdd (tVar 2) (xNat 5)) (xMul (xNat 6) (tVar 5))) (tVar 8))) (xNat 6))) (xNat 3))))) (xNat 1) [8])) (gName 10))
    (tIfS (tB (xEq (tVar 10) (xLen K (tVar 7)))) (sSet 4 (tVar 9) (xSub (xNat 1) (xIxL K (tVar 4) (tVar 9)))) tNext))) tNext)))))
    (tRet (tVar 4)))))
def N_law_table : List Str := ["_law_row_here", "_law_s", "_law_start", "_law_many", "_law_mode", "_law_t", "_law_k"]
def t_law_table (K : PySem.W.Frag) (sp_law_settings sp_law_summed sp_law_by_terms : Sp) : TS :=
  (tSeq (tAsg (xLen K (xCall sp_law_settings (tCons (tVar 1) tNil))) (gName 3))
    (tSeq (tAsg (xMod (xIntOf (xIxL K (tVar 0) (xAdd (tVar 2) (xNat 29)))) (xNat 8)) (gName 4))
    (tSeq (tIfS (tB (xLt (tVar 4) (xNat 3))) (tAsg (xCall sp_law_summed (tCons (tVar 0) (tCons (tVar 1) (tCons (tVar 2) tNil)))) (gName 5)) (tIfS (tB (xLt (tVar 4) (xNat 6))) (tAsg (xCall sp_law_by_terms (tCons (tVar 0) (tCons (tVar 1) (tCons (tVar 2) tNil)))) (gName 5)) (tIfS (tB (xEq (tVar 4) (xNat 6))) (tAsg (tLc (xRng1 (tVar 3)) (gName 6) tYes (xMod (xIntOf (xFdiv (xIxL K (tVar 0) (xAdd (xAdd (tVar 2) (xNat 10)) (tVar 6))) (xNat 7))) (xNat 2)) [6]) (gName 5)) (tAsg (xRep (xLst (tCons (xMod (xIntOf (xIxL K (tVar 0) (tVar 2))) (xNat 2)) tNil)) (tVar 3)) (gName 5)))))
    (tSeq (tIfS (tB (xIn K (tVar 4) (xTup (tCons (xNat 2) (tCons (xNat 7) tNil))))) (tSeq (tAsg (xMod (xIntOf (xIxL K (tVar 0) (xAdd (tVar 2) (xNat 28)))) (tVar 3)) (gName 6))
    (sSet 5 (tVar 6) (xSub (xNat 1) (xIxL K (tVar 5) (tVar 6))))) tNext)
    (tRet (xTupOf K (tVar 5)))))))
def N_law_odd_sum : List Str := ["_law_t", "_law_p", "_law_up", "_law_across"]
def t_law_odd_sum (K : PySem.W.Frag) : TS :=
  (tRet (xEq (xMod (xAdd (xAdd (xAdd (xIxT K (tVar 0) (tVar 1)) (xIxT K (tVar 0) (xAdd (tVar 1) (tVar 2)))) (xIxT K (tVar 0) (xAdd (tVar 1) (tVar 3)))) (xIxT K (tVar 0) (xAdd (xAdd (tVar 1) (tVar 2)) (tVar 3)))) (xNat 2)) (xNat 1)))
def N_law_knit : List Str := ["_law_s", "_law_t", "_law_i", "_law_j", "_law_steps_here", "_law_rows", "_law_k", "_law_x", "_law_a", "_law_b"]
def t_law_knit (K : PySem.W.Frag) (sp_law_steps sp_law_settings sp_law_odd_sum : Sp) : TS :=
  (tSeq (tAsg (xCall sp_law_steps (tCons (tVar 0) tNil)) (gName 4))
    (tSeq (tAsg (xCall sp_law_settings (tCons (tVar 0) tNil)) (gName 5))
    (tSeq (tFor (xRng1 (xLen K (tVar 5))) (gName 6) (tSeq (tAsg (xIxL K (tVar 5) (tVar 6)) (gName 7))
    (tFor (xRng2 (xAdd (xIxT K (tVar 7) (tVar 2)) (xNat 1)) (xIxT K (tVar 0) (tVar 2))) (gName 8) (tFor (xRng2 (xAdd (xIxT K (tVar 7) (tVar 3)) (xNat 1)) (xIxT K (tVar 0) (tVar 3))) (gName 9) (tIfS (tB (xCall sp_law_odd_sum (tCons (tVar 1) (tCons (tVar 6) (tCons (xMul (xSub (tVar 8) (xIxT K (tVar 7) (tVar 2))) (xIxL K (tVar 4) (tVar 2))) (tCons (xMul (xSub (tVar 9) (xIxT K (tVar 7) (tVar 3))) (xIxL K (tVar 4) (tVar 3))) tNil)))))) (tRet (xBl true)) tNext)))))
    (tRet (xBl false)))))
def N_law_classes : List Str := ["_law_n", "_law_pairs", "_law_label", "_law_i", "_law_j", "_law_low", "_law_high", "_law_c", "_law_classes_here", "_law_members", "_law_h"]
def t_law_classes (K : PySem.W.Frag) : TS :=
  (tSeq (tAsg (xListRg (tVar 0)) (gName 2))
    (tSeq (tFor (xItL K (tVar 1)) (gTup K 2 (gCons (gName 3) (gCons (gName 4) gNil))) (tSeq (tAsg (xMin (xIxL K (tVar 2) (tVar 3)) (xIxL K (tVar 2) (tVar 4))) (gName 5))
    (tSeq (tAsg (xMax (xIxL K (tVar 2) (tVar 3)) (xIxL K (tVar 2) (tVar 4))) (gName 6))
    (tAsg (tLc (xItL K (tVar 2)) (gName 7) tYes (tIf (tB (xEq (tVar 7) (tVar 6))) (tVar 5) (tVar 7)) [7]) (gName 2)))))
    (tSeq (tAsg (xLst tNil) (gName 8))
    (tSeq (tFor (xRng1 (tVar 0)) (gName 7) (tSeq (tAsg (xTupOf K (tLc (xRng1 (tVar 0)) (gName 10) (tB (xEq (xIxL K (tVar 2) (tVar 10)) (tVar 7))) (tVar 10) [10])) (gName 9))
    (tIfS (tB (xGt (xLen K (tVar 9)) (xNat 0))) (sApp K 8 (tVar 9)) tNext)))
    (tRet (xTupOf K (xSorted K (tVar 8))))))))
def N_law_lots : List Str := ["_law_n", "_law_lots_here", "_law_h", "_law_l"]
def t_law_lots (K : PySem.W.Frag) : TS :=
  (tSeq (tAsg (xLst (tCons (xTup tNil) tNil)) (gName 1))
    (tSeq (tFor (xRng1 (tVar 0)) (gName 2) (tAsg (xCatL (tVar 1) (tLc (xItL K (tVar 1)) (gName 3) tYes (xCatT K (tVar 3) (xTup (tCons (tVar 2) tNil))) [3])) (gName 1)))
    (tRet (tVar 1))))
def N_law_seam : List Str := ["_law_s", "_law_t", "_law_l", "_law_steps_here", "_law_rows", "_law_k", "_law_p"]
def t_law_seam (K : PySem.W.Frag) (sp_law_steps sp_law_settings sp_law_on_T : Sp) : TS :=
  (tSeq (tAsg (xCall sp_law_steps (tCons (tVar 0) tNil)) (gName 3))
    (tSeq (tAsg (xCall sp_law_settings (tCons (tVar 0) tNil)) (gName 4))
    (tSeq (tFor (xRng1 (xLen K (tVar 4))) (gName 5) (tSeq (tAsg (xCall sp_law_on_T (tCons (tVar 0) (tCons (tVar 3) (tCons (tVar 2) (tCons (xIxL K (tVar 4) (tVar 5)) tNil))))) (gName 6))
    (tIfS (tB (xEq (xMod (xAdd (xAdd (xAdd (xIxT K (tVar 1) (tVar 5)) (xIxT K (tVar 1) (tVar 6))) (xIxT K (tVar 1) (xSub (tVar 5) (tVar 6)))) (xIxT K (tVar 1) (xNat 0))) (xNat 2)) (xNat 1))) (tRet (xBl false)) tNext)))
    (tRet (xBl true)))))
def N_law_four_right : List Str := ["_law_s", "_law_t", "_law_i", "_law_j", "_law_told", "_law_k", "_law_c", "_law_h", "_law_steps_here", "_law_p", "_law_up", "_law_across"]
def t_law_four_right (K : PySem.W.Frag) (sp_law_same sp_law_steps sp_law_on_L sp_law_odd_sum sp_is_odd : Sp) : TS :=
  (tSeq (tIfS (tOr (tNot (tB (xIsi K (tVar 4) (xTy "tuple")))) (tOr (tB (xNe (xLen K (tVar 4)) (xNat 5))) (tOr (tNot (tB (xIsi K (xIxT K (tVar 4) (xNat 0)) (xTy "tuple")))) (tB (xNe (xLen K (xIxT K (tVar 4) (xNat 0))) (xLen K (tVar 0))))))) (tRet (xBl false)) tNext)
    (tSeq (tIfS (tOr (tNot (tB (xCall sp_law_same (tCons (xIxT K (tVar 4) (xNat 1)) (tCons (tVar 2) tNil))))) (tNot (tB (xCall sp_law_same (tCons (xIxT K (tVar 4) (xNat 3)) (tCons (tVar 3) tNil)))))) (tRet (xBl false)) tNext)
    (tSeq (tFor (xRng1 (xLen K (tVar 0))) (gName 5) (tSeq (tAsg (xIxT K (xIxT K (tVar 4) (xNat 0)) (tVar 5)) (gName 6))
    (tIfS (tOr (tNot (tB (xIsi K (tVar 6) (xTy "int")))) (tOr (tB (xIsi K (tVar 6) (xTy "bool"))) (tOr (tB (xLt (tVar 6) (xNat 0))) (tB (xGe (tVar 6) (xIxT K (tVar 0) (tVar 5))))))) (tRet (xBl false)) tNext)))
    (tSeq (tFor (xItT K (xTup (tCons (xTup (tCons (tVar 2) (tCons (xIxT K (tVar 4) (xNat 2)) tNil))) (tCons (xTup (tCons (tVar 3) (tCons (xIxT K (tVar 4) (xNat 4)) tNil))) tNil)))) (gTup K 2 (gCons (gName 7) (gCons (gName 6) gNil))) (tIfS (tOr (tNot (tB (xIsi K (tVar 6) (xTy "int")))) (tOr (tB (xIsi K (tVar 6) (xTy "bool"))) (tOr (tB (xLt (tVar 6) (xNat 0))) (tOr (tB (xGe (tVar 6) (xIxT K (tVar 0) (tVar 7)))) (tB (xEq (tVar 6) (xIxT K (xIxT K (tVar 4) (xNat 0)) (tVar 7)))))))) (tRet (xBl false)) tNext))
    (tSeq (tAsg (xCall sp_law_steps (tCons (tVar 0) tNil)) (gName 8))
    (tSeq (tAsg (xCall sp_law_on_L (tCons (tVar 0) (tCons (tVar 8) (tCons (xListRg (xLen K (tVar 0))) (tCons (xIxT K (tVar 4) (xNat 0)) tNil))))) (gName 9))
    (tSeq (tAsg (xMul (xSub (xIxT K (tVar 4) (xNat 2)) (xIxT K (xIxT K (tVar 4) (xNat 0)) (tVar 2))) (xIxL K (tVar 8) (tVar 2))) (gName 10))
    (tSeq (tAsg (xMul (xSub (xIxT K (tVar 4) (xNat 4)) (xIxT K (xIxT K (tVar 4) (xNat 0)) (tVar 3))) (xIxL K (tVar 8) (tVar 3))) (gName 11))
    (tRet (xAnd (xCall sp_law_odd_sum (tCons (tVar 1) (tCons (tVar 9) (tCons (tVar 10) (tCons (tVar 11) tNil))))) (xCall sp_law_same (tCons (xCall sp_is_odd (tCons (tVar 0) (tCons (tVar 1) (tCons (tVar 4) tNil)))) (tCons (xBl true) tNil)))))))))))))
def N_law_idle : List Str := ["_law_s", "_law_t", "_law_steps_here", "_law_rows", "_law_idle_here", "_law_h", "_law_k"]
def t_law_idle (K : PySem.W.Frag) (sp_law_steps sp_law_settings : Sp) : TS :=
  (tSeq (tAsg (xCall sp_law_steps (tCons (tVar 0) tNil)) (gName 2))
    (tSeq (tAsg (xCall sp_law_settings (tCons (tVar 0) tNil)) (gName 3))
    (tSeq (tAsg (xLst tNil) (gName 4))
    (tSeq (tFor (xRng1 (xLen K (tVar 0))) (gName 5) (tIfS (tB (xEq (xSum K (tLc (xRng1 (xLen K (tVar 3))) (gName 6) (tB (xNe (xIxT K (tVar 1) (tVar 6)) (xIxT K (tVar 1) (xSub (tVar 6) (xMul (xIxT K (xIxL K (tVar 3) (tVar 6)) (tVar 5)) (xIxL K (tVar 2) (tVar 5))))))) (xNat 1) [6])) (xNat 0))) (sApp K 4 (tVar 5)) tNext))
    (tRet (xTupOf K (tVar 4)))))))
def N_law_pairs_right : List Str := ["_law_s", "_law_t", "_law_n", "_law_pairs", "_law_i", "_law_j", "_law_knit_here", "_law_first", "_law_second", "_law_told", "_law_clumps", "_law_l", "_law_parted", "_law_clump", "_law_inside", "_law_h", "_law_due"]
def t_law_pairs_right (K : PySem.W.Frag) (sp_law_knit sp_law_same sp_are_knit sp_odd_four sp_law_four_right sp_law_classes sp_knit_pairs sp_clumps_of sp_law_lots sp_law_seam sp_is_seam : Sp) : TS :=
  (tSeq (tAsg (xLen K (tVar 0)) (gName 2))
    (tSeq (tAsg (xLst tNil) (gName 3))
    (tSeq (tFor (xRng1 (tVar 2)) (gName 4) (tFor (xRng1 (tVar 2)) (gName 5) (tIfS (tB (xLt (tVar 4) (tVar 5))) (tSeq (tAsg (xCall sp_law_knit (tCons (tVar 0) (tCons (tVar 1) (tCons (tVar 4) (tCons (tVar 5) tNil))))) (gName 6))
    (tSeq (tIfS (tB (tVar 6)) (sApp K 3 (xTup (tCons (tVar 4) (tCons (tVar 5) tNil)))) tNext)
    (tFor (xItT K (xTup (tCons (xTup (tCons (tVar 4) (tCons (tVar 5) tNil))) (tCons (xTup (tCons (tVar 5) (tCons (tVar 4) tNil))) tNil)))) (gTup K 2 (gCons (gName 7) (gCons (gName 8) gNil))) (tSeq (tIfS (tNot (tB (xCall sp_law_same (tCons (xCall sp_are_knit (tCons (tVar 0) (tCons (tVar 1) (tCons (tVar 7) (tCons (tVar 8) tNil))))) (tCons (tVar 6) tNil))))) (tRet (xBl false)) tNext)
    (tSeq (tAsg (xCall sp_odd_four (tCons (tVar 0) (tCons (tVar 1) (tCons (tVar 7) (tCons (tVar 8) tNil))))) (gName 9))
    (tSeq (tIfS (tAnd (tNot (tB (tVar 6))) (tB (xNotN (tVar 9)))) (tRet (xBl false)) tNext)
    (tIfS (tAnd (tB (tVar 6)) (tNot (tB (xCall sp_law_four_right (tCons (tVar 0) (tCons (tVar 1) (tCons (tVar 7) (tCons (tVar 8) (tCons (tVar 9) tNil))))))))) (tRet (xBl false)) tNext))))))) tNext)))
    (tSeq (tAsg (xCall sp_law_classes (tCons (tVar 2) (tCons (tVar 3) tNil))) (gName 10))
    (tSeq (tIfS (tOr (tNot (tB (xCall sp_law_same (tCons (xCall sp_knit_pairs (tCons (tVar 0) (tCons (tVar 1) tNil))) (tCons (xTupOf K (tVar 3)) tNil))))) (tNot (tB (xCall sp_law_same (tCons (xCall sp_clumps_of (tCons (tVar 0) (tCons (tVar 1) tNil))) (tCons (tVar 10) tNil)))))) (tRet (xBl false)) tNext)
    (tSeq (tFor (xItL K (xCall sp_law_lots (tCons (tVar 2) tNil))) (gName 11) (tSeq (tAsg (xNat 0) (gName 12))
    (tSeq (tFor (xItT K (tVar 10)) (gName 13) (tSeq (tAsg (xLen K (tLc (xItT K (tVar 13)) (gName 15) (tB (xIn K (tVar 15) (tVar 11))) (tVar 15) [15])) (gName 14))
    (tIfS (tB (xChLt (xNat 0) (tVar 14) (xLen K (tVar 13)))) (tAsg (xAdd (tVar 12) (xNat 1)) (gName 12)) tNext)))
    (tSeq (tAsg (xCall sp_law_seam (tCons (tVar 0) (tCons (tVar 1) (tCons (tVar 11) tNil)))) (gName 16))
    (tIfS (tOr (tB (xNe (tVar 16) (xEq (tVar 12) (xNat 0)))) (tNot (tB (xCall sp_law_same (tCons (xCall sp_is_seam (tCons (tVar 0) (tCons (tVar 1) (tCons (tVar 11) tNil)))) (tCons (tVar 16) tNil)))))) (tRet (xBl false)) tNext)))))
    (tRet (xBl true))))))))
def N_law : List Str := ["_law_script", "_law_row_here", "_law_s", "_law_t", "_law_due", "_law_clumps", "_law_more", "_law_pairs", "_law_i", "_law_j"]
def t_law (K : PySem.W.Frag) (sp_law_row sp_law_sizes sp_law_table sp_law_pairs_right sp_law_idle sp_law_same sp_idle_houses sp_clumps_of sp_law_knit sp_law_classes sp_knit_pairs : Sp) : TS :=
  (tSeq (tAsg (xCall sp_law_row (tCons (tVar 0) (tCons (xNat 190) tNil))) (gName 1))
    (tSeq (tAsg (xCall sp_law_sizes (tCons (tVar 1) tNil)) (gName 2))
    (tSeq (tAsg (xCall sp_law_table (tCons (tVar 1) (tCons (tVar 2) (tCons (xNat 9) tNil)))) (gName 3))
    (tSeq (tIfS (tNot (tB (xCall sp_law_pairs_right (tCons (tVar 2) (tCons (tVar 3) tNil))))) (tRet (xBl false)) tNext)
    (tSeq (tAsg (xCall sp_law_idle (tCons (tVar 2) (tCons (tVar 3) tNil))) (gName 4))
    (tSeq (tIfS (tNot (tB (xCall sp_law_same (tCons (xCall sp_idle_houses (tCons (tVar 2) (tCons (tVar 3) tNil))) (tCons (tVar 4) tNil))))) (tRet (xBl false)) tNext)
    (tSeq (tAsg (xCall sp_clumps_of (tCons (tVar 2) (tCons (tVar 3) tNil))) (gName 5))
    (tSeq (tAsg (xCall sp_law_table (tCons (tVar 1) (tCons (tVar 2) (tCons (xNat 100) tNil)))) (gName 6))
    (tSeq (tIfS (tNot (tB (xCall sp_law_same (tCons (xCall sp_idle_houses (tCons (tVar 2) (tCons (tVar 6) tNil))) (tCons (xCall sp_law_idle (tCons (tVar 2) (tCons (tVar 6) tNil))) tNil))))) (tRet (xBl false)) tNext)
    (tSeq (tAsg (xLst tNil) (gName 7))
    (tSeq (tFor (xRng1 (xLen K (tVar 2))) (gName 8) (tFor (xRng2 (xAdd (tVar 8) (xNat 1)) (xLen K (tVar 2))) (gName 9) (tIfS (tB (xCall sp_law_knit (tCons (tVar 2) (tCons (tVar 6) (tCons (tVar 8) (tCons (tVar 9) tNil)))))) (sApp K 7 (xTup (tCons (tVar 8) (tCons (tVar 9) tNil)))) tNext)))
    (tSeq (tIfS (tOr (tNot (tB (xCall sp_law_same (tCons (xCall sp_clumps_of (tCons (tVar 2) (tCons (tVar 6) tNil))) (tCons (xCall sp_law_classes (tCons (xLen K (tVar 2)) (tCons (tVar 7) tNil))) tNil))))) (tNot (tB (xCall sp_law_same (tCons (xCall sp_knit_pairs (tCons (tVar 2) (tCons (tVar 6) tNil))) (tCons (xTupOf K (tVar 7)) tNil)))))) (tRet (xBl false)) tNext)
    (tRet (xAnd (xCall sp_law_same (tCons (xCall sp_clumps_of (tCons (tVar 2) (tCons (tVar 3) tNil))) (tCons (tVar 5) tNil))) (xCall sp_law_same (tCons (xCall sp_idle_houses (tCons (tVar 2) (tCons (tVar 3) tNil))) (tCons (tVar 4) tNil)))))))))))))))))
end Ck
set_option Elab.async false
set_option linter.all false
set_option maxRecDepth 100000
set_option maxHeartbeats 4000000
/-! Mi: what the defs compute, in plain Lean; the promises. -/
namespace Ck
open PySem PySem.Spec PyProof.Rows L2 Evl
/-! ### settings by places -/
def prodN : List Nat → Nat
  | [] => 1
  | c :: s => c * prodN s
def spansN : List Nat → List Nat
  | [] => []
  | _ :: s => prodN s :: spansN s
def placeN : List Nat → List Nat → Nat
  | _ :: s, a :: x => a * prodN s + placeN s x
  | _, _ => 0
def gN (l : List Nat) (h : Nat) : Nat := l.getD h 0
def tget (t : List Bool) (p : Nat) : Bool := t.getD p false
structure Sz (s : List Nat) : Prop where
  ne : s ≠ []
  pos : ∀ c ∈ s, 1 ≤ c
  few : s.length ≤ 6
  prod : prodN s ≤ 64
def VS (s x : List Nat) : Prop := x.length = s.length ∧ ∀ h, h < s.length → gN x h < gN s h
def sp (s : List Nat) (h : Nat) : Nat := gN (spansN s) h
def restN (n i j : Nat) : List Nat := (List.range n).filter fun h => (!decide (h = i)) && !decide (h = j)
def rest1 (n i : Nat) : List Nat := (List.range n).filter fun h => !decide (h = i)
def cornerStep (s : List Nat) (ps : List Nat) (h : Nat) : List Nat := ps.flatMap fun p => (List.range (gN s h)).map fun c => p + c * sp s h
def cornersN (s lot : List Nat) : List Nat := lot.foldl (cornerStep s) [0]
def settingN (s : List Nat) (p : Nat) : List Nat := (List.range s.length).map fun h => p / sp s h % gN s h
def rowStep (rows : List (List Nat)) (c : Nat) : List (List Nat) := rows.flatMap fun x => (List.range c).map fun a => x ++ [a]
def settingsN (s : List Nat) : List (List Nat) := s.foldl rowStep [[]]
def onN (steps l x : List Nat) : Nat := (l.map fun h => gN x h * gN steps h).sum
def lotsStep (ls : List (List Nat)) (h : Nat) : List (List Nat) := ls ++ ls.map fun l => l ++ [h]
def lotsN (n : Nat) : List (List Nat) := (List.range n).foldl lotsStep [[]]
def xor4 (a b c d : Bool) : Bool := ((a != b) != c) != d
/-! ### fours, by functions -/
def S : Nat → (Nat → Nat) → Nat
  | 0, _ => 0
  | n + 1, g => S n g + g n
def pl (s : List Nat) (f : Nat → Nat) : Nat := S s.length fun h => f h * sp s h
def up (f : Nat → Nat) (i a : Nat) : Nat → Nat := fun h => if h = i then a else f h
def Vf (s : List Nat) (f : Nat → Nat) : Prop := ∀ h, h < s.length → f h < gN s h
def Tf (s : List Nat) (t : List Bool) (f : Nat → Nat) : Bool := tget t (pl s f)
def maskL (L : List Nat) (f : Nat → Nat) : Nat → Nat := fun h => if h ∈ L then f h else 0
def maskR (L : List Nat) (f : Nat → Nat) : Nat → Nat := fun h => if h ∈ L then 0 else f h
def KnitP (s : List Nat) (t : List Bool) (i j : Nat) : Prop := ∃ f a b, Vf s f ∧ a < gN s i ∧ b < gN s j ∧ xor4 (Tf s t f) (Tf s t (up f i a)) (Tf s t (up f j b)) (Tf s t (up (up f i a) j b)) = true
def SeamP (s : List Nat) (t : List Bool) (L : List Nat) : Prop := ∀ f, Vf s f → xor4 (Tf s t f) (Tf s t (maskL L f)) (Tf s t (maskR L f)) (Tf s t fun _ => 0) = false
def IdleP (s : List Nat) (t : List Bool) (h : Nat) : Prop := ∀ f a, Vf s f → a < gN s h → Tf s t (up f h a) = Tf s t f
open Classical in
noncomputable def knitB (s : List Nat) (t : List Bool) (i j : Nat) : Bool := decide (KnitP s t i j)
open Classical in
noncomputable def seamB (s : List Nat) (t : List Bool) (L : List Nat) : Bool := decide (SeamP s t L)
open Classical in
noncomputable def idleB (s : List Nat) (t : List Bool) (h : Nat) : Bool := decide (IdleP s t h)
noncomputable def idleN (s : List Nat) (t : List Bool) : List Nat := (List.range s.length).filter (idleB s t)
/-- the pairs of knit houses, the lesser first -/
def pairsOf' (n : Nat) (k : Nat → Nat → Bool) : List (Nat × Nat) := (List.range n).flatMap fun i => ((List.range n).filter fun j => decide (i < j) && k i j).map fun j => (i, j)
noncomputable def pairsN (s : List Nat) (t : List Bool) : List (Nat × Nat) := pairsOf' s.length (knitB s t)
def joinStep (m : List Nat) (p : Nat × Nat) : List Nat := m.map fun c => if c = max (gN m p.1) (gN m p.2) then min (gN m p.1) (gN m p.2) else c
def marksN (n : Nat) (ps : List (Nat × Nat)) : List Nat := ps.foldl joinStep (List.range n)
def membersN (n : Nat) (m : List Nat) (c : Nat) : List Nat := (List.range n).filter fun h => decide (gN m h = c)
def classesN (n : Nat) (ps : List (Nat × Nat)) : List (List Nat) := ((List.range n).filter fun c => decide (c ∈ marksN n ps)).map (membersN n (marksN n ps))
noncomputable def clumpsN (s : List Nat) (t : List Bool) : List (List Nat) := classesN s.length (pairsN s t)
def crossB (L : List Nat) (p : Nat × Nat) : Bool := decide (p.1 ∈ L) != decide (p.2 ∈ L)
/-! ### shapes -/
abbrev bitD (b : Bool) : Dt := .nat b.toNat
def dN (ns : List Nat) : Dt := .tup (ns.map Dt.nat)
def dB (t : List Bool) : Dt := .tup (t.map bitD)
def dP2 (p : Nat × Nat) : Dt := .tup [.nat p.1, .nat p.2]
def dP (ps : List (Nat × Nat)) : Dt := .tup (ps.map dP2)
def dC (cs : List (List Nat)) : Dt := .tup (cs.map dN)
def sN (ns : List Nat) : Sh := .s (ns.map Dt.nat)
def sI (ns : List Int) : Sh := .s (ns.map Dt.int)
def Tb (s : List Nat) (t : List Bool) : Prop := t.length = prodN s
def LotOk (n : Nat) (l : List Nat) : Prop := l.Pairwise (· < ·) ∧ ∀ h ∈ l, h < n
/-! ### promises -/
section
variable (K : PySem.W.Frag)
def sp_a_want : Sp := Pm K (fun _ : PySem.Str => True) (fun w => [.d (.bl true), .d (.str w)]) fun _ => .d .non
def sp_integer_fits : Sp := Pm K (fun _ : Int => True) (fun a => [.d (.int a)]) fun _ => .d (.bl true)
def sp_number_fits : Sp := Pm K (fun _ : Nat => True) (fun a => [.d (.nat a)]) fun _ => .d (.bl true)
def sp_many_fits : Sp := Pm K (fun _ : Nat => True) (fun a => [.d (.nat a)]) fun a => .d (.bl (decide (1 ≤ a)))
def sp_sizes_fit : Sp := Pm K Sz (fun s => [.d (dN s)]) fun _ => .d (.bl true)
def sp_setting_fits : Sp := Pm K (fun a : List Nat × List Nat => Sz a.1 ∧ VS a.1 a.2) (fun a => [.d (dN a.1), .d (dN a.2)]) fun _ => .d (.bl true)
def sp_house_fits : Sp := Pm K (fun _ : Nat × Nat => True) (fun a => [.d (.nat a.1), .d (.nat a.2)]) fun a => .d (.bl (decide (a.2 < a.1)))
def sp_lot_fits : Sp := Pm K (fun a : Nat × List Nat => LotOk a.1 a.2) (fun a => [.d (.nat a.1), .d (dN a.2)]) fun _ => .d (.bl true)
def sp_spans_of : Sp := Pm K Sz (fun s => [.d (dN s)]) fun s => sN (spansN s)
def sp_many_settings : Sp := Pm K Sz (fun s => [.d (dN s)]) fun s => .d (.nat (prodN s))
def sp_place_by : Sp := Pm K (fun a : List Nat × List Nat => Sz a.1 ∧ VS a.1 a.2) (fun a => [.d (dN a.1), .d (dN a.2)]) fun a => .d (.nat (placeN a.1 a.2))
def sp_setting_by : Sp := Pm K (fun a : List Nat × Nat => Sz a.1) (fun a => [.d (dN a.1), .d (.nat a.2)]) fun a => .d (dN (settingN a.1 a.2))
def sp_corner_places : Sp := Pm K (fun a : List Nat × List Nat => Sz a.1 ∧ a.2.Sublist (List.range a.1.length)) (fun a => [.d (dN a.1), sN a.2]) fun a => sN (cornersN a.1 a.2)
/-- sizes, table, two houses -/
structure Hh where
  s : List Nat
  t : List Bool
  i : Nat
  j : Nat
structure Hh.Ok (a : Hh) : Prop where
  sz : Sz a.s
  tb : Tb a.s a.t
  hi : a.i < a.s.length
  hj : a.j < a.s.length
  ne : a.i ≠ a.j
def Hh.args (a : Hh) : List Sh := [.d (dN a.s), .d (dB a.t), .d (.nat a.i), .d (.nat a.j)]
/-- what odd_spot may tell -/
def SpotRel (a : Hh) : Option (Nat × Nat × Nat) → Prop
  | none => ¬ KnitP a.s a.t a.i a.j
  | some (p, x, y) => ∃ f, Vf a.s f ∧ f a.i = 0 ∧ f a.j = 0 ∧ pl a.s f = p ∧ 1 ≤ x ∧ x < gN a.s a.i ∧ 1 ≤ y ∧ y < gN a.s a.j ∧ xor4 (Tf a.s a.t f) (Tf a.s a.t (up f a.i x)) (Tf a.s a.t (up f a.j y)) (Tf a.s a.t (up (up f a.i x) a.j y)) = true
def spotD : Option (Nat × Nat × Nat) → Dt
  | none => .non
  | some (p, x, y) => .tup [.nat p, .nat x, .nat y]
def sp_odd_spot : Sp := PmR K Hh.Ok Hh.args SpotRel fun r => .d (spotD r)
def sp_is_number : Sp := Pm K (fun _ : Nat => True) (fun a => [.d (.nat a)]) fun _ => .d (.bl true)
def sp_is_bit : Sp := Pm K (fun _ : Bool => True) (fun a => [.d (bitD a)]) fun _ => .d (.bl true)
def sp_is_sizes : Sp := Pm K Sz (fun s => [.d (dN s)]) fun _ => .d (.bl true)
def sp_is_setting : Sp := Pm K (fun a : List Nat × List Nat => Sz a.1 ∧ VS a.1 a.2) (fun a => [.d (dN a.1), .d (dN a.2)]) fun _ => .d (.bl true)
def sp_is_lot : Sp := Pm K (fun a : Nat × List Nat => 1 ≤ a.1 ∧ LotOk a.1 a.2) (fun a => [.d (.nat a.1), .d (dN a.2)]) fun _ => .d (.bl true)
def StOk (a : List Nat × List Bool) : Prop := Sz a.1 ∧ Tb a.1 a.2
def stA (a : List Nat × List Bool) : List Sh := [.d (dN a.1), .d (dB a.2)]
def sp_is_table : Sp := Pm K StOk stA fun _ => .d (.bl true)
def sp_want_houses : Sp := Pm K Hh.Ok Hh.args fun _ => .d .non
/-- what odd_four may tell -/
def fourD (a : Hh) : Option (Nat × Nat × Nat) → Dt
  | none => .non
  | some (p, x, y) => .tup [dN (settingN a.s p), .nat a.i, .nat x, .nat a.j, .nat y]
def FourRel (a : Hh) (d : Dt) : Prop := ∃ r, SpotRel a r ∧ d = fourD a r
def sp_odd_four : Sp := PmR K Hh.Ok Hh.args FourRel fun d => .d d
noncomputable def sp_are_knit : Sp := Pm K Hh.Ok Hh.args fun a => .d (.bl (knitB a.s a.t a.i a.j))
noncomputable def sp_knit_pairs : Sp := Pm K StOk stA fun a => .d (dP (pairsN a.1 a.2))
noncomputable def sp_clumps_of : Sp := Pm K StOk stA fun a => .d (dC (clumpsN a.1 a.2))
noncomputable def sp_idle_houses : Sp := Pm K StOk stA fun a => .d (dN (idleN a.1 a.2))
noncomputable def sp_is_idle : Sp := Pm K (fun a : Hh => Sz a.s ∧ Tb a.s a.t ∧ a.i < a.s.length) (fun a => [.d (dN a.s), .d (dB a.t), .d (.nat a.i)]) fun a => .d (.bl (idleB a.s a.t a.i))
/-- a four: sizes, setting, house, choice, house, choice -/
structure F4 where
  s : List Nat
  x : List Nat
  i : Nat
  a : Nat
  j : Nat
  b : Nat
structure F4.Ok (q : F4) : Prop where
  sz : Sz q.s
  vx : VS q.s q.x
  hi : q.i < q.s.length
  hj : q.j < q.s.length
  ne : q.i ≠ q.j
  ha : q.a < gN q.s q.i
  hb : q.b < gN q.s q.j
  na : q.a ≠ gN q.x q.i
  nb : q.b ≠ gN q.x q.j
def F4.d (q : F4) : Dt := .tup [dN q.x, .nat q.i, .nat q.a, .nat q.j, .nat q.b]
def sp_is_four : Sp := Pm K F4.Ok (fun q => [.d (dN q.s), .d q.d]) fun _ => .d (.bl true)
def sp_is_change : Sp := Pm K (fun q : F4 => Sz q.s ∧ VS q.s q.x ∧ q.i < q.s.length ∧ q.a < gN q.s q.i ∧ q.a ≠ gN q.x q.i) (fun q => [.d (dN q.s), .d (dN q.x), .d (.nat q.i), .d (.nat q.a)]) fun _ => .d (.bl true)
def sp_changed : Sp := Pm K (fun q : List Nat × Nat × Nat => q.2.1 < q.1.length ∧ q.1.length ≤ 6) (fun q => [.d (dN q.1), .d (.nat q.2.1), .d (.nat q.2.2)]) fun q => .d (dN (q.1.set q.2.1 q.2.2))
def F4.all (q : F4) : List (List Nat) := [q.x, q.x.set q.i q.a, q.x.set q.j q.b, (q.x.set q.i q.a).set q.j q.b]
def sp_four_settings : Sp := Pm K F4.Ok (fun q => [.d (dN q.s), .d q.d]) fun q => .d (dC q.all)
def sp_is_odd : Sp := Pm K (fun q : F4 × List Bool => q.1.Ok ∧ Tb q.1.s q.2) (fun q => [.d (dN q.1.s), .d (dB q.2), .d q.1.d]) fun q =>
  .d (.bl (xor4 (tget q.2 (placeN q.1.s q.1.x)) (tget q.2 (placeN q.1.s (q.1.x.set q.1.i q.1.a))) (tget q.2 (placeN q.1.s (q.1.x.set q.1.j q.1.b))) (tget q.2 (placeN q.1.s ((q.1.x.set q.1.i q.1.a).set q.1.j q.1.b)))))
/-- sizes, table, lot -/
structure Ll where
  s : List Nat
  t : List Bool
  l : List Nat
structure Ll.Ok (a : Ll) : Prop where
  sz : Sz a.s
  tb : Tb a.s a.t
  lot : LotOk a.s.length a.l
def Ll.args (a : Ll) : List Sh := [.d (dN a.s), .d (dB a.t), .d (dN a.l)]
noncomputable def sp_is_seam : Sp := Pm K Ll.Ok Ll.args fun a => .d (.bl (seamB a.s a.t a.l))
/-! the law's -/
def RowOk (r : List Int) : Prop := 190 ≤ r.length ∧ r.length ≤ 4000
def sp_law_row : Sp := PmR K (fun a : List Int => a.length ≤ 63) (fun a => [sI a, .d (.nat 190)]) (fun _ => RowOk) sI
/-- data that _law_same is asked of, by depth -/
def Dd : Nat → Dt → Prop
  | 0, _ => False
  | n + 1, .tup l => l.length ≤ 100000 ∧ ∀ d ∈ l, Dd n d
  | _ + 1, .str _ => False
  | _ + 1, _ => True
def sp_law_same : Nat → Sp
  | 0 => fun _ _ _ _ => False
  | n + 1 => Pm K (Dd (n + 1)) (fun d => [.d d, .d d]) fun _ => .d (.bl true)
def sp_law_settings : Sp := Pm K Sz (fun s => [.d (dN s)]) fun s => .s ((settingsN s).map dN)
def sp_law_steps : Sp := Pm K Sz (fun s => [.d (dN s)]) fun s => sN (spansN s)
def sp_law_sizes : Sp := PmR K RowOk (fun r => [sI r]) (fun _ => Sz) fun s => .d (dN s)
structure On where
  s : List Nat
  l : List Nat
  x : List Nat
def On.Ok (a : On) : Prop := Sz a.s ∧ VS a.s a.x ∧ (∀ h ∈ a.l, h < a.s.length) ∧ a.l.length ≤ 6
def sp_law_on_L : Sp := Pm K On.Ok (fun a => [.d (dN a.s), sN (spansN a.s), sN a.l, .d (dN a.x)]) fun a => .d (.nat (onN (spansN a.s) a.l a.x))
def sp_law_on_T : Sp := Pm K On.Ok (fun a => [.d (dN a.s), sN (spansN a.s), .d (dN a.l), .d (dN a.x)]) fun a => .d (.nat (onN (spansN a.s) a.l a.x))
structure Rt where
  r : List Int
  s : List Nat
  st : Nat
def Rt.Ok (a : Rt) : Prop := RowOk a.r ∧ Sz a.s ∧ a.st ≤ 100
def Rt.args (a : Rt) : List Sh := [sI a.r, .d (dN a.s), .d (.nat a.st)]
def sp_law_summed : Sp := PmN K Rt.Ok Rt.args (fun a t => Tb a.s t) fun t => t.map bitD
def sp_law_by_terms : Sp := PmN K Rt.Ok Rt.args (fun a t => Tb a.s t) fun t => t.map bitD
def sp_law_table : Sp := PmR K Rt.Ok Rt.args (fun a t => Tb a.s t) fun t => .d (dB t)
structure Os where
  t : List Bool
  p : Nat
  u : Nat
  v : Nat
def sp_law_odd_sum : Sp := Pm K (fun a : Os => a.p + a.u + a.v < a.t.length) (fun a => [.d (dB a.t), .d (.nat a.p), .d (.nat a.u), .d (.nat a.v)]) fun a =>
  .d (.bl (xor4 (tget a.t a.p) (tget a.t (a.p + a.u)) (tget a.t (a.p + a.v)) (tget a.t (a.p + a.u + a.v))))
noncomputable def sp_law_knit : Sp := Pm K Hh.Ok Hh.args fun a => .d (.bl (knitB a.s a.t a.i a.j))
def PairsOk (n : Nat) (ps : List (Nat × Nat)) : Prop := (∀ p ∈ ps, p.1 < n ∧ p.2 < n) ∧ ps.length ≤ 1000
def sp_law_classes : Sp := Pm K (fun a : Nat × List (Nat × Nat) => a.1 ≤ 6 ∧ PairsOk a.1 a.2) (fun a => [.d (.nat a.1), .s (a.2.map dP2)]) fun a => .d (dC (classesN a.1 a.2))
def sp_law_lots : Sp := Pm K (fun n : Nat => n ≤ 6) (fun n => [.d (.nat n)]) fun n => .s ((lotsN n).map dN)
noncomputable def sp_law_seam : Sp := Pm K Ll.Ok Ll.args fun a => .d (.bl (seamB a.s a.t a.l))
/-- an odd four that odd_four told -/
def sp_law_four_right : Sp := Pm K (fun q : Hh × (Nat × Nat × Nat) => q.1.Ok ∧ SpotRel q.1 (some q.2)) (fun q => [.d (dN q.1.s), .d (dB q.1.t), .d (.nat q.1.i), .d (.nat q.1.j), .d (fourD q.1 (some q.2))]) fun _ => .d (.bl true)
noncomputable def sp_law_idle : Sp := Pm K StOk stA fun a => .d (dN (idleN a.1 a.2))
def sp_law_pairs_right : Sp := Pm K StOk stA fun _ => .d (.bl true)
def spLaw : Sp := fun vs H Q _ => ∃ ns : List Int, ns.length ≤ 63 ∧ Holds K H vs [sI ns] ∧ ∀ H', Q (.bl true) H'
end
end Ck
set_option Elab.async false
set_option linter.all false
set_option maxRecDepth 100000
set_option maxHeartbeats 4000000
/-! B: small facts of products, spans, places. -/
namespace Ck
theorem sp_len' : ∀ s : List Nat, (spansN s).length = s.length
  | [] => rfl
  | _ :: s => congrArg Nat.succ (sp_len' s)
theorem gN_get {l : List Nat} {h a : Nat} (e : l[h]? = some a) : gN l h = a := by
  unfold gN
  rw [List.getD_eq_getElem?_getD, e]
  rfl
theorem gN_lt {l : List Nat} {h : Nat} (hh : h < l.length) : l[h]? = some (gN l h) := by
  rw [gN_get (List.getElem?_eq_getElem hh)]
  exact List.getElem?_eq_getElem hh
theorem gN_mem {l : List Nat} {h : Nat} (hh : h < l.length) : gN l h ∈ l := List.mem_of_getElem? (gN_lt hh)
theorem gN_cons {a h : Nat} {l : List Nat} : gN (a :: l) (h + 1) = gN l h := rfl
theorem prod_pos : ∀ {s : List Nat}, (∀ c ∈ s, 1 ≤ c) → 1 ≤ prodN s
  | [], _ => Nat.le_refl _
  | c :: s, h => by
    have h1 := h c (List.mem_cons_self ..)
    have h2 := prod_pos (s := s) fun d hd => h d (List.mem_cons_of_mem _ hd)
    show 1 ≤ c * prodN s
    exact Nat.mul_pos h1 h2
theorem prod_app : ∀ (s u : List Nat), prodN (s ++ u) = prodN s * prodN u
  | [], u => (Nat.one_mul _).symm
  | c :: s, u => by
    show c * prodN (s ++ u) = c * prodN s * prodN u
    rw [prod_app s u, Nat.mul_assoc]
theorem prod_one (c : Nat) : prodN [c] = c := Nat.mul_one c
theorem prod_sub {l s : List Nat} (h : l.Sublist s) (hp : ∀ c ∈ s, 1 ≤ c) : prodN l ≤ prodN s := by
  induction h with
  | slnil => exact Nat.le_refl _
  | cons a h ih =>
    have h1 := hp a (List.mem_cons_self ..)
    have h2 := ih fun c hc => hp c (List.mem_cons_of_mem _ hc)
    exact Nat.le_trans h2 (Nat.le_mul_of_pos_left _ h1)
  | cons_cons a h ih =>
    have h2 := ih fun c hc => hp c (List.mem_cons_of_mem _ hc)
    exact Nat.mul_le_mul_left a h2
theorem sp_eq : ∀ (s : List Nat) (h : Nat), h < s.length → sp s h = prodN (s.drop (h + 1))
  | [], h, hh => by simp at hh
  | _ :: s, 0, _ => rfl
  | _ :: s, h + 1, hh => by
    show gN (spansN s) h = prodN (s.drop (h + 1))
    exact sp_eq s h (by simpa using hh)
theorem drop_get {s : List Nat} {h : Nat} (hh : h < s.length) : s.drop h = gN s h :: s.drop (h + 1) := by
  rw [List.drop_eq_getElem_cons hh, gN_get (List.getElem?_eq_getElem hh)]
theorem sp_step {s : List Nat} {h : Nat} (hh : h + 1 < s.length) : sp s h = sp s (h + 1) * gN s (h + 1) := by
  rw [sp_eq s h (by omega), sp_eq s (h + 1) hh, drop_get hh]
  show gN s (h + 1) * _ = _
  rw [Nat.mul_comm]
section
variable {s : List Nat} (z : Sz s)
include z
theorem Sz.one : 1 ≤ s.length := by
  have := z.ne
  cases s with
  | nil => exact absurd rfl this
  | cons a s => exact Nat.succ_le_succ (Nat.zero_le _)
theorem Sz.at {h : Nat} (hh : h < s.length) : 1 ≤ gN s h := z.pos _ (gN_mem hh)
theorem Sz.le {h : Nat} (hh : h < s.length) : gN s h ≤ 64 := by
  have h1 : [gN s h].Sublist s := List.singleton_sublist.mpr (gN_mem hh)
  have h2 := prod_sub h1 z.pos
  rw [prod_one] at h2
  exact Nat.le_trans h2 z.prod
theorem Sz.sp1 {h : Nat} (hh : h < s.length) : 1 ≤ sp s h := by
  rw [sp_eq s h hh]
  exact prod_pos fun c hc => z.pos c (List.mem_of_mem_drop hc)
theorem Sz.sp64 {h : Nat} (hh : h < s.length) : sp s h ≤ 64 := by
  rw [sp_eq s h hh]
  exact Nat.le_trans (prod_sub (List.drop_sublist _ _) z.pos) z.prod
theorem Sz.take64 (i : Nat) : prodN (s.take i) ≤ 64 := Nat.le_trans (prod_sub (List.take_sublist _ _) z.pos) z.prod
theorem Sz.take1 (i : Nat) : 1 ≤ prodN (s.take i) := prod_pos fun c hc => z.pos c (List.mem_of_mem_take hc)
end
theorem prod_take {s : List Nat} {i c : Nat} (h : s[i]? = some c) : prodN (s.take (i + 1)) = prodN (s.take i) * c := by
  rw [List.take_add_one, h]
  show prodN (s.take i ++ [c]) = _
  rw [prod_app, prod_one]
/-! spans, from the right -/
def partS (s : List Nat) (m : Nat) : List Nat := List.replicate m 1 ++ (spansN s).drop m
theorem partS_len {s : List Nat} {m : Nat} (h : m ≤ s.length) : (partS s m).length = s.length := by
  unfold partS
  rw [List.length_append, List.length_replicate, List.length_drop, sp_len']
  omega
theorem partS_zero (s : List Nat) : partS s 0 = spansN s := rfl
theorem span_drop {s : List Nat} {m : Nat} (h : m < s.length) : (spansN s).drop m = sp s m :: (spansN s).drop (m + 1) := drop_get (by rw [sp_len']; exact h)
theorem partS_get {s : List Nat} {m : Nat} (h : m < s.length) : gN (partS s m) m = sp s m := by
  refine gN_get ?_
  unfold partS
  rw [List.getElem?_append_right (by rw [List.length_replicate]; exact Nat.le_refl _), List.length_replicate, Nat.sub_self, span_drop h]
  rfl
theorem partS_last {s : List Nat} (h : 1 ≤ s.length) : partS s (s.length - 1) = List.replicate s.length 1 := by
  unfold partS
  rw [span_drop (by omega), sp_eq s _ (by omega)]
  have e1 : s.length - 1 + 1 = s.length := by omega
  have e2 : (spansN s).drop s.length = [] := List.drop_eq_nil_of_le (by rw [sp_len']; exact Nat.le_refl _)
  rw [e1, List.drop_length, e2]
  show List.replicate (s.length - 1) 1 ++ List.replicate 1 1 = _
  rw [List.replicate_append_replicate, e1]
theorem partS_set {s : List Nat} {m : Nat} (h : m + 1 < s.length) : (partS s (m + 1)).set m (sp s (m + 1) * gN s (m + 1)) = partS s m := by
  unfold partS
  rw [List.set_append_left m _ (by rw [List.length_replicate]; exact Nat.lt_succ_self m), span_drop (show m < s.length by omega), ← sp_step h]
  have e : (List.replicate (m + 1) 1).set m (sp s m) = List.replicate m 1 ++ [sp s m] := by
    rw [List.replicate_succ']
    rw [List.set_append_right m _ (by rw [List.length_replicate]; exact Nat.le_refl _), List.length_replicate, Nat.sub_self]
    rfl
  rw [e, List.append_assoc]
  rfl
/-! places -/
theorem place_snoc : ∀ {s x : List Nat} {c a : Nat}, s.length = x.length → placeN (s ++ [c]) (x ++ [a]) = placeN s x * c + a
  | [], [], c, a, _ => by
    show a * 1 + 0 = 0 * c + a
    omega
  | [], _ :: _, _, _, h => by simp at h
  | _ :: _, [], _, _, h => by simp at h
  | d :: s, b :: x, c, a, h => by
    have ih := place_snoc (s := s) (x := x) (c := c) (a := a) (by simpa using h)
    show b * prodN (s ++ [c]) + placeN (s ++ [c]) (x ++ [a]) = (b * prodN s + placeN s x) * c + a
    rw [ih, prod_app, prod_one, Nat.add_mul, Nat.mul_assoc, Nat.add_assoc]
theorem take_snoc {l : List Nat} {i : Nat} (h : i < l.length) : l.take (i + 1) = l.take i ++ [gN l i] := by
  rw [List.take_add_one, gN_lt h]
  rfl
theorem place_take {s x : List Nat} {i : Nat} (h1 : i < s.length) (h2 : x.length = s.length) : placeN (s.take (i + 1)) (x.take (i + 1)) = placeN (s.take i) (x.take i) * gN s i + gN x i := by
  rw [take_snoc h1, take_snoc (by omega), place_snoc (by rw [List.length_take, List.length_take]; omega)]
theorem place_lt : ∀ {s x : List Nat}, VS s x → placeN s x < prodN s
  | [], [], _ => Nat.lt_succ_self 0
  | [], _ :: _, h => by have := h.1; simp at this
  | _ :: _, [], h => by have := h.1; simp at this
  | c :: s, a :: x, h => by
    have ih := place_lt (s := s) (x := x) ⟨by simpa using h.1, fun k hk => h.2 (k + 1) (by simpa using hk)⟩
    have ha : a < c := h.2 0 (Nat.succ_pos _)
    show a * prodN s + placeN s x < c * prodN s
    have h1 : (a + 1) * prodN s ≤ c * prodN s := Nat.mul_le_mul_right _ ha
    rw [Nat.add_mul, Nat.one_mul] at h1
    omega
theorem VS.take {s x : List Nat} (h : VS s x) (i : Nat) : VS (s.take i) (x.take i) := by
  refine ⟨by rw [List.length_take, List.length_take, h.1], fun k hk => ?_⟩
  rw [List.length_take] at hk
  have h1 : k < s.length := by omega
  have g : ∀ l : List Nat, k < l.length → gN (l.take i) k = gN l k := fun l hl => gN_get (by rw [List.getElem?_take_of_lt (by omega)]; exact gN_lt hl)
  rw [g s h1, g x (by rw [h.1]; exact h1)]
  exact h.2 k h1
theorem gN_set {x : List Nat} {i a h : Nat} (hi : i < x.length) : gN (x.set i a) h = if h = i then a else gN x h := by
  unfold gN
  rw [List.getD_eq_getElem?_getD, List.getD_eq_getElem?_getD]
  by_cases e : h = i
  · subst e
    rw [List.getElem?_set_self hi, if_pos rfl]
    rfl
  · rw [List.getElem?_set_ne (Ne.symm e), if_neg e]
theorem VS.set {s x : List Nat} (h : VS s x) {i a : Nat} (hi : i < s.length) (ha : a < gN s i) : VS s (x.set i a) := by
  refine ⟨by rw [List.length_set]; exact h.1, fun k hk => ?_⟩
  rw [gN_set (by rw [h.1]; exact hi)]
  by_cases e : k = i
  · rw [if_pos e, e]
    exact ha
  · rw [if_neg e]
    exact h.2 k hk
/-! corners -/
theorem corner_len (s : List Nat) : ∀ (lot ps : List Nat), (lot.foldl (cornerStep s) ps).length = ps.length * prodN (lot.map (gN s))
  | [], ps => (Nat.mul_one _).symm
  | h :: lot, ps => by
    show (lot.foldl (cornerStep s) (cornerStep s ps h)).length = ps.length * (gN s h * prodN (lot.map (gN s)))
    rw [corner_len s lot, ← Nat.mul_assoc]
    congr 1
    unfold cornerStep
    induction ps with
    | nil => simp
    | cons p ps ih =>
      rw [List.flatMap_cons, List.length_append, List.length_map, List.length_range, ih, List.length_cons, Nat.add_mul, Nat.one_mul, Nat.add_comm]
theorem map_gN (s : List Nat) : (List.range s.length).map (gN s) = s := by
  apply List.ext_getElem?
  intro i
  rw [List.getElem?_map]
  by_cases h : i < s.length
  · rw [List.getElem?_range h, gN_lt h]
    rfl
  · rw [List.getElem?_eq_none (by rw [List.length_range]; omega), List.getElem?_eq_none (by omega)]
    rfl
theorem corner_le {s lot : List Nat} (z : Sz s) (h : lot.Sublist (List.range s.length)) : (cornersN s lot).length ≤ 64 := by
  unfold cornersN
  rw [corner_len]
  have h1 := h.map (gN s)
  rw [map_gN] at h1
  have h2 := prod_sub h1 z.pos
  have h3 := z.prod
  show 1 * _ ≤ 64
  omega
theorem corner_take {s lot : List Nat} {i h : Nat} (e : lot[i]? = some h) : cornersN s (lot.take (i + 1)) = cornerStep s (cornersN s (lot.take i)) h := by
  unfold cornersN
  rw [List.take_add_one, e]
  show (lot.take i ++ [h]).foldl _ _ = _
  rw [List.foldl_append]
  rfl
end Ck
set_option Elab.async false
set_option linter.all false
set_option maxRecDepth 100000
set_option maxHeartbeats 4000000
/-! Ma: fours, corners, seams, idle houses. -/
namespace Ck
theorem S_congr {g g' : Nat → Nat} : ∀ {n : Nat}, (∀ h, h < n → g h = g' h) → S n g = S n g'
  | 0, _ => rfl
  | n + 1, e => by
    show S n g + g n = S n g' + g' n
    rw [S_congr (n := n) fun h hh => e h (Nat.lt_succ_of_lt hh), e n (Nat.lt_succ_self n)]
theorem S_add (g g' : Nat → Nat) : ∀ n : Nat, S n (fun h => g h + g' h) = S n g + S n g'
  | 0 => rfl
  | n + 1 => by
    show S n (fun h => g h + g' h) + (g n + g' n) = S n g + g n + (S n g' + g' n)
    rw [S_add g g' n]
    omega
theorem S_head (g : Nat → Nat) : ∀ n : Nat, S (n + 1) g = g 0 + S n fun h => g (h + 1)
  | 0 => by
    show 0 + g 0 = g 0 + 0
    omega
  | n + 1 => by
    show S (n + 1) g + g (n + 1) = g 0 + (S n (fun h => g (h + 1)) + g (n + 1))
    rw [S_head g n, Nat.add_assoc]
theorem S_zero {g : Nat → Nat} : ∀ {n : Nat}, (∀ h, h < n → g h = 0) → S n g = 0
  | 0, _ => rfl
  | n + 1, e => by
    show S n g + g n = 0
    rw [S_zero (n := n) fun h hh => e h (Nat.lt_succ_of_lt hh), e n (Nat.lt_succ_self n)]
theorem S_up {w : Nat → Nat} (f : Nat → Nat) (i a : Nat) : ∀ {n : Nat}, i < n → S n (fun h => up f i a h * w h) + f i * w i = S n (fun h => f h * w h) + a * w i
  | 0, h => absurd h (Nat.not_lt_zero _)
  | n + 1, h => by
    show S n (fun h => up f i a h * w h) + up f i a n * w n + f i * w i = S n (fun h => f h * w h) + f n * w n + a * w i
    by_cases e : i = n
    · subst e
      have e1 : S i (fun h => up f i a h * w h) = S i (fun h => f h * w h) := S_congr fun h hh => by
        unfold up
        rw [if_neg (Nat.ne_of_lt hh)]
      have e2 : up f i a i = a := if_pos rfl
      rw [e1, e2]
      omega
    · have ih := S_up (w := w) f i a (n := n) (by omega)
      have e2 : up f i a n = f n := if_neg (Ne.symm e)
      rw [e2]
      omega
section
variable {s : List Nat} {t : List Bool} {f : Nat → Nat} {i j a b h : Nat} {L : List Nat}
theorem pl_up (hi : i < s.length) : pl s (up f i a) + f i * sp s i = pl s f + a * sp s i := S_up f i a hi
theorem pl_up0 (hi : i < s.length) (h0 : f i = 0) : pl s (up f i a) = pl s f + a * sp s i := by
  have e := pl_up (a := a) (f := f) hi
  rw [h0, Nat.zero_mul] at e
  exact e
theorem pl_mask : pl s (maskL L f) + pl s (maskR L f) = pl s f := by
  unfold pl
  rw [← S_add]
  refine S_congr fun h _ => ?_
  unfold maskL maskR
  by_cases e : h ∈ L
  · rw [if_pos e, if_pos e]
    omega
  · rw [if_neg e, if_neg e]
    omega
theorem pl_congr {g : Nat → Nat} (e : ∀ h, h < s.length → f h = g h) : pl s f = pl s g := S_congr fun h hh => by rw [e h hh]
theorem pl_nil : pl s (fun _ => 0) = 0 := S_zero fun h _ => Nat.zero_mul _
theorem sp_succ {c : Nat} : sp (c :: s) (h + 1) = sp s h := rfl
theorem place_pl : ∀ {s x : List Nat}, x.length = s.length → placeN s x = pl s (gN x)
  | [], [], _ => rfl
  | [], _ :: _, e => by simp at e
  | _ :: _, [], e => by simp at e
  | c :: s, a :: x, e => by
    have ih := place_pl (s := s) (x := x) (by simpa using e)
    show a * prodN s + placeN s x = S (s.length + 1) _
    rw [S_head, ih]
    rfl
def toL (s : List Nat) (f : Nat → Nat) : List Nat := (List.range s.length).map f
theorem toL_len : (toL s f).length = s.length := by
  unfold toL
  rw [List.length_map, List.length_range]
theorem toL_get (hh : h < s.length) : gN (toL s f) h = f h := gN_get (by
  unfold toL
  rw [List.getElem?_map, List.getElem?_range hh]
  rfl)
theorem toL_vs (v : Vf s f) : VS s (toL s f) := ⟨toL_len, fun h hh => by rw [toL_get hh]; exact v h hh⟩
theorem toL_pl : placeN s (toL s f) = pl s f := by
  rw [place_pl toL_len]
  exact pl_congr fun h hh => toL_get hh
theorem vf_of {x : List Nat} (v : VS s x) : Vf s (gN x) := v.2
theorem pl_lt (v : Vf s f) : pl s f < prodN s := by
  rw [← toL_pl]
  exact place_lt (toL_vs v)
theorem Vf.up (v : Vf s f) (ha : a < gN s i) : Vf s (up f i a) := fun h hh => by
  unfold Ck.up
  by_cases e : h = i
  · rw [if_pos e, e]
    exact ha
  · rw [if_neg e]
    exact v h hh
theorem Vf.maskL (v : Vf s f) (z : Sz s) : Vf s (maskL L f) := fun h hh => by
  unfold Ck.maskL
  by_cases e : h ∈ L
  · rw [if_pos e]
    exact v h hh
  · rw [if_neg e]
    exact z.at hh
theorem Vf.maskR (v : Vf s f) (z : Sz s) : Vf s (maskR L f) := fun h hh => by
  unfold Ck.maskR
  by_cases e : h ∈ L
  · rw [if_pos e]
    exact z.at hh
  · rw [if_neg e]
    exact v h hh
theorem vf_zero (z : Sz s) : Vf s fun _ => 0 := fun h hh => z.at hh
theorem up_self (e : f i = a) : up f i a = f := by
  funext h
  unfold up
  by_cases q : h = i
  · rw [if_pos q, q, e]
  · rw [if_neg q]
theorem up_up : up (up f i a) i b = up f i b := by
  funext h
  unfold up
  by_cases q : h = i
  · rw [if_pos q, if_pos q]
  · rw [if_neg q, if_neg q, if_neg q]
theorem up_comm (ne : i ≠ j) : up (up f i a) j b = up (up f j b) i a := by
  funext h
  unfold up
  by_cases q : h = i
  · by_cases r : h = j
    · exact absurd (q.symm.trans r) ne
    · rw [if_neg r, if_pos q, if_pos q]
  · by_cases r : h = j
    · rw [if_pos r, if_neg q, if_pos r]
    · rw [if_neg r, if_neg q, if_neg q, if_neg r]
theorem up_at : up f i a i = a := if_pos rfl
theorem up_ne (ne : h ≠ i) : up f i a h = f h := if_neg ne
/-! ### corners -/
theorem corner_mem (s : List Nat) : ∀ (lot ps : List Nat) (A : Nat → Prop), (∀ p, p ∈ ps ↔ ∃ f, Vf s f ∧ (∀ h, h < s.length → ¬ A h → f h = 0) ∧ pl s f = p) → lot.Nodup → (∀ h ∈ lot, h < s.length ∧ ¬ A h) → (∀ h, h < s.length → 1 ≤ gN s h) →
    ∀ p, p ∈ lot.foldl (cornerStep s) ps ↔ ∃ f, Vf s f ∧ (∀ h, h < s.length → ¬ (A h ∨ h ∈ lot) → f h = 0) ∧ pl s f = p
  | [], ps, A, hA, _, _, _, p => by
    refine (hA p).trans ⟨fun ⟨f, v, z, e⟩ => ⟨f, v, fun h hh n => z h hh fun q => n (.inl q), e⟩, fun ⟨f, v, z, e⟩ => ⟨f, v, fun h hh n => z h hh fun q => ?_, e⟩⟩
    rcases q with q | q
    · exact n q
    · cases q
  | k :: lot, ps, A, hA, nd, hl, h1, p => by
    obtain ⟨nk, nd'⟩ := List.nodup_cons.mp nd
    obtain ⟨hk, nA⟩ := hl k (List.mem_cons_self ..)
    refine (corner_mem s lot (cornerStep s ps k) (fun h => A h ∨ h = k) (fun p' => ?_) nd' (fun h hh => ?_) h1 p).trans ?_
    · unfold cornerStep
      rw [List.mem_flatMap]
      constructor
      · rintro ⟨q, hq, hm⟩
        obtain ⟨c, hc, rfl⟩ := List.mem_map.mp hm
        obtain ⟨f, v, z, rfl⟩ := (hA q).mp hq
        have f0 : f k = 0 := z k hk nA
        refine ⟨up f k c, v.up (List.mem_range.mp hc), fun h hh n => ?_, pl_up0 hk f0⟩
        have e1 : h ≠ k := fun e => n (.inr e)
        rw [up_ne e1]
        exact z h hh fun q => n (.inl q)
      · rintro ⟨f, v, z, rfl⟩
        refine ⟨pl s (up f k 0), (hA _).mpr ⟨up f k 0, v.up (h1 k hk), fun h hh n => ?_, rfl⟩, List.mem_map.mpr ⟨f k, List.mem_range.mpr (v k hk), ?_⟩⟩
        · by_cases e : h = k
          · rw [e, up_at]
          · rw [up_ne e]
            exact z h hh fun q => q.elim n e
        · have e := pl_up (a := 0) (f := f) hk
          rw [Nat.zero_mul] at e
          exact e
    · obtain ⟨q1, q2⟩ := hl h (List.mem_cons_of_mem _ hh)
      refine ⟨q1, fun q => q.elim q2 fun e => nk ?_⟩
      rw [← e]
      exact hh
    · refine ⟨fun ⟨f, v, z, e⟩ => ⟨f, v, fun h hh n => z h hh fun q => n ?_, e⟩, fun ⟨f, v, z, e⟩ => ⟨f, v, fun h hh n => z h hh fun q => n ?_, e⟩⟩
      · rcases q with (q | q) | q
        · exact .inl q
        · exact .inr (q ▸ List.mem_cons_self ..)
        · exact .inr (List.mem_cons_of_mem _ q)
      · rcases q with q | q
        · exact .inl (.inl q)
        · rcases List.mem_cons.mp q with q | q
          · exact .inl (.inr q)
          · exact .inr q
theorem corners_iff (z : Sz s) {lot : List Nat} (nd : lot.Nodup) (hl : ∀ h ∈ lot, h < s.length) (p : Nat) : p ∈ cornersN s lot ↔ ∃ f, Vf s f ∧ (∀ h, h < s.length → h ∉ lot → f h = 0) ∧ pl s f = p := by
  refine (corner_mem s lot [0] (fun _ => False) (fun p => ?_) nd (fun h hh => ⟨hl h hh, id⟩) (fun h hh => z.at hh) p).trans ?_
  · constructor
    · intro hp
      refine ⟨fun _ => 0, vf_zero z, fun _ _ _ => rfl, ?_⟩
      rw [pl_nil]
      exact (List.mem_singleton.mp hp).symm
    · rintro ⟨f, v, q, rfl⟩
      have e : pl s f = pl s fun _ => 0 := pl_congr fun h hh => q h hh id
      rw [e, pl_nil]
      exact List.mem_singleton.mpr rfl
  · exact ⟨fun ⟨f, v, q, e⟩ => ⟨f, v, fun h hh n => q h hh fun r => r.elim id n, e⟩, fun ⟨f, v, q, e⟩ => ⟨f, v, fun h hh n => q h hh fun r => n (.inr r), e⟩⟩
theorem rest_sub (n i j : Nat) : (restN n i j).Sublist (List.range n) := List.filter_sublist
theorem rest1_sub (n i : Nat) : (rest1 n i).Sublist (List.range n) := List.filter_sublist
theorem mem_rest {n : Nat} : h ∈ restN n i j ↔ h < n ∧ h ≠ i ∧ h ≠ j := by
  unfold restN
  rw [List.mem_filter, List.mem_range]
  simp
theorem mem_rest1 {n : Nat} : h ∈ rest1 n i ↔ h < n ∧ h ≠ i := by
  unfold rest1
  rw [List.mem_filter, List.mem_range]
  simp
theorem corner_two (z : Sz s) (hi : i < s.length) (hj : j < s.length) (p : Nat) : p ∈ cornersN s (restN s.length i j) ↔ ∃ f, Vf s f ∧ f i = 0 ∧ f j = 0 ∧ pl s f = p := by
  refine (corners_iff z ((rest_sub _ _ _).nodup List.nodup_range) (fun h hh => (mem_rest.mp hh).1) p).trans ⟨fun ⟨f, v, q, e⟩ => ⟨f, v, q i hi fun m => (mem_rest.mp m).2.1 rfl, q j hj fun m => (mem_rest.mp m).2.2 rfl, e⟩, fun ⟨f, v, q1, q2, e⟩ => ⟨f, v, fun h hh n => ?_, e⟩⟩
  by_cases a : h = i
  · rw [a, q1]
  · by_cases b : h = j
    · rw [b, q2]
    · exact absurd (mem_rest.mpr ⟨hh, a, b⟩) n
theorem corner_one (z : Sz s) (hi : i < s.length) (p : Nat) : p ∈ cornersN s (rest1 s.length i) ↔ ∃ f, Vf s f ∧ f i = 0 ∧ pl s f = p := by
  refine (corners_iff z ((rest1_sub _ _).nodup List.nodup_range) (fun h hh => (mem_rest1.mp hh).1) p).trans ⟨fun ⟨f, v, q, e⟩ => ⟨f, v, q i hi fun m => (mem_rest1.mp m).2 rfl, e⟩, fun ⟨f, v, q1, e⟩ => ⟨f, v, fun h hh n => ?_, e⟩⟩
  by_cases a : h = i
  · rw [a, q1]
  · exact absurd (mem_rest1.mpr ⟨hh, a⟩) n
/-! ### fours -/
theorem xor4_even {a b c d : Bool} (h : xor4 a b c d = false) : d = ((a != b) != c) := by
  revert h
  unfold xor4
  cases a <;> cases b <;> cases c <;> cases d <;> decide
theorem xor4_five : ∀ g x x' y y' : Bool, xor4 ((g != x) != y) ((g != x') != y) ((g != x) != y') ((g != x') != y') = false := by decide
theorem xor4_1 : ∀ {a b c d : Bool}, xor4 a b c d = false → a = ((b != c) != d) := by decide
theorem xor4_cross : ∀ a b c d e : Bool, xor4 ((a != b) != e) ((c != b) != e) ((a != d) != e) ((c != d) != e) = false := by decide
theorem xor4_l : ∀ a b : Bool, xor4 a a b b = false := by decide
theorem xor4_r : ∀ a b : Bool, xor4 a b a b = false := by decide
theorem xor4_swap : ∀ a b c d : Bool, xor4 a b c d = xor4 a c b d := by decide
/-- all fours are even if those with choice 0 at both houses are -/
theorem not_knit (ne : i ≠ j) (hi : i < s.length) (hj : j < s.length) (h1 : 1 ≤ gN s i) (h2 : 1 ≤ gN s j)
    (hb : ∀ f a b, Vf s f → f i = 0 → f j = 0 → 1 ≤ a → a < gN s i → 1 ≤ b → b < gN s j → xor4 (Tf s t f) (Tf s t (up f i a)) (Tf s t (up f j b)) (Tf s t (up (up f i a) j b)) = false) : ¬ KnitP s t i j := by
  rintro ⟨f, a, b, v, ha, hb', odd⟩
  let y := up (up f i 0) j 0
  let G : Nat → Nat → Bool := fun u w => Tf s t (up (up y i u) j w)
  have vy : Vf s y := (v.up h1).up h2
  have y1 : y i = 0 := by
    show up (up f i 0) j 0 i = 0
    rw [up_ne ne, up_at]
  have y2 : y j = 0 := up_at
  have g00 : ∀ u, up (up y i u) j 0 = up y i u := fun u => up_self (by rw [up_ne (Ne.symm ne)]; exact y2)
  have base : ∀ u w, u < gN s i → w < gN s j → xor4 (G 0 0) (G u 0) (G 0 w) (G u w) = false := fun u w hu hw => by
    have e0 : up y i 0 = y := up_self y1
    show xor4 (Tf s t (up (up y i 0) j 0)) (Tf s t (up (up y i u) j 0)) (Tf s t (up (up y i 0) j w)) (Tf s t (up (up y i u) j w)) = false
    by_cases u0 : u = 0
    · subst u0
      exact xor4_l _ _
    · by_cases w0 : w = 0
      · subst w0
        exact xor4_r _ _
      · rw [g00, g00, e0]
        exact hb y u w vy y1 y2 (by omega) hu (by omega) hw
  have fy : ∀ u w, up (up f i u) j w = up (up y i u) j w := fun u w => by
    show _ = up (up (up (up f i 0) j 0) i u) j w
    rw [up_comm (Ne.symm ne) (f := up f i 0) (i := j) (j := i), up_up, up_up]
  have f0 : f = up (up f i (f i)) j (f j) := by
    rw [up_self (f := f) (i := i) rfl, up_self rfl]
  have f1 : up f i a = up (up f i a) j (f j) := (up_self (by rw [up_ne (Ne.symm ne)])).symm
  have f2 : up f j b = up (up f i (f i)) j b := by rw [up_self (f := f) (i := i) rfl]
  have e1 : Tf s t f = G (f i) (f j) := by
    show Tf s t f = Tf s t _
    rw [← fy, ← f0]
  have e2 : Tf s t (up f i a) = G a (f j) := by
    show _ = Tf s t _
    rw [← fy, ← f1]
  have e3 : Tf s t (up f j b) = G (f i) b := by
    show _ = Tf s t _
    rw [← fy, ← f2]
  have e4 : Tf s t (up (up f i a) j b) = G a b := by
    show _ = Tf s t _
    rw [← fy]
  rw [e1, e2, e3, e4, xor4_even (base _ _ (v i hi) (v j hj)), xor4_even (base _ _ ha (v j hj)), xor4_even (base _ _ (v i hi) hb'), xor4_even (base _ _ ha hb'), xor4_five] at odd
  cases odd
theorem knit_comm (ne : i ≠ j) : KnitP s t i j → KnitP s t j i := by
  rintro ⟨f, a, b, v, ha, hb, odd⟩
  refine ⟨f, b, a, v, hb, ha, ?_⟩
  rw [xor4_swap, ← up_comm ne]
  exact odd
open Classical in
theorem knitB_comm (ne : i ≠ j) : knitB s t i j = knitB s t j i := by
  unfold knitB
  exact decide_eq_decide.mpr ⟨knit_comm ne, knit_comm (Ne.symm ne)⟩
open Classical in
theorem knitB_t (h : KnitP s t i j) : knitB s t i j = true := by
  unfold knitB
  exact decide_eq_true h
open Classical in
theorem knitB_f (h : ¬ KnitP s t i j) : knitB s t i j = false := by
  unfold knitB
  exact decide_eq_false h
open Classical in
theorem knitB_iff : knitB s t i j = true ↔ KnitP s t i j := by
  unfold knitB
  exact decide_eq_true_iff
open Classical in
theorem seamB_t (h : SeamP s t L) : seamB s t L = true := by
  unfold seamB
  exact decide_eq_true h
open Classical in
theorem seamB_f (h : ¬ SeamP s t L) : seamB s t L = false := by
  unfold seamB
  exact decide_eq_false h
open Classical in
theorem idleB_t (h : IdleP s t i) : idleB s t i = true := by
  unfold idleB
  exact decide_eq_true h
open Classical in
theorem idleB_f (h : ¬ IdleP s t i) : idleB s t i = false := by
  unfold idleB
  exact decide_eq_false h
/-! ### idle houses -/
theorem idle_of (hi : i < s.length) (h1 : 1 ≤ gN s i) (hb : ∀ f a, Vf s f → f i = 0 → 1 ≤ a → a < gN s i → Tf s t (up f i a) = Tf s t f) : IdleP s t i := by
  have key : ∀ f a, Vf s f → a < gN s i → Tf s t (up f i a) = Tf s t (up f i 0) := fun f a v ha => by
    by_cases a0 : a = 0
    · rw [a0]
    · have := hb (up f i 0) a (v.up h1) up_at (by omega) ha
      rw [up_up] at this
      exact this
  intro f a v ha
  rw [key f a v ha, ← key f (f i) v (v i hi), up_self rfl]
/-! ### seams -/
def zap (L : List Nat) (m : Nat) (f : Nat → Nat) : Nat → Nat := fun h => if h < m ∧ h ∈ L then 0 else f h
theorem zap_step {m : Nat} (hm : m ∈ L) : zap L (m + 1) f = up (zap L m f) m 0 := by
  funext h
  show (if h < m + 1 ∧ h ∈ L then 0 else f h) = (if h = m then 0 else if h < m ∧ h ∈ L then 0 else f h)
  by_cases e : h = m
  · rw [if_pos ⟨by omega, e ▸ hm⟩, if_pos e]
  · rw [if_neg e]
    by_cases q : h < m ∧ h ∈ L
    · rw [if_pos q, if_pos ⟨by omega, q.2⟩]
    · rw [if_neg q, if_neg fun r => q ⟨by omega, r.2⟩]
theorem zap_skip {m : Nat} (hm : m ∉ L) : zap L (m + 1) f = zap L m f := by
  funext h
  unfold zap
  by_cases q : h < m ∧ h ∈ L
  · rw [if_pos q, if_pos ⟨by omega, q.2⟩]
  · rw [if_neg q, if_neg fun r => q ⟨?_, r.2⟩]
    have : h ≠ m := fun e => hm (e ▸ r.2)
    omega
theorem zap_zero : zap L 0 f = f := by
  funext h
  unfold zap
  exact if_neg fun r => by omega
theorem zap_vf (v : Vf s f) (z : Sz s) (m : Nat) : Vf s (zap L m f) := fun h hh => by
  unfold zap
  by_cases q : h < m ∧ h ∈ L
  · rw [if_pos q]
    exact z.at hh
  · rw [if_neg q]
    exact v h hh
theorem zap_all : ∀ h, h < s.length → zap L s.length f h = maskR L f h := fun h hh => by
  unfold zap maskR
  by_cases q : h ∈ L
  · rw [if_pos ⟨hh, q⟩, if_pos q]
  · rw [if_neg fun r => q r.2, if_neg q]
theorem Tf_congr {g : Nat → Nat} (e : ∀ h, h < s.length → f h = g h) : Tf s t f = Tf s t g := by
  unfold Tf
  rw [pl_congr e]
/-- the houses outside of L -/
def outL (n : Nat) (L : List Nat) : List Nat := (List.range n).filter fun h => !decide (h ∈ L)
theorem mem_out {n : Nat} : h ∈ outL n L ↔ h < n ∧ h ∉ L := by
  unfold outL
  rw [List.mem_filter, List.mem_range]
  simp
theorem xor4_3 : ∀ {a b c d : Bool}, xor4 a b c d = false → (a != b) = (c != d) := by decide
/-- what house i changes hangs on no house outside of L -/
theorem diff_out (z : Sz s) (hi : i < s.length) (hL : i ∈ L) (ev : ∀ j, j < s.length → j ∉ L → ¬ KnitP s t i j) (v : Vf s f) : ∀ m, m ≤ s.length → (Tf s t (zap (outL s.length L) m f) != Tf s t (up (zap (outL s.length L) m f) i 0)) = (Tf s t f != Tf s t (up f i 0))
  | 0, _ => by rw [zap_zero]
  | m + 1, hm => by
    have ih := diff_out z hi hL ev v m (by omega)
    by_cases q : m ∈ outL s.length L
    · obtain ⟨q1, q2⟩ := mem_out.mp q
      rw [zap_step q, ← ih]
      have nk := ev m q1 q2
      have vz := zap_vf (L := outL s.length L) v z m
      have even : xor4 (Tf s t (zap (outL s.length L) m f)) (Tf s t (up (zap (outL s.length L) m f) i 0)) (Tf s t (up (zap (outL s.length L) m f) m 0)) (Tf s t (up (up (zap (outL s.length L) m f) i 0) m 0)) = false := by
        cases e : xor4 (Tf s t (zap (outL s.length L) m f)) (Tf s t (up (zap (outL s.length L) m f) i 0)) (Tf s t (up (zap (outL s.length L) m f) m 0)) (Tf s t (up (up (zap (outL s.length L) m f) i 0) m 0)) with
        | false => rfl
        | true => exact absurd ⟨_, 0, 0, vz, z.at hi, z.at q1, e⟩ nk
      have ne : i ≠ m := fun e => q2 (e ▸ hL)
      rw [up_comm ne] at even
      exact (xor4_3 even).symm
    · rw [zap_skip q]
      exact ih
theorem zap_out : ∀ h, h < s.length → zap (outL s.length L) s.length f h = maskL L f h := fun h hh => by
  rw [zap_all h hh]
  unfold maskR maskL
  by_cases q : h ∈ L
  · rw [if_neg fun r => (mem_out.mp r).2 q, if_pos q]
  · rw [if_pos (mem_out.mpr ⟨hh, q⟩), if_neg q]
theorem Tf_up_congr {g : Nat → Nat} (e : ∀ h, h < s.length → f h = g h) : Tf s t (up f i a) = Tf s t (up g i a) := Tf_congr fun h hh => by
  unfold up
  rw [e h hh]
theorem bne_swap : ∀ {a b c d : Bool}, (a != b) = (c != d) → (a != c) = (b != d) := by decide
theorem bne_trans : ∀ {a b c d e : Bool}, (a != b) = (c != d) → (b != e) = (d != e) → True := fun _ _ => True.intro
theorem seam_of (z : Sz s) (hLn : ∀ h ∈ L, h < s.length) (ev : ∀ i j, i < s.length → j < s.length → i ∈ L → j ∉ L → ¬ KnitP s t i j) : SeamP s t L := by
  intro f v
  have key : ∀ m, m ≤ s.length → (Tf s t (zap L m f) != Tf s t (zap L m (maskL L f))) = (Tf s t f != Tf s t (maskL L f)) := by
    intro m
    induction m with
    | zero =>
      intro _
      rw [zap_zero, zap_zero]
    | succ m ih =>
      intro hm
      have ih' := ih (by omega)
      by_cases q : m ∈ L
      · rw [zap_step q, zap_step q, ← ih']
        have vz := zap_vf (L := L) v z m
        have d1 := diff_out (t := t) (L := L) z (hLn m q) q (fun j hj nj => ev m j (hLn m q) hj q nj) vz s.length (Nat.le_refl _)
        have e1 : ∀ h, h < s.length → zap (outL s.length L) s.length (zap L m f) h = zap L m (maskL L f) h := fun h hh => by
          rw [zap_out h hh]
          show (if h ∈ L then (if h < m ∧ h ∈ L then 0 else f h) else 0) = (if h < m ∧ h ∈ L then 0 else (if h ∈ L then f h else 0))
          by_cases r : h ∈ L
          · by_cases w : h < m
            · rw [if_pos r, if_pos ⟨w, r⟩, if_pos ⟨w, r⟩]
            · rw [if_pos r, if_neg fun y => w y.1, if_neg fun y => w y.1, if_pos r]
          · rw [if_neg r, if_neg fun y => r y.2, if_neg r]
        rw [Tf_congr e1, Tf_up_congr e1] at d1
        exact (bne_swap d1.symm).symm
      · rw [zap_skip q, zap_skip q]
        exact ih'
  have k := key s.length (Nat.le_refl _)
  rw [Tf_congr (zap_all (L := L) (f := f)), Tf_congr (zap_all (L := L) (f := maskL L f))] at k
  have e0 : Tf s t (maskR L (maskL L f)) = Tf s t fun _ => 0 := Tf_congr fun h _ => by
    unfold maskR maskL
    by_cases r : h ∈ L
    · rw [if_pos r]
    · rw [if_neg r, if_neg r]
  rw [e0] at k
  revert k
  generalize Tf s t f = a
  generalize Tf s t (maskL L f) = b
  generalize Tf s t (maskR L f) = c
  generalize Tf s t (fun _ => 0) = d
  revert a b c d
  decide
theorem seam_no (hLn : ∀ h ∈ L, h < s.length) (hj : j < s.length) (hiL : i ∈ L) (njL : j ∉ L) (sm : SeamP s t L) : ¬ KnitP s t i j := by
  rintro ⟨f, a, b, v, ha, hb, odd⟩
  have ne : i ≠ j := fun e => njL (e ▸ hiL)
  have k1 := sm f v
  have k2 := sm _ (v.up (i := i) ha)
  have k3 := sm _ (v.up (i := j) hb)
  have k4 := sm _ ((v.up (i := i) ha).up (i := j) hb)
  have mL : ∀ g : Nat → Nat, maskL L (up g j b) = maskL L g := fun g => by
    funext h
    unfold maskL up
    by_cases r : h ∈ L
    · rw [if_pos r, if_pos r, if_neg fun (e : h = j) => njL (e ▸ r)]
    · rw [if_neg r, if_neg r]
  have mR : ∀ g : Nat → Nat, maskR L (up g i a) = maskR L g := fun g => by
    funext h
    unfold maskR up
    by_cases r : h ∈ L
    · rw [if_pos r, if_pos r]
    · rw [if_neg r, if_neg r, if_neg fun (e : h = i) => r (e ▸ hiL)]
  rw [mR] at k2
  rw [mL] at k3
  rw [mL] at k4
  rw [up_comm ne, mR] at k4
  rw [up_comm ne] at odd
  rw [xor4_1 k1, xor4_1 k2, xor4_1 k3, xor4_1 k4, xor4_cross] at odd
  cases odd
end
end Ck
set_option Elab.async false
set_option linter.all false
set_option maxRecDepth 100000
set_option maxHeartbeats 4000000
/-! Mc: classes, lots, settings by their places. -/
namespace Ck
/-! ### pairs -/
section
variable {n : Nat} {k : Nat → Nat → Bool} {i j : Nat}
theorem mem_pairs {p : Nat × Nat} : p ∈ pairsOf' n k ↔ p.1 < p.2 ∧ p.2 < n ∧ k p.1 p.2 = true := by
  unfold pairsOf'
  rw [List.mem_flatMap]
  constructor
  · rintro ⟨i, hi, hm⟩
    obtain ⟨j, hj, rfl⟩ := List.mem_map.mp hm
    obtain ⟨h1, h2⟩ := List.mem_filter.mp hj
    obtain ⟨h3, h4⟩ := Bool.and_eq_true_iff.mp h2
    exact ⟨of_decide_eq_true h3, List.mem_range.mp h1, h4⟩
  · rintro ⟨h1, h2, h3⟩
    refine ⟨p.1, List.mem_range.mpr (Nat.lt_trans h1 h2), List.mem_map.mpr ⟨p.2, List.mem_filter.mpr ⟨List.mem_range.mpr h2, ?_⟩, rfl⟩⟩
    rw [decide_eq_true h1, h3]
    rfl
theorem flat_len {α β : Type} (f : α → List β) (m : Nat) : ∀ l : List α, (∀ a ∈ l, (f a).length ≤ m) → (l.flatMap f).length ≤ l.length * m
  | [], _ => Nat.zero_le _
  | a :: l, h => by
    rw [List.flatMap_cons, List.length_append, List.length_cons, Nat.add_mul, Nat.one_mul]
    have h1 := h a (List.mem_cons_self ..)
    have h2 := flat_len f m l fun b hb => h b (List.mem_cons_of_mem _ hb)
    omega
theorem pairs_len (h6 : n ≤ 6) : (pairsOf' n k).length ≤ 36 := by
  unfold pairsOf'
  have h1 := flat_len (fun i => ((List.range n).filter fun j => decide (i < j) && k i j).map fun j => (i, j)) n (List.range n) fun a _ => by
    rw [List.length_map]
    have := List.length_filter_le (fun j => decide (a < j) && k a j) (List.range n)
    rw [List.length_range] at this
    exact this
  rw [List.length_range] at h1
  have h2 : n * n ≤ 6 * 6 := Nat.mul_le_mul h6 h6
  omega
theorem pairs_ok (h6 : n ≤ 6) : PairsOk n (pairsOf' n k) := ⟨fun p hp => by
    obtain ⟨h1, h2, _⟩ := mem_pairs.mp hp
    exact ⟨Nat.lt_trans h1 h2, h2⟩, by
    have := pairs_len (k := k) h6
    omega⟩
theorem range_above (hi : i < n) (p : Nat → Bool) : ((List.range n).filter fun j => decide (i < j) && p j) = ((List.range (n - (i + 1))).filter fun q => p (i + 1 + q)).map fun q => i + 1 + q := by
  have e : n = (i + 1) + (n - (i + 1)) := by omega
  have e2 : List.range n = List.range (i + 1) ++ (List.range (n - (i + 1))).map fun q => i + 1 + q := by
    rw [← List.range_add, ← e]
  rw [e2, List.filter_append, List.filter_map]
  have e3 : ((List.range (i + 1)).filter fun j => decide (i < j) && p j) = [] := by
    rw [List.filter_eq_nil_iff]
    intro j hj
    have := List.mem_range.mp hj
    rw [decide_eq_false (by omega)]
    exact Bool.false_ne_true
  rw [e3, List.nil_append]
  congr 1
  apply List.filter_congr
  intro q _
  show (decide (i < i + 1 + q) && p (i + 1 + q)) = p (i + 1 + q)
  rw [decide_eq_true (by omega)]
  rfl
end
/-! ### marks -/
section
variable {n : Nat} {m : List Nat} {ps : List (Nat × Nat)} {L : List Nat}
structure MkOk (n : Nat) (m : List Nat) : Prop where
  len : m.length = n
  low : ∀ h, h < n → gN m h ≤ h
  own : ∀ h, h < n → gN m (gN m h) = gN m h
theorem gN_map {F : Nat → Nat} {h : Nat} (hh : h < m.length) : gN (m.map F) h = F (gN m h) := gN_get (by rw [List.getElem?_map, gN_lt hh]; rfl)
theorem gN_range {h : Nat} (hh : h < n) : gN (List.range n) h = h := gN_get (List.getElem?_range hh)
def joinF (m : List Nat) (p : Nat × Nat) (c : Nat) : Nat := if c = max (gN m p.1) (gN m p.2) then min (gN m p.1) (gN m p.2) else c
theorem join_get {p : Nat × Nat} {h : Nat} (hh : h < m.length) : gN (joinStep m p) h = joinF m p (gN m h) := gN_map hh
theorem join_len {p : Nat × Nat} : (joinStep m p).length = m.length := List.length_map _
theorem join_ok {p : Nat × Nat} (ok : MkOk n m) (h1 : p.1 < n) (h2 : p.2 < n) : MkOk n (joinStep m p) := by
  have lm := ok.len
  have l1 := ok.low _ h1
  have l2 := ok.low _ h2
  have o1 := ok.own _ h1
  have o2 := ok.own _ h2
  refine ⟨by rw [join_len]; exact lm, fun h hh => ?_, fun h hh => ?_⟩
  · rw [join_get (by omega)]
    have := ok.low h hh
    unfold joinF
    split <;> omega
  · have lh := ok.low h hh
    have oh := ok.own h hh
    have lb : joinF m p (gN m h) < n := by
      unfold joinF
      split <;> omega
    rw [join_get (h := h) (by omega), join_get (by omega)]
    have key : ∀ c, gN m c = c → joinF m p (gN m c) = joinF m p c := fun c e => by rw [e]
    unfold joinF
    by_cases q : gN m h = max (gN m p.1) (gN m p.2)
    · rw [if_pos q]
      have em : gN m (min (gN m p.1) (gN m p.2)) = min (gN m p.1) (gN m p.2) := by
        rcases Nat.le_total (gN m p.1) (gN m p.2) with r | r
        · rw [Nat.min_eq_left r]
          exact o1
        · rw [Nat.min_eq_right r]
          exact o2
      rw [em]
      split
      · rfl
      · rfl
    · rw [if_neg q, oh, if_neg q]
theorem start_ok : MkOk n (List.range n) := ⟨List.length_range, fun h hh => by rw [gN_range hh]; exact Nat.le_refl _, fun h hh => by rw [gN_range hh, gN_range hh]⟩
theorem join_eq {p : Nat × Nat} (h1 : p.1 < m.length) (h2 : p.2 < m.length) : gN (joinStep m p) p.1 = gN (joinStep m p) p.2 := by
  rw [join_get h1, join_get h2]
  unfold joinF
  rcases Nat.le_total (gN m p.1) (gN m p.2) with r | r
  · rw [Nat.max_eq_right r, Nat.min_eq_left r, if_pos rfl]
    split <;> omega
  · rw [Nat.max_eq_left r, Nat.min_eq_right r, if_pos rfl]
    split <;> omega
/-- houses of one mark stand on one side, if no pair crosses -/
def Side (L : List Nat) (n : Nat) (m : List Nat) : Prop := ∀ h h', h < n → h' < n → gN m h = gN m h' → (h ∈ L ↔ h' ∈ L)
theorem join_side {p : Nat × Nat} (lm : m.length = n) (h1 : p.1 < n) (h2 : p.2 < n) (sd : Side L n m) (nc : p.1 ∈ L ↔ p.2 ∈ L) : Side L n (joinStep m p) := by
  intro h h' hh hh' e
  rw [join_get (by omega), join_get (by omega)] at e
  -- a house whose mark is one of both
  have one : ∀ x, x < n → (gN m x = gN m p.1 ∨ gN m x = gN m p.2) → (x ∈ L ↔ p.1 ∈ L) := fun x hx q => by
    rcases q with q | q
    · exact sd x p.1 hx h1 q
    · exact (sd x p.2 hx h2 q).trans nc.symm
  have mm : ∀ x, x = max (gN m p.1) (gN m p.2) → x = gN m p.1 ∨ x = gN m p.2 := fun x q => by omega
  have mn : ∀ x, x = min (gN m p.1) (gN m p.2) → x = gN m p.1 ∨ x = gN m p.2 := fun x q => by omega
  unfold joinF at e
  by_cases q : gN m h = max (gN m p.1) (gN m p.2)
  · rw [if_pos q] at e
    by_cases q' : gN m h' = max (gN m p.1) (gN m p.2)
    · exact sd h h' hh hh' (q.trans q'.symm)
    · rw [if_neg q'] at e
      exact (one h hh (mm _ q)).trans (one h' hh' (mn _ e.symm)).symm
  · rw [if_neg q] at e
    by_cases q' : gN m h' = max (gN m p.1) (gN m p.2)
    · rw [if_pos q'] at e
      exact (one h hh (mn _ e)).trans (one h' hh' (mm _ q')).symm
    · rw [if_neg q'] at e
      exact sd h h' hh hh' e
theorem marks_app (ps qs : List (Nat × Nat)) (n : Nat) : marksN n (ps ++ qs) = qs.foldl joinStep (marksN n ps) := List.foldl_append
theorem fold_ok : ∀ (ps : List (Nat × Nat)) (m : List Nat), MkOk n m → (∀ p ∈ ps, p.1 < n ∧ p.2 < n) → MkOk n (ps.foldl joinStep m)
  | [], _, ok, _ => ok
  | p :: ps, m, ok, h => fold_ok ps (joinStep m p) (join_ok ok (h p (List.mem_cons_self ..)).1 (h p (List.mem_cons_self ..)).2) fun q hq => h q (List.mem_cons_of_mem _ hq)
theorem marks_ok (h : ∀ p ∈ ps, p.1 < n ∧ p.2 < n) : MkOk n (marksN n ps) := fold_ok ps _ start_ok h
theorem fold_side : ∀ (ps : List (Nat × Nat)) (m : List Nat), MkOk n m → (∀ p ∈ ps, p.1 < n ∧ p.2 < n) → Side L n m → (∀ p ∈ ps, (p.1 ∈ L ↔ p.2 ∈ L)) → Side L n (ps.foldl joinStep m)
  | [], _, _, _, sd, _ => sd
  | p :: ps, m, ok, h, sd, nc =>
    have hp := h p (List.mem_cons_self ..)
    fold_side ps (joinStep m p) (join_ok ok hp.1 hp.2) (fun q hq => h q (List.mem_cons_of_mem _ hq)) (join_side ok.len hp.1 hp.2 sd (nc p (List.mem_cons_self ..))) fun q hq => nc q (List.mem_cons_of_mem _ hq)
theorem start_side : Side L n (List.range n) := fun h h' hh hh' e => by
  rw [gN_range hh, gN_range hh'] at e
  rw [e]
theorem fold_keep : ∀ (ps : List (Nat × Nat)) (m : List Nat), MkOk n m → (∀ p ∈ ps, p.1 < n ∧ p.2 < n) → ∀ a b, a < n → b < n → gN m a = gN m b → gN (ps.foldl joinStep m) a = gN (ps.foldl joinStep m) b
  | [], _, _, _, _, _, _, _, e => e
  | p :: ps, m, ok, h, a, b, ha, hb, e =>
    have hp := h p (List.mem_cons_self ..)
    fold_keep ps (joinStep m p) (join_ok ok hp.1 hp.2) (fun q hq => h q (List.mem_cons_of_mem _ hq)) a b ha hb (by
      rw [join_get (by rw [ok.len]; exact ha), join_get (by rw [ok.len]; exact hb), e])
theorem fold_eq : ∀ (ps : List (Nat × Nat)) (m : List Nat), MkOk n m → (∀ p ∈ ps, p.1 < n ∧ p.2 < n) → ∀ p ∈ ps, gN (ps.foldl joinStep m) p.1 = gN (ps.foldl joinStep m) p.2
  | [], _, _, _, _, hp => by cases hp
  | q :: ps, m, ok, h, p, hp => by
    have hq := h q (List.mem_cons_self ..)
    have ok' := join_ok ok hq.1 hq.2
    have h' : ∀ r ∈ ps, r.1 < n ∧ r.2 < n := fun r hr => h r (List.mem_cons_of_mem _ hr)
    rcases List.mem_cons.mp hp with rfl | hp
    · exact fold_keep ps _ ok' h' _ _ hq.1 hq.2 (join_eq (by rw [ok.len]; exact hq.1) (by rw [ok.len]; exact hq.2))
    · exact fold_eq ps _ ok' h' p hp
theorem marks_eq (h : ∀ p ∈ ps, p.1 < n ∧ p.2 < n) {p : Nat × Nat} (hp : p ∈ ps) : gN (marksN n ps) p.1 = gN (marksN n ps) p.2 := fold_eq ps _ start_ok h p hp
theorem marks_side (h : ∀ p ∈ ps, p.1 < n ∧ p.2 < n) (nc : ∀ p ∈ ps, (p.1 ∈ L ↔ p.2 ∈ L)) : Side L n (marksN n ps) := fold_side ps _ start_ok h start_side nc
/-! ### classes -/
theorem mem_members {c h : Nat} : h ∈ membersN n m c ↔ h < n ∧ gN m h = c := by
  unfold membersN
  rw [List.mem_filter, List.mem_range, decide_eq_true_iff]
theorem mem_mark (ok : MkOk n m) {c : Nat} : c ∈ m ↔ ∃ h, h < n ∧ gN m h = c := by
  constructor
  · intro hc
    obtain ⟨h, e⟩ := List.mem_iff_getElem?.mp hc
    have hl := (List.getElem?_eq_some_iff.mp e).1
    exact ⟨h, by rw [← ok.len]; exact hl, gN_get e⟩
  · rintro ⟨h, hh, rfl⟩
    exact gN_mem (by rw [ok.len]; exact hh)
theorem members_ne (ok : MkOk n m) {c : Nat} : membersN n m c ≠ [] ↔ c ∈ m := by
  rw [mem_mark ok]
  constructor
  · intro q
    obtain ⟨h, hh⟩ := List.exists_mem_of_ne_nil _ q
    exact ⟨h, mem_members.mp hh⟩
  · rintro ⟨h, hh⟩ e
    have := mem_members.mpr hh
    rw [e] at this
    cases this
theorem members_head (ok : MkOk n m) {c : Nat} (hc : c ∈ m) : (membersN n m c).head? = some c := by
  obtain ⟨h, hh, e⟩ := (mem_mark ok).mp hc
  have l := ok.low h hh
  have o := ok.own h hh
  rw [e] at l o
  have cn : c < n := by omega
  unfold membersN
  rw [List.head?_filter, List.find?_range_eq_some]
  refine ⟨decide_eq_true o, List.mem_range.mpr cn, fun j hj => ?_⟩
  have := ok.low j (by omega)
  rw [decide_eq_false (by omega)]
  rfl
theorem classes_filter (ok : MkOk n m) : ((List.range n).filter fun c => decide (0 < (membersN n m c).length)) = (List.range n).filter fun c => decide (c ∈ m) := by
  apply List.filter_congr
  intro c _
  apply decide_eq_decide.mpr
  rw [← members_ne ok, List.length_pos_iff]
theorem classes_eq {ps : List (Nat × Nat)} : classesN n ps = ((List.range n).filter fun c => decide (c ∈ marksN n ps)).map (membersN n (marksN n ps)) := rfl
theorem mem_classes (h : ∀ p ∈ ps, p.1 < n ∧ p.2 < n) {cl : List Nat} : cl ∈ classesN n ps ↔ ∃ c, c ∈ marksN n ps ∧ cl = membersN n (marksN n ps) c := by
  unfold classesN
  rw [List.mem_map]
  constructor
  · rintro ⟨c, hc, rfl⟩
    exact ⟨c, of_decide_eq_true (List.mem_filter.mp hc).2, rfl⟩
  · rintro ⟨c, hc, rfl⟩
    refine ⟨c, List.mem_filter.mpr ⟨List.mem_range.mpr ?_, decide_eq_true hc⟩, rfl⟩
    have ok := marks_ok h
    obtain ⟨x, hx, e⟩ := (mem_mark ok).mp hc
    have := ok.low x hx
    omega
theorem classes_asc (h : ∀ p ∈ ps, p.1 < n ∧ p.2 < n) : (classesN n ps).Pairwise fun a b => ∃ x y, a.head? = some x ∧ b.head? = some y ∧ x < y := by
  have ok := marks_ok h
  unfold classesN
  rw [List.pairwise_map]
  have h1 : ((List.range n).filter fun c => decide (c ∈ marksN n ps)).Pairwise (· < ·) := List.pairwise_lt_range.filter _
  refine h1.imp_of_mem fun {a b} ha hb hab => ⟨a, b, members_head ok (of_decide_eq_true (List.mem_filter.mp ha).2), members_head ok (of_decide_eq_true (List.mem_filter.mp hb).2), hab⟩
theorem classes_ne (h : ∀ p ∈ ps, p.1 < n ∧ p.2 < n) : ∀ cl ∈ classesN n ps, cl ≠ [] := by
  intro cl hcl
  obtain ⟨c, hc, rfl⟩ := (mem_classes h).mp hcl
  exact (members_ne (marks_ok h)).mpr hc
/-! ### parted clumps -/
def insideN (L cl : List Nat) : Nat := (cl.filter fun h => decide (h ∈ L)).length
def partB (L cl : List Nat) : Bool := decide (0 < insideN L cl ∧ insideN L cl < cl.length)
theorem part_iff {cl : List Nat} : partB L cl = true ↔ (∃ h ∈ cl, h ∈ L) ∧ ∃ h ∈ cl, h ∉ L := by
  unfold partB insideN
  rw [decide_eq_true_iff, List.length_pos_iff, List.length_filter_lt_length_iff_exists]
  constructor
  · rintro ⟨h1, x, hx, nx⟩
    obtain ⟨y, hy⟩ := List.exists_mem_of_ne_nil _ h1
    exact ⟨⟨y, (List.mem_filter.mp hy).1, of_decide_eq_true (List.mem_filter.mp hy).2⟩, x, hx, fun q => nx (decide_eq_true q)⟩
  · rintro ⟨⟨y, hy, ly⟩, x, hx, nx⟩
    refine ⟨fun e => ?_, x, hx, fun q => nx (of_decide_eq_true q)⟩
    have : y ∈ cl.filter fun h => decide (h ∈ L) := List.mem_filter.mpr ⟨hy, decide_eq_true ly⟩
    rw [e] at this
    cases this
theorem parted_iff (h : ∀ p ∈ ps, p.1 < n ∧ p.2 < n) : (∀ cl ∈ classesN n ps, partB L cl = false) ↔ ∀ p ∈ ps, crossB L p = false := by
  have ok := marks_ok h
  constructor
  · intro q p hp
    cases e : crossB L p with
    | false => rfl
    | true =>
      exfalso
      have hm := h p hp
      have e2 := marks_eq h hp
      have cm : gN (marksN n ps) p.1 ∈ marksN n ps := gN_mem (by rw [ok.len]; exact hm.1)
      have k := q _ ((mem_classes h).mpr ⟨_, cm, rfl⟩)
      have m1 : p.1 ∈ membersN n (marksN n ps) (gN (marksN n ps) p.1) := mem_members.mpr ⟨hm.1, rfl⟩
      have m2 : p.2 ∈ membersN n (marksN n ps) (gN (marksN n ps) p.1) := mem_members.mpr ⟨hm.2, e2.symm⟩
      have k2 : partB L (membersN n (marksN n ps) (gN (marksN n ps) p.1)) = true := by
        rw [part_iff]
        unfold crossB at e
        by_cases a : p.1 ∈ L
        · by_cases b : p.2 ∈ L
          · rw [decide_eq_true a, decide_eq_true b] at e
            cases e
          · exact ⟨⟨_, m1, a⟩, _, m2, b⟩
        · by_cases b : p.2 ∈ L
          · exact ⟨⟨_, m2, b⟩, _, m1, a⟩
          · rw [decide_eq_false a, decide_eq_false b] at e
            cases e
      rw [k] at k2
      cases k2
  · intro q cl hcl
    cases e : partB L cl with
    | false => rfl
    | true =>
      exfalso
      obtain ⟨⟨x, hx, lx⟩, y, hy, ly⟩ := part_iff.mp e
      obtain ⟨c, hc, rfl⟩ := (mem_classes h).mp hcl
      have mx := mem_members.mp hx
      have my := mem_members.mp hy
      have sd := marks_side (L := L) h fun p hp => by
        have := q p hp
        unfold crossB at this
        by_cases a : p.1 ∈ L
        · by_cases b : p.2 ∈ L
          · exact ⟨fun _ => b, fun _ => a⟩
          · rw [decide_eq_true a, decide_eq_false b] at this
            cases this
        · by_cases b : p.2 ∈ L
          · rw [decide_eq_false a, decide_eq_true b] at this
            cases this
          · exact ⟨fun z => absurd z a, fun z => absurd z b⟩
      exact ly ((sd x y mx.1 my.1 (mx.2.trans my.2.symm)).mp lx)
end
section
variable {s : List Nat} {t : List Bool} {L : List Nat}
theorem seam_pairs (z : Sz s) (hL : ∀ h ∈ L, h < s.length) : SeamP s t L ↔ ∀ p ∈ pairsN s t, crossB L p = false := by
  constructor
  · intro sm p hp
    obtain ⟨h1, h2, h3⟩ := mem_pairs.mp hp
    have k := knitB_iff.mp h3
    unfold crossB
    by_cases a : p.1 ∈ L
    · by_cases b : p.2 ∈ L
      · rw [decide_eq_true a, decide_eq_true b]
        rfl
      · exact absurd k (seam_no hL h2 a b sm)
    · by_cases b : p.2 ∈ L
      · exact absurd (knit_comm (Nat.ne_of_lt h1) k) (seam_no hL (Nat.lt_trans h1 h2) b a sm)
      · rw [decide_eq_false a, decide_eq_false b]
        rfl
  · intro q
    refine seam_of z hL fun i j hi hj iL jL k => ?_
    have ne : i ≠ j := fun e => jL (e ▸ iL)
    rcases Nat.lt_or_ge i j with lt | ge
    · have := q (i, j) (mem_pairs.mpr ⟨lt, hj, knitB_iff.mpr k⟩)
      unfold crossB at this
      rw [decide_eq_true (show (i, j).1 ∈ L from iL), decide_eq_false (show ¬ (i, j).2 ∈ L from jL)] at this
      cases this
    · have := q (j, i) (mem_pairs.mpr ⟨by show j < i; omega, hi, knitB_iff.mpr (knit_comm ne k)⟩)
      unfold crossB at this
      rw [decide_eq_false (show ¬ (j, i).1 ∈ L from jL), decide_eq_true (show (j, i).2 ∈ L from iL)] at this
      cases this
theorem seamB_eq (z : Sz s) (hL : ∀ h ∈ L, h < s.length) : seamB s t L = !(pairsN s t).any (crossB L) := by
  cases e : (pairsN s t).any (crossB L) with
  | false => exact seamB_t ((seam_pairs z hL).mpr fun p hp => Bool.eq_false_iff.mpr fun q => by
      have := List.any_eq_true.mpr ⟨p, hp, q⟩
      rw [e] at this
      cases this)
  | true =>
    exact seamB_f fun sm => by
      obtain ⟨p, hp, q⟩ := List.any_eq_true.mp e
      rw [(seam_pairs z hL).mp sm p hp] at q
      cases q
theorem sz_pairs (z : Sz s) : ∀ p ∈ pairsN s t, p.1 < s.length ∧ p.2 < s.length := (pairs_ok z.few).1
theorem seamB_parted (z : Sz s) (hL : ∀ h ∈ L, h < s.length) : seamB s t L = decide (((clumpsN s t).filter (partB L)).length = 0) := by
  by_cases q : SeamP s t L
  · rw [seamB_t q]
    refine (decide_eq_true ?_).symm
    rw [List.length_eq_zero_iff, List.filter_eq_nil_iff]
    intro cl hcl
    rw [(parted_iff (sz_pairs z)).mpr ((seam_pairs z hL).mp q) cl hcl]
    exact Bool.false_ne_true
  · rw [seamB_f q]
    refine (decide_eq_false fun e => q ((seam_pairs z hL).mpr ((parted_iff (sz_pairs z)).mp fun cl hcl => ?_))).symm
    rw [List.length_eq_zero_iff, List.filter_eq_nil_iff] at e
    exact Bool.eq_false_iff.mpr (e cl hcl)
end
/-! ### lots -/
theorem lots_ok : ∀ n l, l ∈ lotsN n → LotOk n l
  | 0, l, h => by
    have e := List.mem_singleton.mp h
    subst e
    exact ⟨List.Pairwise.nil, fun h hh => by cases hh⟩
  | n + 1, l, h => by
    have e : lotsN (n + 1) = lotsStep (lotsN n) n := by
      unfold lotsN
      rw [List.range_succ, List.foldl_append]
      rfl
    rw [e] at h
    unfold lotsStep at h
    rcases List.mem_append.mp h with h | h
    · obtain ⟨p, q⟩ := lots_ok n l h
      exact ⟨p, fun x hx => Nat.lt_succ_of_lt (q x hx)⟩
    · obtain ⟨l', hl', rfl⟩ := List.mem_map.mp h
      obtain ⟨p, q⟩ := lots_ok n l' hl'
      refine ⟨List.pairwise_append.mpr ⟨p, List.pairwise_singleton _ _, fun a ha b hb => ?_⟩, fun x hx => ?_⟩
      · rw [List.mem_singleton.mp hb]
        exact q a ha
      · rcases List.mem_append.mp hx with hx | hx
        · exact Nat.lt_succ_of_lt (q x hx)
        · rw [List.mem_singleton.mp hx]
          exact Nat.lt_succ_self n
theorem lots_len : ∀ n, (lotsN n).length = 2 ^ n
  | 0 => rfl
  | n + 1 => by
    have e : lotsN (n + 1) = lotsStep (lotsN n) n := by
      unfold lotsN
      rw [List.range_succ, List.foldl_append]
      rfl
    rw [e]
    unfold lotsStep
    rw [List.length_append, List.length_map, lots_len n, Nat.pow_succ]
    omega
theorem asc_len : ∀ {l : List Nat} {n k : Nat}, l.Pairwise (· < ·) → (∀ h ∈ l, k ≤ h ∧ h < n) → l.length ≤ n - k
  | [], _, _, _, _ => Nat.zero_le _
  | a :: l, n, k, p, q => by
    obtain ⟨p1, p2⟩ := List.pairwise_cons.mp p
    have qa := q a (List.mem_cons_self ..)
    have ih := asc_len (n := n) (k := a + 1) p2 fun h hh => ⟨p1 h hh, (q h (List.mem_cons_of_mem _ hh)).2⟩
    rw [List.length_cons]
    omega
theorem LotOk.len {n : Nat} {l : List Nat} (h : LotOk n l) : l.length ≤ n := asc_len (k := 0) h.1 fun x hx => ⟨Nat.zero_le _, h.2 x hx⟩
theorem LotOk.nodup {n : Nat} {l : List Nat} (h : LotOk n l) : l.Nodup := h.1.imp fun a => Nat.ne_of_lt a
/-! ### settings by place -/
theorem flat_get {α β : Type} {f : α → List β} {c : Nat} (hc : 0 < c) : ∀ {l : List α} {q : Nat} {y : β}, (∀ a ∈ l, (f a).length = c) → (l.flatMap f)[q]? = some y → ∃ x, l[q / c]? = some x ∧ (f x)[q % c]? = some y
  | [], q, y, _, e => by simp at e
  | a :: l, q, y, h, e => by
    rw [List.flatMap_cons] at e
    have la := h a (List.mem_cons_self ..)
    by_cases hq : q < c
    · rw [List.getElem?_append_left (by omega)] at e
      rw [Nat.div_eq_of_lt hq, Nat.mod_eq_of_lt hq]
      exact ⟨a, rfl, e⟩
    · rw [List.getElem?_append_right (by omega), la] at e
      obtain ⟨x, h1, h2⟩ := flat_get hc (l := l) (q := q - c) (fun b hb => h b (List.mem_cons_of_mem _ hb)) e
      have e1 : q = (q - c) + c := by omega
      refine ⟨x, ?_, ?_⟩
      · rw [e1, Nat.add_div_right _ hc]
        exact h1
      · rw [e1, Nat.add_mod_right]
        exact h2
theorem flat_len_eq {α β : Type} {f : α → List β} {c : Nat} : ∀ {l : List α}, (∀ a ∈ l, (f a).length = c) → (l.flatMap f).length = l.length * c
  | [], _ => (Nat.zero_mul _).symm
  | a :: l, h => by
    rw [List.flatMap_cons, List.length_append, List.length_cons, Nat.add_mul, Nat.one_mul, h a (List.mem_cons_self ..), flat_len_eq fun b hb => h b (List.mem_cons_of_mem _ hb), Nat.add_comm]
structure RowsOk (u : List Nat) (rows : List (List Nat)) : Prop where
  len : rows.length = prodN u
  at_ : ∀ k x, rows[k]? = some x → VS u x ∧ placeN u x = k
theorem rows_nil : RowsOk [] [[]] := ⟨rfl, fun k x e => by
  cases k with
  | zero =>
    have e1 : [] = x := Option.some.inj e
    subst e1
    exact ⟨⟨rfl, fun h hh => absurd hh (Nat.not_lt_zero _)⟩, rfl⟩
  | succ k => simp at e⟩
theorem gN_snoc_l {u : List Nat} {c h : Nat} (hh : h < u.length) : gN (u ++ [c]) h = gN u h := gN_get (by rw [List.getElem?_append_left hh]; exact gN_lt hh)
theorem gN_snoc_r {u : List Nat} {c : Nat} : gN (u ++ [c]) u.length = c := gN_get (by rw [List.getElem?_append_right (Nat.le_refl _), Nat.sub_self]; rfl)
theorem rows_step {u : List Nat} {rows : List (List Nat)} {c : Nat} (hc : 0 < c) (ok : RowsOk u rows) : RowsOk (u ++ [c]) (rowStep rows c) := by
  have ll : ∀ x ∈ rows, ((List.range c).map fun a => x ++ [a]).length = c := fun x _ => by rw [List.length_map, List.length_range]
  unfold rowStep
  refine ⟨by rw [flat_len_eq ll, ok.len, prod_app, prod_one], fun k x e => ?_⟩
  obtain ⟨y, h1, h2⟩ := flat_get hc ll e
  obtain ⟨⟨v1, v2⟩, v3⟩ := ok.at_ _ _ h1
  rw [List.getElem?_map] at h2
  have hm := Nat.mod_lt k hc
  rw [List.getElem?_range hm] at h2
  have e2 : y ++ [k % c] = x := Option.some.inj h2
  subst e2
  refine ⟨⟨by rw [List.length_append, List.length_append, v1]; rfl, fun h hh => ?_⟩, ?_⟩
  · rw [List.length_append, List.length_singleton] at hh
    by_cases q : h < u.length
    · rw [gN_snoc_l q, gN_snoc_l (by omega)]
      exact v2 h q
    · have e3 : h = u.length := by omega
      subst e3
      rw [gN_snoc_r, ← v1, gN_snoc_r]
      exact hm
  · rw [place_snoc v1.symm, v3]
    rw [Nat.mul_comm]
    exact Nat.div_add_mod k c
theorem rows_take {s : List Nat} (z : ∀ c ∈ s, 1 ≤ c) : ∀ i, i ≤ s.length → RowsOk (s.take i) ((s.take i).foldl rowStep [[]])
  | 0, _ => rows_nil
  | i + 1, h => by
    have ih := rows_take z i (by omega)
    rw [take_snoc (show i < s.length by omega), List.foldl_append]
    exact rows_step (z _ (gN_mem (show i < s.length by omega))) ih
theorem rows_ok {s : List Nat} (z : Sz s) : RowsOk s (settingsN s) := by
  have h := rows_take z.pos s.length (Nat.le_refl _)
  rw [List.take_length] at h
  exact h
theorem place_inj : ∀ {s x y : List Nat}, VS s x → VS s y → placeN s x = placeN s y → x = y
  | [], [], [], _, _, _ => rfl
  | [], _ :: _, _, h, _, _ => by have := h.1; simp at this
  | [], [], _ :: _, _, h, _ => by have := h.1; simp at this
  | _ :: _, [], _, h, _, _ => by have := h.1; simp at this
  | _ :: _, _ :: _, [], _, h, _ => by have := h.1; simp at this
  | c :: s, a :: x, b :: y, h1, h2, e => by
    have v1 : VS s x := ⟨by simpa using h1.1, fun k hk => h1.2 (k + 1) (by simpa using hk)⟩
    have v2 : VS s y := ⟨by simpa using h2.1, fun k hk => h2.2 (k + 1) (by simpa using hk)⟩
    have l1 := place_lt v1
    have l2 := place_lt v2
    have e' : a * prodN s + placeN s x = b * prodN s + placeN s y := e
    have pp : 0 < prodN s := by omega
    have d1 : (a * prodN s + placeN s x) / prodN s = a := by
      rw [Nat.mul_comm, Nat.mul_add_div pp, Nat.div_eq_of_lt l1, Nat.add_zero]
    have d2 : (b * prodN s + placeN s y) / prodN s = b := by
      rw [Nat.mul_comm, Nat.mul_add_div pp, Nat.div_eq_of_lt l2, Nat.add_zero]
    have ab : a = b := by rw [← d1, ← d2, e']
    subst ab
    rw [place_inj v1 v2 (by omega)]
/-- each setting stands in its place -/
theorem row_at {s : List Nat} (z : Sz s) {f : Nat → Nat} (v : Vf s f) : (settingsN s)[pl s f]? = some (toL s f) := by
  have ok := rows_ok z
  have lt : pl s f < (settingsN s).length := by
    rw [ok.len]
    exact pl_lt v
  have e : (settingsN s)[pl s f]? = some (settingsN s)[pl s f] := List.getElem?_eq_getElem lt
  obtain ⟨v1, v2⟩ := ok.at_ _ _ e
  rw [e, place_inj v1 (toL_vs v) (by rw [v2, toL_pl])]
theorem setting_get : ∀ {s x : List Nat}, (∀ c ∈ s, 1 ≤ c) → VS s x → ∀ h, h < s.length → placeN s x / sp s h % gN s h = gN x h
  | [], _, _, _, h, hh => absurd hh (Nat.not_lt_zero _)
  | _ :: _, [], _, v, _, _ => by have := v.1; simp at this
  | c :: s, a :: x, z, v, 0, _ => by
    have v1 : VS s x := ⟨by simpa using v.1, fun k hk => v.2 (k + 1) (by simpa using hk)⟩
    have l1 := place_lt v1
    have pp : 0 < prodN s := by omega
    have ha : a < c := v.2 0 (Nat.succ_pos _)
    show (a * prodN s + placeN s x) / prodN s % c = a
    rw [Nat.mul_comm, Nat.mul_add_div pp, Nat.div_eq_of_lt l1, Nat.add_zero, Nat.mod_eq_of_lt ha]
  | c :: s, a :: x, z, v, h + 1, hh => by
    have v1 : VS s x := ⟨by simpa using v.1, fun k hk => v.2 (k + 1) (by simpa using hk)⟩
    have z1 : ∀ c ∈ s, 1 ≤ c := fun d hd => z d (List.mem_cons_of_mem _ hd)
    have hs : h < s.length := by simpa using hh
    have ih := setting_get z1 v1 h hs
    show (a * prodN s + placeN s x) / sp s h % gN s h = gN x h
    have e : prodN s = sp s h * (gN s h * prodN (s.take h)) := by
      have e1 : s = s.take h ++ s.drop h := (List.take_append_drop h s).symm
      have e2 : prodN s = prodN (s.take h) * prodN (s.drop h) := by
        rw [← prod_app, ← e1]
      rw [e2, drop_get hs, sp_eq s h hs]
      show prodN (s.take h) * (gN s h * prodN (s.drop (h + 1))) = _
      rw [Nat.mul_comm, Nat.mul_assoc, Nat.mul_left_comm]
    have sp0 : 0 < sp s h := by
      rw [sp_eq s h hs]
      exact prod_pos fun d hd => z1 d (List.mem_of_mem_drop hd)
    have e3 : a * prodN s = sp s h * (gN s h * (a * prodN (s.take h))) := by
      rw [e, Nat.mul_left_comm, Nat.mul_left_comm a]
    rw [e3, Nat.mul_add_div sp0, Nat.add_comm, Nat.add_mul_mod_self_left]
    exact ih
theorem settingN_eq {s : List Nat} (z : Sz s) {f : Nat → Nat} (v : Vf s f) : settingN s (pl s f) = toL s f := by
  unfold settingN toL
  apply List.map_congr_left
  intro h hh
  have hs := List.mem_range.mp hh
  have := setting_get z.pos (toL_vs v) h hs
  rw [toL_pl, toL_get hs] at this
  exact this
/-! ### sums on lots -/
theorem on_cons {st l x : List Nat} {h : Nat} : onN st (h :: l) x = gN x h * gN st h + onN st l x := by
  unfold onN
  rw [List.map_cons, List.sum_cons]
theorem on_pl {s x : List Nat} : ∀ {l : List Nat}, l.Nodup → (∀ h ∈ l, h < s.length) → onN (spansN s) l x = pl s (maskL l (gN x))
  | [], _, _ => by
    have e : maskL [] (gN x) = fun _ => 0 := by
      funext h
      unfold maskL
      exact if_neg (by simp)
    rw [e, pl_nil]
    rfl
  | h :: l, nd, hl => by
    obtain ⟨n1, n2⟩ := List.nodup_cons.mp nd
    have ih := on_pl (s := s) (x := x) n2 fun k hk => hl k (List.mem_cons_of_mem _ hk)
    have hh := hl h (List.mem_cons_self ..)
    have e : maskL (h :: l) (gN x) = up (maskL l (gN x)) h (gN x h) := by
      funext k
      show (if k ∈ h :: l then gN x k else 0) = (if k = h then gN x h else if k ∈ l then gN x k else 0)
      by_cases q : k = h
      · rw [if_pos (by rw [q]; exact List.mem_cons_self ..), if_pos q, q]
      · by_cases r : k ∈ l
        · rw [if_pos (List.mem_cons_of_mem _ r), if_neg q, if_pos r]
        · rw [if_neg fun w => (List.mem_cons.mp w).elim q r, if_neg q, if_neg r]
    rw [on_cons, e, pl_up0 hh (show maskL l (gN x) h = 0 from if_neg n1), ih, Nat.add_comm]
    rfl
theorem on_all {s x : List Nat} (hx : x.length = s.length) : onN (spansN s) (List.range s.length) x = placeN s x := by
  rw [on_pl List.nodup_range fun h hh => List.mem_range.mp hh, place_pl hx]
  refine pl_congr fun h hh => ?_
  unfold maskL
  exact if_pos (List.mem_range.mpr hh)
theorem parity (a b c d : Bool) : decide ((a.toNat + b.toNat + c.toNat + d.toNat) % 2 = 1) = xor4 a b c d := by
  cases a <;> cases b <;> cases c <;> cases d <;> rfl
end Ck
set_option Elab.async false
set_option linter.all false
set_option maxRecDepth 100000
set_option maxHeartbeats 4000000
/-! G: what reads and calls give, by the shapes of Mi. -/
namespace Ck
open PySem PySem.Spec PyProof.Rows L2 Evl RZ
section
variable {K : PySem.W.Frag} {σ : L2.St} {H : Hp} {ta tb tc te : TE} {tl : TA} {s l x : List Nat} {t : List Bool} {a b c h p i j m n : Nat} {v : V}
theorem hold_int {i : Int} : Hold K H (.int i) (.d (.int i)) := Tp.int i
theorem hold_bl {z : Bool} : Hold K H (.bl z) (.d (.bl z)) := Tp.bl z
theorem hold_non : Hold K H .non (.d .non) := Tp.non
theorem hold_str {z : PySem.Str} : Hold K H (.str z) (.d (.str z)) := Tp.str z
theorem get_nat (hh : h < s.length) : (s.map Dt.nat)[h]? = some (Dt.nat (gN s h)) := by
  rw [List.getElem?_map, List.getElem?_eq_getElem hh]
  unfold gN
  rw [List.getD_eq_getElem?_getD, List.getElem?_eq_getElem hh]
  rfl
theorem get_bit (hh : h < t.length) : (t.map bitD)[h]? = some (bitD (tget t h)) := by
  rw [List.getElem?_map, List.getElem?_eq_getElem hh]
  unfold tget
  rw [List.getD_eq_getElem?_getD, List.getElem?_eq_getElem hh]
  rfl
theorem sp_len : ∀ s : List Nat, (spansN s).length = s.length
  | [] => rfl
  | _ :: s => congrArg Nat.succ (sp_len s)
theorem g_ixTN (ha : EvG K ta σ H (.d (dN s))) (hb : EvG K tb σ H (.d (.nat h))) (hh : h < s.length) : EvG K (xIxT K ta tb) σ H (.d (.nat (gN s h))) := g_ixT (ds := s.map Dt.nat) ha hb (get_nat hh)
theorem g_ixLN (ha : EvG K ta σ H (sN s)) (hb : EvG K tb σ H (.d (.nat h))) (hh : h < s.length) : EvG K (xIxL K ta tb) σ H (.d (.nat (gN s h))) := g_ixL (ds := s.map Dt.nat) ha hb (get_nat hh)
theorem g_sp (ha : EvG K ta σ H (sN (spansN s))) (hb : EvG K tb σ H (.d (.nat h))) (hh : h < s.length) : EvG K (xIxL K ta tb) σ H (.d (.nat (sp s h))) := g_ixL (ds := (spansN s).map Dt.nat) ha hb (get_nat (by rw [sp_len]; exact hh))
theorem g_ixTB (ha : EvG K ta σ H (.d (dB t))) (hb : EvG K tb σ H (.d (.nat h))) (hh : h < t.length) : EvG K (xIxT K ta tb) σ H (.d (bitD (tget t h))) := g_ixT (ds := t.map bitD) ha hb (get_bit hh)
def iget (r : List Int) (p : Nat) : Int := r.getD p 0
theorem get_int {r : List Int} (hh : h < r.length) : (r.map Dt.int)[h]? = some (Dt.int (iget r h)) := by
  rw [List.getElem?_map, List.getElem?_eq_getElem hh]
  unfold iget
  rw [List.getD_eq_getElem?_getD, List.getElem?_eq_getElem hh]
  rfl
theorem g_ixLI {r : List Int} (ha : EvG K ta σ H (sI r)) (hb : EvG K tb σ H (.d (.nat h))) (hh : h < r.length) : EvG K (xIxL K ta tb) σ H (.d (.int (iget r h))) := g_ixL (ds := r.map Dt.int) ha hb (get_int hh)
theorem g_lenN (ha : EvG K ta σ H (.d (dN s))) : EvG K (xLen K ta) σ H (.d (.nat s.length)) := (g_lenT (ds := s.map Dt.nat) ha).is (by rw [List.length_map])
theorem g_lenB (ha : EvG K ta σ H (.d (dB t))) : EvG K (xLen K ta) σ H (.d (.nat t.length)) := (g_lenT (ds := t.map bitD) ha).is (by rw [List.length_map])
theorem g_lenS (ha : EvG K ta σ H (sN s)) : EvG K (xLen K ta) σ H (.d (.nat s.length)) := (g_lenL (ds := s.map Dt.nat) ha).is (by rw [List.length_map])
theorem xorD (a b : Bool) : Builtin.bitXor (a.toNat : Int) (b.toNat : Int) = ((a != b).toNat : Int) := by
  rw [Bits.bitXor_pp (by omega) (by omega)]
  cases a <;> cases b <;> rfl
theorem g_xorB {a b : Bool} (ha : EvG K ta σ H (.d (bitD a))) (hb : EvG K tb σ H (.d (bitD b))) : EvG K (xXor ta tb) σ H (.d (bitD (a != b))) := (g_xor ha hb).isI (xorD a b)
theorem g_is1 {a : Bool} (ha : EvG K ta σ H (.d (bitD a))) (hb : EvG K tb σ H (.d (.nat 1))) : EvG K (xEq ta tb) σ H (.d (.bl a)) := (g_eqN ha hb).isB (by cases a <;> rfl)
theorem g_neBit {a b : Bool} (ha : EvG K ta σ H (.d (bitD a))) (hb : EvG K tb σ H (.d (bitD b))) : EvG K (xNe ta tb) σ H (.d (.bl (a != b))) := (g_neN ha hb).isB (by cases a <;> cases b <;> rfl)
theorem g_isiTup {d : Dt} (ha : EvG K ta σ H (.d d)) (e : tyName d = "tuple") : EvG K (xIsi K ta (xTy "tuple")) σ H (.d (.bl true)) := g_isi ha (by rw [e]; decide +kernel)
theorem g_isiInt {d : Dt} (ha : EvG K ta σ H (.d d)) (e : tyName d = "int") : EvG K (xIsi K ta (xTy "int")) σ H (.d (.bl true)) := g_isi ha (by rw [e]; decide +kernel)
theorem g_isiBoolI {d : Dt} (ha : EvG K ta σ H (.d d)) (e : tyName d = "int") : EvG K (xIsi K ta (xTy "bool")) σ H (.d (.bl false)) := g_isi ha (by rw [e]; decide +kernel)
/-! calls -/
theorem gc_want {z : PySem.Str} (h : EvAs K tl σ H [.d (.bl true), .d (.str z)]) : EvG K (xCall (sp_a_want K) tl) σ H (.d .non) := g_call z h True.intro
theorem gc_integer {i : Int} (h : EvAs K tl σ H [.d (.int i)]) : EvG K (xCall (sp_integer_fits K) tl) σ H (.d (.bl true)) := g_call i h True.intro
theorem gc_number (h : EvAs K tl σ H [.d (.nat a)]) : EvG K (xCall (sp_number_fits K) tl) σ H (.d (.bl true)) := g_call a h True.intro
theorem gc_many (h : EvAs K tl σ H [.d (.nat a)]) : EvG K (xCall (sp_many_fits K) tl) σ H (.d (.bl (decide (1 ≤ a)))) := g_call a h True.intro
theorem gc_sizes (h : EvAs K tl σ H [.d (dN s)]) (z : Sz s) : EvG K (xCall (sp_sizes_fit K) tl) σ H (.d (.bl true)) := g_call s h z
theorem gc_setting (h : EvAs K tl σ H [.d (dN s), .d (dN x)]) (z : Sz s) (q : VS s x) : EvG K (xCall (sp_setting_fits K) tl) σ H (.d (.bl true)) := g_call (s, x) h ⟨z, q⟩
theorem gc_house (h : EvAs K tl σ H [.d (.nat a), .d (.nat b)]) : EvG K (xCall (sp_house_fits K) tl) σ H (.d (.bl (decide (b < a)))) := g_call (a, b) h True.intro
theorem gc_lot (h : EvAs K tl σ H [.d (.nat a), .d (dN l)]) (z : LotOk a l) : EvG K (xCall (sp_lot_fits K) tl) σ H (.d (.bl true)) := g_call (a, l) h z
theorem gc_spans (h : EvAs K tl σ H [.d (dN s)]) (z : Sz s) : EvG K (xCall (sp_spans_of K) tl) σ H (sN (spansN s)) := g_call s h z
theorem gc_manys (h : EvAs K tl σ H [.d (dN s)]) (z : Sz s) : EvG K (xCall (sp_many_settings K) tl) σ H (.d (.nat (prodN s))) := g_call s h z
theorem gc_place (h : EvAs K tl σ H [.d (dN s), .d (dN x)]) (z : Sz s) (q : VS s x) : EvG K (xCall (sp_place_by K) tl) σ H (.d (.nat (placeN s x))) := g_call (s, x) h ⟨z, q⟩
theorem gc_settingby (h : EvAs K tl σ H [.d (dN s), .d (.nat p)]) (z : Sz s) : EvG K (xCall (sp_setting_by K) tl) σ H (.d (dN (settingN s p))) := g_call (s, p) h z
theorem gc_corner (h : EvAs K tl σ H [.d (dN s), sN l]) (z : Sz s) (q : l.Sublist (List.range s.length)) : EvG K (xCall (sp_corner_places K) tl) σ H (sN (cornersN s l)) := g_call (s, l) h ⟨z, q⟩
theorem gc_isnumber (h : EvAs K tl σ H [.d (.nat a)]) : EvG K (xCall (sp_is_number K) tl) σ H (.d (.bl true)) := g_call a h True.intro
theorem gc_isbit {a : Bool} (h : EvAs K tl σ H [.d (bitD a)]) : EvG K (xCall (sp_is_bit K) tl) σ H (.d (.bl true)) := g_call a h True.intro
theorem gc_issizes (h : EvAs K tl σ H [.d (dN s)]) (z : Sz s) : EvG K (xCall (sp_is_sizes K) tl) σ H (.d (.bl true)) := g_call s h z
theorem gc_issetting (h : EvAs K tl σ H [.d (dN s), .d (dN x)]) (z : Sz s) (q : VS s x) : EvG K (xCall (sp_is_setting K) tl) σ H (.d (.bl true)) := g_call (s, x) h ⟨z, q⟩
theorem gc_islot (h : EvAs K tl σ H [.d (.nat a), .d (dN l)]) (z : 1 ≤ a ∧ LotOk a l) : EvG K (xCall (sp_is_lot K) tl) σ H (.d (.bl true)) := g_call (a, l) h z
theorem gc_istable (h : EvAs K tl σ H [.d (dN s), .d (dB t)]) (z : Sz s) (q : Tb s t) : EvG K (xCall (sp_is_table K) tl) σ H (.d (.bl true)) := g_call (s, t) h ⟨z, q⟩
theorem gc_houses (h : EvAs K tl σ H [.d (dN s), .d (dB t), .d (.nat i), .d (.nat j)]) (z : Hh.Ok ⟨s, t, i, j⟩) : EvG K (xCall (sp_want_houses K) tl) σ H (.d .non) := g_call (⟨s, t, i, j⟩ : Hh) h z
theorem gc_areknit (h : EvAs K tl σ H [.d (dN s), .d (dB t), .d (.nat i), .d (.nat j)]) (z : Hh.Ok ⟨s, t, i, j⟩) : EvG K (xCall (sp_are_knit K) tl) σ H (.d (.bl (knitB s t i j))) := g_call (⟨s, t, i, j⟩ : Hh) h z
theorem gc_lawknit (h : EvAs K tl σ H [.d (dN s), .d (dB t), .d (.nat i), .d (.nat j)]) (z : Hh.Ok ⟨s, t, i, j⟩) : EvG K (xCall (sp_law_knit K) tl) σ H (.d (.bl (knitB s t i j))) := g_call (⟨s, t, i, j⟩ : Hh) h z
theorem gc_pairs (h : EvAs K tl σ H [.d (dN s), .d (dB t)]) (z : Sz s) (q : Tb s t) : EvG K (xCall (sp_knit_pairs K) tl) σ H (.d (dP (pairsN s t))) := g_call (s, t) h ⟨z, q⟩
theorem gc_clumps (h : EvAs K tl σ H [.d (dN s), .d (dB t)]) (z : Sz s) (q : Tb s t) : EvG K (xCall (sp_clumps_of K) tl) σ H (.d (dC (clumpsN s t))) := g_call (s, t) h ⟨z, q⟩
theorem gc_idles (h : EvAs K tl σ H [.d (dN s), .d (dB t)]) (z : Sz s) (q : Tb s t) : EvG K (xCall (sp_idle_houses K) tl) σ H (.d (dN (idleN s t))) := g_call (s, t) h ⟨z, q⟩
theorem gc_lawidle (h : EvAs K tl σ H [.d (dN s), .d (dB t)]) (z : Sz s) (q : Tb s t) : EvG K (xCall (sp_law_idle K) tl) σ H (.d (dN (idleN s t))) := g_call (s, t) h ⟨z, q⟩
theorem gc_isidle (h : EvAs K tl σ H [.d (dN s), .d (dB t), .d (.nat i)]) (z : Sz s) (q : Tb s t) (r : i < s.length) : EvG K (xCall (sp_is_idle K) tl) σ H (.d (.bl (idleB s t i))) := g_call (⟨s, t, i, 0⟩ : Hh) h ⟨z, q, r⟩
theorem gc_four {q : F4} (h : EvAs K tl σ H [.d (dN q.s), .d q.d]) (z : q.Ok) : EvG K (xCall (sp_is_four K) tl) σ H (.d (.bl true)) := g_call q h z
theorem gc_change (h : EvAs K tl σ H [.d (dN s), .d (dN x), .d (.nat i), .d (.nat a)]) (z : Sz s) (q : VS s x) (h1 : i < s.length) (h2 : a < gN s i) (h3 : a ≠ gN x i) : EvG K (xCall (sp_is_change K) tl) σ H (.d (.bl true)) := g_call (⟨s, x, i, a, 0, 0⟩ : F4) h ⟨z, q, h1, h2, h3⟩
theorem gc_changed (h : EvAs K tl σ H [.d (dN x), .d (.nat i), .d (.nat a)]) (h1 : i < x.length) (h2 : x.length ≤ 6) : EvG K (xCall (sp_changed K) tl) σ H (.d (dN (x.set i a))) := g_call (x, i, a) h ⟨h1, h2⟩
theorem gc_fours {q : F4} (h : EvAs K tl σ H [.d (dN q.s), .d q.d]) (z : q.Ok) : EvG K (xCall (sp_four_settings K) tl) σ H (.d (dC q.all)) := g_call q h z
theorem gc_isseam (h : EvAs K tl σ H [.d (dN s), .d (dB t), .d (dN l)]) (z : Ll.Ok ⟨s, t, l⟩) : EvG K (xCall (sp_is_seam K) tl) σ H (.d (.bl (seamB s t l))) := g_call (⟨s, t, l⟩ : Ll) h z
theorem gc_lawseam (h : EvAs K tl σ H [.d (dN s), .d (dB t), .d (dN l)]) (z : Ll.Ok ⟨s, t, l⟩) : EvG K (xCall (sp_law_seam K) tl) σ H (.d (.bl (seamB s t l))) := g_call (⟨s, t, l⟩ : Ll) h z
theorem gc_same {d : Dt} (h : EvAs K tl σ H [.d d, .d d]) (z : Dd (n + 1) d) : EvG K (xCall (sp_law_same K (n + 1)) tl) σ H (.d (.bl true)) := g_call d h z
theorem gc_lawsettings (h : EvAs K tl σ H [.d (dN s)]) (z : Sz s) : EvG K (xCall (sp_law_settings K) tl) σ H (.s ((settingsN s).map dN)) := g_call s h z
theorem gc_lawsteps (h : EvAs K tl σ H [.d (dN s)]) (z : Sz s) : EvG K (xCall (sp_law_steps K) tl) σ H (sN (spansN s)) := g_call s h z
theorem gc_onL (h : EvAs K tl σ H [.d (dN s), sN (spansN s), sN l, .d (dN x)]) (z : On.Ok ⟨s, l, x⟩) : EvG K (xCall (sp_law_on_L K) tl) σ H (.d (.nat (onN (spansN s) l x))) := g_call (⟨s, l, x⟩ : On) h z
theorem gc_onT (h : EvAs K tl σ H [.d (dN s), sN (spansN s), .d (dN l), .d (dN x)]) (z : On.Ok ⟨s, l, x⟩) : EvG K (xCall (sp_law_on_T K) tl) σ H (.d (.nat (onN (spansN s) l x))) := g_call (⟨s, l, x⟩ : On) h z
theorem gc_oddsum (h : EvAs K tl σ H [.d (dB t), .d (.nat p), .d (.nat a), .d (.nat b)]) (z : p + a + b < t.length) : EvG K (xCall (sp_law_odd_sum K) tl) σ H (.d (.bl (xor4 (tget t p) (tget t (p + a)) (tget t (p + b)) (tget t (p + a + b))))) := g_call (⟨t, p, a, b⟩ : Os) h z
theorem gc_classes {ps : List (Nat × Nat)} (h : EvAs K tl σ H [.d (.nat n), .s (ps.map dP2)]) (z : n ≤ 6 ∧ PairsOk n ps) : EvG K (xCall (sp_law_classes K) tl) σ H (.d (dC (classesN n ps))) := g_call (n, ps) h z
theorem gc_lots (h : EvAs K tl σ H [.d (.nat n)]) (z : n ≤ 6) : EvG K (xCall (sp_law_lots K) tl) σ H (.s ((lotsN n).map dN)) := g_call n h z
theorem gc_fourright {q : Hh × (Nat × Nat × Nat)} (h : EvAs K tl σ H [.d (dN q.1.s), .d (dB q.1.t), .d (.nat q.1.i), .d (.nat q.1.j), .d (fourD q.1 (some q.2))]) (z : q.1.Ok ∧ SpotRel q.1 (some q.2)) : EvG K (xCall (sp_law_four_right K) tl) σ H (.d (.bl true)) := g_call q h z
theorem gc_pairsright (h : EvAs K tl σ H [.d (dN s), .d (dB t)]) (z : Sz s) (q : Tb s t) : EvG K (xCall (sp_law_pairs_right K) tl) σ H (.d (.bl true)) := g_call (s, t) h ⟨z, q⟩
end
end Ck
set_option Elab.async false
set_option linter.all false
set_option maxRecDepth 100000
set_option maxHeartbeats 4000000
namespace Ck
open PySem PySem.Spec PyProof.Rows L2 Evl RZ
local macro_rules | `(tactic| none_booked) => `(tactic| first | assumption | exact Ex.refl _ | (refine Ex.trans ?_ (by assumption); none_booked))
local macro_rules | `(tactic| one_sign) => `(tactic| first
  | assumption
  | exact hold_int
  | exact hold_bl
  | exact hold_non
  | exact hold_str
  | exact Ml.hold (by assumption)
  | (refine Hold.mono ?_ (by assumption); none_booked)
  | (refine Hold.mono ?_ (Ml.hold (by assumption)); none_booked))
local macro_rules | `(tactic| leaf_len) => `(tactic| first
  | assumption
  | omega
  | ((fail_if_success (with_reducible show EvG _ _ _ _ _)); (fail_if_success (with_reducible show EvN _ _ _ _ _)); (fail_if_success (with_reducible show EvAs _ _ _ _ _)); (fail_if_success (with_reducible show Hold _ _ _ _)); (fail_if_success (with_reducible show Ex _ _)); skip))
local macro_rules | `(tactic| k_places) => `(tactic| first
  | exact g_nat
  | exact g_bl
  | exact g_str
  | exact g_non
  | exact as_nil
  | ((with_reducible apply g_var) <;> (first | rfl | one_sign))
  | ((with_reducible apply as_cons) <;> k_places)
  | ((with_reducible apply g_addN) <;> k_places)
  | ((with_reducible apply g_mulN) <;> (first | k_places | leaf_len))
  | ((with_reducible apply g_subN) <;> (first | k_places | leaf_len))
  | ((with_reducible apply g_fdivN) <;> (first | k_places | leaf_len))
  | ((with_reducible apply g_modN) <;> (first | k_places | leaf_len))
  | ((with_reducible apply g_xorB) <;> k_places)
  | ((with_reducible apply g_ixTB) <;> (first | k_places | leaf_len))
  | ((with_reducible apply g_ixTN) <;> (first | k_places | leaf_len))
  | ((with_reducible apply g_sp) <;> (first | k_places | leaf_len))
  | ((with_reducible apply g_ixLN) <;> (first | k_places | leaf_len))
  | ((with_reducible apply g_lenN) <;> k_places)
  | ((with_reducible apply g_lenB) <;> k_places)
  | ((with_reducible apply g_lenS) <;> k_places)
  | ((with_reducible apply g_ltN) <;> k_places)
  | ((with_reducible apply g_leN) <;> k_places)
  | ((with_reducible apply g_gtN) <;> k_places)
  | ((with_reducible apply g_geN) <;> k_places)
  | ((with_reducible apply g_is1) <;> k_places)
  | ((with_reducible apply g_eqN) <;> k_places)
  | ((with_reducible apply g_neBit) <;> k_places)
  | ((with_reducible apply g_neN) <;> k_places)
  | ((with_reducible apply g_not) <;> k_places)
  | ((with_reducible apply g_isN) <;> k_places)
  | ((with_reducible apply g_notN) <;> k_places)
  | ((with_reducible apply g_minN) <;> k_places)
  | ((with_reducible apply g_maxN) <;> k_places)
  | ((with_reducible apply g_inTN) <;> k_places)
  | ((with_reducible apply g_inLN) <;> k_places)
  | ((with_reducible apply g_chLt) <;> k_places)
  | ((with_reducible apply g_isiTup) <;> (first | k_places | rfl))
  | ((with_reducible apply g_isiInt) <;> (first | k_places | rfl))
  | ((with_reducible apply g_isiBoolI) <;> (first | k_places | rfl))
  | ((with_reducible apply gc_want) <;> k_places)
  | ((with_reducible apply gc_number) <;> k_places)
  | ((with_reducible apply gc_many) <;> k_places)
  | ((with_reducible apply gc_sizes) <;> (first | k_places | leaf_len))
  | ((with_reducible apply gc_setting) <;> (first | k_places | leaf_len))
  | ((with_reducible apply gc_house) <;> k_places)
  | ((with_reducible apply gc_lot) <;> (first | k_places | leaf_len))
  | ((with_reducible apply gc_spans) <;> (first | k_places | leaf_len))
  | ((with_reducible apply gc_manys) <;> (first | k_places | leaf_len))
  | ((with_reducible apply gc_place) <;> (first | k_places | leaf_len))
  | ((with_reducible apply gc_settingby) <;> (first | k_places | leaf_len))
  | ((with_reducible apply gc_corner) <;> (first | k_places | leaf_len))
  | ((with_reducible apply gc_isnumber) <;> k_places)
  | ((with_reducible apply gc_isbit) <;> k_places)
  | ((with_reducible apply gc_issizes) <;> (first | k_places | leaf_len))
  | ((with_reducible apply gc_issetting) <;> (first | k_places | leaf_len))
  | ((with_reducible apply gc_islot) <;> (first | k_places | leaf_len))
  | ((with_reducible apply gc_istable) <;> (first | k_places | leaf_len))
  | ((with_reducible apply gc_houses) <;> (first | k_places | leaf_len))
  | ((with_reducible apply gc_areknit) <;> (first | k_places | leaf_len))
  | ((with_reducible apply gc_lawknit) <;> (first | k_places | leaf_len))
  | ((with_reducible apply gc_pairs) <;> (first | k_places | leaf_len))
  | ((with_reducible apply gc_clumps) <;> (first | k_places | leaf_len))
  | ((with_reducible apply gc_idles) <;> (first | k_places | leaf_len))
  | ((with_reducible apply gc_lawidle) <;> (first | k_places | leaf_len))
  | ((with_reducible apply gc_isidle) <;> (first | k_places | leaf_len))
  | ((with_reducible apply gc_four) <;> (first | k_places | leaf_len))
  | ((with_reducible apply gc_fours) <;> (first | k_places | leaf_len))
  | ((with_reducible apply gc_change) <;> (first | k_places | leaf_len))
  | ((with_reducible apply gc_changed) <;> (first | k_places | leaf_len))
  | ((with_reducible apply gc_isseam) <;> (first | k_places | leaf_len))
  | ((with_reducible apply gc_lawseam) <;> (first | k_places | leaf_len))
  | ((with_reducible apply gc_lawsettings) <;> (first | k_places | leaf_len))
  | ((with_reducible apply gc_lawsteps) <;> (first | k_places | leaf_len))
  | ((with_reducible apply gc_onL) <;> (first | k_places | leaf_len))
  | ((with_reducible apply gc_onT) <;> (first | k_places | leaf_len))
  | ((with_reducible apply gc_oddsum) <;> (first | k_places | leaf_len))
  | ((with_reducible apply gc_classes) <;> (first | k_places | leaf_len))
  | ((with_reducible apply gc_lots) <;> (first | k_places | leaf_len))
  | ((with_reducible apply gc_pairsright) <;> (first | k_places | leaf_len)))

section
variable {K : PySem.W.Frag} {vs : List V} {H : Hp} {Q : VK} {E : XK}
theorem pure_a_want (h : sp_a_want K vs H Q E) : t_a_want K { nx := fun _ H' => Q .non H', rt := Q } (start N_a_want vs) H := by
  obtain ⟨z, _, hv, q⟩ := h
  obtain ⟨v, w, rfl, h1, h2⟩ := h2_of hv
  change t_a_want K _ [some v, some w] H
  unfold t_a_want
  refine s_if (b := false) (et_not (t_val (K := K) (x := true) (by k_places))) (fun z => Bool.noConfusion z) fun _ H1 e1 => ?_
  exact q _ _ e1 hold_non
theorem pure_integer_fits (h : sp_integer_fits K vs H Q E) : t_integer_fits K { nx := fun _ H' => Q .non H', rt := Q } (start N_integer_fits vs) H := by
  obtain ⟨z, _, hv, q⟩ := h
  obtain ⟨v, rfl, h1⟩ := h1_of hv
  change t_integer_fits K _ [some v] H
  unfold t_integer_fits
  exact v_ret (g_and (x := true) (y := true) (by k_places) fun _ => g_not (x := false) (by k_places)) q
theorem pure_number_fits (h : sp_number_fits K vs H Q E) : t_number_fits K (sp_integer_fits K) { nx := fun _ H' => Q .non H', rt := Q } (start N_number_fits vs) H := by
  obtain ⟨z, _, hv, q⟩ := h
  obtain ⟨v, rfl, h1⟩ := h1_of hv
  change t_number_fits K _ _ [some v] H
  unfold t_number_fits
  refine v_ret (EvG.isB (x := true && decide (0 ≤ z)) (g_and (x := true) (gc_integer (by k_places)) fun _ => by k_places) ?_) q
  simp
theorem pure_many_fits (h : sp_many_fits K vs H Q E) : t_many_fits K (sp_integer_fits K) { nx := fun _ H' => Q .non H', rt := Q } (start N_many_fits vs) H := by
  obtain ⟨z, _, hv, q⟩ := h
  dsimp only at q
  obtain ⟨v, rfl, h1⟩ := h1_of hv
  change t_many_fits K _ _ [some v] H
  unfold t_many_fits
  exact v_ret (g_and (x := true) (y := decide (1 ≤ z)) (gc_integer (by k_places)) fun _ => by k_places) q
theorem pure_house_fits (h : sp_house_fits K vs H Q E) : t_house_fits K (sp_number_fits K) { nx := fun _ H' => Q .non H', rt := Q } (start N_house_fits vs) H := by
  obtain ⟨z, _, hv, q⟩ := h
  obtain ⟨v, w, rfl, h1, h2⟩ := h2_of hv
  change t_house_fits K _ _ [some v, some w] H
  unfold t_house_fits
  exact v_ret (g_and (x := true) (y := decide (z.2 < z.1)) (by k_places) fun _ => by k_places) q
theorem pure_is_number (h : sp_is_number K vs H Q E) : t_is_number K (sp_number_fits K) { nx := fun _ H' => Q .non H', rt := Q } (start N_is_number vs) H := by
  obtain ⟨z, _, hv, q⟩ := h
  obtain ⟨v, rfl, h1⟩ := h1_of hv
  change t_is_number K _ _ [some v] H
  unfold t_is_number
  exact v_ret (sh := .d (.bl true)) (by k_places) q
theorem pure_is_bit (h : sp_is_bit K vs H Q E) : t_is_bit K (sp_number_fits K) { nx := fun _ H' => Q .non H', rt := Q } (start N_is_bit vs) H := by
  obtain ⟨z, _, hv, q⟩ := h
  obtain ⟨v, rfl, h1⟩ := h1_of hv
  change t_is_bit K _ _ [some v] H
  unfold t_is_bit
  refine v_ret (EvG.isB (x := true && decide (z.toNat ≤ 1)) (g_and (x := true) (by k_places) fun _ => by k_places) ?_) q
  cases z <;> rfl
theorem pure_is_sizes (h : sp_is_sizes K vs H Q E) : t_is_sizes K (sp_sizes_fit K) { nx := fun _ H' => Q .non H', rt := Q } (start N_is_sizes vs) H := by
  obtain ⟨z, hz, hv, q⟩ := h
  obtain ⟨v, rfl, h1⟩ := h1_of hv
  change t_is_sizes K _ _ [some v] H
  unfold t_is_sizes
  exact v_ret (sh := .d (.bl true)) (by k_places) q
theorem pure_is_setting (h : sp_is_setting K vs H Q E) : t_is_setting K (sp_a_want K) (sp_sizes_fit K) (sp_setting_fits K) { nx := fun _ H' => Q .non H', rt := Q } (start N_is_setting vs) H := by
  obtain ⟨⟨s, x⟩, ⟨hz, hx⟩, hv, q⟩ := h
  dsimp only at hz hx hv q
  obtain ⟨v, w, rfl, h1, h2⟩ := h2_of hv
  change t_is_setting K _ _ _ _ [some v, some w] H
  unfold t_is_setting
  refine u_drop (K := K) (sh := .d .non) (by k_places) fun H1 e1 => ?_
  exact v_ret (sh := .d (.bl true)) (by k_places) fun v H2 e hv => q v H2 (e1.trans e) hv
theorem pure_is_lot (h : sp_is_lot K vs H Q E) : t_is_lot K (sp_a_want K) (sp_many_fits K) (sp_lot_fits K) { nx := fun _ H' => Q .non H', rt := Q } (start N_is_lot vs) H := by
  obtain ⟨⟨n, l⟩, ⟨hn, hl⟩, hv, q⟩ := h
  dsimp only at hn hl hv q
  obtain ⟨v, w, rfl, h1, h2⟩ := h2_of hv
  change t_is_lot K _ _ _ _ [some v, some w] H
  unfold t_is_lot
  have ev : EvG K (xCall (sp_many_fits K) (tCons (tVar 0) tNil)) [some v, some w] H (.d (.bl true)) := (EvG.isB (gc_many (by k_places)) (decide_eq_true hn))
  refine u_drop (K := K) (sh := .d .non) (gc_want (as_cons ev (by k_places))) fun H1 e1 => ?_
  exact v_ret (sh := .d (.bl true)) (by k_places) fun v H2 e hv => q v H2 (e1.trans e) hv
end
section
variable {K : PySem.W.Frag} {vs : List V} {H : Hp} {Q : VK} {E : XK}
theorem nat_len {s : List Nat} : (s.map Dt.nat).length = s.length := List.length_map _
theorem pure_sizes_fit (h : sp_sizes_fit K vs H Q E) : t_sizes_fit K (sp_many_fits K) { nx := fun _ H' => Q .non H', rt := Q } (start N_sizes_fit vs) H := by
  obtain ⟨s, z, hv, q⟩ := h
  obtain ⟨v, rfl, h1⟩ := h1_of hv
  change t_sizes_fit K _ _ [some v, none] H
  unfold t_sizes_fit
  have hl : EvN K (tLc (xItT K (tVar 0)) (gName 1) tYes (xCall (sp_many_fits K) (tCons (tVar 1) tNil)) [1]) [some v, none] H ((s.map fun c => decide (1 ≤ c)).map Dt.bl) := by
    rw [List.map_map]
    refine n_lc (l := s) (g := Dt.nat) (f := Dt.bl ∘ fun c => decide (1 ≤ c)) ((i_tup (ds := s.map Dt.nat) (g_var rfl h1)).weak fun _ _ e => Tx.of e) (by have := z.few; omega) (fun x => rfl) fun a ha x H1 e1 hx => ?_
    exact gc_many (by k_places)
  refine v_ret (EvG.isB (x := true && (decide (0 < s.length) && (s.map fun c => decide (1 ≤ c)).all id)) (g_and (by k_places) fun _ => g_and (by k_places) fun _ => g_all hl.g) ?_) q
  have e1 : decide (0 < s.length) = true := decide_eq_true z.one
  have e2 : (s.map fun c => decide (1 ≤ c)).all id = true := by
    rw [List.all_map, List.all_eq_true]
    intro c hc
    exact decide_eq_true (z.pos c hc)
  rw [e1, e2]
  rfl
theorem zip_range {s x : List Nat} (h : x.length = s.length) : zipD (x.map Dt.nat) (s.map Dt.nat) = (List.range s.length).map fun k => Dt.tup [Dt.nat (gN x k), Dt.nat (gN s k)] := by
  apply List.ext_getElem?
  intro i
  rw [List.getElem?_map]
  by_cases hi : i < s.length
  · rw [List.getElem?_range hi]
    exact zipD_get (get_nat (by omega)) (get_nat hi)
  · rw [List.getElem?_eq_none (by rw [zipD_len, nat_len, nat_len]; omega), List.getElem?_eq_none (by rw [List.length_range]; omega)]
    rfl
theorem pure_setting_fits (h : sp_setting_fits K vs H Q E) : t_setting_fits K (sp_number_fits K) { nx := fun _ H' => Q .non H', rt := Q } (start N_setting_fits vs) H := by
  obtain ⟨⟨s, x⟩, ⟨z, hx⟩, hv, q⟩ := h
  dsimp only at z hx hv q
  obtain ⟨v, w, rfl, h1, h2⟩ := h2_of hv
  change t_setting_fits K _ _ [some v, some w, none, none] H
  unfold t_setting_fits
  refine q_when (b := false) (et_is (et_or (et_not (t_val (K := K) (x := true) (by k_places))) fun _ => t_val (K := K) (x := !decide (x.length = s.length)) (by k_places)) ?_) (fun z => Bool.noConfusion z) fun _ H1 e1 => ?_
  · simp [hx.1]
  have hl : EvN K (tLc (xZip K (tVar 1) (tVar 0)) (gTup K 2 (gCons (gName 2) (gCons (gName 3) gNil))) tYes (xAnd (xCall (sp_number_fits K) (tCons (tVar 2) tNil)) (xLt (tVar 2) (tVar 3))) [2, 3]) [some v, some w, none, none] H1 (((List.range s.length).map fun k => true && decide (gN x k < gN s k)).map Dt.bl) := by
    rw [List.map_map]
    have z6 := z.few
    have hi : EvI K Ex (xZip K (tVar 1) (tVar 0)) [some v, some w, none, none] H1 ((List.range s.length).map fun k => Dt.tup [Dt.nat (gN x k), Dt.nat (gN s k)]) :=
      ((i_zip (ds := x.map Dt.nat) (es := s.map Dt.nat) (by k_places) (by k_places)).is (zip_range hx.1)).weak fun _ _ e => Tx.of e
    have y := n_lcG (tt := tYes) (te := xAnd (xCall (sp_number_fits K) (tCons (tVar 2) tNil)) (xLt (tVar 2) (tVar 3))) (vs := [2, 3]) (tg := gTup K 2 (gCons (gName 2) (gCons (gName 3) gNil))) (fun _ => true) (Dt.bl ∘ fun k => true && decide (gN x k < gN s k)) hi (by rw [List.length_range]; omega) fun a ha y H2 e2 hy => ?_
    · rw [List.filter_eq_self.mpr (by intros; rfl)] at y
      exact y
    · obtain ⟨p, xs, rfl, p1, p2⟩ := Tp.tupI hy
      cases p2 with
      | cons r1 p2 =>
        cases p2 with
        | cons r2 p2 =>
          cases p2
          refine ⟨_, fun Q q => ⟨p, _, rfl, p1, rfl, _, _, rfl, _, _, rfl, rfl, q⟩, rfl, t_yes, fun _ => ?_⟩
          have r1' : Hold K H2 _ (.d (.nat (gN x a))) := r1
          have r2' : Hold K H2 _ (.d (.nat (gN s a))) := r2
          exact g_and (by k_places) fun _ => by k_places
  refine v_ret (EvG.isB (x := ((List.range s.length).map fun k => true && decide (gN x k < gN s k)).all id) (g_all hl.g) ?_) fun v H2 e hv => q v H2 (e1.trans e) hv
  rw [List.all_map, List.all_eq_true]
  intro k hk
  show (true && decide (gN x k < gN s k)) = true
  rw [decide_eq_true (hx.2 k (List.mem_range.mp hk))]
  rfl
/-- the last item ahead of place i, or -1 -/
def lastI (l : List Nat) : Nat → Int
  | 0 => -1
  | i + 1 => gN l i
theorem pure_lot_fits (h : sp_lot_fits K vs H Q E) : t_lot_fits K (sp_house_fits K) { nx := fun _ H' => Q .non H', rt := Q } (start N_lot_fits vs) H := by
  obtain ⟨⟨n, l⟩, ⟨hp, hn⟩, hv, q⟩ := h
  dsimp only at hp hn hv q
  obtain ⟨v, w, rfl, h1, h2⟩ := h2_of hv
  change t_lot_fits K _ _ [some v, some w, none, none] H
  unfold t_lot_fits
  refine q_when (b := false) (et_not (t_val (K := K) (x := true) (by k_places))) (fun z => Bool.noConfusion z) fun _ H1 e1 => ?_
  refine u_asgI (K := K) (i := -1) (g_neg g_nat) fun H2 e2 => ?_
  refine u_for (l := l) (g := Dt.nat) (fun i σ' => ∃ y, σ' = [some v, some w, some (.int (lastI l i)), y]) ((i_tup (ds := l.map Dt.nat) (by k_places)).weak fun _ _ e => Tx.of e) ⟨none, rfl⟩ ?_ ?_
  · rintro H3 i a x σ' H4 e3 e4 ha ⟨y, rfl⟩ hx
    refine tgn ?_
    have ea := gN_get ha
    have hl := (List.getElem?_eq_some_iff.mp ha).1
    have hb : lastI l i < (a : Int) := by
      cases i with
      | zero =>
        show (-1 : Int) < a
        omega
      | succ i =>
        show ((gN l i : Nat) : Int) < a
        have := List.pairwise_iff_getElem.mp hp i (i + 1) (by omega) hl (Nat.lt_succ_self i)
        rw [← ea, gN_get (List.getElem?_eq_getElem (show i < l.length by omega)), gN_get (List.getElem?_eq_getElem hl)]
        omega
    have hm := hn a (List.mem_of_getElem? ha)
    refine q_when (b := false) (et_is (et_or (et_not (t_val (K := K) (x := decide (a < n)) (by k_places))) fun _ => t_val (K := K) (x := decide ((a : Int) ≤ lastI l i)) (g_le (by k_places) (by k_places))) ?_) (fun z => Bool.noConfusion z) fun _ H5 e5 => ?_
    · rw [decide_eq_true hm, decide_eq_false (by omega)]
      rfl
    refine v_asg (K := K) (sh := .d (.nat a)) (by k_places) fun v' H6 e6 hv' => ⟨by none_booked, some x, ?_⟩
    rw [Tp.intI hv']
    show _ = [some v, some w, some (V.int (gN l i)), some x]
    rw [ea]
    rfl
  · rintro σ' H3 e3 ⟨y, rfl⟩
    exact v_ret (sh := .d (.bl true)) (K := K) g_bl fun v' H4 e4 hv' => q v' H4 (by none_booked) hv'
theorem pure_spans_of (h : sp_spans_of K vs H Q E) : t_spans_of K { nx := fun _ H' => Q .non H', rt := Q } (start N_spans_of vs) H := by
  obtain ⟨s, z, hv, q⟩ := h
  dsimp only at hv q
  obtain ⟨v, rfl, h1⟩ := h1_of hv
  change t_spans_of K _ [some v, none, none, none] H
  unfold t_spans_of
  have z1 := z.one
  have z6 := z.few
  have hl : EvN K (tLc (xItT K (tVar 0)) (gName 2) tYes (xNat 1) [2]) [some v, none, none, none] H ((partS s (s.length - 1)).map Dt.nat) := by
    have y := n_lc (te := xNat 1) (K := K) (l := s) (g := Dt.nat) (f := fun _ => Dt.nat 1) (vs := [2]) (m := 2) ((i_tup (tl := tVar 0) (σ := [some v, none, none, none]) (ds := s.map Dt.nat) (g_var rfl h1)).weak fun _ _ e => Tx.of e) (by omega) (fun x => rfl) fun a ha x H1 e1 hx => g_nat
    refine y.is ?_
    rw [partS_last z1, List.map_replicate]
    exact List.map_const'
  refine u_asgN hl fun p xs H1 np e1 hp ht => ?_
  have m0 : Ml K H H1 p ((partS s (s.length - 1)).map Dt.nat) := Ml.new np e1 hp ht
  refine u_forS (K := K) (S := fun _ _ => True) (l := List.range (s.length - 1)) (g := fun k => Dt.nat (s.length - 2 - k)) (fun _ k σ' H' => ∃ y, σ' = [some v, some (.ref p), none, y] ∧ Ml K H H' p ((partS s (s.length - 1 - k)).map Dt.nat)) ?_ (fun H2 e2 => ⟨none, rfl, m0.ex e2⟩) (fun _ _ _ _ _ _ => True.intro) ?_ ?_
  · refine (i_rng3 (i := (s.length : Int) - 2) (g_sub (by k_places) g_nat) (g_neg g_nat) (g_neg g_nat) ⟨by omega, by omega⟩).is ?_
    rw [show ((s.length : Int) - 2 + 1).toNat = s.length - 1 by omega]
    apply List.map_congr_left
    intro k hk
    have hk' := List.mem_range.mp hk
    show Dt.int _ = Dt.int _
    congr 1
    omega
  · rintro H2 k a x σ' H' H3 e2 ha ⟨y, rfl, m⟩ e3 hx
    refine tgn ?_
    obtain ⟨hk, ea⟩ := List.getElem?_eq_some_iff.mp ha
    rw [List.getElem_range] at ea
    rw [List.length_range] at hk
    subst ea
    have mm := m.ex e3
    have hs : Hold K H3 v (.d (dN s)) := h1.mono mm.2.1
    have hm := mm.hold
    have e5 : s.length - 1 - k = (s.length - 2 - k) + 1 := by omega
    rw [e5] at mm hm
    have hm' : Hold K H3 (.ref p) (sN (partS s (s.length - 2 - k + 1))) := hm
    have hpl := partS_len (s := s) (m := s.length - 2 - k + 1) (by omega)
    have h64 := z.sp64 (h := s.length - 2 - k + 1) (by omega)
    refine v_set mm (by rfl) (d := Dt.nat (sp s (s.length - 2 - k + 1) * gN s (s.length - 2 - k + 1))) (a := s.length - 2 - k) ?_ (by k_places) (by rw [nat_len]; omega) fun H4 m4 _ _ => ⟨some x, rfl, ?_⟩
    · have ev : EvG K (xIxL K (tVar 1) (xAdd (tVar 3) (xNat 1))) [some v, some (.ref p), none, some x] H3 (.d (.nat (sp s (s.length - 2 - k + 1)))) := by
        rw [← partS_get (s := s) (m := s.length - 2 - k + 1) (by omega)]
        k_places
      exact g_mulN ev (by k_places) (by omega)
    · have e6 : (partS s (s.length - 1 - (k + 1))).map Dt.nat = ((partS s (s.length - 2 - k + 1)).map Dt.nat).set (s.length - 2 - k) (Dt.nat (sp s (s.length - 2 - k + 1) * gN s (s.length - 2 - k + 1))) := by
        rw [← List.map_set, partS_set (by omega)]
        congr 2
        omega
      rw [e6]
      exact m4
  · rintro H2 σ' H' e2 ⟨y, rfl, m⟩
    rw [List.length_range, Nat.sub_self, partS_zero] at m
    exact v_ret (sh := sN (spansN s)) (g_var rfl m.hold) fun v' H3 e3 hv' => q v' H3 (m.2.1.trans e3) hv'
theorem pure_many_settings (h : sp_many_settings K vs H Q E) : t_many_settings K { nx := fun _ H' => Q .non H', rt := Q } (start N_many_settings vs) H := by
  obtain ⟨s, z, hv, q⟩ := h
  dsimp only at hv q
  obtain ⟨v, rfl, h1⟩ := h1_of hv
  change t_many_settings K _ [some v, none, none] H
  unfold t_many_settings
  refine u_asgI (K := K) (i := ((1 : Nat) : Int)) g_nat fun H1 e1 => ?_
  refine u_for (l := s) (g := Dt.nat) (fun i σ' => ∃ y, σ' = [some v, some (.int ((prodN (s.take i) : Nat) : Int)), y]) ((i_tup (ds := s.map Dt.nat) (by k_places)).weak fun _ _ e => Tx.of e) ⟨none, rfl⟩ ?_ ?_
  · rintro H3 i a x σ' H4 e3 e4 ha ⟨y, rfl⟩ hx
    refine tgn ?_
    have b := z.take64 i
    refine v_asgI (K := K) (i := ((prodN (s.take i) * a : Nat) : Int)) (by k_places) fun H5 e5 => ⟨by none_booked, some x, ?_⟩
    rw [prod_take ha]
    rfl
  · rintro σ' H3 e3 ⟨y, rfl⟩
    rw [List.take_length]
    exact v_ret (K := K) (sh := .d (.nat (prodN s))) (by k_places) fun v' H4 e4 hv' => q v' H4 (by none_booked) hv'
theorem pure_place_by (h : sp_place_by K vs H Q E) : t_place_by K { nx := fun _ H' => Q .non H', rt := Q } (start N_place_by vs) H := by
  obtain ⟨⟨s, x⟩, ⟨z, hx⟩, hv, q⟩ := h
  dsimp only at z hx hv q
  obtain ⟨v, w, rfl, h1, h2⟩ := h2_of hv
  change t_place_by K _ [some v, some w, none, none] H
  unfold t_place_by
  have z6 := z.few
  have hxl := hx.1
  refine u_asgI (K := K) (i := ((0 : Nat) : Int)) g_nat fun H1 e1 => ?_
  refine u_for (l := List.range s.length) (g := Dt.nat) (fun i σ' => ∃ y, σ' = [some v, some w, some (.int ((placeN (s.take i) (x.take i) : Nat) : Int)), y]) (i_rng1 (by k_places) (by omega)) ⟨none, rfl⟩ ?_ ?_
  · rintro H3 i a y σ' H4 e3 e4 ha ⟨y', rfl⟩ hy
    refine tgn ?_
    obtain ⟨hk, ea⟩ := List.getElem?_eq_some_iff.mp ha
    rw [List.getElem_range] at ea
    rw [List.length_range] at hk
    subst ea
    have b := place_lt (hx.take i)
    have b2 := z.take64 i
    refine v_asgI (K := K) (i := ((placeN (s.take i) (x.take i) * gN s i + gN x i : Nat) : Int)) (by k_places) fun H5 e5 => ⟨by none_booked, some y, ?_⟩
    rw [place_take hk hx.1]
    rfl
  · rintro σ' H3 e3 ⟨y, rfl⟩
    rw [List.length_range, List.take_length, show x.take s.length = x by rw [← hx.1]; exact List.take_length]
    exact v_ret (K := K) (sh := .d (.nat (placeN s x))) (by k_places) fun v' H4 e4 hv' => q v' H4 (by none_booked) hv'
theorem pure_setting_by (h : sp_setting_by K vs H Q E) : t_setting_by K (sp_spans_of K) { nx := fun _ H' => Q .non H', rt := Q } (start N_setting_by vs) H := by
  obtain ⟨⟨s, p⟩, z, hv, q⟩ := h
  dsimp only at z hv q
  obtain ⟨v, w, rfl, h1, h2⟩ := h2_of hv
  change t_setting_by K _ _ [some v, some w, none, none] H
  unfold t_setting_by
  have z6 := z.few
  have hsl := sp_len' s
  refine u_asg (K := K) (sh := sN (spansN s)) (by k_places) fun u H1 e1 hu => ?_
  refine v_ret (K := K) (sh := .d (dN (settingN s p))) (g_tupOf (ds := (settingN s p).map Dt.nat) (EvN.g ?_)) fun v' H4 e4 hv' => q v' H4 (by none_booked) hv'
  unfold settingN
  rw [List.map_map]
  refine n_lc (l := List.range s.length) (g := Dt.nat) (f := Dt.nat ∘ fun h => p / sp s h % gN s h) (i_rng1 (by k_places) (by omega)) (by rw [List.length_range]; omega) (fun x => rfl) fun a ha x H2 e2 hx => ?_
  have ha' := List.mem_range.mp ha
  have b1 := z.sp1 ha'
  have b2 := z.sp64 ha'
  have b3 := z.at ha'
  have b1' : 1 ≤ gN (spansN s) a := b1
  have b2' : gN (spansN s) a ≤ 64 := b2
  show EvG K _ _ H2 (.d (.nat (p / gN (spansN s) a % gN s a)))
  k_places
theorem pure_corner_places (h : sp_corner_places K vs H Q E) : t_corner_places K (sp_spans_of K) { nx := fun _ H' => Q .non H', rt := Q } (start N_corner_places vs) H := by
  obtain ⟨⟨s, lot⟩, ⟨z, hlot⟩, hv, q⟩ := h
  dsimp only at z hlot hv q
  obtain ⟨v, w, rfl, h1, h2⟩ := h2_of hv
  change t_corner_places K _ _ [some v, some w, none, none, none, none, none] H
  unfold t_corner_places
  have z6 := z.few
  have hsl := sp_len' s
  refine u_asg (K := K) (sh := sN (spansN s)) (by k_places) fun u H1 e1 hu => ?_
  refine u_asg (K := K) (sh := sN [0]) (n_lst (ds := [Dt.nat 0]) (as_cons g_nat as_nil)).g fun y H2 e2 hy => ?_
  refine u_forS (S := Ex) (l := lot) (g := Dt.nat) (fun H3 i σ' H' => Ex H3 H' ∧ ∃ a b, σ' = [some v, some w, some u, some a, b, none, none] ∧ Hold K H' a (sN (cornersN s (lot.take i)))) (i_lst (ds := lot.map Dt.nat) (by k_places)) (fun H3 e3 => ⟨Ex.refl _, y, none, rfl, hy.mono e3⟩) (fun _ _ _ _ _ p => p.1) ?_ ?_
  · rintro H3 i c x σ' H' H4 e3 hc ⟨e4, a, b, rfl, ha⟩ e5 hx
    refine tgn ?_
    have hcl : c < s.length := List.mem_range.mp (hlot.subset (List.mem_of_getElem? hc))
    have b1 := z.le hcl
    have b2 := z.sp64 hcl
    have b2' : gN (spansN s) c ≤ 64 := b2
    have ln : (cornersN s (lot.take i)).length ≤ 64 := corner_le z ((List.take_sublist _ _).trans hlot)
    have ha' := ha.mono e5
    refine v_asgN (K := K) (n_lc2 (l := cornersN s (lot.take i)) (g := Dt.nat) (m := 5) (m1 := 6) (r := fun _ => List.range (gN s c)) (g1 := fun _ c' => Dt.nat c') (f := fun p c' => Dt.nat (p + c' * gN (spansN s) c)) (i_lst (by k_places)) (by omega) (fun p _ => by rw [List.length_range]; omega) (fun _ => rfl) (fun _ _ => rfl) (fun p hp x' H5 e6 hx' => ?_) (fun p hp c' hc' x' y' H5 e6 hx' hy' => ?_)) fun p xs H5 np e6 hp ht => ⟨by none_booked, .ref p, some x, rfl, ?_⟩
    · exact i_rng1 (by k_places) (by omega)
    · have hc'' := List.mem_range.mp hc'
      k_places
    · rw [corner_take hc]
      refine Hold.lst hp ?_
      have e : ((cornersN s (lot.take i)).flatMap fun p => (List.range (gN s c)).map fun c' => Dt.nat (p + c' * gN (spansN s) c)) = (cornerStep s (cornersN s (lot.take i)) c).map Dt.nat := by
        unfold cornerStep
        rw [List.map_flatMap]
        congr 1
        funext p
        rw [List.map_map]
        rfl
      rw [← e]
      exact ht
  · rintro H3 σ' H' e3 ⟨e4, a, b, rfl, ha⟩
    rw [List.take_length] at ha
    exact v_ret (K := K) (sh := sN (cornersN s lot)) (by k_places) fun v' H4 e5 hv' => q v' H4 (by none_booked) hv'
end
section
variable {K : PySem.W.Frag} {vs : List V} {H : Hp} {Q : VK} {E : XK}
theorem pure_is_table (h : sp_is_table K vs H Q E) : t_is_table K (sp_a_want K) (sp_is_sizes K) (sp_many_settings K) (sp_is_bit K) { nx := fun _ H' => Q .non H', rt := Q } (start N_is_table vs) H := by
  obtain ⟨⟨s, t⟩, ⟨z, ht⟩, hv, q⟩ := h
  dsimp only at z ht hv q
  obtain ⟨v, w, rfl, h1, h2⟩ := h2_of hv
  try dsimp only at h1 h2
  change t_is_table K _ _ _ _ _ [some v, some w, none] H
  unfold t_is_table
  refine u_drop (K := K) (sh := .d .non) (by k_places) fun H1 e1 => ?_
  refine q_when (b := false) (et_is (et_or (et_not (t_val (K := K) (x := true) (by k_places))) fun _ => t_val (K := K) (x := !decide (t.length = prodN s)) (by k_places)) ?_) (fun z => Bool.noConfusion z) fun _ H2 e2 => ?_
  · rw [decide_eq_true (show t.length = prodN s from ht)]
    rfl
  refine u_for (l := t) (g := fun b => bitD b) (fun i σ' => ∃ y, σ' = [some v, some w, y]) ((i_tup (ds := t.map bitD) (by k_places)).weak fun _ _ e => Tx.of e) ⟨none, rfl⟩ ?_ ?_
  · rintro H3 i a x σ' H4 e3 e4 ha ⟨y, rfl⟩ hx
    refine tgn ?_
    refine s_when (b := false) (et_not (t_val (K := K) (x := true) (by k_places))) (fun z => Bool.noConfusion z) fun _ H5 e5 => ⟨by none_booked, some x, rfl⟩
  · rintro σ' H3 e3 ⟨y, rfl⟩
    exact v_ret (K := K) (sh := .d (.bl true)) g_bl fun v' H4 e4 hv' => q v' H4 (by none_booked) hv'
theorem pure_want_houses (h : sp_want_houses K vs H Q E) : t_want_houses K (sp_a_want K) (sp_is_sizes K) (sp_is_table K) (sp_is_number K) { nx := fun _ H' => Q .non H', rt := Q } (start N_want_houses vs) H := by
  obtain ⟨⟨s, t, i, j⟩, ⟨z, ht, hi, hj, ne⟩, hv, q⟩ := h
  dsimp only at z ht hi hj ne hv q
  obtain ⟨v, w, x, y, rfl, h1, h2, h3, h4⟩ := h4_of hv
  try dsimp only at h1 h2 h3 h4
  change t_want_houses K _ _ _ _ _ [some v, some w, some x, some y] H
  unfold t_want_houses
  refine u_drop (K := K) (sh := .d .non) (by k_places) fun H1 e1 => ?_
  refine u_drop (K := K) (sh := .d .non) (by k_places) fun H2 e2 => ?_
  refine u_drop (K := K) (sh := .d .non) (gc_want (as_cons (EvG.isB (x := true && decide (i < s.length)) (g_and (by k_places) fun _ => by k_places) (by rw [decide_eq_true hi]; rfl)) (by k_places))) fun H3 e3 => ?_
  refine v_drop (K := K) (sh := .d .non) (gc_want (as_cons (EvG.isB (x := true && (decide (j < s.length) && !decide (j = i))) (g_and (by k_places) fun _ => g_and (by k_places) fun _ => by k_places) (by rw [decide_eq_true hj, decide_eq_false (Ne.symm ne)]; rfl)) (by k_places))) fun H4 e4 => ?_
  exact q _ _ (by none_booked) hold_non
theorem pure_is_change (h : sp_is_change K vs H Q E) : t_is_change K (sp_is_number K) { nx := fun _ H' => Q .non H', rt := Q } (start N_is_change vs) H := by
  obtain ⟨⟨s, x, i, a, j, b⟩, ⟨z, hx, hi, ha, na⟩, hv, q⟩ := h
  dsimp only at z hx hi ha na hv q
  obtain ⟨v, w, y, u, rfl, h1, h2, h3, h4⟩ := h4_of hv
  try dsimp only at h1 h2 h3 h4
  change t_is_change K _ _ [some v, some w, some y, some u] H
  unfold t_is_change
  have hxl := hx.1
  refine q_when (b := false) (et_is (et_or (et_not (t_val (K := K) (x := true) (by k_places))) fun _ => et_or (t_val (K := K) (x := decide (s.length ≤ i)) (by k_places)) fun _ => et_not (t_val (K := K) (x := true) (by k_places))) ?_) (fun z => Bool.noConfusion z) fun _ H1 e1 => ?_
  · rw [decide_eq_false (by omega)]
    rfl
  refine v_ret (EvG.isB (x := decide (a < gN s i) && !decide (a = gN x i)) (g_and (K := K) (by k_places) fun _ => by k_places) ?_) fun v' H4 e4 hv' => q v' H4 (by none_booked) hv'
  rw [decide_eq_true ha, decide_eq_false na]
  rfl
theorem cut_to {ds : List Dt} {i : Nat} (h : i ≤ ds.length) : cutD ds none (some (i : Int)) = ds.take i := by
  unfold cutD
  rw [HT.sIx_nat, HT.sIx_none, Nat.min_eq_left h]
  rfl
theorem cut_from {ds : List Dt} {i : Nat} (h : i ≤ ds.length) : cutD ds (some (i : Int)) none = ds.drop i := by
  unfold cutD
  rw [HT.sIx_nat, HT.sIx_none, Nat.min_eq_left h]
  exact List.take_of_length_le (by rw [List.length_drop]; exact Nat.le_refl _)
theorem pure_changed (h : sp_changed K vs H Q E) : t_changed K { nx := fun _ H' => Q .non H', rt := Q } (start N_changed vs) H := by
  obtain ⟨⟨x, i, a⟩, ⟨hi, h6⟩, hv, q⟩ := h
  dsimp only at hi h6 hv q
  obtain ⟨v, w, y, rfl, h1, h2, h3⟩ := h3_of hv
  try dsimp only at h1 h2 h3
  change t_changed K _ [some v, some w, some y] H
  unfold t_changed
  have hl : (x.map Dt.nat).length = x.length := List.length_map _
  have e : (x.map Dt.nat).take i ++ [Dt.nat a] ++ (x.map Dt.nat).drop (i + 1) = (x.set i a).map Dt.nat := by
    rw [List.set_eq_take_append_cons_drop, if_pos hi, List.map_append, List.map_cons, ← List.map_take, ← List.map_drop, List.append_assoc]
    rfl
  have ev : EvG K (tVar 0) [some v, some w, some y] H (.d (.tup (x.map Dt.nat))) := g_var rfl h1
  have s1 := g_slT ev o_none (o_some (i := (i : Int)) (te := tVar 1) (by k_places))
  rw [cut_to (by omega)] at s1
  have s2 := g_slT ev (o_some (i := ((i + 1 : Nat) : Int)) (te := xAdd (tVar 1) (xNat 1)) (by k_places)) o_none
  rw [cut_from (by omega)] at s2
  have s3 := g_catT (g_catT s1 (g_tup (ds := [Dt.nat a]) (tl := tCons (tVar 2) tNil) (as_cons (by k_places) as_nil) (by show 1 ≤ 100000; decide)) (by simp; omega)) s2 (by simp; omega)
  rw [e] at s3
  exact v_ret s3 q
theorem pure_four_settings (h : sp_four_settings K vs H Q E) : t_four_settings K (sp_a_want K) (sp_is_sizes K) (sp_is_four K) (sp_changed K) { nx := fun _ H' => Q .non H', rt := Q } (start N_four_settings vs) H := by
  obtain ⟨f, ok, hv, q⟩ := h
  dsimp only at hv q
  obtain ⟨v, w, rfl, h1, h2⟩ := h2_of hv
  change t_four_settings K _ _ _ _ _ [some v, some w, none, none, none, none, none, none] H
  unfold t_four_settings
  have z := ok.sz
  have z6 := z.few
  have hx := ok.vx
  have hxl := hx.1
  have hi := ok.hi
  have hj := ok.hj
  refine u_drop (K := K) (sh := .d .non) (by k_places) fun H1 e1 => ?_
  refine u_drop (K := K) (sh := .d .non) (by k_places) fun H2 e2 => ?_
  refine u_asgT (K := K) (sh := .d (.tup [dN f.x, .nat f.i, .nat f.a, .nat f.j, .nat f.b])) (g_var rfl (h2.mono (by none_booked))) fun u H3 e3 hu => ?_
  refine tg5 hu fun v1 v2 v3 v4 v5 k1 k2 k3 k4 k5 => ?_
  change tSeq _ _ _ [some v, some w, some v1, some v2, some v3, some v4, some v5, none] H3
  refine u_asg (K := K) (sh := .d (dN (f.x.set f.i f.a))) (by k_places) fun y H4 e4 hy => ?_
  change tRet _ _ [some v, some w, some v1, some v2, some v3, some v4, some v5, some y] H4
  have ll : (f.x.set f.i f.a).length = f.x.length := List.length_set
  exact v_ret (K := K) (g_tup (ds := f.all.map dN) (as_cons (by k_places) (as_cons (by k_places) (as_cons (by k_places) (as_cons (by k_places) as_nil)))) (by show 4 ≤ 100000; decide)) fun v' H5 e5 hv' => q v' H5 (by none_booked) hv'
theorem pure_is_four (h : sp_is_four K vs H Q E) : t_is_four K (sp_a_want K) (sp_is_sizes K) (sp_is_setting K) (sp_is_change K) { nx := fun _ H' => Q .non H', rt := Q } (start N_is_four vs) H := by
  obtain ⟨f, ok, hv, q⟩ := h
  dsimp only at hv q
  obtain ⟨v, w, rfl, h1, h2⟩ := h2_of hv
  change t_is_four K _ _ _ _ _ [some v, some w, none, none, none, none, none] H
  unfold t_is_four
  have z := ok.sz
  have z6 := z.few
  have hx := ok.vx
  have hxl := hx.1
  have hi := ok.hi
  have hj := ok.hj
  have ha := ok.ha
  have hb := ok.hb
  have na := ok.na
  have nb := ok.nb
  have h2' : Hold K H w (.d (.tup [dN f.x, .nat f.i, .nat f.a, .nat f.j, .nat f.b])) := h2
  refine u_drop (K := K) (sh := .d .non) (by k_places) fun H1 e1 => ?_
  have ev : EvG K (tVar 1) [some v, some w, none, none, none, none, none] H1 (.d (.tup [dN f.x, .nat f.i, .nat f.a, .nat f.j, .nat f.b])) := g_var rfl (h2'.mono (by none_booked))
  have ev0 : EvG K (xIxT K (tVar 1) (xNat 0)) [some v, some w, none, none, none, none, none] H1 (.d (dN f.x)) := g_ixT ev g_nat rfl
  refine q_when (b := false) (et_or (et_not (t_val (K := K) (x := true) (g_isiTup ev rfl))) fun _ => et_or (a := false) (b := false) (t_val (K := K) (g_neN (g_lenT ev) g_nat)) fun _ => et_not (t_val (K := K) (x := true) (gc_issetting (as_cons (by k_places) (as_cons ev0 as_nil)) z hx))) (fun z => Bool.noConfusion z) fun _ H2 e2 => ?_
  refine u_asgT (K := K) (sh := .d (.tup [dN f.x, .nat f.i, .nat f.a, .nat f.j, .nat f.b])) (g_var rfl (h2'.mono (by none_booked))) fun u H3 e3 hu => ?_
  refine tg5 hu fun v1 v2 v3 v4 v5 k1 k2 k3 k4 k5 => ?_
  change tRet _ _ [some v, some w, some v1, some v2, some v3, some v4, some v5] H3
  have ne := ok.ne
  refine v_ret (EvG.isB (x := true && (true && !decide (f.i = f.j))) (g_and (K := K) (by k_places) fun _ => g_and (by k_places) fun _ => by k_places) ?_) fun v' H4 e4 hv' => q v' H4 (by none_booked) hv'
  rw [decide_eq_false ne]
  rfl
theorem fours_vs {f : F4} (ok : f.Ok) : ∀ x ∈ f.all, VS f.s x := by
  intro x hx
  have h1 := ok.vx
  have h2 := h1.set ok.hi ok.ha
  have h3 := h1.set ok.hj ok.hb
  have h4 := h2.set ok.hj ok.hb
  rcases List.mem_cons.mp hx with rfl | hx
  · exact h1
  rcases List.mem_cons.mp hx with rfl | hx
  · exact h2
  rcases List.mem_cons.mp hx with rfl | hx
  · exact h3
  rcases List.mem_cons.mp hx with rfl | hx
  · exact h4
  cases hx
def xorsN (s : List Nat) (t : List Bool) (l : List (List Nat)) : Bool := l.foldl (fun b x => b != tget t (placeN s x)) false
theorem pure_is_odd (h : sp_is_odd K vs H Q E) : t_is_odd K (sp_a_want K) (sp_is_sizes K) (sp_is_table K) (sp_is_four K) (sp_four_settings K) (sp_place_by K) { nx := fun _ H' => Q .non H', rt := Q } (start N_is_odd vs) H := by
  obtain ⟨⟨f, t⟩, ⟨ok, ht⟩, hv, q⟩ := h
  dsimp only at ok ht hv q
  obtain ⟨v, w, y, rfl, h1, h2, h3⟩ := h3_of hv
  try dsimp only at h1 h2 h3
  change t_is_odd K _ _ _ _ _ _ _ [some v, some w, some y, none, none] H
  unfold t_is_odd
  have z := ok.sz
  refine u_drop (K := K) (sh := .d .non) (by k_places) fun H1 e1 => ?_
  refine u_drop (K := K) (sh := .d .non) (by k_places) fun H2 e2 => ?_
  refine u_drop (K := K) (sh := .d .non) (by k_places) fun H3 e3 => ?_
  refine u_asgI (K := K) (i := ((0 : Nat) : Int)) g_nat fun H4 e4 => ?_
  change tSeq _ _ _ [some v, some w, some y, some (.int ((0 : Nat) : Int)), none] H4
  refine u_for (l := f.all) (g := dN) (fun i σ' => ∃ u, σ' = [some v, some w, some y, some (.int ((xorsN f.s t (f.all.take i)).toNat : Int)), u]) ((i_tup (ds := f.all.map dN) (gc_fours (by k_places) ok)).weak fun _ _ e => Tx.of e) ⟨none, rfl⟩ ?_ ?_
  · rintro H5 i x u σ' H6 e5 e6 ha ⟨u', rfl⟩ hx
    refine tgn ?_
    have hvs := fours_vs ok x (List.mem_of_getElem? ha)
    have hp := place_lt hvs
    have hp' : placeN f.s x < t.length := by rw [ht]; exact hp
    refine v_asgI (K := K) (i := ((xorsN f.s t (f.all.take i) != tget t (placeN f.s x)).toNat : Int)) (g_xorB (by k_places) (by k_places)) fun H7 e7 => ⟨by none_booked, some u, ?_⟩
    have e : xorsN f.s t (f.all.take (i + 1)) = (xorsN f.s t (f.all.take i) != tget t (placeN f.s x)) := by
      unfold xorsN
      rw [List.take_add_one, ha]
      show (f.all.take i ++ [x]).foldl _ _ = _
      rw [List.foldl_append]
      rfl
    rw [e]
    rfl
  · rintro σ' H5 e5 ⟨u, rfl⟩
    rw [List.take_length]
    refine v_ret (K := K) (EvG.isB (x := xorsN f.s t f.all) (g_is1 (by k_places) g_nat) ?_) fun v' H6 e6 hv' => q v' H6 (by none_booked) hv'
    show ((((false != _) != _) != _) != _) = _
    unfold xor4
    rw [show ∀ b : Bool, (false != b) = b from fun b => by cases b <;> rfl]
theorem pure_idle_houses (h : sp_idle_houses K vs H Q E) : t_idle_houses K (sp_a_want K) (sp_is_sizes K) (sp_is_table K) (sp_is_idle K) { nx := fun _ H' => Q .non H', rt := Q } (start N_idle_houses vs) H := by
  obtain ⟨⟨s, t⟩, ⟨z, ht⟩, hv, q⟩ := h
  dsimp only at z ht hv q
  obtain ⟨v, w, rfl, h1, h2⟩ := h2_of hv
  try dsimp only at h1 h2
  change t_idle_houses K _ _ _ _ _ [some v, some w, none] H
  unfold t_idle_houses
  have z6 := z.few
  refine u_drop (K := K) (sh := .d .non) (by k_places) fun H1 e1 => ?_
  refine u_drop (K := K) (sh := .d .non) (by k_places) fun H2 e2 => ?_
  refine v_ret (K := K) (sh := .d (dN (idleN s t))) (g_tupOf (ds := (idleN s t).map Dt.nat) (EvN.g ?_)) fun v' H4 e4 hv' => q v' H4 (by none_booked) hv'
  refine n_lcF (l := List.range s.length) (g := Dt.nat) (idleB s t) Dt.nat (i_rng1 (by k_places) (by omega)) (by rw [List.length_range]; omega) (fun x => rfl) (fun a ha x H3 e3 hx => t_val (K := K) ?_) (fun a ha x H3 e3 hx _ => by k_places)
  have ha' := List.mem_range.mp ha
  k_places
end
section
variable {K : PySem.W.Frag} {vs : List V} {H : Hp} {Q : VK} {E : XK}
theorem u_asgR {α β : Type} {pre : α → Prop} {args : α → List Sh} {rel : α → β → Prop} {res : β → Sh} {tl : TA} {tz : TS} {D : Ends} {σ : L2.St} {m : Nat} (a : α) (h : EvAs K tl σ H (args a)) (hp : pre a)
    (k : ∀ v b H2, rel a b → Ex H H2 → Hold K H2 v (res b) → tz D (σ.set m (some v)) H2) : tSeq (tAsg (xCall (PmR K pre args rel res) tl) (gName m)) tz D σ H := r_call a h hp k
theorem u_asgRN {α β : Type} {pre : α → Prop} {args : α → List Sh} {rel : α → β → Prop} {res : β → List Dt} {tl : TA} {tz : TS} {D : Ends} {σ : L2.St} {m : Nat} (a : α) (h : EvAs K tl σ H (args a)) (hp : pre a)
    (k : ∀ p xs b H2, rel a b → H p = none → Ex H H2 → H2 p = some (.lst xs) → Tps K H2 xs (res b) → tz D (σ.set m (some (.ref p))) H2) : tSeq (tAsg (xCall (PmN K pre args rel res) tl) (gName m)) tz D σ H := n_call a h hp k
theorem v_asgRN {α β : Type} {pre : α → Prop} {args : α → List Sh} {rel : α → β → Prop} {res : β → List Dt} {tl : TA} {D : Ends} {σ : L2.St} {m : Nat} (a : α) (h : EvAs K tl σ H (args a)) (hp : pre a)
    (k : ∀ p xs b H2, rel a b → H p = none → Ex H H2 → H2 p = some (.lst xs) → Tps K H2 xs (res b) → D.nx (σ.set m (some (.ref p))) H2) : tAsg (xCall (PmN K pre args rel res) tl) (gName m) D σ H := n_call a h hp k
theorem i_lstN {l : List Nat} {tl : TE} {σ : L2.St} (h : EvG K tl σ H (sN l)) : EvI K Ex (xItL K tl) σ H (l.map Dt.nat) := i_lst (ds := l.map Dt.nat) h
theorem i_tupN {l : List Nat} {tl : TE} {σ : L2.St} (h : EvG K tl σ H (.d (dN l))) : EvI K Ex (xItT K tl) σ H (l.map Dt.nat) := (i_tup (ds := l.map Dt.nat) h).weak fun _ _ e => Tx.of e
theorem spot_none {a : Hh} {r : Option (Nat × Nat × Nat)} (h : SpotRel a r) : (!isNone (spotD r)) = knitB a.s a.t a.i a.j := by
  cases r with
  | none => exact (knitB_f h).symm
  | some z =>
    obtain ⟨p, x, y⟩ := z
    obtain ⟨f, v, _, _, _, _, hx, _, hy, odd⟩ := h
    exact (knitB_t ⟨f, x, y, v, hx, hy, odd⟩).symm
theorem g_spot {s : List Nat} {t : List Bool} {i j : Nat} {tl : TA} {σ : L2.St} (h : EvAs K tl σ H [.d (dN s), .d (dB t), .d (.nat i), .d (.nat j)]) (z : Hh.Ok ⟨s, t, i, j⟩) : EvG K (xNotN (xCall (sp_odd_spot K) tl)) σ H (.d (.bl (knitB s t i j))) := fun H1 e Q q =>
  r_call (K := K) (pre := Hh.Ok) (args := Hh.args) (rel := SpotRel) (res := fun r => .d (spotD r)) (⟨s, t, i, j⟩ : Hh) (h.mono e) z fun v r H2 hr e2 hv => by
    show Q (.bl (!decide (v = .non))) H2
    rw [Tp.isN hv, spot_none hr]
    exact q _ H2 e2 (.bl _)
theorem pure_odd_spot (h : sp_odd_spot K vs H Q E) : t_odd_spot K (sp_spans_of K) (sp_corner_places K) { nx := fun _ H' => Q .non H', rt := Q } (start N_odd_spot vs) H := by
  obtain ⟨⟨s, t, i, j⟩, ⟨z, ht, hi, hj, ne⟩, hv, q⟩ := h
  dsimp only at z ht hi hj ne hv q
  obtain ⟨v, w, x, y, rfl, h1, h2, h3, h4⟩ := h4_of hv
  change t_odd_spot K _ _ _ [some v, some w, some x, some y, none, none, none, none, none, none, none, none] H
  have h1 : Hold K H v (.d (dN s)) := h1
  have h2 : Hold K H w (.d (dB t)) := h2
  have h3 : Hold K H x (.d (.nat i)) := h3
  have h4 : Hold K H y (.d (.nat j)) := h4
  unfold t_odd_spot
  have z6 := z.few
  have hsl := sp_len' s
  have si := z.le hi
  have sj := z.le hj
  have pi64 := z.sp64 hi
  have pj64 := z.sp64 hj
  refine u_asg (K := K) (sh := sN (spansN s)) (by k_places) fun u H1 e1 hu => ?_
  change tSeq _ _ _ [some v, some w, some x, some y, some u, none, none, none, none, none, none, none] H1
  have hl : EvN K (tLc (xRng1 (xLen K (tVar 0))) (gName 6) (tAnd (tB (xNe (tVar 6) (tVar 2))) (tB (xNe (tVar 6) (tVar 3)))) (tVar 6) [6]) [some v, some w, some x, some y, some u, none, none, none, none, none, none, none] H1 ((restN s.length i j).map Dt.nat) :=
    n_lcF (l := List.range s.length) (g := Dt.nat) (fun h => (!decide (h = i)) && !decide (h = j)) Dt.nat (i_rng1 (by k_places) (by omega)) (by rw [List.length_range]; omega) (fun x => rfl)
      (fun a ha x' H3 e3 hx => et_and (t_val (K := K) (by k_places)) fun _ => t_val (K := K) (by k_places)) (fun a ha x' H3 e3 hx _ => by k_places)
  refine u_asg (K := K) (sh := sN (restN s.length i j)) hl.g fun r H2 e2 hr => ?_
  change tSeq _ _ _ [some v, some w, some x, some y, some u, some r, none, none, none, none, none, none] H2
  have hsub := rest_sub s.length i j
  refine u_for (K := K) (l := cornersN s (restN s.length i j)) (g := Dt.nat)
    (fun k σ' => ∃ a7 a8 a9 a10 a11, σ' = [some v, some w, some x, some y, some u, some r, none, a7, a8, a9, a10, a11] ∧ ∀ m p, m < k → (cornersN s (restN s.length i j))[m]? = some p → ∀ a b, 1 ≤ a → a < gN s i → 1 ≤ b → b < gN s j → xor4 (tget t p) (tget t (p + a * sp s i)) (tget t (p + b * sp s j)) (tget t (p + a * sp s i + b * sp s j)) = false)
    (i_lstN (by k_places)) ⟨none, none, none, none, none, rfl, fun m p hm => absurd hm (Nat.not_lt_zero m)⟩ ?_ ?_
  · rintro H3 k p x7 σ' H4 e3 e4 hp ⟨a7, a8, a9, a10, a11, rfl, ev⟩ hx7
    refine tgn ?_
    change tFor _ _ _ _ [some v, some w, some x, some y, some u, some r, none, some x7, a8, a9, a10, a11] H4
    obtain ⟨f, vf, f1, f2, fp⟩ := (corner_two z hi hj p).mp (List.mem_of_getElem? hp)
    refine v_for (K := K) (l := List.range (gN s i - 1)) (g := fun k => Dt.nat (1 + k))
      (fun k2 σ' => ∃ a8 a9 a10 a11, σ' = [some v, some w, some x, some y, some u, some r, none, some x7, a8, a9, a10, a11] ∧ ∀ a b, 1 ≤ a → a < 1 + k2 → 1 ≤ b → b < gN s j → xor4 (tget t p) (tget t (p + a * sp s i)) (tget t (p + b * sp s j)) (tget t (p + a * sp s i + b * sp s j)) = false)
      (i_rng2 (by k_places) (by k_places) ⟨by omega, by omega⟩) ⟨a8, a9, a10, a11, rfl, fun a b h1 h2 => absurd h2 (by omega)⟩ ?_ ?_
    · rintro H5 k2 a' x8 σ' H6 e5 e6 ha ⟨a8, a9, a10, a11, rfl, ev2⟩ hx8
      refine tgn ?_
      change tSeq _ _ _ [some v, some w, some x, some y, some u, some r, none, some x7, some x8, a9, a10, a11] H6
      obtain ⟨ka, ea⟩ := List.getElem?_eq_some_iff.mp ha
      rw [List.getElem_range] at ea
      rw [List.length_range] at ka
      subst ea
      refine u_asg (K := K) (sh := .d (.nat (p + (1 + k2) * sp s i))) (g_addN (by k_places) (g_mulN (by k_places) (by k_places) (by omega))) fun x9 H7 e7 hx9 => ?_
      change tFor _ _ _ _ [some v, some w, some x, some y, some u, some r, none, some x7, some x8, some x9, a10, a11] H7
      refine v_for (K := K) (l := List.range (gN s j - 1)) (g := fun k => Dt.nat (1 + k))
        (fun k3 σ' => ∃ a10 a11, σ' = [some v, some w, some x, some y, some u, some r, none, some x7, some x8, some x9, a10, a11] ∧ ∀ b, 1 ≤ b → b < 1 + k3 → xor4 (tget t p) (tget t (p + (1 + k2) * sp s i)) (tget t (p + b * sp s j)) (tget t (p + (1 + k2) * sp s i + b * sp s j)) = false)
        (i_rng2 (by k_places) (by k_places) ⟨by omega, by omega⟩) ⟨a10, a11, rfl, fun b h1 h2 => absurd h2 (by omega)⟩ ?_ ?_
      · rintro H8 k3 b' x10 σ' H9 e8 e9 hb ⟨a10, a11, rfl, ev3⟩ hx10
        refine tgn ?_
        change tSeq _ _ _ [some v, some w, some x, some y, some u, some r, none, some x7, some x8, some x9, some x10, a11] H9
        obtain ⟨kb, eb⟩ := List.getElem?_eq_some_iff.mp hb
        rw [List.getElem_range] at eb
        rw [List.length_range] at kb
        subst eb
        refine u_asg (K := K) (sh := .d (.nat ((1 + k3) * sp s j))) (g_mulN (by k_places) (by k_places) (by omega)) fun x11 H10 e10 hx11 => ?_
        change tIfS _ _ _ _ [some v, some w, some x, some y, some u, some r, none, some x7, some x8, some x9, some x10, some x11] H10
        have up1 := pl_up0 (a := 1 + k2) hi f1
        have up2 := pl_up0 (a := 1 + k3) hj f2
        have up3 : pl s (up (up f i (1 + k2)) j (1 + k3)) = pl s f + (1 + k2) * sp s i + (1 + k3) * sp s j := by
          rw [pl_up0 hj (show up f i (1 + k2) j = 0 by rw [up_ne (Ne.symm ne)]; exact f2), up1]
        have l3 := pl_lt ((vf.up (i := i) (a := 1 + k2) (by omega)).up (i := j) (a := 1 + k3) (by omega))
        rw [up3, fp, ← ht] at l3
        rw [fp] at up1 up2 up3
        refine s_when (b := xor4 (tget t p) (tget t (p + (1 + k2) * sp s i)) (tget t (p + (1 + k3) * sp s j)) (tget t (p + (1 + k2) * sp s i + (1 + k3) * sp s j))) (t_val (K := K) (g_is1 (g_xorB (g_xorB (g_xorB (by k_places) (by k_places)) (by k_places)) (by k_places)) g_nat)) (fun odd H11 e11 => ?_) (fun even H11 e11 => ⟨by none_booked, some x10, some x11, rfl, ?_⟩)
        · refine v_ret (K := K) (g_tup (ds := [Dt.nat p, Dt.nat (1 + k2), Dt.nat (1 + k3)]) (as_cons (by k_places) (as_cons (by k_places) (as_cons (by k_places) as_nil))) (by show 3 ≤ 100000; decide)) fun v' H12 e12 hv' => q v' (some (p, 1 + k2, 1 + k3)) H12 ?_ (by none_booked) hv'
          refine ⟨f, vf, f1, f2, fp, by omega, (show 1 + k2 < gN s i by omega), by omega, (show 1 + k3 < gN s j by omega), ?_⟩
          show xor4 (tget t (pl s f)) (tget t (pl s (up f i (1 + k2)))) (tget t (pl s (up f j (1 + k3)))) (tget t (pl s (up (up f i (1 + k2)) j (1 + k3)))) = true
          rw [up1, up2, up3, fp]
          exact odd
        · intro b hb1 hb2
          by_cases e : b = 1 + k3
          · rw [e]
            exact even
          · exact ev3 b hb1 (by omega)
      · rintro σ' H8 e8 ⟨a10, a11, rfl, ev3⟩
        rw [List.length_range] at ev3
        refine ⟨by none_booked, some x8, some x9, a10, a11, rfl, fun a b ha1 ha2 hb1 hb2 => ?_⟩
        by_cases e : a = 1 + k2
        · rw [e]
          exact ev3 b hb1 (by omega)
        · exact ev2 a b ha1 (by omega) hb1 hb2
    · rintro σ' H5 e5 ⟨a8, a9, a10, a11, rfl, ev2⟩
      rw [List.length_range] at ev2
      refine ⟨by none_booked, some x7, a8, a9, a10, a11, rfl, fun m p' hm hp' a b ha1 ha2 hb1 hb2 => ?_⟩
      by_cases e : m = k
      · subst e
        rw [hp] at hp'
        have ep := Option.some.inj hp'
        subst ep
        exact ev2 a b ha1 (by omega) hb1 hb2
      · exact ev m p' (by omega) hp' a b ha1 ha2 hb1 hb2
  · rintro σ' H3 e3 ⟨a7, a8, a9, a10, a11, rfl, ev⟩
    refine v_ret (K := K) (sh := .d .non) g_non fun v' H4 e4 hv' => q v' none H4 ?_ (by none_booked) hv'
    refine not_knit ne hi hj (z.at hi) (z.at hj) fun f a b vf f1 f2 ha1 ha2 hb1 hb2 => ?_
    obtain ⟨m, hm⟩ := List.mem_iff_getElem?.mp ((corner_two z hi hj (pl s f)).mpr ⟨f, vf, f1, f2, rfl⟩)
    have k := ev m _ (List.getElem?_eq_some_iff.mp hm).1 hm a b ha1 ha2 hb1 hb2
    show xor4 (tget t (pl s f)) (tget t (pl s (up f i a))) (tget t (pl s (up f j b))) (tget t (pl s (up (up f i a) j b))) = false
    rw [pl_up0 hi f1, pl_up0 hj f2, pl_up0 hj (show up f i a j = 0 by rw [up_ne (Ne.symm ne)]; exact f2), pl_up0 hi f1]
    exact k
theorem pure_are_knit (h : sp_are_knit K vs H Q E) : t_are_knit K (sp_want_houses K) (sp_odd_spot K) { nx := fun _ H' => Q .non H', rt := Q } (start N_are_knit vs) H := by
  obtain ⟨⟨s, t, i, j⟩, ok, hv, q⟩ := h
  dsimp only at hv q
  obtain ⟨v, w, x, y, rfl, h1, h2, h3, h4⟩ := h4_of hv
  change t_are_knit K _ _ _ [some v, some w, some x, some y] H
  have h1 : Hold K H v (.d (dN s)) := h1
  have h2 : Hold K H w (.d (dB t)) := h2
  have h3 : Hold K H x (.d (.nat i)) := h3
  have h4 : Hold K H y (.d (.nat j)) := h4
  unfold t_are_knit
  refine u_drop (K := K) (sh := .d .non) (by k_places) fun H1 e1 => ?_
  exact v_ret (K := K) (g_spot (as_cons (by k_places) (as_cons (by k_places) (as_cons (by k_places) (as_cons (by k_places) as_nil)))) ok) fun v' H2 e2 hv' => q v' H2 (by none_booked) hv'
theorem pure_odd_four (h : sp_odd_four K vs H Q E) : t_odd_four K (sp_want_houses K) (sp_odd_spot K) (sp_setting_by K) { nx := fun _ H' => Q .non H', rt := Q } (start N_odd_four vs) H := by
  obtain ⟨⟨s, t, i, j⟩, ok, hv, q⟩ := h
  dsimp only at hv q
  obtain ⟨v, w, x, y, rfl, h1, h2, h3, h4⟩ := h4_of hv
  change t_odd_four K _ _ _ _ [some v, some w, some x, some y, none, none, none, none] H
  have h1 : Hold K H v (.d (dN s)) := h1
  have h2 : Hold K H w (.d (dB t)) := h2
  have h3 : Hold K H x (.d (.nat i)) := h3
  have h4 : Hold K H y (.d (.nat j)) := h4
  have z := ok.sz
  unfold t_odd_four
  refine u_drop (K := K) (sh := .d .non) (by k_places) fun H1 e1 => ?_
  refine u_asgR (K := K) (⟨s, t, i, j⟩ : Hh) (as_cons (by k_places) (as_cons (by k_places) (as_cons (by k_places) (as_cons (by k_places) as_nil)))) ok fun u r H2 hr e2 hu => ?_
  change tSeq _ _ _ [some v, some w, some x, some y, some u, none, none, none] H2
  cases r with
  | none =>
    have hu' : Hold K H2 u (.d .non) := hu
    refine q_when (b := true) (t_val (K := K) (g_isN (d := .non) (by k_places))) (fun _ H3 e3 => ?_) fun b => Bool.noConfusion b
    exact v_ret (K := K) (sh := .d .non) g_non fun v' H4 e4 hv' => q v' .non H4 ⟨none, hr, rfl⟩ (by none_booked) hv'
  | some abc =>
    obtain ⟨p, a, b⟩ := abc
    have hu' : Hold K H2 u (.d (.tup [.nat p, .nat a, .nat b])) := hu
    refine q_when (b := false) (t_val (K := K) (g_isN (d := .tup [.nat p, .nat a, .nat b]) (by k_places))) (fun b => Bool.noConfusion b) fun _ H3 e3 => ?_
    refine u_asgT (K := K) (sh := .d (.tup [.nat p, .nat a, .nat b])) (by k_places) fun u' H4 e4 hu2 => ?_
    refine tg3 hu2 fun v1 v2 v3 k1 k2 k3 => ?_
    change tRet _ _ [some v, some w, some x, some y, some u, some v1, some v2, some v3] H4
    refine v_ret (K := K) (g_tup (ds := [dN (settingN s p), .nat i, .nat a, .nat j, .nat b]) (as_cons (by k_places) (as_cons (by k_places) (as_cons (by k_places) (as_cons (by k_places) (as_cons (by k_places) as_nil))))) (by show 5 ≤ 100000; decide)) fun v' H5 e5 hv' => q v' _ H5 ⟨some (p, a, b), hr, rfl⟩ (by none_booked) hv'
theorem pure_is_idle (h : sp_is_idle K vs H Q E) : t_is_idle K (sp_spans_of K) (sp_corner_places K) { nx := fun _ H' => Q .non H', rt := Q } (start N_is_idle vs) H := by
  obtain ⟨⟨s, t, i, j⟩, ⟨z, ht, hi⟩, hv, q⟩ := h
  dsimp only at z ht hi hv q
  obtain ⟨v, w, x, rfl, h1, h2, h3⟩ := h3_of hv
  change t_is_idle K _ _ _ [some v, some w, some x, none, none, none, none] H
  unfold t_is_idle
  have z6 := z.few
  have hsl := sp_len' s
  have si := z.le hi
  have pi64 := z.sp64 hi
  refine u_asg (K := K) (sh := .d (.nat (sp s i))) (g_ixLN (by k_places) (by k_places) (by omega)) fun u H1 e1 hu => ?_
  change tSeq _ _ _ [some v, some w, some x, some u, none, none, none] H1
  have hl : EvN K (tLc (xRng1 (xLen K (tVar 0))) (gName 5) (tB (xNe (tVar 5) (tVar 2))) (tVar 5) [5]) [some v, some w, some x, some u, none, none, none] H1 ((rest1 s.length i).map Dt.nat) :=
    n_lcF (l := List.range s.length) (g := Dt.nat) (fun h => !decide (h = i)) Dt.nat (i_rng1 (by k_places) (by omega)) (by rw [List.length_range]; omega) (fun x => rfl)
      (fun a ha x' H3 e3 hx => t_val (K := K) (by k_places)) (fun a ha x' H3 e3 hx _ => by k_places)
  have hsub := rest1_sub s.length i
  refine u_for (K := K) (l := cornersN s (rest1 s.length i)) (g := Dt.nat)
    (fun k σ' => ∃ a4 a6, σ' = [some v, some w, some x, some u, a4, none, a6] ∧ ∀ m p, m < k → (cornersN s (rest1 s.length i))[m]? = some p → ∀ a, 1 ≤ a → a < gN s i → tget t (p + a * sp s i) = tget t p)
    (i_lstN (gc_corner (as_cons (by k_places) (as_cons (EvN.g hl) as_nil)) z hsub)) ⟨none, none, rfl, fun m p hm => absurd hm (Nat.not_lt_zero m)⟩ ?_ ?_
  · rintro H3 k p x7 σ' H4 e3 e4 hp ⟨a4, a6, rfl, ev⟩ hx7
    refine tgn ?_
    change tFor _ _ _ _ [some v, some w, some x, some u, some x7, none, a6] H4
    obtain ⟨f, vf, f1, fp⟩ := (corner_one z hi p).mp (List.mem_of_getElem? hp)
    refine v_for (K := K) (l := List.range (gN s i - 1)) (g := fun k => Dt.nat (1 + k))
      (fun k2 σ' => ∃ a6, σ' = [some v, some w, some x, some u, some x7, none, a6] ∧ ∀ a, 1 ≤ a → a < 1 + k2 → tget t (p + a * sp s i) = tget t p)
      (i_rng2 (by k_places) (by k_places) ⟨by omega, by omega⟩) ⟨a6, rfl, fun a h1 h2 => absurd h2 (by omega)⟩ ?_ ?_
    · rintro H5 k2 a' x8 σ' H6 e5 e6 ha ⟨a6, rfl, ev2⟩ hx8
      refine tgn ?_
      change tIfS _ _ _ _ [some v, some w, some x, some u, some x7, none, some x8] H6
      obtain ⟨ka, ea⟩ := List.getElem?_eq_some_iff.mp ha
      rw [List.getElem_range] at ea
      rw [List.length_range] at ka
      subst ea
      have up1 := pl_up0 (a := 1 + k2) hi f1
      have l1 := pl_lt (vf.up (i := i) (a := 1 + k2) (by omega))
      rw [up1, fp, ← ht] at l1
      rw [fp] at up1
      refine s_when (b := (tget t (p + (1 + k2) * sp s i) != tget t p)) (t_val (K := K) (by k_places)) (fun odd H7 e7 => ?_) (fun even H7 e7 => ⟨by none_booked, some x8, rfl, ?_⟩)
      · refine v_ret (K := K) (sh := .d (.bl false)) g_bl fun v' H8 e8 hv' => ?_
        have nd : ¬ IdleP s t i := fun id => by
          have k := id f (1 + k2) vf (by omega)
          unfold Tf at k
          rw [up1, fp] at k
          rw [k] at odd
          simp at odd
        rw [idleB_f nd] at q
        exact q v' H8 (by none_booked) hv'
      · intro a ha1 ha2
        by_cases e : a = 1 + k2
        · rw [e]
          revert even
          cases tget t (p + (1 + k2) * sp s i) <;> cases tget t p <;> decide
        · exact ev2 a ha1 (by omega)
    · rintro σ' H5 e5 ⟨a6, rfl, ev2⟩
      rw [List.length_range] at ev2
      refine ⟨by none_booked, some x7, a6, rfl, fun m p' hm hp' a ha1 ha2 => ?_⟩
      by_cases e : m = k
      · subst e
        rw [hp] at hp'
        have ep := Option.some.inj hp'
        subst ep
        exact ev2 a ha1 (by omega)
      · exact ev m p' (by omega) hp' a ha1 ha2
  · rintro σ' H3 e3 ⟨a4, a6, rfl, ev⟩
    have id : IdleP s t i := idle_of hi (z.at hi) fun f a vf f1 ha1 ha2 => by
      obtain ⟨m, hm⟩ := List.mem_iff_getElem?.mp ((corner_one z hi (pl s f)).mpr ⟨f, vf, f1, rfl⟩)
      have k := ev m _ (List.getElem?_eq_some_iff.mp hm).1 hm a ha1 ha2
      unfold Tf
      rw [pl_up0 hi f1]
      exact k
    rw [idleB_t id] at q
    exact v_ret (K := K) (sh := .d (.bl true)) g_bl fun v' H4 e4 hv' => q v' H4 (by none_booked) hv'
theorem pure_is_seam (h : sp_is_seam K vs H Q E) : t_is_seam K (sp_a_want K) (sp_is_sizes K) (sp_is_table K) (sp_is_lot K) (sp_knit_pairs K) { nx := fun _ H' => Q .non H', rt := Q } (start N_is_seam vs) H := by
  obtain ⟨⟨s, t, l⟩, ⟨z, ht, hl⟩, hv, q⟩ := h
  dsimp only at z ht hl hv q
  obtain ⟨v, w, x, rfl, h1, h2, h3⟩ := h3_of hv
  change t_is_seam K _ _ _ _ _ _ [some v, some w, some x, none, none] H
  have h1 : Hold K H v (.d (dN s)) := h1
  have h2 : Hold K H w (.d (dB t)) := h2
  have h3 : Hold K H x (.d (dN l)) := h3
  unfold t_is_seam
  have z1 := z.one
  refine u_drop (K := K) (sh := .d .non) (by k_places) fun H1 e1 => ?_
  refine u_drop (K := K) (sh := .d .non) (by k_places) fun H2 e2 => ?_
  refine u_drop (K := K) (sh := .d .non) (gc_want (as_cons (gc_islot (by k_places) ⟨z1, hl⟩) (by k_places))) fun H3 e3 => ?_
  rw [seamB_eq z hl.2] at q
  have ev : EvG K (tVar 2) [some v, some w, some x, none, none] H3 (.d (.tup (l.map Dt.nat))) := g_var rfl (h3.mono (by none_booked))
  refine u_for (K := K) (l := pairsN s t) (g := dP2) (fun k σ' => ∃ a3 a4, σ' = [some v, some w, some x, a3, a4] ∧ ∀ m p, m < k → (pairsN s t)[m]? = some p → crossB l p = false)
    ((i_tup (ds := (pairsN s t).map dP2) (gc_pairs (by k_places) z ht)).weak fun _ _ e => Tx.of e) ⟨none, none, rfl, fun m p hm => absurd hm (Nat.not_lt_zero m)⟩ ?_ ?_
  · rintro H4 k p y σ' H5 e4 e5 hp ⟨a3, a4, rfl, ev⟩ hy
    refine tg2 hy fun v1 v2 k1 k2 => ?_
    change tIfS _ _ _ _ [some v, some w, some x, some v1, some v2] H5
    have hx : Hold K H5 x (.d (.tup (l.map Dt.nat))) := h3.mono (by none_booked)
    refine s_when (b := crossB l p) (t_val (K := K) (g_neB (g_inTN (by k_places) (g_var rfl hx)) (g_inTN (by k_places) (g_var rfl hx)))) (fun odd H6 e6 => ?_) (fun even H6 e6 => ⟨by none_booked, some v1, some v2, rfl, fun m p' hm hp' => ?_⟩)
    · rw [List.any_eq_true.mpr ⟨p, List.mem_of_getElem? hp, odd⟩] at q
      exact v_ret (K := K) (sh := .d (.bl false)) g_bl fun v' H7 e7 hv' => q v' H7 (by none_booked) hv'
    · by_cases e : m = k
      · subst e
        rw [hp] at hp'
        have ep := Option.some.inj hp'
        subst ep
        exact even
      · exact ev m p' (by omega) hp'
  · rintro σ' H4 e4 ⟨a3, a4, rfl, ev⟩
    have e : (pairsN s t).any (crossB l) = false := by
      cases e : (pairsN s t).any (crossB l) with
      | false => rfl
      | true =>
        obtain ⟨p, hp, c⟩ := List.any_eq_true.mp e
        obtain ⟨m, hm⟩ := List.mem_iff_getElem?.mp hp
        rw [ev m p (List.getElem?_eq_some_iff.mp hm).1 hm] at c
        cases c
    rw [e] at q
    exact v_ret (K := K) (sh := .d (.bl true)) g_bl fun v' H5 e5 hv' => q v' H5 (by none_booked) hv'
end
section
variable {K : PySem.W.Frag} {vs : List V} {H : Hp} {Q : VK} {E : XK}
/-- pairs so far: houses below k with all above them -/
def pU (n : Nat) (f : Nat → Nat → Bool) (k : Nat) : List (Nat × Nat) := (List.range k).flatMap fun i => ((List.range (n - (i + 1))).filter fun q => f i (i + 1 + q)).map fun q => (i, i + 1 + q)
def pI (f : Nat → Nat → Bool) (i m : Nat) : List (Nat × Nat) := ((List.range m).filter fun q => f i (i + 1 + q)).map fun q => (i, i + 1 + q)
theorem pI_len {f : Nat → Nat → Bool} {i m : Nat} : (pI f i m).length ≤ m := by
  unfold pI
  rw [List.length_map]
  have := List.length_filter_le (fun q => f i (i + 1 + q)) (List.range m)
  rw [List.length_range] at this
  exact this
theorem pU_len {n : Nat} {f : Nat → Nat → Bool} {k : Nat} (hk : k ≤ 6) (hn : n ≤ 6) : (pU n f k).length ≤ 36 := by
  have h := flat_len (fun i => ((List.range (n - (i + 1))).filter fun q => f i (i + 1 + q)).map fun q => (i, i + 1 + q)) n (List.range k) fun a _ => Nat.le_trans (pI_len (f := f) (i := a)) (Nat.sub_le _ _)
  rw [List.length_range] at h
  have h2 : k * n ≤ 6 * 6 := Nat.mul_le_mul hk hn
  exact Nat.le_trans h h2
theorem pU_succ {n : Nat} {f : Nat → Nat → Bool} {k : Nat} : pU n f (k + 1) = pU n f k ++ pI f k (n - (k + 1)) := by
  unfold pU pI
  rw [List.range_succ, List.flatMap_append]
  simp
theorem pI_succ {f : Nat → Nat → Bool} {i m : Nat} : pI f i (m + 1) = pI f i m ++ if f i (i + 1 + m) = true then [(i, i + 1 + m)] else [] := by
  unfold pI
  rw [List.range_succ, List.filter_append, List.map_append]
  cases e : f i (i + 1 + m) with
  | true => simp [List.filter_cons, e]
  | false => simp [List.filter_cons, e]
theorem pU_all {n : Nat} {f : Nat → Nat → Bool} : pU n f n = pairsOf' n f := by
  have e : ∀ l : List Nat, (∀ i ∈ l, i < n) → (l.flatMap fun i => ((List.range (n - (i + 1))).filter fun q => f i (i + 1 + q)).map fun q => (i, i + 1 + q)) = l.flatMap fun i => ((List.range n).filter fun j => decide (i < j) && f i j).map fun j => (i, j) := by
    intro l
    induction l with
    | nil => intro _; rfl
    | cons i l ih =>
      intro h
      rw [List.flatMap_cons, List.flatMap_cons, ih fun j hj => h j (List.mem_cons_of_mem _ hj), range_above (h i (List.mem_cons_self ..)) (f i), List.map_map]
      rfl
  exact e _ fun i hi => List.mem_range.mp hi
theorem map_app {α : Type} (g : α → Dt) (a b : List α) : a.map g ++ b.map g = (a ++ b).map g := List.map_append.symm
theorem pure_knit_pairs (h : sp_knit_pairs K vs H Q E) : t_knit_pairs K (sp_a_want K) (sp_is_sizes K) (sp_is_table K) (sp_odd_spot K) { nx := fun _ H' => Q .non H', rt := Q } (start N_knit_pairs vs) H := by
  obtain ⟨⟨s, t⟩, ⟨z, ht⟩, hv, q⟩ := h
  dsimp only at z ht hv q
  obtain ⟨v, w, rfl, h1, h2⟩ := h2_of hv
  change t_knit_pairs K _ _ _ _ _ [some v, some w, none, none, none] H
  have h1 : Hold K H v (.d (dN s)) := h1
  have h2 : Hold K H w (.d (dB t)) := h2
  unfold t_knit_pairs
  have z6 := z.few
  refine u_drop (K := K) (sh := .d .non) (by k_places) fun H1 e1 => ?_
  refine u_drop (K := K) (sh := .d .non) (by k_places) fun H2 e2 => ?_
  refine u_asgN (K := K) (n_lst (ds := []) as_nil) fun p xs H3 np e3 hp htp => ?_
  change tSeq _ _ _ [some v, some w, some (.ref p), none, none] H3
  have m0 : Ml K H2 H3 p [] := Ml.new np e3 hp htp
  refine u_forS (K := K) (S := fun _ _ => True) (l := List.range s.length) (g := Dt.nat) (fun _ k σ' H' => ∃ a3 a4, σ' = [some v, some w, some (.ref p), a3, a4] ∧ Ml K H2 H' p ((pU s.length (knitB s t) k).map dP2)) (i_rng1 (by k_places) (by omega)) (fun H4 e4 => ⟨none, none, rfl, m0.ex e4⟩) (fun _ _ _ _ _ _ => True.intro) ?_ ?_
  · rintro H4 k k' x3 σ' H' H5 e4 hk ⟨a3, a4, rfl, m⟩ e5 hx3
    refine tgn ?_
    change tFor _ _ _ _ [some v, some w, some (.ref p), some x3, a4] H5
    obtain ⟨kl, ek⟩ := List.getElem?_eq_some_iff.mp hk
    rw [List.getElem_range] at ek
    rw [List.length_range] at kl
    subst ek
    have m5 := m.ex e5
    have eb : Ex H H5 := by have := m5.2.1; none_booked
    refine v_forS (K := K) (S := fun _ _ => True) (l := List.range (s.length - (k + 1))) (g := fun q => Dt.nat (k + 1 + q)) (fun _ r σ' H' => ∃ a4, σ' = [some v, some w, some (.ref p), some x3, a4] ∧ Ml K H2 H' p ((pU s.length (knitB s t) k ++ pI (knitB s t) k r).map dP2)) (i_rng2 (by k_places) (by k_places) ⟨by omega, by omega⟩) (fun H6 e6 => ⟨a4, rfl, ?_⟩) (fun _ _ _ _ _ _ => True.intro) ?_ ?_
    · have e : pU s.length (knitB s t) k ++ pI (knitB s t) k 0 = pU s.length (knitB s t) k := List.append_nil _
      rw [e]
      exact m5.ex e6
    · rintro H6 r r' x4 σ' H' H7 e6 hr ⟨a4, rfl, m'⟩ e7 hx4
      refine tgn ?_
      change tIfS _ _ _ _ [some v, some w, some (.ref p), some x3, some x4] H7
      obtain ⟨rl, er⟩ := List.getElem?_eq_some_iff.mp hr
      rw [List.getElem_range] at er
      rw [List.length_range] at rl
      subst er
      have m7 := m'.ex e7
      have eb7 : Ex H H7 := by have := m7.2.1; none_booked
      have k3 : Hold K H7 x3 (.d (.nat k)) := by rw [Tp.intI hx3]; exact hold_int
      have ok : Hh.Ok ⟨s, t, k, k + 1 + r⟩ := ⟨z, ht, kl, by show k + 1 + r < s.length; omega, by show k ≠ k + 1 + r; omega⟩
      have ll : (pU s.length (knitB s t) k ++ pI (knitB s t) k r).length < 100000 := by
        rw [List.length_append]
        have l1 := pU_len (f := knitB s t) (show k ≤ 6 by omega) z6
        have l2 := pI_len (f := knitB s t) (i := k) (m := r)
        omega
      refine s_when (b := knitB s t k (k + 1 + r)) (t_val (K := K) (g_spot (as_cons (by k_places) (as_cons (by k_places) (as_cons (by k_places) (as_cons (by k_places) as_nil)))) ok)) (fun yes H8 e8 => ?_) (fun no H8 e8 => ⟨some x4, rfl, ?_⟩)
      · refine v_app (K := K) (d := dP2 (k, k + 1 + r)) (m7.ex e8) (by rfl) (g_tup (ds := [.nat k, .nat (k + 1 + r)]) (as_cons (by k_places) (as_cons (by k_places) as_nil)) (by show 2 ≤ 100000; decide)) (by rw [List.length_map]; exact ll) fun H9 m9 _ _ => ⟨some x4, rfl, ?_⟩
        rw [pI_succ, if_pos yes, ← List.append_assoc, ← map_app]
        exact m9
      · rw [pI_succ, if_neg (by rw [no]; exact Bool.false_ne_true), List.append_nil]
        exact m7.ex e8
    · rintro H6 σ' H' e6 ⟨a4, rfl, m'⟩
      rw [List.length_range, ← pU_succ] at m'
      exact ⟨some x3, a4, rfl, m'⟩
  · rintro H4 σ' H' e4 ⟨a3, a4, rfl, m⟩
    rw [List.length_range, pU_all] at m
    have eb : Ex H H' := by have := m.2.1; none_booked
    exact v_ret (K := K) (sh := .d (dP (pairsN s t))) (g_tupOf (ds := (pairsN s t).map dP2) (g_var rfl m.hold)) fun v' H5 e5 hv' => q v' H5 (by none_booked) hv'
theorem marks_take {n : Nat} {ps : List (Nat × Nat)} {i : Nat} {p : Nat × Nat} (h : ps[i]? = some p) : marksN n (ps.take (i + 1)) = joinStep (marksN n (ps.take i)) p := by
  rw [List.take_add_one, h]
  show marksN n (ps.take i ++ [p]) = _
  rw [marks_app]
  rfl
/-- one join: low, high, the new marks -/
theorem n_join {σ : L2.St} {m : List Nat} {p : Nat × Nat} {tm : TE} {c lo hi : Nat} (hm : EvG K tm σ H (sN m)) (hz : m.length ≤ 40000) (vs : List Nat) (hw : ∀ x, wipe ((wipe σ vs).set c (some x)) vs = wipe σ vs)
    (hc : ∀ (d : Nat) x H1, Ex H H1 → Hold K H1 x (.d (.nat d)) → EvG K (tVar c) ((wipe σ vs).set c (some x)) H1 (.d (.nat d)))
    (hlo : ∀ x H1, Ex H H1 → EvG K (tVar lo) ((wipe σ vs).set c (some x)) H1 (.d (.nat (min (gN m p.1) (gN m p.2))))) (hhi : ∀ x H1, Ex H H1 → EvG K (tVar hi) ((wipe σ vs).set c (some x)) H1 (.d (.nat (max (gN m p.1) (gN m p.2))))) :
    EvN K (tLc (xItL K tm) (gName c) tYes (tIf (tB (xEq (tVar c) (tVar hi))) (tVar lo) (tVar c)) vs) σ H ((joinStep m p).map Dt.nat) := by
  have e : (joinStep m p).map Dt.nat = m.map fun d => Dt.nat (joinF m p d) := by
    unfold joinStep
    rw [List.map_map]
    rfl
  rw [e]
  refine n_lc (l := m) (g := Dt.nat) (f := fun d => Dt.nat (joinF m p d)) (i_lstN hm) hz hw fun d hd x H1 e1 hx => ?_
  refine g_if (x := decide (d = max (gN m p.1) (gN m p.2))) (t_val (K := K) (g_eqN (hc d x H1 e1 hx) (hhi x H1 e1))) (fun y => ?_) (fun y => ?_)
  · unfold joinF
    rw [if_pos (of_decide_eq_true y)]
    exact hlo x H1 e1
  · unfold joinF
    rw [if_neg (of_decide_eq_false y)]
    exact hc d x H1 e1 hx
theorem n_members {σ : L2.St} {n a : Nat} {m : List Nat} {tn tm ta : TE} {c : Nat} (hn : EvG K tn σ H (.d (.nat n))) (h6 : n ≤ 6) (lm : m.length = n) (vs : List Nat) (hw : ∀ x, wipe ((wipe σ vs).set c (some x)) vs = wipe σ vs)
    (hc : ∀ (d : Nat) x H1, Ex H H1 → Hold K H1 x (.d (.nat d)) → EvG K (tVar c) ((wipe σ vs).set c (some x)) H1 (.d (.nat d)))
    (hm : ∀ x H1, Ex H H1 → EvG K tm ((wipe σ vs).set c (some x)) H1 (sN m)) (ha : ∀ x H1, Ex H H1 → EvG K ta ((wipe σ vs).set c (some x)) H1 (.d (.nat a))) :
    EvN K (tLc (xRng1 tn) (gName c) (tB (xEq (xIxL K tm (tVar c)) ta)) (tVar c) vs) σ H ((membersN n m a).map Dt.nat) :=
  n_lcF (l := List.range n) (g := Dt.nat) (fun h => decide (gN m h = a)) Dt.nat (i_rng1 hn (by omega)) (by rw [List.length_range]; omega) hw
    (fun d hd x H1 e1 hx => t_val (K := K) (g_eqN (g_ixLN (hm x H1 e1) (hc d x H1 e1 hx) (by rw [lm]; exact List.mem_range.mp hd)) (ha x H1 e1))) (fun d hd x H1 e1 hx _ => hc d x H1 e1 hx)
theorem filter_snoc (c : Nat → Bool) (k : Nat) : (List.range (k + 1)).filter c = (List.range k).filter c ++ if c k = true then [k] else [] := by
  rw [List.range_succ, List.filter_append]
  cases e : c k with
  | true => simp [List.filter_cons, e]
  | false => simp [List.filter_cons, e]
theorem pure_clumps_of (h : sp_clumps_of K vs H Q E) : t_clumps_of K (sp_knit_pairs K) { nx := fun _ H' => Q .non H', rt := Q } (start N_clumps_of vs) H := by
  obtain ⟨⟨s, t⟩, ⟨z, ht⟩, hv, q⟩ := h
  dsimp only at z ht hv q
  obtain ⟨v, w, rfl, h1, h2⟩ := h2_of hv
  change t_clumps_of K _ _ [some v, some w, none, none, none, none, none, none, none, none, none] H
  have h1 : Hold K H v (.d (dN s)) := h1
  have h2 : Hold K H w (.d (dB t)) := h2
  unfold t_clumps_of
  have z6 := z.few
  have hps := sz_pairs (t := t) z
  refine u_asgN (K := K) (n_lst (ds := []) as_nil) fun p xs H1 np e1 hp htp => ?_
  change tSeq _ _ _ [some v, some w, some (.ref p), none, none, none, none, none, none, none, none] H1
  refine u_asg (K := K) (sh := .d (dP (pairsN s t))) (by k_places) fun y H2 e2 hy => ?_
  change tSeq _ _ _ [some v, some w, some (.ref p), some y, none, none, none, none, none, none, none] H2
  have m0 : Ml K H H2 p [] := (Ml.new np e1 hp htp).ex e2
  -- marks: 0, 1, ..
  refine u_forS (K := K) (S := fun _ _ => True) (l := List.range s.length) (g := Dt.nat) (fun _ k σ' H' => ∃ a4, σ' = [some v, some w, some (.ref p), some y, a4, none, none, none, none, none, none] ∧ Ml K H H' p ((List.range k).map Dt.nat) ∧ Tx K H2 H') (i_rng1 (by k_places) (by omega)) (fun H4 e4 => ⟨none, rfl, m0.ex e4, .of e4⟩) (fun _ _ _ _ _ _ => True.intro) ?_ ?_
  · rintro H4 k k' x4 σ' H' H5 e4 hk ⟨a4, rfl, m, tx⟩ e5 hx4
    refine tgn ?_
    obtain ⟨kl, ek⟩ := List.getElem?_eq_some_iff.mp hk
    rw [List.getElem_range] at ek
    rw [List.length_range] at kl
    subst ek
    refine v_app (K := K) (d := .nat k) (m.ex e5) (by rfl) (g_var (by rfl) hx4) (by rw [List.length_map, List.length_range]; omega) fun H6 m6 _ tx6 => ⟨some x4, rfl, ?_, tx.trans ((Tx.of e5).trans tx6)⟩
    rw [List.range_succ, List.map_append]
    exact m6
  rintro H3 σ' H' e3 ⟨a4, rfl, m, tx⟩
  rw [List.length_range] at m
  have eb : Ex H H' := m.2.1
  have hy' : Hold K H' y (.d (dP (pairsN s t))) := Tp.tx tx hy
  have hm' : Hold K H' (.ref p) (sN (marksN s.length ((pairsN s t).take 0))) := m.hold
  -- the pairs are joined
  refine u_forS (K := K) (S := Ex) (l := pairsN s t) (g := dP2) (fun H5 k σ' H' => Ex H5 H' ∧ ∃ a2 a5 a6 a7 a8, σ' = [some v, some w, some a2, some y, a4, a5, a6, a7, a8, none, none] ∧ Hold K H' a2 (sN (marksN s.length ((pairsN s t).take k))))
    ((i_tup (ds := (pairsN s t).map dP2) (g_var rfl hy')).weak fun _ _ e => Tx.of e) (fun H5 e5 => ⟨Ex.refl _, .ref p, none, none, none, none, rfl, hm'.mono e5⟩) (fun _ _ _ _ _ p => p.1) ?_ ?_
  · rintro H5 k pr x σ' H6 H7 e5 hk ⟨e6, a2, a5, a6, a7, a8, rfl, hm⟩ e7 hx
    have hmem := List.mem_of_getElem? hk
    obtain ⟨q1, q2⟩ := hps pr hmem
    have ok := marks_ok (n := s.length) (ps := (pairsN s t).take k) fun r hr => hps r (List.mem_of_mem_take hr)
    have lm := ok.len
    refine tg2 hx fun v5 v6 k5 k6 => ?_
    change tSeq _ _ _ [some v, some w, some a2, some y, a4, some v5, some v6, a7, a8, none, none] H7
    have hm7 := hm.mono e7
    refine u_asg (K := K) (sh := .d (.nat (min (gN (marksN s.length ((pairsN s t).take k)) pr.1) (gN (marksN s.length ((pairsN s t).take k)) pr.2)))) (by k_places) fun v7 H8 e8 hv7 => ?_
    change tSeq _ _ _ [some v, some w, some a2, some y, a4, some v5, some v6, some v7, a8, none, none] H8
    refine u_asg (K := K) (sh := .d (.nat (max (gN (marksN s.length ((pairsN s t).take k)) pr.1) (gN (marksN s.length ((pairsN s t).take k)) pr.2)))) (by k_places) fun v8 H9 e9 hv8 => ?_
    change tAsg _ _ _ [some v, some w, some a2, some y, a4, some v5, some v6, some v7, some v8, none, none] H9
    refine v_asgN (K := K) (n_join (m := marksN s.length ((pairsN s t).take k)) (p := pr) (by k_places) (by omega) [9] (fun x => rfl) (fun d x H1 e1 hx => by k_places) (fun x H1 e1 => by k_places) (fun x H1 e1 => by k_places)) fun p' xs' H10 np' e10 hp' ht' => ⟨by none_booked, .ref p', some v5, some v6, some v7, some v8, rfl, ?_⟩
    rw [marks_take hk]
    exact Hold.lst hp' ht'
  · rintro H5 σ' H6 e5 ⟨e6, a2, a5, a6, a7, a8, rfl, hm⟩
    rw [List.take_length] at hm
    have ok := marks_ok hps
    have lm := ok.len
    refine u_asgN (K := K) (n_lst (ds := []) as_nil) fun c xs7 H7 nc e7 hc htc => ?_
    change tSeq _ _ _ [some v, some w, some a2, some y, a4, a5, a6, a7, a8, none, some (.ref c)] H7
    have mc : Ml K H6 H7 c [] := Ml.new nc e7 hc htc
    refine u_forS (K := K) (S := fun _ _ => True) (l := List.range s.length) (g := Dt.nat) (fun _ k σ' H' => ∃ a9, σ' = [some v, some w, some a2, some y, a4, a5, a6, a7, a8, a9, some (.ref c)] ∧ Ml K H6 H' c (((List.range k).filter fun d => decide (d ∈ marksN s.length (pairsN s t))).map fun d => dN (membersN s.length (marksN s.length (pairsN s t)) d)))
      (i_rng1 (by k_places) (by omega)) (fun H8 e8 => ⟨none, rfl, mc.ex e8⟩) (fun _ _ _ _ _ _ => True.intro) ?_ ?_
    · rintro H8 k k' x9 σ' H' H9 e8 hk ⟨a9, rfl, m9⟩ e9 hx9
      refine tgn ?_
      change tIfS _ _ _ _ [some v, some w, some a2, some y, a4, a5, a6, a7, a8, some x9, some (.ref c)] H9
      obtain ⟨kl, ek⟩ := List.getElem?_eq_some_iff.mp hk
      rw [List.getElem_range] at ek
      rw [List.length_range] at kl
      subst ek
      have mm := m9.ex e9
      have eb9 : Ex H6 H9 := mm.2.1
      have ebb : Ex H H9 := by none_booked
      have hma : Hold K H9 a2 (sN (marksN s.length (pairsN s t))) := hm.mono eb9
      refine s_when (b := decide (k ∈ marksN s.length (pairsN s t))) (t_val (K := K) (g_inLN (ns := marksN s.length (pairsN s t)) (by k_places) (g_var rfl hma))) (fun yes H10 e10 => ?_) (fun no H10 e10 => ⟨some x9, rfl, ?_⟩)
      · refine v_app (K := K) (d := dN (membersN s.length (marksN s.length (pairsN s t)) k)) (mm.ex e10) (by rfl) (g_tupOf (ds := (membersN s.length (marksN s.length (pairsN s t)) k).map Dt.nat) (EvN.g (n_members (by k_places) z6 lm [4] (fun x => rfl) (fun d x H1 e1 hx => by k_places) (fun x H1 e1 => by k_places) (fun x H1 e1 => by k_places)))) ?_ fun H11 m11 _ _ => ⟨some x9, rfl, ?_⟩
        · rw [List.length_map]
          have := List.length_filter_le (fun d => decide (d ∈ marksN s.length (pairsN s t))) (List.range k)
          rw [List.length_range] at this
          omega
        · rw [filter_snoc, if_pos yes, List.map_append]
          exact m11
      · rw [filter_snoc, if_neg (by rw [no]; exact Bool.false_ne_true), List.append_nil]
        exact mm.ex e10
    · rintro H8 σ' H9 e8 ⟨a9, rfl, m9⟩
      rw [List.length_range] at m9
      have eb9 : Ex H6 H9 := m9.2.1
      have e : ((List.range s.length).filter fun d => decide (d ∈ marksN s.length (pairsN s t))).map (fun d => dN (membersN s.length (marksN s.length (pairsN s t)) d)) = (clumpsN s t).map dN := by
        unfold clumpsN classesN
        rw [List.map_map]
        rfl
      rw [e] at m9
      exact v_ret (K := K) (sh := .d (dC (clumpsN s t))) (g_tupOf (ds := (clumpsN s t).map dN) (g_var rfl m9.hold)) fun v' H10 e10 hv' => q v' H10 (by none_booked) hv'
theorem nss_eq (cs : List (List Nat)) : cs.map dN = (cs.map fun c => c.map fun n : Nat => (n : Int)).map fun ns => Dt.tup (ns.map Dt.int) := by
  rw [List.map_map]
  apply List.map_congr_left
  intro c _
  show Dt.tup (c.map Dt.nat) = Dt.tup _
  rw [map_natint]
theorem pure_law_classes (h : sp_law_classes K vs H Q E) : t_law_classes K { nx := fun _ H' => Q .non H', rt := Q } (start N_law_classes vs) H := by
  obtain ⟨⟨n, ps⟩, ⟨n6, hps, hlen⟩, hv, q⟩ := h
  dsimp only at n6 hps hlen hv q
  obtain ⟨v, w, rfl, h1, h2⟩ := h2_of hv
  change t_law_classes K _ [some v, some w, none, none, none, none, none, none, none, none, none] H
  have h1 : Hold K H v (.d (.nat n)) := h1
  have h2 : Hold K H w (.s (ps.map dP2)) := h2
  unfold t_law_classes
  refine u_asg (K := K) (sh := sN (marksN n (ps.take 0))) (EvN.g (n_listRg (a := n) (by k_places) (by omega))) fun a2 H1 e1 hm1 => ?_
  change tSeq _ _ _ [some v, some w, some a2, none, none, none, none, none, none, none, none] H1
  refine u_forS (K := K) (S := Ex) (l := ps) (g := dP2) (fun H5 k σ' H' => Ex H5 H' ∧ ∃ a2 a3 a4 a5 a6, σ' = [some v, some w, some a2, a3, a4, a5, a6, none, none, none, none] ∧ Hold K H' a2 (sN (marksN n (ps.take k))))
    (i_lst (ds := ps.map dP2) (g_var rfl (h2.mono e1))) (fun H5 e5 => ⟨Ex.refl _, a2, none, none, none, none, rfl, hm1.mono e5⟩) (fun _ _ _ _ _ p => p.1) ?_ ?_
  · rintro H5 k pr x σ' H6 H7 e5 hk ⟨e6, a2, a3, a4, a5, a6, rfl, hm⟩ e7 hx
    have hmem := List.mem_of_getElem? hk
    obtain ⟨q1, q2⟩ := hps pr hmem
    have ok := marks_ok (n := n) (ps := ps.take k) fun r hr => hps r (List.mem_of_mem_take hr)
    have lm := ok.len
    refine tg2 hx fun v3 v4 k3 k4 => ?_
    change tSeq _ _ _ [some v, some w, some a2, some v3, some v4, a5, a6, none, none, none, none] H7
    have hm7 := hm.mono e7
    refine u_asg (K := K) (sh := .d (.nat (min (gN (marksN n (ps.take k)) pr.1) (gN (marksN n (ps.take k)) pr.2)))) (by k_places) fun v5 H8 e8 hv5 => ?_
    change tSeq _ _ _ [some v, some w, some a2, some v3, some v4, some v5, a6, none, none, none, none] H8
    refine u_asg (K := K) (sh := .d (.nat (max (gN (marksN n (ps.take k)) pr.1) (gN (marksN n (ps.take k)) pr.2)))) (by k_places) fun v6 H9 e9 hv6 => ?_
    change tAsg _ _ _ [some v, some w, some a2, some v3, some v4, some v5, some v6, none, none, none, none] H9
    refine v_asgN (K := K) (n_join (m := marksN n (ps.take k)) (p := pr) (by k_places) (by omega) [7] (fun x => rfl) (fun d x H1 e1 hx => by k_places) (fun x H1 e1 => by k_places) (fun x H1 e1 => by k_places)) fun p' xs' H10 np' e10 hp' ht' => ⟨by none_booked, .ref p', some v3, some v4, some v5, some v6, rfl, ?_⟩
    rw [marks_take hk]
    exact Hold.lst hp' ht'
  · rintro H5 σ' H6 e5 ⟨e6, a2, a3, a4, a5, a6, rfl, hm⟩
    rw [List.take_length] at hm
    have ok := marks_ok hps
    have lm := ok.len
    refine u_asgN (K := K) (n_lst (ds := []) as_nil) fun c xs7 H7 nc e7 hc htc => ?_
    change tSeq _ _ _ [some v, some w, some a2, a3, a4, a5, a6, none, some (.ref c), none, none] H7
    have mc : Ml K H6 H7 c [] := Ml.new nc e7 hc htc
    refine u_forS (K := K) (S := fun _ _ => True) (l := List.range n) (g := Dt.nat) (fun _ k σ' H' => ∃ a7 a9, σ' = [some v, some w, some a2, a3, a4, a5, a6, a7, some (.ref c), a9, none] ∧ Ml K H6 H' c (((List.range k).filter fun d => decide (0 < (membersN n (marksN n ps) d).length)).map fun d => dN (membersN n (marksN n ps) d)))
      (i_rng1 (by k_places) (by omega)) (fun H8 e8 => ⟨none, none, rfl, mc.ex e8⟩) (fun _ _ _ _ _ _ => True.intro) ?_ ?_
    · rintro H8 k k' x7 σ' H' H9 e8 hk ⟨a7, a9, rfl, m9⟩ e9 hx7
      refine tgn ?_
      change tSeq _ _ _ [some v, some w, some a2, a3, a4, a5, a6, some x7, some (.ref c), a9, none] H9
      obtain ⟨kl, ek⟩ := List.getElem?_eq_some_iff.mp hk
      rw [List.getElem_range] at ek
      rw [List.length_range] at kl
      subst ek
      have mm := m9.ex e9
      have eb9 : Ex H6 H9 := mm.2.1
      have ebb : Ex H H9 := by none_booked
      have hma : Hold K H9 a2 (sN (marksN n ps)) := hm.mono eb9
      refine u_asg (K := K) (sh := .d (dN (membersN n (marksN n ps) k))) (g_tupOf (ds := (membersN n (marksN n ps) k).map Dt.nat) (EvN.g (n_members (by k_places) n6 lm [10] (fun x => rfl) (fun d x H1 e1 hx => by k_places) (fun x H1 e1 => by k_places) (fun x H1 e1 => by k_places)))) fun x9 H10 e10 hx9 => ?_
      change tIfS _ _ _ _ [some v, some w, some a2, a3, a4, a5, a6, some x7, some (.ref c), some x9, none] H10
      refine s_when (b := decide (0 < (membersN n (marksN n ps) k).length)) (t_val (K := K) (by k_places)) (fun yes H11 e11 => ?_) (fun no H11 e11 => ⟨some x7, some x9, rfl, ?_⟩)
      · refine v_app (K := K) (d := dN (membersN n (marksN n ps) k)) (mm.ex (e10.trans e11)) (by rfl) (by k_places) ?_ fun H12 m12 _ _ => ⟨some x7, some x9, rfl, ?_⟩
        · rw [List.length_map]
          have := List.length_filter_le (fun d => decide (0 < (membersN n (marksN n ps) d).length)) (List.range k)
          rw [List.length_range] at this
          omega
        · rw [filter_snoc, if_pos yes, List.map_append]
          exact m12
      · rw [filter_snoc, if_neg (by rw [no]; exact Bool.false_ne_true), List.append_nil]
        exact mm.ex (e10.trans e11)
    · rintro H8 σ' H9 e8 ⟨a7, a9, rfl, m9⟩
      rw [List.length_range, classes_filter ok] at m9
      have eb9 : Ex H6 H9 := m9.2.1
      have e : ((List.range n).filter fun d => decide (d ∈ marksN n ps)).map (fun d => dN (membersN n (marksN n ps) d)) = (classesN n ps).map dN := by
        unfold classesN
        rw [List.map_map]
        rfl
      rw [e, nss_eq] at m9
      have hs := n_sorted (K := K) (σ := [some v, some w, some a2, a3, a4, a5, a6, a7, some (.ref c), a9, none]) (H := H9) (ta := tVar 8) (nss := (classesN n ps).map fun c => c.map fun n : Nat => (n : Int)) (g_var rfl m9.hold) (by
        rw [List.pairwise_map]
        refine (classes_asc hps).imp fun {a b} ⟨x, y, hx, hy, hxy⟩ => ⟨(x : Int), (y : Int), ?_, ?_, by omega⟩
        · rw [List.head?_map, hx]
          rfl
        · rw [List.head?_map, hy]
          rfl) (by
        intro ns hns
        obtain ⟨c, hc, rfl⟩ := List.mem_map.mp hns
        intro e
        exact classes_ne hps c hc (List.map_eq_nil_iff.mp e))
      rw [← nss_eq] at hs
      exact v_ret (K := K) (sh := .d (dC (classesN n ps))) (g_tupOf (ds := (classesN n ps).map dN) hs.g) fun v' H10 e10 hv' => q v' H10 (by none_booked) hv'
end
section
variable {K : PySem.W.Frag} {vs : List V} {H : Hp} {Q : VK} {E : XK}
theorem g_modI {σ : L2.St} {ta tb : TE} {i : Int} {m : Nat} (ha : EvG K ta σ H (.d (.int i))) (hb : EvG K tb σ H (.d (.nat m))) (hm : 0 < m) : EvG K (xMod (xIntOf ta) tb) σ H (.d (.nat (i % m).toNat)) :=
  (g_mod (g_intOf ha) hb (by omega)).isI (by
    have := Int.emod_nonneg i (b := (m : Int)) (by omega)
    omega)
theorem g_bitI {σ : L2.St} {ta tb : TE} {i : Int} (ha : EvG K ta σ H (.d (.int i))) (hb : EvG K tb σ H (.d (.nat 2))) : EvG K (xMod (xIntOf ta) tb) σ H (.d (bitD (decide (i % 2 = 1)))) :=
  (g_mod (g_intOf ha) hb (by decide)).isI (by
    show i % 2 = _
    by_cases e : i % 2 = 1
    · rw [e]
      rfl
    · rw [decide_eq_false e]
      show i % 2 = 0
      omega)
theorem g_notBit {σ : L2.St} {ta tb : TE} {b : Bool} (ha : EvG K ta σ H (.d (.nat 1))) (hb : EvG K tb σ H (.d (bitD b))) : EvG K (xSub ta tb) σ H (.d (bitD (!b))) :=
  (g_sub ha hb).isI (by cases b <;> rfl)
theorem u_cut {D : Ends} {ts tz : TS} {σ : L2.St} (P : L2.St → Hp → Prop) (k : ∀ σ' H', P σ' H' → tz D σ' H') (h : (∀ σ' H', P σ' H' → tz D σ' H') → ts { D with nx := tz D } σ H) : tSeq ts tz D σ H := h k
theorem pure_law_steps (h : sp_law_steps K vs H Q E) : t_law_steps K { nx := fun _ H' => Q .non H', rt := Q } (start N_law_steps vs) H := by
  obtain ⟨s, z, hv, q⟩ := h
  dsimp only at hv q
  obtain ⟨v, rfl, h1⟩ := h1_of hv
  change t_law_steps K _ [some v, none, none, none] H
  unfold t_law_steps
  have h1 : Hold K H v (.d (dN s)) := h1
  have z1 := z.one
  have z6 := z.few
  have hl : EvN K (xRep (xLst (tCons (xNat 1) tNil)) (xLen K (tVar 0))) [some v, none, none, none] H ((partS s (s.length - 1)).map Dt.nat) := by
    refine (n_rep (d := Dt.nat 1) (n_lst (ds := [Dt.nat 1]) (as_cons g_nat as_nil) (by show 1 ≤ 100000; decide)) (a := s.length) (by k_places) (by omega)).is ?_
    rw [partS_last z1, List.map_replicate]
  refine u_asgN hl fun p xs H1 np e1 hp ht => ?_
  have m0 : Ml K H H1 p ((partS s (s.length - 1)).map Dt.nat) := Ml.new np e1 hp ht
  change tSeq _ _ _ [some v, some (.ref p), none, none] H1
  refine u_forS (K := K) (S := fun _ _ => True) (l := List.range (s.length - 1)) (g := fun k => Dt.nat (1 + k)) (fun _ k σ' H' => ∃ y3 y, σ' = [some v, some (.ref p), y3, y] ∧ Ml K H H' p ((partS s (s.length - 1 - k)).map Dt.nat)) (i_rng2 (by k_places) (by k_places) ⟨by omega, by omega⟩) (fun H2 e2 => ⟨none, none, rfl, m0.ex e2⟩) (fun _ _ _ _ _ _ => True.intro) ?_ ?_
  · rintro H2 k a x σ' H' H3 e2 ha ⟨y3, y, rfl, m⟩ e3 hx
    refine tgn ?_
    obtain ⟨hk, ea⟩ := List.getElem?_eq_some_iff.mp ha
    rw [List.getElem_range] at ea
    rw [List.length_range] at hk
    subst ea
    change tSeq _ _ _ [some v, some (.ref p), some x, y] H3
    have mm := m.ex e3
    have hs : Hold K H3 v (.d (dN s)) := h1.mono mm.2.1
    refine u_asg (K := K) (sh := .d (.nat (s.length - 2 - k))) ((g_subN (g_subN (g_lenN (by k_places)) g_nat (by omega)) (g_var rfl hx) (by omega)).is (by
      show Sh.d (Dt.nat (s.length - 1 - (1 + k))) = _
      rw [show s.length - 1 - (1 + k) = s.length - 2 - k by omega])) fun x3 H4 e4 hx3 => ?_
    change sSet _ _ _ _ [some v, some (.ref p), some x, some x3] H4
    replace mm := mm.ex e4
    have hm := mm.hold
    have e5 : s.length - 1 - k = (s.length - 2 - k) + 1 := by omega
    rw [e5] at mm hm
    have hm' : Hold K H4 (.ref p) (sN (partS s (s.length - 2 - k + 1))) := hm
    have hpl := partS_len (s := s) (m := s.length - 2 - k + 1) (by omega)
    have h64 := z.sp64 (h := s.length - 2 - k + 1) (by omega)
    refine v_set mm (by rfl) (d := Dt.nat (sp s (s.length - 2 - k + 1) * gN s (s.length - 2 - k + 1))) (a := s.length - 2 - k) ?_ (by k_places) (by rw [List.length_map]; omega) fun H5 m5 _ _ => ⟨some x, some x3, rfl, ?_⟩
    · have ev : EvG K (xIxL K (tVar 1) (xAdd (tVar 3) (xNat 1))) [some v, some (.ref p), some x, some x3] H4 (.d (.nat (sp s (s.length - 2 - k + 1)))) := by
        rw [← partS_get (s := s) (m := s.length - 2 - k + 1) (by omega)]
        k_places
      exact g_mulN ev (by k_places) (by omega)
    · have e6 : (partS s (s.length - 1 - (k + 1))).map Dt.nat = ((partS s (s.length - 2 - k + 1)).map Dt.nat).set (s.length - 2 - k) (Dt.nat (sp s (s.length - 2 - k + 1) * gN s (s.length - 2 - k + 1))) := by
        rw [← List.map_set, partS_set (by omega)]
        congr 2
        omega
      rw [e6]
      exact m5
  · rintro H2 σ' H' e2 ⟨y3, y, rfl, m⟩
    rw [List.length_range, Nat.sub_self, partS_zero] at m
    exact v_ret (K := K) (sh := sN (spansN s)) (g_var rfl m.hold) fun v' H5 e5 hv' => q v' H5 (m.2.1.trans e5) hv'
theorem step_take {rows : List (List Nat)} {r c : Nat} {x : List Nat} (h : rows[r]? = some x) : rowStep (rows.take (r + 1)) c = rowStep (rows.take r) c ++ (List.range c).map fun a => x ++ [a] := by
  rw [List.take_add_one, h]
  unfold rowStep
  rw [List.flatMap_append]
  simp
theorem step_len {rows : List (List Nat)} {r c : Nat} : (rowStep (rows.take r) c).length ≤ rows.length * c := by
  have h := flat_len (fun x : List Nat => (List.range c).map fun a => x ++ [a]) c (rows.take r) fun x _ => by rw [List.length_map, List.length_range]; exact Nat.le_refl _
  refine Nat.le_trans h (Nat.mul_le_mul_right c ?_)
  rw [List.length_take]
  exact Nat.min_le_right _ _
theorem pure_law_settings (h : sp_law_settings K vs H Q E) : t_law_settings K { nx := fun _ H' => Q .non H', rt := Q } (start N_law_settings vs) H := by
  obtain ⟨s, z, hv, q⟩ := h
  dsimp only at hv q
  obtain ⟨v, rfl, h1⟩ := h1_of hv
  change t_law_settings K _ [some v, none, none, none, none, none] H
  have h1 : Hold K H v (.d (dN s)) := h1
  unfold t_law_settings
  have z6 := z.few
  refine u_asgN (K := K) (n_lst (ds := [dN []]) (as_cons (g_tup (ds := []) as_nil (by show 0 ≤ 100000; decide)) as_nil) (by show 1 ≤ 100000; decide)) fun p xs H1 np e1 hp htp => ?_
  change tSeq _ _ _ [some v, some (.ref p), none, none, none, none] H1
  have hr0 : Hold K H1 (.ref p) (.s (((s.take 0).foldl rowStep [[]]).map dN)) := Hold.lst hp htp
  refine u_forS (K := K) (S := Ex) (l := s) (g := Dt.nat) (fun H5 k σ' H' => Ex H5 H' ∧ ∃ a1 a2 a3 a4 a5, σ' = [some v, some a1, a2, a3, a4, a5] ∧ Hold K H' a1 (.s (((s.take k).foldl rowStep [[]]).map dN)))
    (i_tupN (by k_places)) (fun H5 e5 => ⟨Ex.refl _, .ref p, none, none, none, none, rfl, hr0.mono e5⟩) (fun _ _ _ _ _ p => p.1) ?_ ?_
  · rintro H5 k c x2 σ' H6 H7 e5 hk ⟨e6, a1, a2, a3, a4, a5, rfl, hr⟩ e7 hx2
    refine tgn ?_
    change tSeq _ _ _ [some v, some a1, some x2, a3, a4, a5] H7
    obtain ⟨kl, ek⟩ := List.getElem?_eq_some_iff.mp hk
    have rok := rows_take z.pos k (by omega)
    have hc : gN s k = c := gN_get hk
    have c64 := z.le kl
    have t64 := z.take64 k
    have efold : (s.take (k + 1)).foldl rowStep [[]] = rowStep ((s.take k).foldl rowStep [[]]) c := by
      rw [take_snoc kl, List.foldl_append, hc]
      rfl
    have hr7 := hr.mono e7
    rw [efold]
    generalize (s.take k).foldl rowStep [[]] = rows at hr7 rok
    have rl := rok.len
    refine u_asgN (K := K) (n_lst (ds := []) as_nil) fun m ys H8 nm e8 hm htm => ?_
    change tSeq _ _ _ [some v, some a1, some x2, some (.ref m), a4, a5] H8
    have m0 : Ml K H7 H8 m [] := Ml.new nm e8 hm htm
    refine u_forS (K := K) (S := fun _ H3 => Ex H7 H3) (l := rows) (g := dN) (fun _ r σ' H' => ∃ a4 a5, σ' = [some v, some a1, some x2, some (.ref m), a4, a5] ∧ Ml K H7 H' m ((rowStep (rows.take r) c).map dN))
      (i_lstV (by rfl) hr7 e8) (fun H9 e9 => ⟨a4, a5, rfl, m0.ex e9⟩) (fun _ _ _ _ _ ⟨_, _, _, m⟩ => m.2.1) ?_ ?_
    · rintro H9 r x x4 σ' H10 H11 e9 hr ⟨a4, a5, rfl, m9⟩ e11 hx4
      refine tgn ?_
      change tFor _ _ _ _ [some v, some a1, some x2, some (.ref m), some x4, a5] H11
      have vx := (rok.at_ r x hr).1.1
      rw [List.length_take] at vx
      have sl := step_len (rows := rows) (r := r) (c := c)
      have sl2 : rows.length * c ≤ 64 * 64 := Nat.mul_le_mul (by omega) (by omega)
      have hx2' : Hold K H11 x2 (.d (.nat c)) := hx2.mono (m9.2.1.trans e11)
      refine v_forS (K := K) (S := fun _ _ => True) (l := List.range c) (g := Dt.nat) (fun H12 j σ' H' => ∃ a5, σ' = [some v, some a1, some x2, some (.ref m), some x4, a5] ∧ Ml K H7 H' m ((rowStep (rows.take r) c ++ (List.range j).map fun a => x ++ [a]).map dN) ∧ Tx K H11 H')
        (i_rng1 (by k_places) (by omega)) (fun H12 e12 => ⟨a5, rfl, ?_, .of e12⟩) (fun _ _ _ _ _ _ => True.intro) ?_ ?_
      · have e : rowStep (rows.take r) c ++ (List.range 0).map (fun a => x ++ [a]) = rowStep (rows.take r) c := List.append_nil _
        rw [e]
        exact (m9.ex e11).ex e12
      · rintro H12 j j' x5 σ' H13 H14 e12 hj ⟨a5, rfl, m13, tx⟩ e14 hx5
        refine tgn ?_
        change sApp _ _ _ _ [some v, some a1, some x2, some (.ref m), some x4, some x5] H14
        obtain ⟨jl, ej⟩ := List.getElem?_eq_some_iff.mp hj
        rw [List.getElem_range] at ej
        rw [List.length_range] at jl
        subst ej
        have tx' := tx.trans (.of e14)
        have hx4' : Hold K H14 x4 (.d (.tup (x.map Dt.nat))) := Tp.tx tx' hx4
        have hx5' : Hold K H14 x5 (.d (.nat j)) := hx5
        refine v_app (K := K) (d := dN (x ++ [j])) (m13.ex e14) (by rfl) ((g_catT (g_var rfl hx4') (g_tup (ds := [Dt.nat j]) (as_cons (g_var rfl hx5') as_nil) (by show 1 ≤ 100000; decide)) (by simp; omega)).is ?_) ?_ fun H15 m15 _ tx15 => ⟨some x5, rfl, ?_, tx'.trans tx15⟩
        · unfold dN
          rw [List.map_append]
          rfl
        · rw [List.length_map, List.length_append, List.length_map, List.length_range]
          omega
        · have e : rowStep (rows.take r) c ++ (List.range (j + 1)).map (fun a => x ++ [a]) = (rowStep (rows.take r) c ++ (List.range j).map fun a => x ++ [a]) ++ [x ++ [j]] := by
            rw [List.range_succ, List.map_append, List.append_assoc]
            rfl
          rw [e, List.map_append]
          exact m15
      · rintro H12 σ' H13 e12 ⟨a5, rfl, m13, tx⟩
        rw [List.length_range, ← step_take hr] at m13
        exact ⟨some x4, a5, rfl, m13⟩
    · rintro H9 σ' H10 e9 ⟨a4, a5, rfl, m9⟩
      rw [List.take_length] at m9
      have eb := m9.2.1
      refine v_asgN (K := K) (n_listOf (g_var rfl m9.hold)) fun p' xs' H11 np' e11 hp' ht' => ⟨e6.trans (e7.trans (eb.trans e11)), .ref p', some x2, some (.ref m), a4, a5, rfl, Hold.lst hp' ht'⟩
  · rintro H5 σ' H6 e5 ⟨e6, a1, a2, a3, a4, a5, rfl, hr⟩
    rw [List.take_length] at hr
    exact v_ret (K := K) (g_var rfl hr) fun v' H7 e7 hv' => q v' H7 (e1.trans (e5.trans (e6.trans e7))) hv'
theorem sum_cast (f : Nat → Nat) : ∀ l : List Nat, (l.map fun h => (f h : Int)).sum = ((l.map f).sum : Nat)
  | [] => rfl
  | a :: l => by
    rw [List.map_cons, List.map_cons, List.sum_cons, List.sum_cons, sum_cast f l]
    omega
theorem n_onG {σ : L2.St} {s l x : List Nat} {wi : TI} {m : Nat} {te : TE} {ws : List Nat} (hi : EvI K Ex wi σ H (l.map Dt.nat)) (hz : l.length ≤ 6) (hw : ∀ x, wipe ((wipe σ ws).set m (some x)) ws = wipe σ ws)
    (he : ∀ h ∈ l, ∀ y H1, Ex H H1 → Hold K H1 y (.d (.nat h)) → EvG K te ((wipe σ ws).set m (some y)) H1 (.d (.nat (gN x h * sp s h)))) : EvG K (xSum K (tLc wi (gName m) tYes te ws)) σ H (.d (.nat (onN (spansN s) l x))) := by
  have y := n_lc (l := l) (g := Dt.nat) (fun h => Dt.nat (gN x h * sp s h)) hi (by omega) hw he
  have e : (l.map fun h => Dt.nat (gN x h * sp s h)) = (l.map fun h => ((gN x h * sp s h : Nat) : Int)).map Dt.int := by
    rw [List.map_map]
    rfl
  rw [e] at y
  exact (g_sum y.g).isI (sum_cast _ l)
theorem pure_law_on_L (h : sp_law_on_L K vs H Q E) : t_law_on_L K { nx := fun _ H' => Q .non H', rt := Q } (start N_law_on vs) H := by
  obtain ⟨⟨s, l, x⟩, ⟨z, vx, hl, l6⟩, hv, q⟩ := h
  dsimp only at z vx hl l6 hv q
  obtain ⟨v, w, u, y, rfl, h1, h2, h3, h4⟩ := h4_of hv
  change t_law_on_L K _ [some v, some w, some u, some y, none] H
  unfold t_law_on_L
  have lx := vx.1
  refine v_ret (K := K) (n_onG (l := l) (s := s) (x := x) (i_lstN (by k_places)) l6 (fun _ => rfl) fun h hh y' H1 e1 hy => ?_) q
  have hs := hl h hh
  have g1 := vx.2 h hs
  have g2 := z.le hs
  exact g_mulN (by k_places) (by k_places) (by omega)
theorem pure_law_on_T (h : sp_law_on_T K vs H Q E) : t_law_on_T K { nx := fun _ H' => Q .non H', rt := Q } (start N_law_on vs) H := by
  obtain ⟨⟨s, l, x⟩, ⟨z, vx, hl, l6⟩, hv, q⟩ := h
  dsimp only at z vx hl l6 hv q
  obtain ⟨v, w, u, y, rfl, h1, h2, h3, h4⟩ := h4_of hv
  change t_law_on_T K _ [some v, some w, some u, some y, none] H
  unfold t_law_on_T
  have lx := vx.1
  refine v_ret (K := K) (n_onG (l := l) (s := s) (x := x) (i_tupN (by k_places)) l6 (fun _ => rfl) fun h hh y' H1 e1 hy => ?_) q
  have hs := hl h hh
  have g1 := vx.2 h hs
  have g2 := z.le hs
  exact g_mulN (by k_places) (by k_places) (by omega)
theorem pure_law_odd_sum (h : sp_law_odd_sum K vs H Q E) : t_law_odd_sum K { nx := fun _ H' => Q .non H', rt := Q } (start N_law_odd_sum vs) H := by
  obtain ⟨⟨t, p, a, b⟩, ok, hv, q⟩ := h
  dsimp only at ok hv q
  obtain ⟨v, w, u, y, rfl, h1, h2, h3, h4⟩ := h4_of hv
  change t_law_odd_sum K _ [some v, some w, some u, some y] H
  unfold t_law_odd_sum
  have i1 : EvG K (xIxT K (tVar 0) (tVar 1)) [some v, some w, some u, some y] H (.d (bitD (tget t p))) := g_ixTB (by k_places) (by k_places) (by omega)
  have i2 : EvG K (xIxT K (tVar 0) (xAdd (tVar 1) (tVar 2))) [some v, some w, some u, some y] H (.d (bitD (tget t (p + a)))) := g_ixTB (by k_places) (by k_places) (by omega)
  have i3 : EvG K (xIxT K (tVar 0) (xAdd (tVar 1) (tVar 3))) [some v, some w, some u, some y] H (.d (bitD (tget t (p + b)))) := g_ixTB (by k_places) (by k_places) (by omega)
  have i4 : EvG K (xIxT K (tVar 0) (xAdd (xAdd (tVar 1) (tVar 2)) (tVar 3))) [some v, some w, some u, some y] H (.d (bitD (tget t (p + a + b)))) := g_ixTB (by k_places) (by k_places) (by omega)
  exact v_ret (K := K) ((g_eqN (g_modN (g_addN (g_addN (g_addN i1 i2) i3) i4) g_nat (by decide)) g_nat).isB (parity _ _ _ _)) q
theorem lots_succ (k : Nat) : lotsN (k + 1) = lotsStep (lotsN k) k := by
  unfold lotsN
  rw [List.range_succ, List.foldl_append]
  rfl
theorem pure_law_lots (h : sp_law_lots K vs H Q E) : t_law_lots K { nx := fun _ H' => Q .non H', rt := Q } (start N_law_lots vs) H := by
  obtain ⟨n, n6, hv, q⟩ := h
  dsimp only at n6 hv q
  obtain ⟨v, rfl, h1⟩ := h1_of hv
  change t_law_lots K _ [some v, none, none, none] H
  unfold t_law_lots
  refine u_asgN (K := K) (n_lst (ds := [dN []]) (as_cons (g_tup (ds := []) as_nil (by show 0 ≤ 100000; decide)) as_nil) (by show 1 ≤ 100000; decide)) fun p xs H1 np e1 hp htp => ?_
  change tSeq _ _ _ [some v, some (.ref p), none, none] H1
  refine u_forS (K := K) (S := Ex) (l := List.range n) (g := Dt.nat) (fun H5 k σ' H' => Ex H5 H' ∧ ∃ p a2 xs, σ' = [some v, some (.ref p), a2, none] ∧ H' p = some (.lst xs) ∧ Tps K H' xs ((lotsN k).map dN))
    (i_rng1 (by k_places) (by omega)) (fun H5 e5 => ⟨Ex.refl _, p, none, xs, rfl, e5 _ _ hp, htp.mono e5⟩) (fun _ _ _ _ _ p => p.1) ?_ ?_
  · rintro H5 k k' x2 σ' H6 H7 e5 hk ⟨e6, p, a2, xs, rfl, hp, htp⟩ e7 hx2
    refine tgn ?_
    change tAsg _ _ _ [some v, some (.ref p), some x2, none] H7
    obtain ⟨kl, ek⟩ := List.getElem?_eq_some_iff.mp hk
    rw [List.getElem_range] at ek
    rw [List.length_range] at kl
    subst ek
    have hp7 := e7 _ _ hp
    have ht7 := htp.mono e7
    have hh : Hold K H7 (.ref p) (.s ((lotsN k).map dN)) := Hold.lst hp7 ht7
    have ll : (lotsN k).length ≤ 2 ^ 6 := by
      rw [lots_len]
      exact Nat.pow_le_pow_right (by decide) (by omega)
    have hb : EvN K (tLc (xItL K (tVar 1)) (gName 3) tYes (xCatT K (tVar 3) (xTup (tCons (tVar 2) tNil))) [3]) [some v, some (.ref p), some x2, none] H7 (((lotsN k).map fun l => l ++ [k]).map dN) := by
      have y := n_lc (K := K) (σ := [some v, some (.ref p), some x2, none]) (te := xCatT K (tVar 3) (xTup (tCons (tVar 2) tNil))) (m := 3) (vs := [3]) (l := lotsN k) (g := dN) (fun l => dN (l ++ [k])) (i_lst (tl := tVar 1) (g_var rfl hh)) (by omega) (fun _ => rfl) fun l hl x' H8 e8 hx' => by
        have lk := (lots_ok k l hl).len
        have hx2' : Hold K H8 x2 (.d (.nat k)) := hx2.mono e8
        have hx'' : Hold K H8 x' (.d (.tup (l.map Dt.nat))) := hx'
        refine (g_catT (g_var rfl hx'') (g_tup (ds := [Dt.nat k]) (as_cons (g_var rfl hx2') as_nil) (by show 1 ≤ 100000; decide)) (by simp; omega)).is ?_
        unfold dN
        rw [List.map_append]
        rfl
      rw [List.map_map]
      exact y
    refine v_asgN (K := K) (n_catL (g_var rfl hh) hb (fun H8 e8 Q' q' => ⟨.ref p, rfl, q' p xs H8 (Ex.refl _) (e8 _ _ hp7) (ht7.mono e8)⟩) (by rw [List.length_map, List.length_map, List.length_map]; omega)) fun p' xs' H8 np' e8 hp' ht' => ⟨e6.trans (e7.trans e8), p', some x2, xs', rfl, hp', ?_⟩
    rw [lots_succ]
    unfold lotsStep
    rw [List.map_append]
    exact ht'
  · rintro H5 σ' H6 e5 ⟨e6, p, a2, xs, rfl, hp, htp⟩
    rw [List.length_range] at htp
    exact v_ret (K := K) (sh := .s ((lotsN n).map dN)) (g_var rfl (Hold.lst hp htp)) fun v' H7 e7 hv' => q v' H7 (e1.trans (e5.trans (e6.trans e7))) hv'
end
section
variable {K : PySem.W.Frag} {vs : List V} {H : Hp} {Q : VK} {E : XK}
theorem map_snocI (ns : List Int) (i : Int) : (ns ++ [i]).map Dt.int = ns.map Dt.int ++ [Dt.int i] := by rw [List.map_append]; rfl
theorem pure_law_row (h : sp_law_row K vs H Q E) : t_law_row K { nx := fun _ H' => Q .non H', rt := Q } (start N_law_row vs) H := by
  obtain ⟨a, ha, hv, q⟩ := h
  dsimp only at ha hv q
  obtain ⟨v, w, rfl, h1, h2⟩ := h2_of hv
  change t_law_row K _ [some v, some w, none, none, none, none, none, none] H
  have h1 : Hold K H v (.s (a.map Dt.int)) := h1
  have h2 : Hold K H w (.d (.nat 190)) := h2
  unfold t_law_row
  refine q_when (b := decide (a.length = 0)) (t_val (K := K) (g_eqN ((g_lenL (ds := a.map Dt.int) (by k_places)).is (by rw [List.length_map])) g_nat)) (fun e H1 e1 => ?_) fun e H1 e1 => ?_
  · have y := n_lc (K := K) (σ := [some v, some w, none, none, none, none, none, none]) (H := H1) (wi := xRng1 (tVar 1)) (te := xAdd (tVar 2) (xNat 1)) (m := 2) (vs := [2]) (l := List.range 190) (g := Dt.nat) (fun k => Dt.int ((k : Int) + 1)) (i_rng1 (by k_places) (by decide)) (by decide) (fun _ => rfl) fun k hk x H2 e2 hx => by
      have hx' : Hold K H2 x (.d (.int (k : Int))) := hx
      exact g_add (g_var rfl hx') g_nat
    have ey : ((List.range 190).map fun k : Nat => Dt.int ((k : Int) + 1)) = ((List.range 190).map fun k : Nat => (k : Int) + 1).map Dt.int := by
      rw [List.map_map]
      rfl
    rw [ey] at y
    refine v_ret (K := K) y.g fun v' H2 e2 hv' => q v' _ H2 ?_ (by none_booked) hv'
    exact ⟨by rw [List.length_map, List.length_range]; exact Nat.le_refl _, by rw [List.length_map, List.length_range]; decide⟩
  refine u_asgI (K := K) (i := 2477) g_nat fun H2 e2 => ?_
  change tSeq _ _ _ [some v, some w, none, some (.int 2477), none, none, none, none] H2
  refine u_asgN (K := K) (n_lst (ds := []) as_nil) fun p xs H3 np e3 hp htp => ?_
  change tSeq _ _ _ [some v, some w, none, some (.int 2477), some (.ref p), none, none, none] H3
  have m0 : Ml K H2 H3 p (([] : List Int).map Dt.int) := Ml.new np e3 hp htp
  have h12 : Hold K H2 v (.s (a.map Dt.int)) := h1.mono (by none_booked)
  refine u_forS (K := K) (S := fun _ H' => Ex H2 H') (l := a) (g := Dt.int) (fun _ k σ' H' => ∃ sd ns a2 a5 a6, 0 ≤ sd ∧ sd < 2147483629 ∧ ns.length ≤ 60 * k ∧ σ' = [some v, some w, a2, some (.int sd), some (.ref p), a5, a6, none] ∧ Ml K H2 H' p (ns.map Dt.int))
    (i_lstV (by rfl) h12 e3) (fun H4 e4 => ⟨2477, [], none, none, none, by omega, by omega, Nat.zero_le _, rfl, m0.ex e4⟩) (fun _ _ _ _ _ ⟨_, _, _, _, _, _, _, _, _, m⟩ => m.2.1) ?_ ?_
  · rintro H4 k c x5 σ' H5 H6 e4 hk ⟨sd, ns, a2, a5, a6, s0, s1, nl, rfl, m⟩ e6 hx5
    refine tgn ?_
    change tSeq _ _ _ [some v, some w, a2, some (.int sd), some (.ref p), some x5, a6, none] H6
    have m6 := m.ex e6
    have hx5 : Hold K H6 x5 (.d (.int c)) := hx5
    refine u_asgI (K := K) (i := (sd * 50021 + c) % 2147483629) (g_mod (g_intOf (g_add (g_mul (i := sd) (j := 50021) (g_var rfl hold_int) g_nat (.inl ⟨by omega, by omega⟩)) (g_var rfl hx5))) g_nat (by decide)) fun H7 e7 => ?_
    have s0' : 0 ≤ (sd * 50021 + c) % 2147483629 := by omega
    have s1' : (sd * 50021 + c) % 2147483629 < 2147483629 := by omega
    generalize (sd * 50021 + c) % 2147483629 = sd' at s0' s1'
    change tSeq _ _ _ [some v, some w, a2, some (.int sd'), some (.ref p), some x5, a6, none] H7
    have m7 := m6.ex e7
    have hx7 : Hold K H7 x5 (.d (.int c)) := hx5.mono e7
    refine u_asgI (K := K) (i := ((c.natAbs : Nat) : Int)) (g_abs (g_var rfl hx7)) fun H8 e8 => ?_
    change tIfS _ _ _ _ [some v, some w, a2, some (.int sd'), some (.ref p), some x5, some (.int ((c.natAbs : Nat) : Int)), none] H8
    have m8 := m7.ex e8
    generalize c.natAbs = B
    refine s_when (b := decide (1000000000000000000 ≤ B)) (t_val (K := K) (g_geN (g_var rfl hold_int) g_nat)) (fun e H9 e9 => ?_) (fun e H9 e9 => ⟨sd', ns, a2, some x5, _, s0', s1', by omega, rfl, m8.ex e9⟩)
    have m9 := m8.ex e9
    refine v_forS (K := K) (S := fun _ _ => True) (l := List.range 60) (g := Dt.nat) (fun _ j σ' H' => ∃ (B : Nat) (ns' : List Int) (a2 : Option V), ns'.length ≤ 60 * k + j ∧ σ' = [some v, some w, a2, some (.int sd'), some (.ref p), some x5, some (.int ((B : Nat) : Int)), none] ∧ Ml K H2 H' p (ns'.map Dt.int))
      (i_rng1 g_nat (by decide)) (fun H10 e10 => ⟨B, ns, a2, nl, rfl, m9.ex e10⟩) (fun _ _ _ _ _ _ => True.intro) ?_ ?_
    · rintro H10 j j' x2 σ' H11 H12 e10 hj ⟨B, ns', a2, nl', rfl, m11⟩ e12 hx2
      refine tgn ?_
      change tIfS _ _ _ _ [some v, some w, some x2, some (.int sd'), some (.ref p), some x5, some (.int ((B : Nat) : Int)), none] H12
      have m12 := m11.ex e12
      refine s_when (b := decide (0 < B)) (t_val (K := K) (g_gtN (g_var rfl hold_int) g_nat)) (fun e H13 e13 => ?_) (fun e H13 e13 => ⟨B, ns', some x2, by omega, rfl, m12.ex e13⟩)
      have m13 := m12.ex e13
      have jl : j < 60 := by
        obtain ⟨kl, ek⟩ := List.getElem?_eq_some_iff.mp hj
        rw [List.length_range] at kl
        exact kl
      have kl : k < a.length := (List.getElem?_eq_some_iff.mp hk).1
      refine u_app (K := K) (d := .int (((B : Nat) : Int) % 5040)) m13 (by rfl) (g_mod (g_intOf (g_var rfl hold_int)) g_nat (by decide)) (by rw [List.length_map]; omega) fun H14 m14 _ _ => ?_
      refine v_asgI (K := K) (i := ((B / 5040 : Nat) : Int)) (g_fdivN (g_var rfl hold_int) g_nat ⟨by decide, by decide⟩) fun H15 e15 => ⟨B / 5040, ns' ++ [((B : Nat) : Int) % 5040], some x2, by rw [List.length_append]; show ns'.length + 1 ≤ _; omega, rfl, ?_⟩
      rw [map_snocI]
      exact m14.ex e15
    · rintro H10 σ' H11 e10 ⟨B, ns', a2, nl', rfl, m11⟩
      rw [List.length_range] at nl'
      exact ⟨sd', ns', a2, some x5, _, s0', s1', by omega, rfl, m11⟩
  · rintro H4 σ' H5 e4 ⟨sd, ns, a2, a5, a6, s0, s1, nl, rfl, m⟩
    have h25 : Hold K H5 w (.d (.nat 190)) := h2.mono (by have := m.2.1; none_booked)
    refine u_forS (K := K) (S := fun _ _ => True) (l := List.range 190) (g := Dt.nat) (fun _ k σ' H' => ∃ sd ns' a2 a7, 0 ≤ sd ∧ sd < 2147483629 ∧ List.length ns' = ns.length + k ∧ σ' = [some v, some w, a2, some (.int sd), some (.ref p), a5, a6, a7] ∧ Ml K H2 H' p (ns'.map Dt.int))
      (i_rng1 (g_var rfl h25) (by decide)) (fun H6 e6 => ⟨sd, ns, a2, none, s0, s1, rfl, rfl, m.ex e6⟩) (fun _ _ _ _ _ _ => True.intro) ?_ ?_
    · rintro H6 k k' x2 σ' H7 H8 e6 hk ⟨sd, ns', a2, a7, s0, s1, nl', rfl, m7⟩ e8 hx2
      refine tgn ?_
      change tSeq _ _ _ [some v, some w, some x2, some (.int sd), some (.ref p), a5, a6, a7] H8
      have m8 := m7.ex e8
      obtain ⟨kl, ek⟩ := List.getElem?_eq_some_iff.mp hk
      rw [List.getElem_range] at ek
      rw [List.length_range] at kl
      subst ek
      have hx2 : Hold K H8 x2 (.d (.int (k : Int))) := hx2
      refine u_asgI (K := K) (i := (sd * 39373 + 77 + (k : Int)) % 2147483629) (g_mod (g_intOf (g_add (g_add (g_mul (i := sd) (j := 39373) (g_var rfl hold_int) g_nat (.inl ⟨by omega, by omega⟩)) g_nat) (g_var rfl hx2))) g_nat (by decide)) fun H9 e9 => ?_
      have s0' : 0 ≤ (sd * 39373 + 77 + (k : Int)) % 2147483629 := by omega
      have s1' : (sd * 39373 + 77 + (k : Int)) % 2147483629 < 2147483629 := by omega
      generalize (sd * 39373 + 77 + (k : Int)) % 2147483629 = sd' at s0' s1'
      change tSeq _ _ _ [some v, some w, some x2, some (.int sd'), some (.ref p), a5, a6, a7] H9
      have m9 := m8.ex e9
      refine u_asgI (K := K) (i := (sd' * sd' + sd' / 6421 + 5) % 2147483587) (g_mod (g_intOf (g_add (g_add (g_mul (i := sd') (j := sd') (g_var rfl hold_int) (g_var rfl hold_int) (.inl ⟨by omega, by omega⟩)) (g_fdiv (g_var rfl hold_int) g_nat ⟨by decide, by decide⟩)) g_nat)) g_nat (by decide)) fun H10 e10 => ?_
      generalize (sd' * sd' + sd' / 6421 + 5) % 2147483587 = mx
      change sApp _ _ _ _ [some v, some w, some x2, some (.int sd'), some (.ref p), a5, a6, some (.int mx)] H10
      refine v_app (K := K) (d := .int (mx / 83 % 5040)) (m9.ex e10) (by rfl) (g_mod (g_intOf (g_fdiv (g_var rfl hold_int) g_nat ⟨by decide, by decide⟩)) g_nat (by decide)) (by rw [List.length_map]; omega) fun H11 m11 _ _ => ⟨sd', ns' ++ [mx / 83 % 5040], some x2, _, s0', s1', by rw [List.length_append]; show ns'.length + 1 = _; omega, rfl, ?_⟩
      rw [map_snocI]
      exact m11
    · rintro H6 σ' H7 e6 ⟨sd, ns', a2, a7, s0, s1, nl', rfl, m7⟩
      rw [List.length_range] at nl'
      have eb : Ex H H7 := by have := m7.2.1; none_booked
      exact v_ret (K := K) (sh := sI ns') (g_var rfl m7.hold) fun v' H8 e8 hv' => q v' ns' H8 ⟨by omega, by omega⟩ (by none_booked) hv'
theorem g_isiN {σ : L2.St} {ta : TE} {d : Dt} {n : String} {z : Bool} (ha : EvG K ta σ H (.d d)) (e : kitB (tyName d) n = some z) : EvG K (xIsi K ta (xTy n)) σ H (.d (.bl z)) := g_isi ha e
theorem pure_law_sameN {n : Nat} (h : sp_law_same K (n + 1) vs H Q E) : t_law_same K (sp_law_same K n) { nx := fun _ H' => Q .non H', rt := Q } (start N_law_same vs) H := by
  obtain ⟨d, hd, hv, q⟩ := h
  dsimp only at hd hv q
  obtain ⟨v, w, rfl, h1, h2⟩ := h2_of hv
  change t_law_same K _ _ [some v, some w, none] H
  unfold t_law_same
  cases d with
  | str x => exact hd.elim
  | non =>
    refine q_when (b := false) (t_val (K := K) (g_isi (d := .non) (by k_places) (by decide +kernel))) (fun b => Bool.noConfusion b) fun _ H1 e1 => ?_
    refine q_when (b := true) (t_val (K := K) (g_isN (d := .non) (by k_places))) (fun _ H2 e2 => ?_) fun b => Bool.noConfusion b
    exact v_ret (K := K) (sh := .d (.bl true)) (g_isN (d := .non) (by k_places)) fun v' H3 e3 hv' => q v' H3 (by none_booked) hv'
  | bl b =>
    refine q_when (b := false) (t_val (K := K) (g_isi (d := .bl b) (by k_places) (by show kitB "bool" _ = _; decide +kernel))) (fun b => Bool.noConfusion b) fun _ H1 e1 => ?_
    refine q_when (b := false) (t_val (K := K) (g_isN (d := .bl b) (by k_places))) (fun b => Bool.noConfusion b) fun _ H2 e2 => ?_
    refine q_when (b := true) (t_val (K := K) (g_isi (d := .bl b) (by k_places) (by show kitB "bool" _ = _; decide +kernel))) (fun _ H3 e3 => ?_) fun b => Bool.noConfusion b
    exact v_ret (K := K) (sh := .d (.bl true)) ((g_and (x := true) (y := (b == b)) (g_isi (d := .bl b) (by k_places) (by show kitB "bool" _ = _; decide +kernel)) fun _ => g_eqB (by k_places) (by k_places)).isB (by cases b <;> rfl)) fun v' H4 e4 hv' => q v' H4 (by none_booked) hv'
  | int i =>
    refine q_when (b := false) (t_val (K := K) (g_isi (d := .int i) (by k_places) (by show kitB "int" _ = _; decide +kernel))) (fun b => Bool.noConfusion b) fun _ H1 e1 => ?_
    refine q_when (b := false) (t_val (K := K) (g_isN (d := .int i) (by k_places))) (fun b => Bool.noConfusion b) fun _ H2 e2 => ?_
    refine q_when (b := false) (t_val (K := K) (g_isi (d := .int i) (by k_places) (by show kitB "int" _ = _; decide +kernel))) (fun b => Bool.noConfusion b) fun _ H3 e3 => ?_
    refine q_when (b := true) (t_val (K := K) (g_isi (d := .int i) (by k_places) (by show kitB "int" _ = _; decide +kernel))) (fun _ H4 e4 => ?_) fun b => Bool.noConfusion b
    exact v_ret (K := K) (sh := .d (.bl true)) ((g_and (x := true) (y := !false && decide (i = i)) (g_isi (d := .int i) (by k_places) (by show kitB "int" _ = _; decide +kernel)) fun _ => g_and (g_not (g_isi (d := .int i) (by k_places) (by show kitB "int" _ = _; decide +kernel))) fun _ => g_eq (by k_places) (by k_places)).isB (by simp)) fun v' H5 e5 hv' => q v' H5 (by none_booked) hv'
  | tup l =>
    obtain ⟨hl, hd⟩ : l.length ≤ 100000 ∧ ∀ d ∈ l, Dd n d := hd
    have tu : ∀ {σ : L2.St} {H' : Hp} {ta : TE}, EvG K ta σ H' (.d (.tup l)) → EvG K (xIsi K ta (xTy "tuple")) σ H' (.d (.bl true)) := fun hh => g_isi hh (by show kitB "tuple" _ = _; decide +kernel)
    refine q_when (b := true) (t_val (K := K) (tu (by k_places))) (fun _ H1 e1 => ?_) fun b => Bool.noConfusion b
    refine q_when (b := false) (et_or (a := false) (b := false) (et_not (a := true) (t_val (K := K) (tu (by k_places)))) fun _ => t_val (K := K) ((g_neN (g_lenT (ds := l) (by k_places)) (g_lenT (ds := l) (by k_places))).isB (by simp))) (fun b => Bool.noConfusion b) fun _ H2 e2 => ?_
    refine u_for (K := K) (l := List.range l.length) (g := Dt.nat) (fun k σ' => ∃ a2, σ' = [some v, some w, a2]) (i_rng1 (g_lenT (ds := l) (by k_places)) hl) ⟨none, rfl⟩ ?_ ?_
    · rintro H3 k k' x2 σ' H4 e3 e4 hk ⟨a2, rfl⟩ hx2
      refine tgn ?_
      change tIfS _ _ _ _ [some v, some w, some x2] H4
      obtain ⟨kl, ek⟩ := List.getElem?_eq_some_iff.mp hk
      rw [List.getElem_range] at ek
      rw [List.length_range] at kl
      subst ek
      have hx2 : Hold K H4 x2 (.d (.nat k)) := hx2
      have dk := hd _ (List.getElem_mem kl)
      have gk : l[k]? = some l[k] := List.getElem?_eq_getElem kl
      have h14 : Hold K H4 v (.d (.tup l)) := h1.mono (by none_booked)
      have h24 : Hold K H4 w (.d (.tup l)) := h2.mono (by none_booked)
      cases n with
      | zero => exact dk.elim
      | succ n => exact s_when (b := false) (et_not (a := true) (t_val (K := K) (gc_same (d := l[k]) (as_cons (g_ixT (g_var rfl h14) (g_var rfl hx2) gk) (as_cons (g_ixT (g_var rfl h24) (g_var rfl hx2) gk) as_nil)) dk))) (fun b => Bool.noConfusion b) fun _ H5 e5 => ⟨by none_booked, some x2, rfl⟩
    · rintro σ' H3 e3 ⟨a2, rfl⟩
      exact v_ret (K := K) (sh := .d (.bl true)) g_bl fun v' H4 e4 hv' => q v' H4 (by none_booked) hv'
end
section
variable {K : PySem.W.Frag} {vs : List V} {H : Hp} {Q : VK} {E : XK}
theorem prod_rev : ∀ l : List Nat, prodN l.reverse = prodN l
  | [] => rfl
  | c :: l => by
    rw [List.reverse_cons, prod_app, prod_rev l, prod_one]
    exact Nat.mul_comm _ _
theorem six_at : ∀ h, h < 6 → 1 ≤ gN [2, 3, 2, 1, 2, 4] h ∧ gN [2, 3, 2, 1, 2, 4] h ≤ 4 := by decide
theorem pure_law_sizes (h : sp_law_sizes K vs H Q E) : t_law_sizes K { nx := fun _ H' => Q .non H', rt := Q } (start N_law_sizes vs) H := by
  obtain ⟨r, ⟨r1, r2⟩, hv, q⟩ := h
  dsimp only at hv q
  obtain ⟨v, rfl, h1⟩ := h1_of hv
  change t_law_sizes K _ [some v, none, none, none, none, none, none, none] H
  have h1 : Hold K H v (sI r) := h1
  unfold t_law_sizes
  have hn0 := Int.emod_nonneg (iget r 0) (b := 6) (by decide)
  have hn6 := Int.emod_lt_of_pos (iget r 0) (b := 6) (by decide)
  obtain ⟨n, en⟩ : ∃ n, n = 1 + (iget r 0 % ((6 : Nat) : Int)).toNat := ⟨_, rfl⟩
  have n1 : 1 ≤ n := by omega
  have n6 : n ≤ 6 := by
    have e : ((6 : Nat) : Int) = 6 := rfl
    rw [e] at en
    omega
  refine u_asg (K := K) (sh := .d (.nat n)) (by rw [en]; exact g_addN g_nat (g_modI (g_ixLI (r := r) (by k_places) g_nat (by omega)) g_nat (by decide))) fun x1 H1 e1 hx1 => ?_
  change tSeq _ _ _ [some v, some x1, none, none, none, none, none, none] H1
  refine u_asgI (K := K) (i := ((16 : Nat) : Int)) g_nat fun H2 e2 => ?_
  change tSeq _ _ _ [some v, some x1, some (.int ((16 : Nat) : Int)), none, none, none, none, none] H2
  have eb2 : Ex H H2 := by none_booked
  have mo : ∀ {σ : L2.St} {H' : Hp} {a : Nat}, Ex H H' → σ[0]? = some (some v) → a < 190 → EvG K (xMod (xIntOf (xIxL K (tVar 0) (xNat a))) (xNat 8)) σ H' (.d (.nat (iget r a % ((8 : Nat) : Int)).toNat)) := fun e hs l => g_modI (g_ixLI (r := r) (g_var hs (h1.mono e)) g_nat (by omega)) g_nat (by decide)
  refine u_cut (fun σ' H' => ∃ cap : Nat, 16 ≤ cap ∧ cap ≤ 64 ∧ Ex H2 H' ∧ σ' = [some v, some x1, some (.int (cap : Int)), none, none, none, none, none]) ?_ fun k => ?_
  rotate_left
  · refine s_when (b := decide ((iget r 1 % ((8 : Nat) : Int)).toNat = 2)) (t_val (K := K) (g_eqN (mo eb2 rfl (by decide)) g_nat)) (fun _ H3 e3 => ?_) (fun _ H3 e3 => k _ _ ⟨16, by decide, by decide, e3, rfl⟩)
    exact v_asgI (K := K) (i := ((64 : Nat) : Int)) g_nat fun H4 e4 => k _ _ ⟨64, by decide, by decide, e3.trans e4, rfl⟩
  rintro σ' H3 ⟨cap, c16, c64, e3, rfl⟩
  have eb3 := eb2.trans e3
  refine u_cut (fun σ' H' => ∃ cap : Nat, 16 ≤ cap ∧ cap ≤ 64 ∧ Ex H2 H' ∧ σ' = [some v, some x1, some (.int (cap : Int)), none, none, none, none, none]) ?_ fun k => ?_
  rotate_left
  · refine s_when (b := decide ((iget r 1 % ((8 : Nat) : Int)).toNat = 5)) (t_val (K := K) (g_eqN (mo eb3 rfl (by decide)) g_nat)) (fun _ H4 e4 => ?_) (fun _ H4 e4 => k _ _ ⟨cap, c16, c64, e3.trans e4, rfl⟩)
    exact v_asgI (K := K) (i := ((32 : Nat) : Int)) g_nat fun H5 e5 => k _ _ ⟨32, by decide, by decide, e3.trans (e4.trans e5), rfl⟩
  clear c16 c64 eb3 e3
  clear cap
  rintro σ' H4 ⟨cap, c16, c64, e4, rfl⟩
  refine u_asgN (K := K) (n_lst (ds := []) as_nil) fun p xs H5 np e5 hp htp => ?_
  change tSeq _ _ _ [some v, some x1, some (.int (cap : Int)), some (.ref p), none, none, none, none] H5
  refine u_asgI (K := K) (i := ((1 : Nat) : Int)) g_nat fun H6 e6 => ?_
  change tSeq _ _ _ [some v, some x1, some (.int (cap : Int)), some (.ref p), some (.int ((1 : Nat) : Int)), none, none, none] H6
  have m0 : Ml K H4 H6 p (([] : List Nat).map Dt.nat) := (Ml.new np e5 hp htp).ex e6
  have hx16 : Hold K H6 x1 (.d (.nat n)) := hx1.mono (by none_booked)
  have eb4 : Ex H H4 := by none_booked
  refine u_forS (K := K) (S := fun _ _ => True) (l := List.range n) (g := Dt.nat) (fun _ k σ' H' => ∃ (l : List Nat) (a5 a6 a7 : Option V), l.length = k ∧ (∀ c ∈ l, 1 ≤ c) ∧ prodN l ≤ cap ∧ σ' = [some v, some x1, some (.int (cap : Int)), some (.ref p), some (.int ((prodN l : Nat) : Int)), a5, a6, a7] ∧ Ml K H4 H' p (l.map Dt.nat))
    (i_rng1 (g_var rfl hx16) (by omega)) (fun H7 e7 => ⟨[], none, none, none, rfl, fun c hc => (List.not_mem_nil hc).elim, (by show 1 ≤ cap; omega), rfl, m0.ex e7⟩) (fun _ _ _ _ _ _ => True.intro) ?_ ?_
  · rintro H7 k k' x5 σ' H8 H9 e7 hk ⟨l, a5, a6, a7, ll, lp, lc, rfl, m8⟩ e9 hx5
    refine tgn ?_
    obtain ⟨kl, ek⟩ := List.getElem?_eq_some_iff.mp hk
    rw [List.getElem_range] at ek
    rw [List.length_range] at kl
    subst ek
    change tSeq _ _ _ [some v, some x1, some (.int (cap : Int)), some (.ref p), some (.int ((prodN l : Nat) : Int)), some x5, a6, a7] H9
    have m9 := m8.ex e9
    have eb9 : Ex H H9 := by have := m9.2.1; none_booked
    have hx5 : Hold K H9 x5 (.d (.nat k)) := hx5
    have h19 := h1.mono eb9
    have idx : EvG K (xMod (xIntOf (xIxL K (tVar 0) (xAdd (xNat 2) (tVar 5)))) (xNat 6)) [some v, some x1, some (.int (cap : Int)), some (.ref p), some (.int ((prodN l : Nat) : Int)), some x5, a6, a7] H9 (.d (.nat (iget r (2 + k) % ((6 : Nat) : Int)).toNat)) :=
      g_modI (g_ixLI (r := r) (g_var rfl h19) (g_addN g_nat (g_var rfl hx5)) (by omega)) g_nat (by decide)
    have i0 := Int.emod_nonneg (iget r (2 + k)) (b := 6) (by decide)
    have i6 := Int.emod_lt_of_pos (iget r (2 + k)) (b := 6) (by decide)
    have ilt : (iget r (2 + k) % ((6 : Nat) : Int)).toNat < 6 := by
      have e : ((6 : Nat) : Int) = 6 := rfl
      rw [e]
      omega
    generalize (iget r (2 + k) % ((6 : Nat) : Int)).toNat = ix at idx ilt
    obtain ⟨c1, c4⟩ := six_at ix ilt
    refine u_asgI (K := K) (i := ((gN [2, 3, 2, 1, 2, 4] ix : Nat) : Int)) (g_ixLN (s := [2, 3, 2, 1, 2, 4]) (EvN.g (n_lst (ds := [2, 3, 2, 1, 2, 4].map Dt.nat) (as_cons g_nat (as_cons g_nat (as_cons g_nat (as_cons g_nat (as_cons g_nat (as_cons g_nat as_nil)))))) (by show 6 ≤ 100000; decide))) idx ilt) fun H10 e10 => ?_
    have m10 := m9.ex e10
    generalize gN [2, 3, 2, 1, 2, 4] ix = c at c1 c4
    change tSeq _ _ _ [some v, some x1, some (.int (cap : Int)), some (.ref p), some (.int ((prodN l : Nat) : Int)), some x5, some (.int (c : Int)), a7] H10
    have lp1 : 1 ≤ prodN l := prod_pos lp
    refine u_forS (K := K) (S := fun _ _ => True) (l := List.range 3) (g := Dt.nat) (fun _ j σ' H' => ∃ (c : Nat) (a7 : Option V), 1 ≤ c ∧ c ≤ 4 ∧ (prodN l * c ≤ cap ∨ c ≤ 4 - j) ∧ σ' = [some v, some x1, some (.int (cap : Int)), some (.ref p), some (.int ((prodN l : Nat) : Int)), some x5, some (.int (c : Int)), a7] ∧ Ml K H4 H' p (l.map Dt.nat))
      (i_rng1 g_nat (by decide)) (fun H11 e11 => ⟨c, a7, c1, c4, .inr c4, rfl, m10.ex e11⟩) (fun _ _ _ _ _ _ => True.intro) ?_ ?_
    · rintro H11 j j' x7 σ' H12 H13 e11 hj ⟨c, a7, c1, c4, dj, rfl, m12⟩ e13 hx7
      refine tgn ?_
      change tIfS _ _ _ _ [some v, some x1, some (.int (cap : Int)), some (.ref p), some (.int ((prodN l : Nat) : Int)), some x5, some (.int (c : Int)), some x7] H13
      have m13 := m12.ex e13
      refine s_when (b := decide (cap < prodN l * c)) (t_val (K := K) (g_gtN (g_mulN (g_var rfl hold_int) (g_var rfl hold_int) (by omega)) (g_var rfl hold_int))) (fun y H14 e14 => ?_) (fun y H14 e14 => ⟨c, some x7, c1, c4, .inl (by have := of_decide_eq_false y; omega), rfl, m13.ex e14⟩)
      have y := of_decide_eq_true y
      have cn : c ≠ 1 := fun e => by
        rw [e, Nat.mul_one] at y
        omega
      exact v_asgI (K := K) (i := ((c - 1 : Nat) : Int)) (g_subN (g_var rfl hold_int) g_nat c1) fun H15 e15 => ⟨c - 1, some x7, by omega, by omega, .inr (by rcases dj with dj | dj <;> omega), rfl, (m13.ex e14).ex e15⟩
    · rintro H11 σ' H12 e11 ⟨c, a7, c1, c4, dj, rfl, m12⟩
      rw [List.length_range] at dj
      have pc : prodN l * c ≤ cap := by
        rcases dj with dj | dj
        · exact dj
        · have e : c = 1 := by omega
          rw [e, Nat.mul_one]
          exact lc
      refine u_asgI (K := K) (i := ((prodN l * c : Nat) : Int)) (g_mulN (g_var rfl hold_int) (g_var rfl hold_int) (by omega)) fun H13 e13 => ?_
      change sApp _ _ _ _ [some v, some x1, some (.int (cap : Int)), some (.ref p), some (.int ((prodN l * c : Nat) : Int)), some x5, some (.int (c : Int)), a7] H13
      have el : prodN (l ++ [c]) = prodN l * c := by rw [prod_app, prod_one]
      refine v_app (K := K) (d := .nat c) (m12.ex e13) (by rfl) (g_var rfl hold_int) (by rw [List.length_map]; omega) fun H14 m14 _ _ => ⟨l ++ [c], some x5, some (.int (c : Int)), a7, by rw [List.length_append]; show l.length + 1 = _; omega, fun d hd => ?_, by rw [el]; exact pc, by rw [el], ?_⟩
      · rcases List.mem_append.mp hd with hd | hd
        · exact lp d hd
        · rw [List.mem_singleton.mp hd]
          exact c1
      · rw [List.map_append]
        exact m14
  · rintro H7 σ' H8 e7 ⟨l, a5, a6, a7, ll, lp, lc, rfl, m8⟩
    rw [List.length_range] at ll
    have eb8 : Ex H H8 := by have := m8.2.1; none_booked
    have zl : Sz l := ⟨fun e => by rw [e] at ll; exact absurd ll (by show ¬ 0 = n; omega), lp, by omega, by omega⟩
    have zr : Sz l.reverse := ⟨fun e => zl.ne (List.reverse_eq_nil_iff.mp e), fun c hc => lp c (List.mem_reverse.mp hc), by rw [List.length_reverse]; omega, by rw [prod_rev]; omega⟩
    refine u_cut (fun σ' H' => ∃ (l : List Nat) (a3 : V), Sz l ∧ Ex H8 H' ∧ Hold K H' a3 (sN l) ∧ σ' = [some v, some x1, some (.int (cap : Int)), some a3, some (.int ((prodN (l) : Nat) : Int)), a5, a6, a7]) ?_ fun k => ?_
    rotate_left
    · refine s_when (b := decide ((iget r 8 % ((2 : Nat) : Int)).toNat = 1)) (t_val (K := K) (g_eqN (g_modI (g_ixLI (r := r) (g_var rfl (h1.mono eb8)) g_nat (by omega)) g_nat (by decide)) g_nat)) (fun _ H9 e9 => ?_) (fun _ H9 e9 => k _ _ ⟨l, .ref p, zl, e9, m8.hold.mono e9, rfl⟩)
      refine v_asgN (K := K) (n_revL (ds := l.map Dt.nat) (g_var rfl (m8.ex e9).hold)) fun p' xs' H10 np' e10 hp' ht' => k _ _ ⟨l.reverse, .ref p', zr, e9.trans e10, ?_, ?_⟩
      · unfold sN
        rw [List.map_reverse]
        exact Hold.lst hp' ht'
      · rw [prod_rev]
        rfl
    rintro σ' H9 ⟨l', a3, zl', e9, h3, rfl⟩
    exact v_ret (K := K) (sh := .d (dN l')) (g_tupOf (ds := l'.map Dt.nat) (g_var rfl h3)) fun v' H10 e10 hv' => q v' l' H10 zl' (by none_booked) hv'
end
section
variable {K : PySem.W.Frag} {vs : List V} {H : Hp} {Q : VK} {E : XK}
theorem g_row {s x : List Nat} {k : Nat} {σ : L2.St} {ta tb : TE} (ha : EvG K ta σ H (.s ((settingsN s).map dN))) (hb : EvG K tb σ H (.d (.nat k))) (hx : (settingsN s)[k]? = some x) : EvG K (xIxL K ta tb) σ H (.d (dN x)) := g_ixL ha hb (by rw [List.getElem?_map, hx]; rfl)
theorem g_lenR {s : List Nat} {σ : L2.St} {ta : TE} (z : Sz s) (ha : EvG K ta σ H (.s ((settingsN s).map dN))) : EvG K (xLen K ta) σ H (.d (.nat (prodN s))) := (g_lenL ha).is (by rw [List.length_map, (rows_ok z).len])
theorem row_ex {s : List Nat} {k : Nat} (z : Sz s) (hk : k < prodN s) : ∃ x, (settingsN s)[k]? = some x ∧ VS s x ∧ placeN s x = k := by
  have rl := (rows_ok z).len
  have e := List.getElem?_eq_getElem (l := settingsN s) (i := k) (by omega)
  exact ⟨_, e, (rows_ok z).at_ k _ e⟩
theorem g_ixLB {t : List Bool} {h : Nat} {σ : L2.St} {ta tb : TE} (ha : EvG K ta σ H (.s (t.map bitD))) (hb : EvG K tb σ H (.d (.nat h))) (hh : h < t.length) : EvG K (xIxL K ta tb) σ H (.d (bitD (tget t h))) := g_ixL (ds := t.map bitD) ha hb (get_bit hh)
theorem set_bit (t : List Bool) (k : Nat) (b : Bool) : (t.map bitD).set k (bitD b) = (t.set k b).map bitD := List.map_set.symm
theorem on_lt {s l x : List Nat} (z : Sz s) (nd : l.Nodup) (hl : ∀ h ∈ l, h < s.length) (v : VS s x) : onN (spansN s) l x < prodN s := by
  rw [on_pl nd hl]
  exact pl_lt ((vf_of v).maskL z)
theorem filt {n : Nat} (c : Nat → Bool) : ((List.range n).filter c).Nodup ∧ (∀ h ∈ (List.range n).filter c, h < n) ∧ ((List.range n).filter c).length ≤ n := by
  refine ⟨List.Nodup.sublist List.filter_sublist List.nodup_range, fun h hh => List.mem_range.mp (List.mem_filter.mp hh).1, ?_⟩
  have := List.length_filter_le c (List.range n)
  rw [List.length_range] at this
  exact this
theorem exb_keep {H H' : Hp} {p l : Addr} {ys : List V} {ds : List Dt} (e : ExB p H H') (t : Tx K H H') (n : l ≠ p) (h : H l = some (.lst ys)) (q : Tps K H ys ds) : H' l = some (.lst ys) ∧ Tps K H' ys ds := ⟨e _ _ n h, q.tx t⟩
theorem pure_law_summed (h : sp_law_summed K vs H Q E) : t_law_summed K (sp_law_settings K) (sp_law_steps K) (sp_law_on_L K) { nx := fun _ H' => Q .non H', rt := Q } (start N_law_summed vs) H := by
  obtain ⟨⟨r, s, st⟩, ⟨⟨r1, r2⟩, z, st1⟩, hv, q⟩ := h
  dsimp only at r1 r2 z st1 hv q
  obtain ⟨v, w, u, rfl, h1, h2, h3⟩ := h3_of hv
  change t_law_summed K _ _ _ _ [some v, some w, some u, none, none, none, none, none, none, none] H
  have h1 : Hold K H v (sI r) := h1
  have h2 : Hold K H w (.d (dN s)) := h2
  have h3 : Hold K H u (.d (.nat st)) := h3
  unfold t_law_summed
  have z6 := z.few
  have p64 := z.prod
  refine u_asg (K := K) (sh := .s ((settingsN s).map dN)) (gc_lawsettings (by k_places) z) fun x3 H1 e1 hx3 => ?_
  change tSeq _ _ _ [some v, some w, some u, some x3, none, none, none, none, none, none] H1
  refine u_asg (K := K) (sh := sN (spansN s)) (gc_lawsteps (by k_places) z) fun x4 H2 e2 hx4 => ?_
  change tSeq _ _ _ [some v, some w, some u, some x3, some x4, none, none, none, none, none] H2
  have eb2 : Ex H H2 := by none_booked
  refine u_asgN (K := K) (n_rep (a := prodN s) (d := bitD (decide (iget r st % 2 = 1))) (n_lst (as_cons (g_bitI (g_ixLI (by k_places) (by k_places) (by omega)) g_nat) as_nil) (by show 1 ≤ 100000; decide)) (g_lenR z (by k_places)) (by omega)) fun p xs H3 np e3 hp htp => ?_
  change tSeq _ _ _ [some v, some w, some u, some x3, some x4, some (.ref p), none, none, none, none] H3
  have m0 : Ml K H2 H3 p ((List.replicate (prodN s) (decide (iget r st % 2 = 1))).map bitD) := by
    rw [List.map_replicate]
    exact Ml.new np e3 hp htp
  refine u_forS (K := K) (S := fun _ _ => True) (l := List.range 3) (g := Dt.nat) (fun _ k σ' H' => ∃ (t : List Bool) (a6 a7 a9 : Option V), t.length = prodN s ∧ σ' = [some v, some w, some u, some x3, some x4, some (.ref p), a6, a7, none, a9] ∧ Ml K H2 H' p (t.map bitD))
    (i_rng1 g_nat (by decide)) (fun H4 e4 => ⟨_, none, none, none, List.length_replicate, rfl, m0.ex e4⟩) (fun _ _ _ _ _ _ => True.intro) ?_ ?_
  · rintro H4 k k' x6 σ' H5 H6 e4 hk ⟨t, a6, a7, a9, lt, rfl, m5⟩ e6 hx6
    refine tgn ?_
    obtain ⟨kl, ek⟩ := List.getElem?_eq_some_iff.mp hk
    rw [List.getElem_range] at ek
    rw [List.length_range] at kl
    subst ek
    change tSeq _ _ _ [some v, some w, some u, some x3, some x4, some (.ref p), some x6, a7, none, a9] H6
    have m6 := m5.ex e6
    have eb6 : Ex H2 H6 := m6.2.1
    have ha6 : Ex H H6 := eb2.trans eb6
    have h16 := h1.mono ha6
    have h26 := h2.mono ha6
    have h36 := h3.mono ha6
    have hx6 : Hold K H6 x6 (.d (.nat k)) := hx6
    have hl : EvN K (tLc (xRng1 (xLen K (tVar 1))) (gName 8) (tB (xEq (xMod (xFdiv (xIxL K (tVar 0) (xAdd (xAdd (tVar 2) (xNat 1)) (tVar 8))) (xNat 2)) (xNat 3)) (tVar 6))) (tVar 8) [8]) [some v, some w, some u, some x3, some x4, some (.ref p), some x6, a7, none, a9] H6
        (((List.range s.length).filter fun h => decide (iget r (st + 1 + h) / 2 % 3 = (k : Int))).map Dt.nat) :=
      n_lcF (l := List.range s.length) (g := Dt.nat) (fun h => decide (iget r (st + 1 + h) / 2 % 3 = (k : Int))) Dt.nat (i_rng1 (g_lenN (g_var rfl h26)) (by omega)) (by rw [List.length_range]; omega) (fun x => rfl)
        (fun h hh x H7 e7 hx => by
          have hs := List.mem_range.mp hh
          have hx : Hold K H7 x (.d (.nat h)) := hx
          exact t_val (K := K) (g_eq (g_mod (g_fdiv (g_ixLI (r := r) (g_var rfl (h16.mono e7)) (g_addN (g_addN (g_var rfl (h36.mono e7)) g_nat) (g_var rfl hx)) (by omega)) g_nat ⟨by decide, by decide⟩) g_nat (by decide)) (g_var rfl (hx6.mono e7)))) (fun h hh x H7 e7 hx _ => g_var rfl hx)
    obtain ⟨nd, ml, l6⟩ := filt (n := s.length) fun h => decide (iget r (st + 1 + h) / 2 % 3 = (k : Int))
    generalize (List.range s.length).filter (fun h => decide (iget r (st + 1 + h) / 2 % 3 = (k : Int))) = ll at hl nd ml l6
    refine u_asgN (K := K) hl fun l ys H7 nl e7 hl7 htl => ?_
    change tFor _ _ _ _ [some v, some w, some u, some x3, some x4, some (.ref p), some x6, some (.ref l), none, a9] H7
    have m7 := m6.ex e7
    have lp : l ≠ p := fun e => by
      obtain ⟨_, _, xs', h', _⟩ := m6
      rw [e, h'] at nl
      cases nl
    have hx67 := hx6.mono e7
    have eb7 : Ex H2 H7 := m7.2.1
    have hx37 : Hold K H7 x3 (.s ((settingsN s).map dN)) := hx3.mono (e2.trans eb7)
    refine v_forS (K := K) (S := fun _ _ => True) (l := List.range (prodN s)) (g := Dt.nat) (fun _ j σ' H' => ∃ (t : List Bool) (a9 : Option V), t.length = prodN s ∧ σ' = [some v, some w, some u, some x3, some x4, some (.ref p), some x6, some (.ref l), none, a9] ∧ Ml K H2 H' p (t.map bitD) ∧ (H' l = some (.lst ys) ∧ Tps K H' ys (ll.map Dt.nat)) ∧ Tx K H7 H')
      (i_rng1 (g_lenR z (g_var rfl hx37)) (by omega)) (fun H8 e8 => ⟨t, a9, lt, rfl, m7.ex e8, ⟨e8 _ _ hl7, htl.mono e8⟩, .of e8⟩) (fun _ _ _ _ _ _ => True.intro) ?_ ?_
    · rintro H8 j j' x9 σ' H9 H10 e8 hj ⟨t, a9, lt, rfl, m9, ⟨hl9, ht9⟩, tx9⟩ e10 hx9
      refine tgn ?_
      obtain ⟨jl, ej⟩ := List.getElem?_eq_some_iff.mp hj
      rw [List.getElem_range] at ej
      rw [List.length_range] at jl
      subst ej
      change sSet _ _ _ _ [some v, some w, some u, some x3, some x4, some (.ref p), some x6, some (.ref l), none, some x9] H10
      have m10 := m9.ex e10
      have eb10 : Ex H2 H10 := m10.2.1
      have ha10 : Ex H H10 := eb2.trans eb10
      have hx9 : Hold K H10 x9 (.d (.nat j)) := hx9
      have hl10 : Hold K H10 (.ref l) (sN ll) := Hold.lst (e10 _ _ hl9) (ht9.mono e10)
      have hx310 : Hold K H10 x3 (.s ((settingsN s).map dN)) := hx3.mono (e2.trans eb10)
      have hx610 : Hold K H10 x6 (.d (.nat k)) := Tp.tx (tx9.trans (.of e10)) hx67
      obtain ⟨x, ex, vx, px⟩ := row_ex z jl
      have ol := on_lt z nd ml vx
      have von : EvG K (xCall (sp_law_on_L K) (tCons (tVar 1) (tCons (tVar 4) (tCons (tVar 7) (tCons (xIxL K (tVar 3) (tVar 9)) tNil))))) [some v, some w, some u, some x3, some x4, some (.ref p), some x6, some (.ref l), none, some x9] H10 (.d (.nat (onN (spansN s) ll x))) :=
        gc_onL (as_cons (g_var rfl (h2.mono ha10)) (as_cons (g_var rfl (hx4.mono eb10)) (as_cons (g_var rfl hl10) (as_cons (g_row (g_var rfl hx310) (g_var rfl hx9) ex) as_nil)))) ⟨z, vx, ml, by show ll.length ≤ 6; omega⟩
      refine v_set (K := K) m10 (by rfl) (d := bitD (decide ((((tget t j).toNat : Int) + iget r (st + 10 + k + onN (spansN s) ll x) / 7) % 2 = 1))) (a := j)
        (g_bitI (g_add (g_ixLB (g_var rfl m10.hold) (g_var rfl hx9) (by omega)) (g_fdiv (g_ixLI (r := r) (g_var rfl (h1.mono ha10)) (g_addN (g_addN (g_addN (g_var rfl (h3.mono ha10)) g_nat) (g_var rfl hx610)) von) (by omega)) g_nat ⟨by decide, by decide⟩)) g_nat) (g_var rfl hx9) (by rw [List.length_map]; omega) fun H11 m11 xb tx => ⟨_, some x9, ?_, rfl, by rw [set_bit] at m11; exact m11, exb_keep xb tx lp (e10 _ _ hl9) (ht9.mono e10), tx9.trans ((Tx.of e10).trans tx)⟩
      rw [List.length_set]
      exact lt
    · rintro H8 σ' H9 e8 ⟨t, a9, lt, rfl, m9, _, _⟩
      exact ⟨t, some x6, some (.ref l), a9, lt, rfl, m9⟩
  · rintro H4 σ' H5 e4 ⟨t, a6, a7, a9, lt, rfl, m5⟩
    obtain ⟨n5, x5, xs5, h5, t5⟩ := (m5.base eb2)
    exact ⟨.ref p, rfl, q p xs5 t H5 lt x5 n5 h5 t5⟩
theorem cut_nat {l : List Nat} {lo hi : Option Int} : ∃ l' : List Nat, cutD (l.map Dt.nat) lo hi = l'.map Dt.nat ∧ l'.Sublist l := by
  refine ⟨(l.drop (HT.sIx (l.map Dt.nat).length 0 lo)).take (HT.sIx (l.map Dt.nat).length (l.map Dt.nat).length hi - HT.sIx (l.map Dt.nat).length 0 lo), ?_, (List.take_sublist _ _).trans (List.drop_sublist _ _)⟩
  unfold cutD
  rw [List.map_take, List.map_drop]
theorem pure_law_by_terms (h : sp_law_by_terms K vs H Q E) : t_law_by_terms K (sp_law_settings K) { nx := fun _ H' => Q .non H', rt := Q } (start N_law_by_terms vs) H := by
  obtain ⟨⟨r, s, st⟩, ⟨⟨r1, r2⟩, z, st1⟩, hv, q⟩ := h
  dsimp only at r1 r2 z st1 hv q
  obtain ⟨v, w, u, rfl, h1, h2, h3⟩ := h3_of hv
  change t_law_by_terms K _ _ [some v, some w, some u, none, none, none, none, none, none, none, none] H
  have h1 : Hold K H v (sI r) := h1
  have h2 : Hold K H w (.d (dN s)) := h2
  have h3 : Hold K H u (.d (.nat st)) := h3
  unfold t_law_by_terms
  have z6 := z.few
  have p64 := z.prod
  refine u_asg (K := K) (sh := .s ((settingsN s).map dN)) (gc_lawsettings (by k_places) z) fun x3 H2 e2 hx3 => ?_
  change tSeq _ _ _ [some v, some w, some u, some x3, none, none, none, none, none, none, none] H2
  have eb2 : Ex H H2 := by none_booked
  refine u_asgN (K := K) (n_rep (a := prodN s) (d := bitD (decide (iget r st % 2 = 1))) (n_lst (as_cons (g_bitI (g_ixLI (by k_places) (by k_places) (by omega)) g_nat) as_nil) (by show 1 ≤ 100000; decide)) (g_lenR z (by k_places)) (by omega)) fun p xs H3 np e3 hp htp => ?_
  change tSeq _ _ _ [some v, some w, some u, some x3, some (.ref p), none, none, none, none, none, none] H3
  have m0 : Ml K H2 H3 p ((List.replicate (prodN s) (decide (iget r st % 2 = 1))).map bitD) := by
    rw [List.map_replicate]
    exact Ml.new np e3 hp htp
  refine u_forS (K := K) (S := fun _ _ => True) (l := List.range 4) (g := Dt.nat) (fun _ k σ' H' => ∃ (t : List Bool) (a5 a6 a7 a9 a10 : Option V), t.length = prodN s ∧ σ' = [some v, some w, some u, some x3, some (.ref p), a5, a6, a7, none, a9, a10] ∧ Ml K H2 H' p (t.map bitD))
    (i_rng1 g_nat (by decide)) (fun H4 e4 => ⟨_, none, none, none, none, none, List.length_replicate, rfl, m0.ex e4⟩) (fun _ _ _ _ _ _ => True.intro) ?_ ?_
  · rintro H4 k k' x5 σ' H5 H6 e4 hk ⟨t, a5, a6, a7, a9, a10, lt, rfl, m5⟩ e6 hx5
    refine tgn ?_
    obtain ⟨kl, ek⟩ := List.getElem?_eq_some_iff.mp hk
    rw [List.getElem_range] at ek
    rw [List.length_range] at kl
    subst ek
    change tSeq _ _ _ [some v, some w, some u, some x3, some (.ref p), some x5, a6, a7, none, a9, a10] H6
    have m6 := m5.ex e6
    have eb6 : Ex H2 H6 := m6.2.1
    have ha6 : Ex H H6 := eb2.trans eb6
    have hx5 : Hold K H6 x5 (.d (.nat k)) := hx5
    refine u_asg (K := K) (sh := .d (.int (iget r (st + 1 + k)))) (g_ixLI (r := r) (g_var rfl (h1.mono ha6)) (g_addN (g_addN (g_var rfl (h3.mono ha6)) g_nat) (g_var rfl hx5)) (by omega)) fun x6 H7 e7 hx6 => ?_
    change tSeq _ _ _ [some v, some w, some u, some x3, some (.ref p), some x5, some x6, a7, none, a9, a10] H7
    generalize iget r (st + 1 + k) = pick at hx6
    have m7 := m6.ex e7
    have ha7 := ha6.trans e7
    have h17 := h1.mono ha7
    have h27 := h2.mono ha7
    have h37 := h3.mono ha7
    have hx57 := hx5.mono e7
    have hl : EvN K (tLc (xRng1 (xLen K (tVar 1))) (gName 8) (tB (xEq (xMod (xFdiv (xIxL K (tVar 0) (xAdd (xAdd (xAdd (tVar 2) (xNat 5)) (xMul (xNat 6) (tVar 5))) (tVar 8))) (xNat 2)) (xNat 3)) (xNat 1))) (tVar 8) [8]) [some v, some w, some u, some x3, some (.ref p), some x5, some x6, a7, none, a9, a10] H7
        (((List.range s.length).filter fun h => decide (iget r (st + 5 + 6 * k + h) / 2 % 3 = ((1 : Nat) : Int))).map Dt.nat) :=
      n_lcF (l := List.range s.length) (g := Dt.nat) (fun h => decide (iget r (st + 5 + 6 * k + h) / 2 % 3 = ((1 : Nat) : Int))) Dt.nat (i_rng1 (g_lenN (g_var rfl h27)) (by omega)) (by rw [List.length_range]; omega) (fun x => rfl)
        (fun h hh x H7 e7 hx => by
          have hs := List.mem_range.mp hh
          have hx : Hold K H7 x (.d (.nat h)) := hx
          exact t_val (K := K) (g_eq (g_mod (g_fdiv (g_ixLI (r := r) (g_var rfl (h17.mono e7)) (g_addN (g_addN (g_addN (g_var rfl (h37.mono e7)) g_nat) (g_mulN g_nat (g_var rfl (hx57.mono e7)) (by decide))) (g_var rfl hx)) (by omega)) g_nat ⟨by decide, by decide⟩) g_nat (by decide)) g_nat)) (fun h hh x H7 e7 hx _ => g_var rfl hx)
    obtain ⟨nd, ml, l6⟩ := filt (n := s.length) fun h => decide (iget r (st + 5 + 6 * k + h) / 2 % 3 = ((1 : Nat) : Int))
    generalize (List.range s.length).filter (fun h => decide (iget r (st + 5 + 6 * k + h) / 2 % 3 = ((1 : Nat) : Int))) = ll at hl nd ml l6
    refine u_asg (K := K) (sh := sN ll) hl.g fun x7 H8 e8 hx7 => ?_
    change tSeq _ _ _ [some v, some w, some u, some x3, some (.ref p), some x5, some x6, some x7, none, a9, a10] H8
    have m8 := m7.ex e8
    have hx68 := hx6.mono e8
    obtain ⟨l', el, sl⟩ := cut_nat (l := ll) (lo := none) (hi := some (((1 : Nat) : Int) + ((pick % ((3 : Nat) : Int)).toNat : Int)))
    have hcut : EvN K (xSlL K (tVar 7) tNoPart (xPart (xAdd (xNat 1) (xMod (xIntOf (tVar 6)) (xNat 3))))) [some v, some w, some u, some x3, some (.ref p), some x5, some x6, some x7, none, a9, a10] H8 (l'.map Dt.nat) :=
      (n_slL (ds := ll.map Dt.nat) (g_var rfl hx7) o_none (o_some (g_add g_nat (g_modI (g_var rfl hx68) g_nat (by decide))))).is el
    have ml' : ∀ h ∈ l', h < s.length := fun h hh => ml h (sl.subset hh)
    have l6' : l'.length ≤ 6 := by have := sl.length_le; omega
    refine u_asgN (K := K) hcut fun l ys H9 nl e9 hl9 htl => ?_
    change tIfS _ _ _ _ [some v, some w, some u, some x3, some (.ref p), some x5, some x6, some (.ref l), none, a9, a10] H9
    have m9 := m8.ex e9
    have lp : l ≠ p := fun e => by
      obtain ⟨_, _, xs', h', _⟩ := m8
      rw [e, h'] at nl
      cases nl
    have hx69 := hx68.mono e9
    have hx59 := (hx57.mono e8).mono e9
    refine s_when (b := decide (((0 : Nat) : Int) < pick / ((3 : Nat) : Int) % ((4 : Nat) : Int))) (t_val (K := K) (g_gt (g_mod (g_fdiv (g_var rfl hx69) g_nat ⟨by decide, by decide⟩) g_nat (by decide)) g_nat)) (fun _ Ha ea => ?_) (fun _ Ha ea => ⟨t, some x5, some x6, some (.ref l), a9, a10, lt, rfl, m9.ex ea⟩)
    have ma := m9.ex ea
    have eba : Ex H2 Ha := ma.2.1
    have hx3a : Hold K Ha x3 (.s ((settingsN s).map dN)) := hx3.mono eba
    have hx5a := hx59.mono ea
    refine v_forS (K := K) (S := fun _ _ => True) (l := List.range (prodN s)) (g := Dt.nat) (fun _ j σ' H' => ∃ (t : List Bool) (a9 a10 : Option V), t.length = prodN s ∧ σ' = [some v, some w, some u, some x3, some (.ref p), some x5, some x6, some (.ref l), none, a9, a10] ∧ Ml K H2 H' p (t.map bitD) ∧ (H' l = some (.lst ys) ∧ Tps K H' ys (l'.map Dt.nat)) ∧ Tx K Ha H')
      (i_rng1 (g_lenR z (g_var rfl hx3a)) (by omega)) (fun H8 e8 => ⟨t, a9, a10, lt, rfl, ma.ex e8, ⟨e8 _ _ (ea _ _ hl9), (htl.mono ea).mono e8⟩, .of e8⟩) (fun _ _ _ _ _ _ => True.intro) ?_ ?_
    · rintro H8 j j' x9 σ' Hb Hc e8 hj ⟨t, a9, a10, lt, rfl, mb, ⟨hlb, htb⟩, txb⟩ ec hx9
      refine tgn ?_
      obtain ⟨jl, ej⟩ := List.getElem?_eq_some_iff.mp hj
      rw [List.getElem_range] at ej
      rw [List.length_range] at jl
      subst ej
      change tSeq _ _ _ [some v, some w, some u, some x3, some (.ref p), some x5, some x6, some (.ref l), none, some x9, a10] Hc
      have mc := mb.ex ec
      have ebc : Ex H2 Hc := mc.2.1
      have hac : Ex H Hc := eb2.trans ebc
      have hx9 : Hold K Hc x9 (.d (.nat j)) := hx9
      have hlc : Hold K Hc (.ref l) (sN l') := Hold.lst (ec _ _ hlb) (htb.mono ec)
      have hx3c : Hold K Hc x3 (.s ((settingsN s).map dN)) := hx3.mono ebc
      have hx5c : Hold K Hc x5 (.d (.nat k)) := Tp.tx (txb.trans (.of ec)) hx5a
      obtain ⟨x, ex, vx, px⟩ := row_ex z jl
      have h1c := h1.mono hac
      have h3c := h3.mono hac
      have hy := n_lcF (K := K) (σ := [some v, some w, some u, some x3, some (.ref p), some x5, some x6, some (.ref l), none, some x9, a10]) (H := Hc) (l := l') (g := Dt.nat) (vs := [8]) (m := 8)
        (tt := tB (xEq (xIxT K (xIxL K (tVar 3) (tVar 9)) (tVar 8)) (xAdd (xNat 1) (xMod (xIntOf (xFdiv (xIxL K (tVar 0) (xAdd (xAdd (xAdd (tVar 2) (xNat 5)) (xMul (xNat 6) (tVar 5))) (tVar 8))) (xNat 6))) (xNat 3))))) (te := xNat 1)
        (fun h => decide (gN x h = 1 + (iget r (st + 5 + 6 * k + h) / ((6 : Nat) : Int) % ((3 : Nat) : Int)).toNat)) (fun _ => Dt.int 1) (i_lstN (tl := tVar 7) (g_var rfl hlc)) (by omega) (fun x => rfl)
        (fun h hh y Hd ed hy => by
          have hs := ml' h hh
          have hy : Hold K Hd y (.d (.nat h)) := hy
          exact t_val (K := K) (g_eqN (g_ixTN (g_row (g_var rfl (hx3c.mono ed)) (g_var rfl (hx9.mono ed)) ex) (g_var rfl hy) (by rw [vx.1]; exact hs)) (g_addN g_nat (g_modI (g_fdiv (g_ixLI (r := r) (g_var rfl (h1c.mono ed)) (g_addN (g_addN (g_addN (g_var rfl (h3c.mono ed)) g_nat) (g_mulN g_nat (g_var rfl (hx5c.mono ed)) (by decide))) (g_var rfl hy)) (by omega)) g_nat ⟨by decide, by decide⟩) g_nat (by decide))))) (fun h hh y Hd ed hy _ => g_nat)
      have ey : ∀ c : Nat → Bool, ((l'.filter c).map fun _ => Dt.int 1) = ((l'.filter c).map fun _ => (1 : Int)).map Dt.int := fun c => by
        rw [List.map_map]
        rfl
      rw [ey] at hy
      generalize ((l'.filter fun h => decide (gN x h = 1 + (iget r (st + 5 + 6 * k + h) / ((6 : Nat) : Int) % ((3 : Nat) : Int)).toNat)).map fun _ => (1 : Int)) = ones at hy
      refine u_asg (K := K) (sh := .d (.int ones.sum)) (g_sum hy.g) fun x10 Hd ed hx10 => ?_
      change tIfS _ _ _ _ [some v, some w, some u, some x3, some (.ref p), some x5, some x6, some (.ref l), none, some x9, some x10] Hd
      have md := mc.ex ed
      have hld := hlc.mono ed
      refine s_when (b := decide (ones.sum = (l'.length : Int))) (t_val (K := K) (g_eq (g_var rfl hx10) (g_lenS (g_var rfl hld)))) (fun _ He ee => ?_) (fun _ He ee => ⟨t, some x9, some x10, lt, rfl, md.ex ee, ⟨ee _ _ (ed _ _ (ec _ _ hlb)), ((htb.mono ec).mono ed).mono ee⟩, txb.trans (.of (ec.trans (ed.trans ee)))⟩)
      have me := md.ex ee
      have hx9e := (hx9.mono ed).mono ee
      refine v_set (K := K) me (by rfl) (d := bitD (!tget t j)) (a := j) (g_notBit g_nat (g_ixLB (g_var rfl me.hold) (g_var rfl hx9e) (by omega))) (g_var rfl hx9e) (by rw [List.length_map]; omega) fun Hf mf xb tx => ⟨_, some x9, some x10, ?_, rfl, by rw [set_bit] at mf; exact mf, exb_keep xb tx lp (ee _ _ (ed _ _ (ec _ _ hlb))) (((htb.mono ec).mono ed).mono ee), txb.trans ((Tx.of (ec.trans (ed.trans ee))).trans tx)⟩
      rw [List.length_set]
      exact lt
    · rintro H8 σ' Hb e8 ⟨t, a9, a10, lt, rfl, mb, _, _⟩
      exact ⟨t, some x5, some x6, some (.ref l), a9, a10, lt, rfl, mb⟩
  · rintro H4 σ' H5 e4 ⟨t, a5, a6, a7, a9, a10, lt, rfl, m5⟩
    obtain ⟨n5, x5, xs5, h5, t5⟩ := (m5.base eb2)
    exact ⟨.ref p, rfl, q p xs5 t H5 lt x5 n5 h5 t5⟩
theorem pure_law_table (h : sp_law_table K vs H Q E) : t_law_table K (sp_law_settings K) (sp_law_summed K) (sp_law_by_terms K) { nx := fun _ H' => Q .non H', rt := Q } (start N_law_table vs) H := by
  obtain ⟨⟨r, s, st⟩, ⟨⟨r1, r2⟩, z, st1⟩, hv, q⟩ := h
  dsimp only at r1 r2 z st1 hv q
  obtain ⟨v, w, u, rfl, h1, h2, h3⟩ := h3_of hv
  change t_law_table K _ _ _ _ [some v, some w, some u, none, none, none, none] H
  have h1 : Hold K H v (sI r) := h1
  have h2 : Hold K H w (.d (dN s)) := h2
  have h3 : Hold K H u (.d (.nat st)) := h3
  unfold t_law_table
  have z6 := z.few
  have p64 := z.prod
  have p1 := prod_pos z.pos
  refine u_asg (K := K) (sh := .d (.nat (prodN s))) (g_lenR z (gc_lawsettings (by k_places) z)) fun x3 H1 e1 hx3 => ?_
  change tSeq _ _ _ [some v, some w, some u, some x3, none, none, none] H1
  refine u_asg (K := K) (sh := .d (.nat (iget r (st + 29) % ((8 : Nat) : Int)).toNat)) (g_modI (g_ixLI (r := r) (by k_places) (g_addN (by k_places) g_nat) (by omega)) g_nat (by decide)) fun x4 H2 e2 hx4 => ?_
  change tSeq _ _ _ [some v, some w, some u, some x3, some x4, none, none] H2
  generalize (iget r (st + 29) % ((8 : Nat) : Int)).toNat = mode at hx4
  have eb2 : Ex H H2 := by none_booked
  have hx32 := hx3.mono e2
  have h12 := h1.mono eb2
  have h22 := h2.mono eb2
  have h32 := h3.mono eb2
  refine u_cut (fun σ' H' => ∃ (t : List Bool) (p : Addr), t.length = prodN s ∧ σ' = [some v, some w, some u, some x3, some x4, some (.ref p), none] ∧ Ml K H2 H' p (t.map bitD)) ?_ fun kk => ?_
  rotate_left
  · refine s_if (b := decide (mode < 3)) (t_val (K := K) (g_ltN (g_var rfl hx4) g_nat)) (fun _ H3 e3 => ?_) fun _ H3 e3 => ?_
    · refine v_asgRN (K := K) (⟨r, s, st⟩ : Rt) (as_cons (g_var rfl (h12.mono e3)) (as_cons (g_var rfl (h22.mono e3)) (as_cons (g_var rfl (h32.mono e3)) as_nil))) ⟨⟨r1, r2⟩, z, st1⟩ fun p xs t H4 lt np e4 hp ht => kk _ _ ⟨t, p, lt, rfl, (Ml.new np e4 hp ht).base e3⟩
    · refine s_if (b := decide (mode < 6)) (t_val (K := K) (g_ltN (g_var rfl (hx4.mono e3)) g_nat)) (fun _ H4 e4 => ?_) fun _ H4 e4 => ?_
      · refine v_asgRN (K := K) (⟨r, s, st⟩ : Rt) (as_cons (g_var rfl (h12.mono (e3.trans e4))) (as_cons (g_var rfl (h22.mono (e3.trans e4))) (as_cons (g_var rfl (h32.mono (e3.trans e4))) as_nil))) ⟨⟨r1, r2⟩, z, st1⟩ fun p xs t H5 lt np e5 hp ht => kk _ _ ⟨t, p, lt, rfl, (Ml.new np e5 hp ht).base (e3.trans e4)⟩
      · have e24 := e3.trans e4
        refine s_if (b := decide (mode = 6)) (t_val (K := K) (g_eqN (g_var rfl (hx4.mono e24)) g_nat)) (fun _ H5 e5 => ?_) fun _ H5 e5 => ?_
        · have e25 := e24.trans e5
          have y := n_lc (K := K) (σ := [some v, some w, some u, some x3, some x4, none, none]) (H := H5) (wi := xRng1 (tVar 3)) (te := xMod (xIntOf (xFdiv (xIxL K (tVar 0) (xAdd (xAdd (tVar 2) (xNat 10)) (tVar 6))) (xNat 7))) (xNat 2)) (m := 6) (vs := [6]) (l := List.range (prodN s)) (g := Dt.nat) (fun h => bitD (decide (iget r (st + 10 + h) / ((7 : Nat) : Int) % 2 = 1))) (i_rng1 (g_var rfl (hx32.mono e25)) (by omega)) (by rw [List.length_range]; omega) (fun _ => rfl) fun h hh x H6 e6 hx => by
            have hs := List.mem_range.mp hh
            have hx : Hold K H6 x (.d (.nat h)) := hx
            exact g_bitI (g_fdiv (g_ixLI (r := r) (g_var rfl (h12.mono (e25.trans e6))) (g_addN (g_addN (g_var rfl (h32.mono (e25.trans e6))) g_nat) (g_var rfl hx)) (by omega)) g_nat ⟨by decide, by decide⟩) g_nat
          have ey : ((List.range (prodN s)).map fun h => bitD (decide (iget r (st + 10 + h) / ((7 : Nat) : Int) % 2 = 1))) = ((List.range (prodN s)).map fun h => decide (iget r (st + 10 + h) / ((7 : Nat) : Int) % 2 = 1)).map bitD := by
            rw [List.map_map]
            rfl
          rw [ey] at y
          exact v_asgN (K := K) y fun p xs H6 np e6 hp ht => kk _ _ ⟨_, p, by rw [List.length_map, List.length_range], rfl, (Ml.new np e6 hp ht).base e25⟩
        · have e25 := e24.trans e5
          refine v_asgN (K := K) (n_rep (a := prodN s) (d := bitD (decide (iget r st % 2 = 1))) (n_lst (as_cons (g_bitI (g_ixLI (r := r) (g_var rfl (h12.mono e25)) (g_var rfl (h32.mono e25)) (by omega)) g_nat) as_nil) (by show 1 ≤ 100000; decide)) (g_var rfl (hx32.mono e25)) (by omega)) fun p xs H6 np e6 hp ht => kk _ _ ⟨List.replicate (prodN s) (decide (iget r st % 2 = 1)), p, List.length_replicate, rfl, ?_⟩
          rw [List.map_replicate]
          exact (Ml.new np e6 hp ht).base e25
  rintro σ' H3 ⟨t, p, lt, rfl, m3⟩
  have eb3 : Ex H2 H3 := m3.2.1
  refine u_cut (fun σ' H' => ∃ (t : List Bool) (a6 : Option V), t.length = prodN s ∧ σ' = [some v, some w, some u, some x3, some x4, some (.ref p), a6] ∧ Ml K H2 H' p (t.map bitD)) ?_ fun kk => ?_
  rotate_left
  · refine s_when (b := decide (mode ∈ [2, 7])) (t_val (K := K) (g_inTN (g_var rfl (hx4.mono eb3)) (g_tup (ds := [2, 7].map Dt.nat) (as_cons g_nat (as_cons g_nat as_nil)) (by show 2 ≤ 100000; decide)))) (fun _ H4 e4 => ?_) (fun _ H4 e4 => kk _ _ ⟨t, none, lt, rfl, m3.ex e4⟩)
    have m4 := m3.ex e4
    have eb4 := eb3.trans e4
    have hk0 := Int.emod_nonneg (iget r (st + 28)) (b := (prodN s : Int)) (by omega)
    have hk1 := Int.emod_lt_of_pos (iget r (st + 28)) (b := (prodN s : Int)) (by omega)
    refine u_asg (K := K) (sh := .d (.nat (iget r (st + 28) % (prodN s : Int)).toNat)) (g_modI (g_ixLI (r := r) (g_var rfl (h12.mono eb4)) (g_addN (g_var rfl (h32.mono eb4)) g_nat) (by omega)) (g_var rfl (hx32.mono eb4)) p1) fun x6 H5 e5 hx6 => ?_
    have kl : (iget r (st + 28) % (prodN s : Int)).toNat < prodN s := by omega
    generalize (iget r (st + 28) % (prodN s : Int)).toNat = j at hx6 kl
    change sSet _ _ _ _ [some v, some w, some u, some x3, some x4, some (.ref p), some x6] H5
    have m5 := m4.ex e5
    refine v_set (K := K) m5 (by rfl) (d := bitD (!tget t j)) (a := j) (g_notBit g_nat (g_ixLB (g_var rfl m5.hold) (g_var rfl hx6) (by omega))) (g_var rfl hx6) (by rw [List.length_map]; omega) fun H6 m6 _ _ => kk _ _ ⟨t.set j (!tget t j), some x6, ?_, rfl, by rw [set_bit] at m6; exact m6⟩
    rw [List.length_set]
    exact lt
  rintro σ' H4 ⟨t, a6, lt, rfl, m4⟩
  have eb4 : Ex H H4 := eb2.trans m4.2.1
  exact v_ret (K := K) (sh := .d (dB t)) (g_tupOf (ds := t.map bitD) (g_var rfl m4.hold)) fun v' H5 e5 hv' => q v' t H5 lt (eb4.trans e5) hv'
end
section
variable {K : PySem.W.Frag} {vs : List V} {H : Hp} {Q : VK} {E : XK}
theorem pl_upA {s : List Nat} {f : Nat → Nat} {i a : Nat} (hi : i < s.length) (h : f i ≤ a) : pl s (up f i a) = pl s f + (a - f i) * sp s i := by
  have e := pl_up (f := f) (a := a) hi
  have e2 : (a - f i) * sp s i = a * sp s i - f i * sp s i := Nat.sub_mul _ _ _
  have e3 : f i * sp s i ≤ a * sp s i := Nat.mul_le_mul_right _ h
  omega
theorem row_f {s x : List Nat} {f : Nat → Nat} {k : Nat} (z : Sz s) (v : Vf s f) (e : pl s f = k) (hx : (settingsN s)[k]? = some x) : ∀ h, h < s.length → f h = gN x h := fun h hh => by
  have r := row_at z v
  rw [e, hx] at r
  have r := Option.some.inj r
  rw [r, toL_get hh]
def four4 (s : List Nat) (t : List Bool) (i j : Nat) (f : Nat → Nat) (a b : Nat) : Bool := xor4 (Tf s t f) (Tf s t (up f i a)) (Tf s t (up f j b)) (Tf s t (up (up f i a) j b))
theorem four4_congr {s : List Nat} {t : List Bool} {i j : Nat} {f g : Nat → Nat} {a b : Nat} (e : ∀ h, h < s.length → f h = g h) : four4 s t i j f a b = four4 s t i j g a b := by
  unfold four4
  rw [Tf_congr e, Tf_up_congr (i := i) (a := a) e, Tf_up_congr (i := j) (a := b) e]
  rw [Tf_congr (f := up (up f i a) j b) (g := up (up g i a) j b) fun h hh => by
    unfold up
    split
    · rfl
    · split
      · rfl
      · exact e h hh]
theorem four4_eq {s : List Nat} {t : List Bool} {i j : Nat} {f : Nat → Nat} {a b : Nat} (ne : i ≠ j) (hi : i < s.length) (hj : j < s.length) (ha : f i ≤ a) (hb : f j ≤ b) :
    xor4 (tget t (pl s f)) (tget t (pl s f + (a - f i) * sp s i)) (tget t (pl s f + (b - f j) * sp s j)) (tget t (pl s f + (a - f i) * sp s i + (b - f j) * sp s j)) = four4 s t i j f a b := by
  unfold four4 Tf
  rw [pl_upA hi ha, pl_upA hj hb, pl_upA (f := up f i a) hj (by rw [up_ne (Ne.symm ne)]; exact hb), up_ne (Ne.symm ne), pl_upA hi ha]
theorem pure_law_knit (h : sp_law_knit K vs H Q E) : t_law_knit K (sp_law_steps K) (sp_law_settings K) (sp_law_odd_sum K) { nx := fun _ H' => Q .non H', rt := Q } (start N_law_knit vs) H := by
  obtain ⟨⟨s, t, i, j⟩, ok, hv, q⟩ := h
  have z : Sz s := ok.sz
  have lt : t.length = prodN s := ok.tb
  have hi : i < s.length := ok.hi
  have hj : j < s.length := ok.hj
  have ne : i ≠ j := ok.ne
  dsimp only at hv q
  obtain ⟨v, w, x, y, rfl, h1, h2, h3, h4⟩ := h4_of hv
  change t_law_knit K _ _ _ _ [some v, some w, some x, some y, none, none, none, none, none, none] H
  have h1 : Hold K H v (.d (dN s)) := h1
  have h2 : Hold K H w (.d (dB t)) := h2
  have h3 : Hold K H x (.d (.nat i)) := h3
  have h4 : Hold K H y (.d (.nat j)) := h4
  unfold t_law_knit
  have z6 := z.few
  have p64 := z.prod
  have si := z.le hi
  have sj := z.le hj
  refine u_asg (K := K) (sh := sN (spansN s)) (gc_lawsteps (by k_places) z) fun x4 H1 e1 hx4 => ?_
  change tSeq _ _ _ [some v, some w, some x, some y, some x4, none, none, none, none, none] H1
  refine u_asg (K := K) (sh := .s ((settingsN s).map dN)) (gc_lawsettings (by k_places) z) fun x5 H2 e2 hx5 => ?_
  change tSeq _ _ _ [some v, some w, some x, some y, some x4, some x5, none, none, none, none] H2
  have eb2 : Ex H H2 := by none_booked
  have h12 := h1.mono eb2
  have h22 := h2.mono eb2
  have h32 := h3.mono eb2
  have h42 := h4.mono eb2
  have hx42 := hx4.mono e2
  refine u_for (K := K) (l := List.range (prodN s)) (g := Dt.nat) (fun k σ' => ∃ a6 a7 a8 a9, σ' = [some v, some w, some x, some y, some x4, some x5, a6, a7, a8, a9] ∧ ∀ f, Vf s f → pl s f < k → ∀ a b, f i < a → a < gN s i → f j < b → b < gN s j → four4 s t i j f a b = false)
    (i_rng1 (g_lenR z (g_var rfl hx5)) (by omega)) ⟨none, none, none, none, rfl, fun f vf hk => absurd hk (Nat.not_lt_zero _)⟩ ?_ ?_
  · rintro H3 k k' x6 σ' H4 e3 e4 hk ⟨a6, a7, a8, a9, rfl, ev⟩ hx6
    refine tgn ?_
    change tSeq _ _ _ [some v, some w, some x, some y, some x4, some x5, some x6, a7, a8, a9] H4
    obtain ⟨kl, ek⟩ := List.getElem?_eq_some_iff.mp hk
    rw [List.getElem_range] at ek
    rw [List.length_range] at kl
    subst ek
    have hx6 : Hold K H4 x6 (.d (.nat k)) := hx6
    have e24 := e3.trans e4
    obtain ⟨X, ex, vx, px⟩ := row_ex z kl
    have vf := vf_of vx
    have pk : pl s (gN X) = k := by rw [← place_pl vx.1]; exact px
    have xi := vx.2 i hi
    have xj := vx.2 j hj
    refine u_asg (K := K) (sh := .d (dN X)) (g_row (g_var rfl (hx5.mono e24)) (g_var rfl hx6) ex) fun x7 H5 e5 hx7 => ?_
    change tFor _ _ _ _ [some v, some w, some x, some y, some x4, some x5, some x6, some x7, a8, a9] H5
    have e25 := e24.trans e5
    have lx := vx.1
    refine v_for (K := K) (l := List.range (gN s i - (gN X i + 1))) (g := fun q => Dt.nat (gN X i + 1 + q))
      (fun m σ' => ∃ a8 a9, σ' = [some v, some w, some x, some y, some x4, some x5, some x6, some x7, a8, a9] ∧ ∀ a b, gN X i < a → a < gN X i + 1 + m → gN X j < b → b < gN s j → four4 s t i j (gN X) a b = false)
      (i_rng2 (g_addN (g_ixTN (g_var rfl hx7) (g_var rfl (h32.mono e25)) (by omega)) g_nat) (g_ixTN (g_var rfl (h12.mono e25)) (g_var rfl (h32.mono e25)) hi) ⟨by omega, by omega⟩) ⟨a8, a9, rfl, fun a b h1 h2 => absurd h2 (by omega)⟩ ?_ ?_
    · rintro H6 m a' x8 σ' H7 e6 e7 ha ⟨a8, a9, rfl, ev2⟩ hx8
      refine tgn ?_
      change tFor _ _ _ _ [some v, some w, some x, some y, some x4, some x5, some x6, some x7, some x8, a9] H7
      obtain ⟨ma, ea⟩ := List.getElem?_eq_some_iff.mp ha
      rw [List.getElem_range] at ea
      rw [List.length_range] at ma
      subst ea
      have hx8 : Hold K H7 x8 (.d (.nat (gN X i + 1 + m))) := hx8
      have e57 := e6.trans e7
      have e27 := e25.trans e57
      refine v_for (K := K) (l := List.range (gN s j - (gN X j + 1))) (g := fun q => Dt.nat (gN X j + 1 + q))
        (fun n σ' => ∃ a9, σ' = [some v, some w, some x, some y, some x4, some x5, some x6, some x7, some x8, a9] ∧ ∀ b, gN X j < b → b < gN X j + 1 + n → four4 s t i j (gN X) (gN X i + 1 + m) b = false)
        (i_rng2 (g_addN (g_ixTN (g_var rfl (hx7.mono e57)) (g_var rfl (h42.mono e27)) (by omega)) g_nat) (g_ixTN (g_var rfl (h12.mono e27)) (g_var rfl (h42.mono e27)) hj) ⟨by omega, by omega⟩) ⟨a9, rfl, fun b h1 h2 => absurd h2 (by omega)⟩ ?_ ?_
      · rintro H8 n b' x9 σ' H9 e8 e9 hb ⟨a9, rfl, ev3⟩ hx9
        refine tgn ?_
        change tIfS _ _ _ _ [some v, some w, some x, some y, some x4, some x5, some x6, some x7, some x8, some x9] H9
        obtain ⟨mb, eb⟩ := List.getElem?_eq_some_iff.mp hb
        rw [List.getElem_range] at eb
        rw [List.length_range] at mb
        subst eb
        have hx9 : Hold K H9 x9 (.d (.nat (gN X j + 1 + n))) := hx9
        have e79 := e8.trans e9
        have e29 := e27.trans e79
        have e59 := e57.trans e79
        have fe := four4_eq (t := t) (f := gN X) (a := gN X i + 1 + m) (b := gN X j + 1 + n) ne hi hj (by omega) (by omega)
        have l3 := pl_lt ((vf.up (i := i) (a := gN X i + 1 + m) (by omega)).up (i := j) (a := gN X j + 1 + n) (by omega))
        rw [pl_upA (f := up (gN X) i (gN X i + 1 + m)) hj (by rw [up_ne (Ne.symm ne)]; omega), up_ne (Ne.symm ne), pl_upA hi (by omega)] at l3
        rw [pk] at fe l3
        rw [← lt] at l3
        refine s_when (b := four4 s t i j (gN X) (gN X i + 1 + m) (gN X j + 1 + n)) (t_val (K := K) ((gc_oddsum (t := t) (p := k) (a := (gN X i + 1 + m - gN X i) * sp s i) (b := (gN X j + 1 + n - gN X j) * sp s j) (as_cons (g_var rfl (h22.mono e29)) (as_cons (g_var rfl ((hx6.mono e5).mono e59)) (as_cons
          (g_mulN (g_subN (g_var rfl (hx8.mono e79)) (g_ixTN (g_var rfl (hx7.mono e59)) (g_var rfl (h32.mono e29)) (by omega)) (by omega)) (g_sp (g_var rfl (hx42.mono e29)) (g_var rfl (h32.mono e29)) hi) (by omega))
          (as_cons (g_mulN (g_subN (g_var rfl hx9) (g_ixTN (g_var rfl (hx7.mono e59)) (g_var rfl (h42.mono e29)) (by omega)) (by omega)) (g_sp (g_var rfl (hx42.mono e29)) (g_var rfl (h42.mono e29)) hj) (by omega)) as_nil)))) l3).isB fe)) (fun odd H10 e10 => ?_) (fun even H10 e10 => ⟨by none_booked, some x9, rfl, ?_⟩)
        · have kp : KnitP s t i j := ⟨gN X, gN X i + 1 + m, gN X j + 1 + n, vf, by omega, by omega, odd⟩
          refine v_ret (K := K) (sh := .d (.bl true)) g_bl fun v' H11 e11 hv' => ?_
          rw [knitB_t kp] at q
          exact q v' H11 (by none_booked) hv'
        · intro b hb1 hb2
          by_cases e : b = gN X j + 1 + n
          · rw [e]
            exact even
          · exact ev3 b hb1 (by omega)
      · rintro σ' H8 e8 ⟨a9, rfl, ev3⟩
        rw [List.length_range] at ev3
        refine ⟨by none_booked, some x8, a9, rfl, fun a b ha1 ha2 hb1 hb2 => ?_⟩
        by_cases e : a = gN X i + 1 + m
        · rw [e]
          exact ev3 b hb1 (by omega)
        · exact ev2 a b ha1 (by omega) hb1 hb2
    · rintro σ' H6 e6 ⟨a8, a9, rfl, ev2⟩
      rw [List.length_range] at ev2
      refine ⟨e4.trans (e5.trans e6), some x6, some x7, a8, a9, rfl, fun f vf' hf a b ha1 ha2 hb1 hb2 => ?_⟩
      by_cases e : pl s f = k
      · have ef := row_f z vf' e ex
        have fi := ef i hi
        have fj := ef j hj
        rw [four4_congr ef]
        exact ev2 a b (by omega) (by omega) (by omega) hb2
      · exact ev f vf' (by omega) a b ha1 ha2 hb1 hb2
  · rintro σ' H3 e3 ⟨a6, a7, a8, a9, rfl, ev⟩
    rw [List.length_range] at ev
    have nk : ¬ KnitP s t i j := not_knit ne hi hj (z.at hi) (z.at hj) fun f a b vf f1 f2 ha1 ha2 hb1 hb2 => ev f vf (pl_lt vf) a b (by omega) ha2 (by omega) hb2
    rw [knitB_f nk] at q
    exact v_ret (K := K) (sh := .d (.bl false)) g_bl fun v' H4 e4 hv' => q v' H4 (by none_booked) hv'
end
section
variable {K : PySem.W.Frag} {vs : List V} {H : Hp} {Q : VK} {E : XK}
def seam4 (s : List Nat) (t : List Bool) (l : List Nat) (f : Nat → Nat) : Bool := xor4 (Tf s t f) (Tf s t (maskL l f)) (Tf s t (maskR l f)) (Tf s t fun _ => 0)
theorem seam4_congr {s l : List Nat} {t : List Bool} {f g : Nat → Nat} (e : ∀ h, h < s.length → f h = g h) : seam4 s t l f = seam4 s t l g := by
  unfold seam4
  rw [Tf_congr e, Tf_congr (f := maskL l f) (g := maskL l g) fun h hh => by
    unfold maskL
    split
    · exact e h hh
    · rfl]
  rw [Tf_congr (f := maskR l f) (g := maskR l g) fun h hh => by
    unfold maskR
    split
    · rfl
    · exact e h hh]
theorem pure_law_seam (h : sp_law_seam K vs H Q E) : t_law_seam K (sp_law_steps K) (sp_law_settings K) (sp_law_on_T K) { nx := fun _ H' => Q .non H', rt := Q } (start N_law_seam vs) H := by
  obtain ⟨⟨s, t, l⟩, ⟨z, lt, hl⟩, hv, q⟩ := h
  dsimp only at z lt hl hv q
  obtain ⟨v, w, x, rfl, h1, h2, h3⟩ := h3_of hv
  change t_law_seam K _ _ _ _ [some v, some w, some x, none, none, none, none] H
  have h1 : Hold K H v (.d (dN s)) := h1
  have h2 : Hold K H w (.d (dB t)) := h2
  have h3 : Hold K H x (.d (dN l)) := h3
  have lt : t.length = prodN s := lt
  unfold t_law_seam
  have z6 := z.few
  have p64 := z.prod
  have p1 := prod_pos z.pos
  have nd := hl.nodup
  have ll := hl.len
  refine u_asg (K := K) (sh := sN (spansN s)) (gc_lawsteps (by k_places) z) fun x3 H1 e1 hx3 => ?_
  change tSeq _ _ _ [some v, some w, some x, some x3, none, none, none] H1
  refine u_asg (K := K) (sh := .s ((settingsN s).map dN)) (gc_lawsettings (by k_places) z) fun x4 H2 e2 hx4 => ?_
  change tSeq _ _ _ [some v, some w, some x, some x3, some x4, none, none] H2
  have eb2 : Ex H H2 := by none_booked
  have h12 := h1.mono eb2
  have h22 := h2.mono eb2
  have h32 := h3.mono eb2
  have hx32 := hx3.mono e2
  refine u_for (K := K) (l := List.range (prodN s)) (g := Dt.nat) (fun k σ' => ∃ a5 a6, σ' = [some v, some w, some x, some x3, some x4, a5, a6] ∧ ∀ f, Vf s f → pl s f < k → seam4 s t l f = false)
    (i_rng1 (g_lenR z (g_var rfl hx4)) (by omega)) ⟨none, none, rfl, fun f vf hk => absurd hk (Nat.not_lt_zero _)⟩ ?_ ?_
  · rintro H3 k k' x5 σ' H4 e3 e4 hk ⟨a5, a6, rfl, ev⟩ hx5
    refine tgn ?_
    change tSeq _ _ _ [some v, some w, some x, some x3, some x4, some x5, a6] H4
    obtain ⟨kl, ek⟩ := List.getElem?_eq_some_iff.mp hk
    rw [List.getElem_range] at ek
    rw [List.length_range] at kl
    subst ek
    have hx5 : Hold K H4 x5 (.d (.nat k)) := hx5
    have e24 := e3.trans e4
    obtain ⟨X, ex, vx, px⟩ := row_ex z kl
    have vf := vf_of vx
    have pk : pl s (gN X) = k := by rw [← place_pl vx.1]; exact px
    have pm := pl_mask (s := s) (L := l) (f := gN X)
    have on := on_pl (x := X) nd hl.2
    have lL := pl_lt (vf.maskL (L := l) z)
    have lR := pl_lt (vf.maskR (L := l) z)
    refine u_asg (K := K) (sh := .d (.nat (pl s (maskL l (gN X))))) (by
      rw [← on]
      exact gc_onT (as_cons (g_var rfl (h12.mono e24)) (as_cons (g_var rfl (hx32.mono e24)) (as_cons (g_var rfl (h32.mono e24)) (as_cons (g_row (g_var rfl (hx4.mono e24)) (g_var rfl hx5) ex) as_nil)))) ⟨z, vx, hl.2, by show l.length ≤ 6; omega⟩) fun x6 H5 e5 hx6 => ?_
    change tIfS _ _ _ _ [some v, some w, some x, some x3, some x4, some x5, some x6] H5
    have e25 := e24.trans e5
    have h25 := h22.mono e25
    have hx55 := hx5.mono e5
    have i1 : EvG K (xIxT K (tVar 1) (tVar 5)) [some v, some w, some x, some x3, some x4, some x5, some x6] H5 (.d (bitD (Tf s t (gN X)))) := by
      unfold Tf
      rw [pk]
      exact g_ixTB (g_var rfl h25) (g_var rfl hx55) (by omega)
    have i2 : EvG K (xIxT K (tVar 1) (tVar 6)) [some v, some w, some x, some x3, some x4, some x5, some x6] H5 (.d (bitD (Tf s t (maskL l (gN X))))) := g_ixTB (g_var rfl h25) (g_var rfl hx6) (by omega)
    have i3 : EvG K (xIxT K (tVar 1) (xSub (tVar 5) (tVar 6))) [some v, some w, some x, some x3, some x4, some x5, some x6] H5 (.d (bitD (Tf s t (maskR l (gN X))))) := by
      have e : pl s (maskR l (gN X)) = k - pl s (maskL l (gN X)) := by omega
      unfold Tf
      rw [e]
      exact g_ixTB (g_var rfl h25) (g_subN (g_var rfl hx55) (g_var rfl hx6) (by omega)) (by omega)
    have i4 : EvG K (xIxT K (tVar 1) (xNat 0)) [some v, some w, some x, some x3, some x4, some x5, some x6] H5 (.d (bitD (Tf s t fun _ => 0))) := by
      unfold Tf
      rw [pl_nil]
      exact g_ixTB (g_var rfl h25) g_nat (by omega)
    refine s_when (b := seam4 s t l (gN X)) (t_val (K := K) ((g_eqN (g_modN (g_addN (g_addN (g_addN i1 i2) i3) i4) g_nat (by decide)) g_nat).isB (parity _ _ _ _))) (fun odd H6 e6 => ?_) (fun even H6 e6 => ⟨e4.trans (e5.trans e6), some x5, some x6, rfl, fun f vf' hf => ?_⟩)
    · have ns : ¬ SeamP s t l := fun sm => by
        have e : seam4 s t l (gN X) = false := sm (gN X) vf
        rw [e] at odd
        cases odd
      refine v_ret (K := K) (sh := .d (.bl false)) g_bl fun v' H7 e7 hv' => ?_
      rw [seamB_f ns] at q
      exact q v' H7 (eb2.trans (e25.trans (e6.trans e7))) hv'
    · by_cases e : pl s f = k
      · rw [seam4_congr (row_f z vf' e ex)]
        exact even
      · exact ev f vf' (by omega)
  · rintro σ' H3 e3 ⟨a5, a6, rfl, ev⟩
    rw [List.length_range] at ev
    have sm : SeamP s t l := fun f vf => ev f vf (pl_lt vf)
    rw [seamB_t sm] at q
    exact v_ret (K := K) (sh := .d (.bl true)) g_bl fun v' H4 e4 hv' => q v' H4 (by none_booked) hv'
def rowAt (s : List Nat) (k : Nat) : List Nat := (settingsN s).getD k []
def idleC (s : List Nat) (t : List Bool) (h k : Nat) : Bool := tget t k != tget t (k - gN (rowAt s k) h * sp s h)
theorem rowAt_eq {s x : List Nat} {k : Nat} (hx : (settingsN s)[k]? = some x) : rowAt s k = x := by
  unfold rowAt
  rw [List.getD_eq_getElem?_getD, hx]
  rfl
theorem ones_sum {α : Type} : ∀ l : List α, (l.map fun _ => (1 : Int)).sum = (l.length : Int)
  | [] => rfl
  | a :: l => by
    rw [List.map_cons, List.sum_cons, ones_sum l, List.length_cons]
    omega
theorem idleC_iff {s : List Nat} {t : List Bool} {h : Nat} (z : Sz s) (hh : h < s.length) : decide ((((List.range (prodN s)).filter (idleC s t h)).map fun _ => (1 : Int)).sum = ((0 : Nat) : Int)) = idleB s t h := by
  rw [ones_sum]
  by_cases e : ((List.range (prodN s)).filter (idleC s t h)).length = 0
  · rw [e, decide_eq_true rfl]
    have en := List.filter_eq_nil_iff.mp (List.length_eq_zero_iff.mp e)
    refine (idleB_t (idle_of hh (z.at hh) fun f a vf f0 a1 a2 => ?_)).symm
    have vg := vf.up (i := h) (a := a) a2
    have c := en (pl s (up f h a)) (List.mem_range.mpr (pl_lt vg))
    unfold idleC at c
    rw [rowAt_eq (row_at z vg), toL_get hh, up_at, pl_up0 hh f0, Nat.add_sub_cancel] at c
    unfold Tf
    rw [pl_up0 hh f0]
    revert c
    cases tget t (pl s f + a * sp s h) <;> cases tget t (pl s f) <;> decide
  · rw [decide_eq_false (by omega)]
    refine (idleB_f fun id => e ?_).symm
    rw [List.length_eq_zero_iff]
    refine List.filter_eq_nil_iff.mpr fun k hk => ?_
    obtain ⟨x, ex, vx, px⟩ := row_ex z (List.mem_range.mp hk)
    have pk : pl s (gN x) = k := by rw [← place_pl vx.1]; exact px
    have i := id (gN x) 0 (vf_of vx) (z.at hh)
    have pu := pl_up (s := s) (f := gN x) (a := 0) hh
    unfold Tf at i
    unfold idleC
    rw [rowAt_eq ex]
    have e2 : pl s (up (gN x) h 0) = k - gN x h * sp s h := by omega
    rw [e2, pk] at i
    rw [i]
    cases tget t k <;> decide
theorem pure_law_idle (h : sp_law_idle K vs H Q E) : t_law_idle K (sp_law_steps K) (sp_law_settings K) { nx := fun _ H' => Q .non H', rt := Q } (start N_law_idle vs) H := by
  obtain ⟨⟨s, t⟩, ⟨z, lt⟩, hv, q⟩ := h
  dsimp only at z lt hv q
  obtain ⟨v, w, rfl, h1, h2⟩ := h2_of hv
  change t_law_idle K _ _ _ [some v, some w, none, none, none, none, none] H
  have h1 : Hold K H v (.d (dN s)) := h1
  have h2 : Hold K H w (.d (dB t)) := h2
  have lt : t.length = prodN s := lt
  unfold t_law_idle
  have z6 := z.few
  have p64 := z.prod
  refine u_asg (K := K) (sh := sN (spansN s)) (gc_lawsteps (by k_places) z) fun x2 H1 e1 hx2 => ?_
  change tSeq _ _ _ [some v, some w, some x2, none, none, none, none] H1
  refine u_asg (K := K) (sh := .s ((settingsN s).map dN)) (gc_lawsettings (by k_places) z) fun x3 H2 e2 hx3 => ?_
  change tSeq _ _ _ [some v, some w, some x2, some x3, none, none, none] H2
  have eb2 : Ex H H2 := by none_booked
  have h12 := h1.mono eb2
  have h22 := h2.mono eb2
  have hx22 := hx2.mono e2
  refine u_asgN (K := K) (n_lst (ds := []) as_nil) fun p xs H3 np e3 hp htp => ?_
  change tSeq _ _ _ [some v, some w, some x2, some x3, some (.ref p), none, none] H3
  have m0 : Ml K H2 H3 p (((List.range 0).filter (idleB s t)).map Dt.nat) := Ml.new np e3 hp htp
  refine u_forS (K := K) (S := fun _ _ => True) (l := List.range s.length) (g := Dt.nat) (fun _ k σ' H' => ∃ a5, σ' = [some v, some w, some x2, some x3, some (.ref p), a5, none] ∧ Ml K H2 H' p (((List.range k).filter (idleB s t)).map Dt.nat))
    (i_rng1 (g_lenN (g_var rfl (h12.mono e3))) (by omega)) (fun H4 e4 => ⟨none, rfl, m0.ex e4⟩) (fun _ _ _ _ _ _ => True.intro) ?_ ?_
  · rintro H4 k k' x5 σ' H5 H6 e4 hk ⟨a5, rfl, m5⟩ e6 hx5
    refine tgn ?_
    change tIfS _ _ _ _ [some v, some w, some x2, some x3, some (.ref p), some x5, none] H6
    obtain ⟨kl, ek⟩ := List.getElem?_eq_some_iff.mp hk
    rw [List.getElem_range] at ek
    rw [List.length_range] at kl
    subst ek
    have hx5 : Hold K H6 x5 (.d (.nat k)) := hx5
    have m6 := m5.ex e6
    have e26 := m6.2.1
    have h16 := h12.mono e26
    have h26 := h22.mono e26
    have hx26 := hx22.mono e26
    have hx36 : Hold K H6 x3 (.s ((settingsN s).map dN)) := hx3.mono e26
    have y := n_lcF (K := K) (σ := [some v, some w, some x2, some x3, some (.ref p), some x5, none]) (H := H6) (wi := xRng1 (xLen K (tVar 3))) (m := 6) (vs := [6]) (l := List.range (prodN s)) (g := Dt.nat)
      (tt := tB (xNe (xIxT K (tVar 1) (tVar 6)) (xIxT K (tVar 1) (xSub (tVar 6) (xMul (xIxT K (xIxL K (tVar 3) (tVar 6)) (tVar 5)) (xIxL K (tVar 2) (tVar 5))))))) (te := xNat 1)
      (idleC s t k) (fun _ => Dt.int 1) (i_rng1 (g_lenR z (g_var rfl hx36)) (by omega)) (by rw [List.length_range]; omega) (fun _ => rfl)
      (fun a ha x H7 e7 hx => by
        have al := List.mem_range.mp ha
        have hx : Hold K H7 x (.d (.nat a)) := hx
        obtain ⟨X, ex, vx, px⟩ := row_ex z al
        have pk : pl s (gN X) = a := by rw [← place_pl vx.1]; exact px
        have pu := pl_up (s := s) (f := gN X) (a := 0) kl
        have xk := vx.2 k kl
        have sk := z.le kl
        have lx := vx.1
        unfold idleC
        rw [rowAt_eq ex]
        exact t_val (K := K) (g_neBit (g_ixTB (g_var rfl (h26.mono e7)) (g_var rfl hx) (by omega)) (g_ixTB (g_var rfl (h26.mono e7)) (g_subN (g_var rfl hx) (g_mulN (g_ixTN (g_row (g_var rfl (hx36.mono e7)) (g_var rfl hx) ex) (g_var rfl (hx5.mono e7)) (by omega)) (g_sp (g_var rfl (hx26.mono e7)) (g_var rfl (hx5.mono e7)) kl) (by omega)) (by omega)) (by omega)))) (fun a ha x H7 e7 hx _ => g_nat)
    have ey : (((List.range (prodN s)).filter (idleC s t k)).map fun _ => Dt.int 1) = (((List.range (prodN s)).filter (idleC s t k)).map fun _ => (1 : Int)).map Dt.int := by
      rw [List.map_map]
      rfl
    rw [ey] at y
    refine s_when (b := idleB s t k) (t_val (K := K) ((g_eq (g_sum y.g) g_nat).isB (idleC_iff z kl))) (fun yes H7 e7 => ?_) (fun no H7 e7 => ⟨some x5, rfl, ?_⟩)
    · refine v_app (K := K) (d := .nat k) (m6.ex e7) (by rfl) (g_var rfl (hx5.mono e7)) ?_ fun H8 m8 _ _ => ⟨some x5, rfl, ?_⟩
      · rw [List.length_map]
        have := List.length_filter_le (idleB s t) (List.range k)
        rw [List.length_range] at this
        omega
      · rw [filter_snoc, if_pos yes, List.map_append]
        exact m8
    · rw [filter_snoc, if_neg (by rw [no]; exact Bool.false_ne_true), List.append_nil]
      exact m6.ex e7
  · rintro H4 σ' H5 e4 ⟨a5, rfl, m5⟩
    rw [List.length_range] at m5
    have eb5 : Ex H H5 := eb2.trans m5.2.1
    exact v_ret (K := K) (sh := .d (dN (idleN s t))) (g_tupOf (ds := (idleN s t).map Dt.nat) (g_var rfl m5.hold)) fun v' H6 e6 hv' => q v' H6 (eb5.trans e6) hv'
end
section
variable {K : PySem.W.Frag} {vs : List V} {H : Hp} {Q : VK} {E : XK}
theorem set_up {s : List Nat} {f : Nat → Nat} {i a : Nat} (hi : i < s.length) : (toL s f).set i a = toL s (up f i a) := by
  apply List.ext_getElem?
  intro h
  by_cases hh : h < s.length
  · have l1 : h < ((toL s f).set i a).length := by rw [List.length_set, toL_len]; exact hh
    have l2 : h < (toL s (up f i a)).length := by rw [toL_len]; exact hh
    rw [gN_lt l1, gN_lt l2, gN_set (by rw [toL_len]; exact hi), toL_get hh, toL_get hh]
    rfl
  · rw [List.getElem?_eq_none (by rw [List.length_set, toL_len]; omega), List.getElem?_eq_none (by rw [toL_len]; omega)]
theorem dd3_nat {n : Nat} : Dd 3 (.nat n) := True.intro
theorem dd3_bl {b : Bool} : Dd 3 (.bl b) := True.intro
theorem dd3_N {l : List Nat} (h : l.length ≤ 100000) : Dd 3 (dN l) := ⟨by rw [List.length_map]; exact h, fun d hd => by
  obtain ⟨n, _, rfl⟩ := List.mem_map.mp hd
  exact True.intro⟩
theorem dd2_N {l : List Nat} (h : l.length ≤ 100000) : Dd 2 (dN l) := ⟨by rw [List.length_map]; exact h, fun d hd => by
  obtain ⟨n, _, rfl⟩ := List.mem_map.mp hd
  exact True.intro⟩
theorem dd3_P {ps : List (Nat × Nat)} (h : ps.length ≤ 100000) : Dd 3 (dP ps) := ⟨by rw [List.length_map]; exact h, fun d hd => by
  obtain ⟨p, _, rfl⟩ := List.mem_map.mp hd
  refine ⟨by show 2 ≤ 100000; decide, fun d hd => ?_⟩
  rcases List.mem_cons.mp hd with rfl | hd
  · exact True.intro
  · rw [List.mem_singleton.mp hd]
    exact True.intro⟩
theorem dd3_C {cs : List (List Nat)} (h : cs.length ≤ 100000) (h2 : ∀ c ∈ cs, c.length ≤ 100000) : Dd 3 (dC cs) := ⟨by rw [List.length_map]; exact h, fun d hd => by
  obtain ⟨c, hc, rfl⟩ := List.mem_map.mp hd
  exact dd2_N (h2 c hc)⟩
theorem classes_len {n : Nat} {ps : List (Nat × Nat)} (h6 : n ≤ 6) : (classesN n ps).length ≤ 100000 ∧ ∀ c ∈ classesN n ps, c.length ≤ 100000 := by
  unfold classesN
  refine ⟨?_, fun c hc => ?_⟩
  · rw [List.length_map]
    have := List.length_filter_le (fun c => decide (c ∈ marksN n ps)) (List.range n)
    rw [List.length_range] at this
    omega
  · obtain ⟨a, _, rfl⟩ := List.mem_map.mp hc
    have := List.length_filter_le (fun h => decide (gN (marksN n ps) h = a)) (List.range n)
    rw [List.length_range] at this
    unfold membersN
    omega
theorem idle_len {s : List Nat} {t : List Bool} (h6 : s.length ≤ 6) : (idleN s t).length ≤ 100000 := by
  have := List.length_filter_le (idleB s t) (List.range s.length)
  rw [List.length_range] at this
  unfold idleN
  omega
theorem kitTT : kitB "tuple" "tuple" = some true := by decide +kernel
theorem kitII : kitB "int" "int" = some true := by decide +kernel
theorem kitIB : kitB "int" "bool" = some false := by decide +kernel
theorem pure_law_four_right (h : sp_law_four_right K vs H Q E) : t_law_four_right K (sp_law_same K 3) (sp_law_steps K) (sp_law_on_L K) (sp_law_odd_sum K) (sp_is_odd K) { nx := fun _ H' => Q .non H', rt := Q } (start N_law_four_right vs) H := by
  obtain ⟨⟨⟨s, t, i, j⟩, ⟨p, a, b⟩⟩, ⟨ok, f, vf, f1, f2, fp, a1, a2, b1, b2, odd⟩, hv, q⟩ := h
  have z : Sz s := ok.sz
  have lt : t.length = prodN s := ok.tb
  have hi : i < s.length := ok.hi
  have hj : j < s.length := ok.hj
  have ne : i ≠ j := ok.ne
  dsimp only at f1 f2 fp a2 b2 vf odd hv q
  obtain ⟨v, w, x, y, u, rfl, h1, h2, h3, h4, h5⟩ := h5_of hv
  change t_law_four_right K _ _ _ _ _ _ [some v, some w, some x, some y, some u, none, none, none, none, none, none, none] H
  have h1 : Hold K H v (.d (dN s)) := h1
  have h2 : Hold K H w (.d (dB t)) := h2
  have h3 : Hold K H x (.d (.nat i)) := h3
  have h4 : Hold K H y (.d (.nat j)) := h4
  have es : settingN s p = toL s f := by rw [← fp]; exact settingN_eq z vf
  have h5 : Hold K H u (.d (.tup [dN (toL s f), .nat i, .nat a, .nat j, .nat b])) := by rw [← es]; exact h5
  obtain ⟨X, eX⟩ : ∃ X, X = toL s f := ⟨_, rfl⟩
  have vX : VS s X := by rw [eX]; exact toL_vs vf
  have gX : ∀ h, h < s.length → gN X h = f h := fun h hh => by rw [eX, toL_get hh]
  have pX : placeN s X = p := by rw [eX, toL_pl]; exact fp
  have lX := vX.1
  have Xi : gN X i = 0 := by rw [gX i hi]; exact f1
  have Xj : gN X j = 0 := by rw [gX j hj]; exact f2
  rw [← eX] at h5
  have si := z.le hi
  have sj := z.le hj
  have z6 := z.few
  have hf := four4_eq (t := t) (f := f) (a := a) (b := b) ne hi hj (by omega) (by omega)
  rw [f1, f2, Nat.sub_zero, Nat.sub_zero, fp] at hf
  have hodd : four4 s t i j f a b = true := odd
  have l3 := pl_lt ((vf.up (i := i) (a := a) a2).up (i := j) (a := b) b2)
  rw [pl_up0 hj (show up f i a j = 0 by rw [up_ne (Ne.symm ne)]; exact f2), pl_up0 hi f1, fp, ← lt] at l3
  unfold t_law_four_right
  have T0 : ∀ {σ : L2.St} {H' : Hp}, Ex H H' → σ[4]? = some (some u) → EvG K (xIxT K (tVar 4) (xNat 0)) σ H' (.d (dN X)) := fun e hs => g_ixT (g_var hs (h5.mono e)) g_nat rfl
  have T1 : ∀ {σ : L2.St} {H' : Hp}, Ex H H' → σ[4]? = some (some u) → EvG K (xIxT K (tVar 4) (xNat 1)) σ H' (.d (.nat i)) := fun e hs => g_ixT (g_var hs (h5.mono e)) g_nat rfl
  have T2 : ∀ {σ : L2.St} {H' : Hp}, Ex H H' → σ[4]? = some (some u) → EvG K (xIxT K (tVar 4) (xNat 2)) σ H' (.d (.nat a)) := fun e hs => g_ixT (g_var hs (h5.mono e)) g_nat rfl
  have T3 : ∀ {σ : L2.St} {H' : Hp}, Ex H H' → σ[4]? = some (some u) → EvG K (xIxT K (tVar 4) (xNat 3)) σ H' (.d (.nat j)) := fun e hs => g_ixT (g_var hs (h5.mono e)) g_nat rfl
  have T4 : ∀ {σ : L2.St} {H' : Hp}, Ex H H' → σ[4]? = some (some u) → EvG K (xIxT K (tVar 4) (xNat 4)) σ H' (.d (.nat b)) := fun e hs => g_ixT (g_var hs (h5.mono e)) g_nat rfl
  have r0 := Ex.refl H
  refine q_when (b := false) (et_or (a := false) (b := false) (et_not (a := true) (t_val (K := K) (g_isi (g_var rfl h5) kitTT))) fun _ => et_or (a := false) (b := false) (t_val (K := K) ((g_neN (g_lenT (g_var rfl h5)) g_nat).isB (by rfl))) fun _ => et_or (a := false) (b := false) (et_not (a := true) (t_val (K := K) (g_isi (T0 r0 rfl) kitTT))) fun _ =>
    t_val (K := K) ((g_neN (g_lenN (T0 r0 rfl)) (g_lenN (g_var rfl h1))).isB (by rw [lX]; simp))) (fun b => Bool.noConfusion b) fun _ H1 e1 => ?_
  refine q_when (b := false) (et_or (a := false) (b := false) (et_not (a := true) (t_val (K := K) (gc_same (n := 2) (d := .nat i) (as_cons (T1 e1 rfl) (as_cons (g_var rfl (h3.mono e1)) as_nil)) dd3_nat))) fun _ => et_not (a := true) (t_val (K := K) (gc_same (n := 2) (d := .nat j) (as_cons (T3 e1 rfl) (as_cons (g_var rfl (h4.mono e1)) as_nil)) dd3_nat))) (fun b => Bool.noConfusion b) fun _ H2 e2 => ?_
  have e02 := e1.trans e2
  refine u_for (K := K) (l := List.range s.length) (g := Dt.nat) (fun k σ' => ∃ a5 a6, σ' = [some v, some w, some x, some y, some u, a5, a6, none, none, none, none, none]) (i_rng1 (g_lenN (g_var rfl (h1.mono e02))) (by omega)) ⟨none, none, rfl⟩ ?_ ?_
  · rintro H3 k k' x5 σ' H4 e3 e4 hk ⟨a5, a6, rfl⟩ hx5
    refine tgn ?_
    change tSeq _ _ _ [some v, some w, some x, some y, some u, some x5, a6, none, none, none, none, none] H4
    obtain ⟨kl, ek⟩ := List.getElem?_eq_some_iff.mp hk
    rw [List.getElem_range] at ek
    rw [List.length_range] at kl
    subst ek
    have hx5 : Hold K H4 x5 (.d (.nat k)) := hx5
    have e04 := e02.trans (e3.trans e4)
    have vk := vX.2 k kl
    refine u_asg (K := K) (sh := .d (.nat (gN X k))) (g_ixTN (T0 e04 rfl) (g_var rfl hx5) (by omega)) fun x6 H5 e5 hx6 => ?_
    change tIfS _ _ _ _ [some v, some w, some x, some y, some u, some x5, some x6, none, none, none, none, none] H5
    exact s_when (b := false) (et_or (a := false) (b := false) (et_not (a := true) (t_val (K := K) (g_isi (g_var rfl hx6) kitII))) fun _ => et_or (a := false) (b := false) (t_val (K := K) (g_isi (g_var rfl hx6) kitIB)) fun _ => et_or (a := false) (b := false) (t_val (K := K) ((g_ltN (g_var rfl hx6) g_nat).isB (by simp))) fun _ =>
      t_val (K := K) ((g_geN (g_var rfl hx6) (g_ixTN (g_var rfl (h1.mono (e04.trans e5))) (g_var rfl (hx5.mono e5)) kl)).isB (decide_eq_false (by omega)))) (fun b => Bool.noConfusion b) fun _ H6 e6 => ⟨e4.trans (e5.trans e6), some x5, some x6, rfl⟩
  rintro σ' H3 e3 ⟨a5, a6, rfl⟩
  have e03 := e02.trans e3
  refine u_for (K := K) (l := [(i, a), (j, b)]) (g := dP2) (fun k σ' => ∃ a6 a7, σ' = [some v, some w, some x, some y, some u, a5, a6, a7, none, none, none, none])
    ((i_tup (ds := [(i, a), (j, b)].map dP2) (g_tup (ds := [(i, a), (j, b)].map dP2) (as_cons (g_tup (ds := [.nat i, .nat a]) (as_cons (g_var rfl (h3.mono e03)) (as_cons (T2 e03 rfl) as_nil)) (by show 2 ≤ 100000; decide)) (as_cons (g_tup (ds := [.nat j, .nat b]) (as_cons (g_var rfl (h4.mono e03)) (as_cons (T4 e03 rfl) as_nil)) (by show 2 ≤ 100000; decide)) as_nil)) (by show 2 ≤ 100000; decide))).weak fun _ _ e => Tx.of e) ⟨a6, none, rfl⟩ ?_ ?_
  · rintro H4 k hc x6 σ' H5 e4 e5 hk ⟨a6, a7, rfl⟩ hx
    refine tg2 hx fun v7 v6 k7 k6 => ?_
    change tIfS _ _ _ _ [some v, some w, some x, some y, some u, a5, some v6, some v7, none, none, none, none] H5
    have hm := List.mem_of_getElem? hk
    have hh : hc.1 < s.length ∧ hc.2 < gN s hc.1 ∧ hc.2 ≠ gN X hc.1 := by
      rcases List.mem_cons.mp hm with rfl | hm
      · exact ⟨hi, a2, by show a ≠ gN X i; omega⟩
      · rw [List.mem_singleton.mp hm]
        exact ⟨hj, b2, by show b ≠ gN X j; omega⟩
    obtain ⟨q1, q2, q3⟩ := hh
    have e05 := e03.trans (e4.trans e5)
    exact s_when (b := false) (et_or (a := false) (b := false) (et_not (a := true) (t_val (K := K) (g_isi (g_var rfl k6) kitII))) fun _ => et_or (a := false) (b := false) (t_val (K := K) (g_isi (g_var rfl k6) kitIB)) fun _ => et_or (a := false) (b := false) (t_val (K := K) ((g_ltN (g_var rfl k6) g_nat).isB (by simp))) fun _ =>
      et_or (a := false) (b := false) (t_val (K := K) ((g_geN (g_var rfl k6) (g_ixTN (g_var rfl (h1.mono e05)) (g_var rfl k7) q1)).isB (decide_eq_false (by omega)))) fun _ => t_val (K := K) ((g_eqN (g_var rfl k6) (g_ixTN (T0 e05 rfl) (g_var rfl k7) (by omega))).isB (decide_eq_false q3))) (fun b => Bool.noConfusion b) fun _ H6 e6 => ⟨e5.trans e6, some v6, some v7, rfl⟩
  rintro σ' H4 e4 ⟨a6, a7, rfl⟩
  have e04 := e03.trans e4
  refine u_asg (K := K) (sh := sN (spansN s)) (gc_lawsteps (as_cons (g_var rfl (h1.mono e04)) as_nil) z) fun x8 H5 e5 hx8 => ?_
  change tSeq _ _ _ [some v, some w, some x, some y, some u, a5, a6, a7, some x8, none, none, none] H5
  have e05 := e04.trans e5
  refine u_asg (K := K) (sh := .d (.nat p)) (by
    rw [← pX, ← on_all lX]
    exact gc_onL (as_cons (g_var rfl (h1.mono e05)) (as_cons (g_var rfl hx8) (as_cons (EvN.g (n_listRg (a := s.length) (g_lenN (g_var rfl (h1.mono e05))) (by omega))) (as_cons (T0 e05 rfl) as_nil)))) ⟨z, vX, fun h hh => List.mem_range.mp hh, by show (List.range s.length).length ≤ 6; rw [List.length_range]; exact z6⟩) fun x9 H6 e6 hx9 => ?_
  change tSeq _ _ _ [some v, some w, some x, some y, some u, a5, a6, a7, some x8, some x9, none, none] H6
  have e06 := e05.trans e6
  have hx86 := hx8.mono e6
  refine u_asg (K := K) (sh := .d (.nat (a * sp s i))) ((g_mulN (g_subN (T2 e06 rfl) (g_ixTN (T0 e06 rfl) (g_var rfl (h3.mono e06)) (by omega)) (by omega)) (g_sp (g_var rfl hx86) (g_var rfl (h3.mono e06)) hi) (by omega)).is (by rw [Xi, Nat.sub_zero])) fun x10 H7 e7 hx10 => ?_
  change tSeq _ _ _ [some v, some w, some x, some y, some u, a5, a6, a7, some x8, some x9, some x10, none] H7
  have e07 := e06.trans e7
  have hx87 := hx86.mono e7
  refine u_asg (K := K) (sh := .d (.nat (b * sp s j))) ((g_mulN (g_subN (T4 e07 rfl) (g_ixTN (T0 e07 rfl) (g_var rfl (h4.mono e07)) (by omega)) (by omega)) (g_sp (g_var rfl hx87) (g_var rfl (h4.mono e07)) hj) (by omega)).is (by rw [Xj, Nat.sub_zero])) fun x11 H8 e8 hx11 => ?_
  change tRet _ _ [some v, some w, some x, some y, some u, a5, a6, a7, some x8, some x9, some x10, some x11] H8
  have e08 := e07.trans e8
  refine v_ret (K := K) ((g_and (x := true) (y := true) ((gc_oddsum (t := t) (p := p) (a := a * sp s i) (b := b * sp s j) (as_cons (g_var rfl (h2.mono e08)) (as_cons (g_var rfl ((hx9.mono e7).mono e8)) (as_cons (g_var rfl (hx10.mono e8)) (as_cons (g_var rfl hx11) as_nil)))) l3).isB (hf.trans hodd)) fun _ =>
    gc_same (n := 2) (d := .bl true) (as_cons ((g_call (K := K) ((⟨s, X, i, a, j, b⟩, t) : F4 × List Bool) (as_cons (g_var rfl (h1.mono e08)) (as_cons (g_var rfl (h2.mono e08)) (as_cons (g_var rfl (h5.mono e08)) as_nil))) ⟨⟨z, vX, hi, hj, ne, a2, b2, by show a ≠ gN X i; omega, by show b ≠ gN X j; omega⟩, lt⟩).isB ?_) (as_cons g_bl as_nil)) dd3_bl)) fun v' H9 e9 hv' => q v' H9 (e08.trans e9) hv'
  show xor4 (tget t (placeN s X)) (tget t (placeN s (X.set i a))) (tget t (placeN s (X.set j b))) (tget t (placeN s ((X.set i a).set j b))) = true
  rw [eX, set_up hi, set_up hj, set_up hj, toL_pl, toL_pl, toL_pl, toL_pl]
  exact hodd
end
section
variable {K : PySem.W.Frag} {vs : List V} {H : Hp} {Q : VK} {E : XK}
def pV (n : Nat) (f : Nat → Nat → Bool) (k : Nat) : List (Nat × Nat) := (List.range k).flatMap fun i => ((List.range n).filter fun j => decide (i < j) && f i j).map fun j => (i, j)
def pJ (f : Nat → Nat → Bool) (i m : Nat) : List (Nat × Nat) := ((List.range m).filter fun j => decide (i < j) && f i j).map fun j => (i, j)
theorem pJ_len {f : Nat → Nat → Bool} {i m : Nat} : (pJ f i m).length ≤ m := by
  unfold pJ
  rw [List.length_map]
  have := List.length_filter_le (fun j => decide (i < j) && f i j) (List.range m)
  rw [List.length_range] at this
  exact this
theorem pV_len {n : Nat} {f : Nat → Nat → Bool} {k : Nat} (hk : k ≤ 6) (hn : n ≤ 6) : (pV n f k).length ≤ 36 := by
  have h := flat_len (fun i => ((List.range n).filter fun j => decide (i < j) && f i j).map fun j => (i, j)) n (List.range k) fun a _ => pJ_len (f := f) (i := a)
  rw [List.length_range] at h
  have h2 : k * n ≤ 6 * 6 := Nat.mul_le_mul hk hn
  exact Nat.le_trans h h2
theorem pV_succ {n : Nat} {f : Nat → Nat → Bool} {k : Nat} : pV n f (k + 1) = pV n f k ++ pJ f k n := by
  unfold pV pJ
  rw [List.range_succ, List.flatMap_append]
  simp
theorem pJ_succ {f : Nat → Nat → Bool} {i m : Nat} : pJ f i (m + 1) = pJ f i m ++ if (decide (i < m) && f i m) = true then [(i, m)] else [] := by
  unfold pJ
  rw [filter_snoc, List.map_append]
  cases e : decide (i < m) && f i m with
  | true => rfl
  | false => rfl
theorem count_take {c : List Nat → Bool} {l : List (List Nat)} {k : Nat} {x : List Nat} (h : l[k]? = some x) : ((l.take (k + 1)).filter c).length = ((l.take k).filter c).length + if c x = true then 1 else 0 := by
  rw [List.take_add_one, h, List.filter_append, List.length_append]
  cases e : c x with
  | true => simp [List.filter_cons, e]
  | false => simp [List.filter_cons, e]
theorem pure_law_pairs_right (h : sp_law_pairs_right K vs H Q E) : t_law_pairs_right K (sp_law_knit K) (sp_law_same K 3) (sp_are_knit K) (sp_odd_four K) (sp_law_four_right K) (sp_law_classes K) (sp_knit_pairs K) (sp_clumps_of K) (sp_law_lots K) (sp_law_seam K) (sp_is_seam K) { nx := fun _ H' => Q .non H', rt := Q } (start N_law_pairs_right vs) H := by
  obtain ⟨⟨s, t⟩, ⟨z, lt⟩, hv, q⟩ := h
  dsimp only at z lt hv q
  obtain ⟨v, w, rfl, h1, h2⟩ := h2_of hv
  change t_law_pairs_right K _ _ _ _ _ _ _ _ _ _ _ _ [some v, some w, none, none, none, none, none, none, none, none, none, none, none, none, none, none, none] H
  have h1 : Hold K H v (.d (dN s)) := h1
  have h2 : Hold K H w (.d (dB t)) := h2
  unfold t_law_pairs_right
  have z6 := z.few
  refine u_asg (K := K) (sh := .d (.nat s.length)) (g_lenN (g_var rfl h1)) fun x2 H1 e1 hx2 => ?_
  change tSeq _ _ _ [some v, some w, some x2, none, none, none, none, none, none, none, none, none, none, none, none, none, none] H1
  refine u_asgN (K := K) (n_lst (ds := []) as_nil) fun p xs H2 np e2 hp htp => ?_
  change tSeq _ _ _ [some v, some w, some x2, some (.ref p), none, none, none, none, none, none, none, none, none, none, none, none, none] H2
  have m0 : Ml K H1 H2 p ((pV s.length (knitB s t) 0).map dP2) := Ml.new np e2 hp htp
  have h11 := h1.mono e1
  have h21 := h2.mono e1
  refine u_forS (K := K) (S := fun _ _ => True) (l := List.range s.length) (g := Dt.nat) (fun _ k σ' H' => ∃ a4 a5 a6 a7 a8 a9, σ' = [some v, some w, some x2, some (.ref p), a4, a5, a6, a7, a8, a9, none, none, none, none, none, none, none] ∧ Ml K H1 H' p ((pV s.length (knitB s t) k).map dP2))
    (i_rng1 (g_var rfl (hx2.mono e2)) (by omega)) (fun H4 e4 => ⟨none, none, none, none, none, none, rfl, m0.ex e4⟩) (fun _ _ _ _ _ _ => True.intro) ?_ ?_
  · rintro H4 i i' x4 σ' H5 H6 e4 hi ⟨a4, a5, a6, a7, a8, a9, rfl, m5⟩ e6 hx4
    refine tgn ?_
    change tFor _ _ _ _ [some v, some w, some x2, some (.ref p), some x4, a5, a6, a7, a8, a9, none, none, none, none, none, none, none] H6
    obtain ⟨il, ei⟩ := List.getElem?_eq_some_iff.mp hi
    rw [List.getElem_range] at ei
    rw [List.length_range] at il
    subst ei
    have hx4 : Hold K H6 x4 (.d (.nat i)) := hx4
    have ex4 : x4 = .int (i : Int) := Tp.intI hx4
    have m6 := m5.ex e6
    refine v_forS (K := K) (S := fun _ _ => True) (l := List.range s.length) (g := Dt.nat) (fun _ j σ' H' => ∃ a5 a6 a7 a8 a9, σ' = [some v, some w, some x2, some (.ref p), some x4, a5, a6, a7, a8, a9, none, none, none, none, none, none, none] ∧ Ml K H1 H' p ((pV s.length (knitB s t) i ++ pJ (knitB s t) i j).map dP2))
      (i_rng1 (g_var rfl (hx2.mono m6.2.1)) (by omega)) (fun H7 e7 => ⟨a5, a6, a7, a8, a9, rfl, ?_⟩) (fun _ _ _ _ _ _ => True.intro) ?_ ?_
    · have e : pV s.length (knitB s t) i ++ pJ (knitB s t) i 0 = pV s.length (knitB s t) i := List.append_nil _
      rw [e]
      exact m6.ex e7
    · rintro H7 j j' x5 σ' H8 H9 e7 hj ⟨a5, a6, a7, a8, a9, rfl, m8⟩ e9 hx5
      refine tgn ?_
      change tIfS _ _ _ _ [some v, some w, some x2, some (.ref p), some x4, some x5, a6, a7, a8, a9, none, none, none, none, none, none, none] H9
      obtain ⟨jl, ej⟩ := List.getElem?_eq_some_iff.mp hj
      rw [List.getElem_range] at ej
      rw [List.length_range] at jl
      subst ej
      have hx5 : Hold K H9 x5 (.d (.nat j)) := hx5
      have ex5 : x5 = .int (j : Int) := Tp.intI hx5
      have m9 := m8.ex e9
      have k4 : ∀ {H' : Hp}, Hold K H' x4 (.d (.nat i)) := by rw [ex4]; exact hold_int
      have k5 : ∀ {H' : Hp}, Hold K H' x5 (.d (.nat j)) := by rw [ex5]; exact hold_int
      refine s_when (b := decide (i < j)) (t_val (K := K) (g_ltN (g_var rfl k4) (g_var rfl k5))) (fun yes H10 e10 => ?_) (fun no H10 e10 => ⟨some x5, a6, a7, a8, a9, rfl, ?_⟩)
      rotate_left
      · rw [pJ_succ, no, if_neg (by simp), List.append_nil]
        exact m9.ex e10
      have ij := of_decide_eq_true yes
      have m10 := m9.ex e10
      have e110 := m10.2.1
      have ok : Hh.Ok ⟨s, t, i, j⟩ := ⟨z, lt, il, jl, by show i ≠ j; omega⟩
      refine u_asg (K := K) (sh := .d (.bl (knitB s t i j))) (gc_lawknit (as_cons (g_var rfl (h11.mono e110)) (as_cons (g_var rfl (h21.mono e110)) (as_cons (g_var rfl k4) (as_cons (g_var rfl k5) as_nil)))) ok) fun x6 H11 e11 hx6 => ?_
      change tSeq _ _ _ [some v, some w, some x2, some (.ref p), some x4, some x5, some x6, a7, a8, a9, none, none, none, none, none, none, none] H11
      have m11 := m10.ex e11
      obtain ⟨kn, ekn⟩ : ∃ kn, kn = knitB s t i j := ⟨_, rfl⟩
      rw [← ekn] at hx6
      have ex6 : x6 = .bl kn := Tp.blI hx6
      have k6 : ∀ {H' : Hp}, Hold K H' x6 (.d (.bl kn)) := by rw [ex6]; exact hold_bl
      have ll : (pV s.length (knitB s t) i ++ pJ (knitB s t) i j).length < 100000 := by
        rw [List.length_append]
        have l1 := pV_len (f := knitB s t) (show i ≤ 6 by omega) z6
        have l2 := pJ_len (f := knitB s t) (i := i) (m := j)
        omega
      refine u_cut (fun σ' H' => σ' = [some v, some w, some x2, some (.ref p), some x4, some x5, some x6, a7, a8, a9, none, none, none, none, none, none, none] ∧ Ml K H1 H' p ((pV s.length (knitB s t) i ++ pJ (knitB s t) i (j + 1)).map dP2)) ?_ fun kk => ?_
      rotate_left
      · refine s_when (b := kn) (t_val (K := K) (g_var rfl k6)) (fun y H12 e12 => ?_) (fun n H12 e12 => kk _ _ ⟨rfl, ?_⟩)
        · refine v_app (K := K) (d := dP2 (i, j)) (m11.ex e12) (by rfl) (g_tup (ds := [.nat i, .nat j]) (as_cons (g_var rfl k4) (as_cons (g_var rfl k5) as_nil)) (by show 2 ≤ 100000; decide)) (by rw [List.length_map]; exact ll) fun H13 m13 _ _ => kk _ _ ⟨rfl, ?_⟩
          rw [pJ_succ, ← ekn, y, yes, if_pos (by rfl), ← List.append_assoc, ← map_app]
          exact m13
        · rw [pJ_succ, ← ekn, n, if_neg (by simp), List.append_nil]
          exact m11.ex e12
      rintro σ' H12 ⟨rfl, m12⟩
      have e112 := m12.2.1
      refine v_forS (K := K) (S := Ex) (l := [(i, j), (j, i)]) (g := dP2) (fun H13 _ σ' H' => Ex H13 H' ∧ ∃ a7 a8 a9, σ' = [some v, some w, some x2, some (.ref p), some x4, some x5, some x6, a7, a8, a9, none, none, none, none, none, none, none])
        ((i_tup (ds := [(i, j), (j, i)].map dP2) (g_tup (ds := [(i, j), (j, i)].map dP2) (as_cons (g_tup (ds := [.nat i, .nat j]) (as_cons (g_var rfl k4) (as_cons (g_var rfl k5) as_nil)) (by show 2 ≤ 100000; decide)) (as_cons (g_tup (ds := [.nat j, .nat i]) (as_cons (g_var rfl k5) (as_cons (g_var rfl k4) as_nil)) (by show 2 ≤ 100000; decide)) as_nil)) (by show 2 ≤ 100000; decide))).weak fun _ _ e => Tx.of e)
        (fun H13 e13 => ⟨Ex.refl _, a7, a8, a9, rfl⟩) (fun _ _ _ _ _ p => p.1) ?_ ?_
      · rintro H13 m pr x σ' H14 H15 e13 hm ⟨e14, a7, a8, a9, rfl⟩ e15 hx
        refine tg2 hx fun v7 v8 k7 k8 => ?_
        change tSeq _ _ _ [some v, some w, some x2, some (.ref p), some x4, some x5, some x6, some v7, some v8, a9, none, none, none, none, none, none, none] H15
        have hpm := List.mem_of_getElem? hm
        have hh : Hh.Ok ⟨s, t, pr.1, pr.2⟩ ∧ knitB s t pr.1 pr.2 = kn := by
          rcases List.mem_cons.mp hpm with rfl | hpm
          · exact ⟨ok, ekn.symm⟩
          · rw [List.mem_singleton.mp hpm]
            exact ⟨⟨z, lt, jl, il, by show j ≠ i; omega⟩, by rw [ekn]; exact knitB_comm (by show j ≠ i; omega)⟩
        obtain ⟨f, g⟩ := pr
        obtain ⟨ok', kne⟩ := hh
        have k7 : Hold K H15 v7 (.d (.nat f)) := k7
        have k8 : Hold K H15 v8 (.d (.nat g)) := k8
        have kne : knitB s t f g = kn := kne
        have e115 := e112.trans (e13.trans (e14.trans e15))
        have args : ∀ {H' : Hp} {σ : L2.St}, Ex H15 H' → σ[0]? = some (some v) → σ[1]? = some (some w) → σ[7]? = some (some v7) → σ[8]? = some (some v8) → EvAs K (tCons (tVar 0) (tCons (tVar 1) (tCons (tVar 7) (tCons (tVar 8) tNil)))) σ H' [.d (dN s), .d (dB t), .d (.nat f), .d (.nat g)] := fun e s0 s1 s7 s8 =>
          as_cons (g_var s0 (h11.mono (e115.trans e))) (as_cons (g_var s1 (h21.mono (e115.trans e))) (as_cons (g_var s7 (k7.mono e)) (as_cons (g_var s8 (k8.mono e)) as_nil)))
        refine q_when (b := false) (et_not (a := true) (t_val (K := K) (gc_same (n := 2) (d := .bl kn) (as_cons ((gc_areknit (args (Ex.refl _) rfl rfl rfl rfl) ok').isB kne) (as_cons (g_var rfl k6) as_nil)) dd3_bl))) (fun b => Bool.noConfusion b) fun _ H16 e16 => ?_
        refine u_asgR (K := K) (⟨s, t, f, g⟩ : Hh) (args e16 rfl rfl rfl rfl) ok' fun v9 d H17 hd e17 hv9 => ?_
        change tSeq _ _ _ [some v, some w, some x2, some (.ref p), some x4, some x5, some x6, some v7, some v8, some v9, none, none, none, none, none, none, none] H17
        obtain ⟨r, hr, rfl⟩ := hd
        have e1517 := e16.trans e17
        cases r with
        | none =>
          have kf : kn = false := by rw [← kne]; exact knitB_f hr
          refine q_when (b := false) (et_is (et_and (a := !kn) (b := false) (et_not (t_val (K := K) (g_var rfl k6))) fun _ => t_val (K := K) (g_notN (d := .non) (g_var rfl hv9))) (by rw [kf]; rfl)) (fun b => Bool.noConfusion b) fun _ H18 e18 => ?_
          exact s_when (b := false) (et_is (et_and (a := kn) (b := false) (t_val (K := K) (g_var rfl k6)) fun y => absurd y (by rw [kf]; exact Bool.false_ne_true)) (by rw [kf]; rfl)) (fun b => Bool.noConfusion b) fun _ H19 e19 => ⟨e14.trans (e15.trans (e1517.trans (e18.trans e19))), some v7, some v8, some v9, rfl⟩
        | some abc =>
          have kt : kn = true := by
            rw [← kne]
            obtain ⟨p', a, b⟩ := abc
            obtain ⟨F, vF, F1, F2, pF, a1, a2, b1, b2, odd⟩ := hr
            exact knitB_t ⟨F, a, b, vF, a2, b2, odd⟩
          refine q_when (b := false) (et_is (et_and (a := !kn) (b := false) (et_not (t_val (K := K) (g_var rfl k6))) fun y => absurd y (by rw [kt]; exact Bool.false_ne_true)) (by rw [kt]; rfl)) (fun b => Bool.noConfusion b) fun _ H18 e18 => ?_
          have e1518 := e1517.trans e18
          exact s_when (b := false) (et_is (et_and (a := kn) (b := false) (t_val (K := K) (g_var rfl k6)) fun _ => et_not (a := true) (t_val (K := K) (gc_fourright (q := (⟨s, t, f, g⟩, abc)) (as_cons (g_var rfl (h11.mono (e115.trans e1518))) (as_cons (g_var rfl (h21.mono (e115.trans e1518))) (as_cons (g_var rfl (k7.mono e1518)) (as_cons (g_var rfl (k8.mono e1518)) (as_cons (g_var rfl (hv9.mono e18)) as_nil))))) ⟨ok', hr⟩))) (by cases kn <;> rfl)) (fun b => Bool.noConfusion b) fun _ H19 e19 => ⟨e14.trans (e15.trans (e1518.trans e19)), some v7, some v8, some v9, rfl⟩
      · rintro H13 σ' H14 e13 ⟨e14, a7, a8, a9, rfl⟩
        exact ⟨some x5, some x6, a7, a8, a9, rfl, m12.ex (e13.trans e14)⟩
    · rintro H7 σ' H8 e7 ⟨a5, a6, a7, a8, a9, rfl, m8⟩
      rw [List.length_range, ← pV_succ] at m8
      exact ⟨some x4, a5, a6, a7, a8, a9, rfl, m8⟩
  · rintro H4 σ' H5 e4 ⟨a4, a5, a6, a7, a8, a9, rfl, m5⟩
    have epv : pV s.length (knitB s t) s.length = pairsN s t := rfl
    rw [List.length_range, epv] at m5
    have e15 := m5.2.1
    have hps := pairs_ok (n := s.length) (k := knitB s t) z6
    have hlen := pairs_len (n := s.length) (k := knitB s t) z6
    have clen := classes_len (n := s.length) (ps := pairsN s t) z6
    refine u_asg (K := K) (sh := .d (dC (clumpsN s t))) (gc_classes (n := s.length) (ps := pairsN s t) (as_cons (g_var rfl (hx2.mono e15)) (as_cons (g_var rfl m5.hold) as_nil)) ⟨z6, hps⟩) fun x10 H6 e6 hx10 => ?_
    change tSeq _ _ _ [some v, some w, some x2, some (.ref p), a4, a5, a6, a7, a8, a9, some x10, none, none, none, none, none, none] H6
    have e16 := e15.trans e6
    have h16 := h11.mono e16
    have h26 := h21.mono e16
    have hx26 := hx2.mono e16
    have m6 := m5.ex e6
    refine q_when (b := false) (et_or (a := false) (b := false) (et_not (a := true) (t_val (K := K) (gc_same (n := 2) (d := dP (pairsN s t)) (as_cons (gc_pairs (as_cons (g_var rfl h16) (as_cons (g_var rfl h26) as_nil)) z lt) (as_cons (g_tupOf (ds := (pairsN s t).map dP2) (g_var rfl m6.hold)) as_nil)) (dd3_P (by show (pairsOf' _ _).length ≤ _; omega))))) fun _ =>
      et_not (a := true) (t_val (K := K) (gc_same (n := 2) (d := dC (clumpsN s t)) (as_cons (gc_clumps (as_cons (g_var rfl h16) (as_cons (g_var rfl h26) as_nil)) z lt) (as_cons (g_var rfl hx10) as_nil)) (dd3_C clen.1 clen.2)))) (fun b => Bool.noConfusion b) fun _ H7 e7 => ?_
    have h17 := h16.mono e7
    have h27 := h26.mono e7
    have hx27 := hx26.mono e7
    have hx107 := hx10.mono e7
    refine u_for (K := K) (l := lotsN s.length) (g := dN) (fun _ σ' => ∃ a11 a12 a13 a14 a16, σ' = [some v, some w, some x2, some (.ref p), a4, a5, a6, a7, a8, a9, some x10, a11, a12, a13, a14, none, a16])
      (i_lst (gc_lots (as_cons (g_var rfl hx27) as_nil) z6)) ⟨none, none, none, none, none, rfl⟩ ?_ ?_
    · rintro H8 k l x11 σ' H9 e8 e9 hk ⟨a11, a12, a13, a14, a16, rfl⟩ hx11
      refine tgn ?_
      change tSeq _ _ _ [some v, some w, some x2, some (.ref p), a4, a5, a6, a7, a8, a9, some x10, some x11, a12, a13, a14, none, a16] H9
      have lo := lots_ok s.length l (List.mem_of_getElem? hk)
      have hx11 : Hold K H9 x11 (.d (dN l)) := hx11
      have e79 := e8.trans e9
      refine u_asgI (K := K) (i := ((0 : Nat) : Int)) g_nat fun H10 e10 => ?_
      change tSeq _ _ _ [some v, some w, some x2, some (.ref p), a4, a5, a6, a7, a8, a9, some x10, some x11, some (.int ((0 : Nat) : Int)), a13, a14, none, a16] H10
      have e710 := e79.trans e10
      have hx1010 := hx107.mono e710
      have hx1110 := hx11.mono e10
      refine u_for (K := K) (l := clumpsN s t) (g := dN) (fun m σ' => ∃ a13 a14, σ' = [some v, some w, some x2, some (.ref p), a4, a5, a6, a7, a8, a9, some x10, some x11, some (.int ((((clumpsN s t).take m).filter (partB l)).length : Int)), a13, a14, none, a16])
        ((i_tup (ds := (clumpsN s t).map dN) (g_var rfl hx1010)).weak fun _ _ e => Tx.of e) ⟨a13, a14, rfl⟩ ?_ ?_
      · rintro H11 m c x13 σ' H12 e11 e12 hm ⟨a13, a14, rfl⟩ hx13
        refine tgn ?_
        change tSeq _ _ _ [some v, some w, some x2, some (.ref p), a4, a5, a6, a7, a8, a9, some x10, some x11, some (.int ((((clumpsN s t).take m).filter (partB l)).length : Int)), some x13, a14, none, a16] H12
        have hx13 : Hold K H12 x13 (.d (dN c)) := hx13
        have hx1112 : Hold K H12 x11 (.d (.tup (l.map Dt.nat))) := hx1110.mono (e11.trans e12)
        have cl := clen.2 c (List.mem_of_getElem? hm)
        have c6 : c.length ≤ 6 := by
          have hc := List.mem_of_getElem? hm
          obtain ⟨a, _, rfl⟩ := List.mem_map.mp hc
          have := List.length_filter_le (fun h => decide (gN (marksN s.length (pairsN s t)) h = a)) (List.range s.length)
          rw [List.length_range] at this
          exact Nat.le_trans this z6
        have y := n_lcF (K := K) (σ := [some v, some w, some x2, some (.ref p), a4, a5, a6, a7, a8, a9, some x10, some x11, some (.int ((((clumpsN s t).take m).filter (partB l)).length : Int)), some x13, a14, none, a16]) (H := H12) (wi := xItT K (tVar 13)) (m := 15) (vs := [15]) (l := c) (g := Dt.nat) (tt := tB (xIn K (tVar 15) (tVar 11))) (te := tVar 15)
          (fun h => decide (h ∈ l)) Dt.nat (i_tupN (g_var rfl hx13)) (by omega) (fun _ => rfl) (fun a ha x H13 e13 hx => t_val (K := K) (g_inTN (ns := l) (g_var rfl hx) (g_var rfl (hx1112.mono e13)))) (fun a ha x H13 e13 hx _ => g_var rfl hx)
        refine u_asg (K := K) (sh := .d (.nat (insideN l c))) ((g_lenL y.g).is (by rw [List.length_map]; rfl)) fun x14 H13 e13 hx14 => ?_
        change tIfS _ _ _ _ [some v, some w, some x2, some (.ref p), a4, a5, a6, a7, a8, a9, some x10, some x11, some (.int ((((clumpsN s t).take m).filter (partB l)).length : Int)), some x13, some x14, none, a16] H13
        have ct := count_take (c := partB l) hm
        refine s_when (b := partB l c) (t_val (K := K) (g_chLt g_nat (g_var rfl hx14) (g_lenN (g_var rfl (hx13.mono e13))))) (fun yes H14 e14 => ?_) (fun no H14 e14 => ⟨e12.trans (e13.trans e14), some x13, some x14, ?_⟩)
        · rw [if_pos yes] at ct
          refine v_asgI (K := K) (i := (((((clumpsN s t).take m).filter (partB l)).length + 1 : Nat) : Int)) (g_addN (g_var rfl hold_int) g_nat) fun H15 e15 => ⟨e12.trans (e13.trans (e14.trans e15)), some x13, some x14, ?_⟩
          rw [ct]
          rfl
        · rw [if_neg (by rw [no]; exact Bool.false_ne_true)] at ct
          rw [ct]
          rfl
      · rintro σ' H11 e11 ⟨a13, a14, rfl⟩
        rw [List.take_length]
        have e711 := e710.trans e11
        have h111 := h17.mono e711
        have h211 := h27.mono e711
        have hx1111 := hx1110.mono e11
        have sok : Ll.Ok ⟨s, t, l⟩ := ⟨z, lt, lo⟩
        have ea := e711
        refine u_asg (K := K) (sh := .d (.bl (seamB s t l))) (gc_lawseam (as_cons (g_var rfl h111) (as_cons (g_var rfl h211) (as_cons (g_var rfl hx1111) as_nil))) sok) fun x16 H12 e12 hx16 => ?_
        change tIfS _ _ _ _ [some v, some w, some x2, some (.ref p), a4, a5, a6, a7, a8, a9, some x10, some x11, some (.int (((clumpsN s t).filter (partB l)).length : Int)), a13, a14, none, some x16] H12
        have sp := seamB_parted (t := t) z lo.2
        refine s_when (b := false) (et_or (a := false) (b := false) (t_val (K := K) ((g_neB (g_var rfl hx16) (g_eqN (a := ((clumpsN s t).filter (partB l)).length) (g_var rfl hold_int) g_nat)).isB (by rw [sp]; simp))) fun _ =>
          et_not (a := true) (t_val (K := K) (gc_same (n := 2) (d := .bl (seamB s t l)) (as_cons (gc_isseam (as_cons (g_var rfl (h111.mono e12)) (as_cons (g_var rfl (h211.mono e12)) (as_cons (g_var rfl (hx1111.mono e12)) as_nil))) sok) (as_cons (g_var rfl hx16) as_nil)) dd3_bl))) (fun b => Bool.noConfusion b) fun _ H13 e13 => ⟨e9.trans (e10.trans (e11.trans (e12.trans e13))), some x11, _, a13, a14, some x16, rfl⟩
    · rintro σ' H8 e8 ⟨a11, a12, a13, a14, a16, rfl⟩
      exact v_ret (K := K) (sh := .d (.bl true)) g_bl fun v' H9 e9 hv' => q v' H9 (e1.trans (e16.trans (e7.trans (e8.trans e9)))) hv'
end
section
variable {K : PySem.W.Frag} {vs : List V} {H : Hp} {Q : VK} {E : XK}
theorem pure_law (h : spLaw K vs H Q E) : t_law K (sp_law_row K) (sp_law_sizes K) (sp_law_table K) (sp_law_pairs_right K) (sp_law_idle K) (sp_law_same K 3) (sp_idle_houses K) (sp_clumps_of K) (sp_law_knit K) (sp_law_classes K) (sp_knit_pairs K) { nx := fun _ H' => Q .non H', rt := Q } (start N_law vs) H := by
  obtain ⟨ns, l63, hv, q⟩ := h
  obtain ⟨v, rfl, h0⟩ := h1_of hv
  change t_law K _ _ _ _ _ _ _ _ _ _ _ _ [some v, none, none, none, none, none, none, none, none, none] H
  unfold t_law
  refine u_asgR (K := K) ns (as_cons (g_var rfl h0) (as_cons g_nat as_nil)) l63 fun x1 r H1 hr e1 hx1 => ?_
  change tSeq _ _ _ [some v, some x1, none, none, none, none, none, none, none, none] H1
  refine u_asgR (K := K) r (as_cons (g_var rfl hx1) as_nil) hr fun x2 s H2 z e2 hx2 => ?_
  change tSeq _ _ _ [some v, some x1, some x2, none, none, none, none, none, none, none] H2
  have z6 := z.few
  refine u_asgR (K := K) (⟨r, s, 9⟩ : Rt) (as_cons (g_var rfl (hx1.mono e2)) (as_cons (g_var rfl hx2) (as_cons g_nat as_nil))) ⟨hr, z, by show 9 ≤ 100; decide⟩ fun x3 t H3 lt e3 hx3 => ?_
  change tSeq _ _ _ [some v, some x1, some x2, some x3, none, none, none, none, none, none] H3
  have hx2 : Hold K H2 x2 (.d (dN s)) := hx2
  have hx3 : Hold K H3 x3 (.d (dB t)) := hx3
  have h23 := hx2.mono e3
  refine q_when (b := false) (et_not (a := true) (t_val (K := K) (gc_pairsright (as_cons (g_var rfl h23) (as_cons (g_var rfl hx3) as_nil)) z lt))) (fun b => Bool.noConfusion b) fun _ H4 e4 => ?_
  refine u_asg (K := K) (sh := .d (dN (idleN s t))) (gc_lawidle (as_cons (g_var rfl (h23.mono e4)) (as_cons (g_var rfl (hx3.mono e4)) as_nil)) z lt) fun x4 H5 e5 hx4 => ?_
  change tSeq _ _ _ [some v, some x1, some x2, some x3, some x4, none, none, none, none, none] H5
  have e35 := e4.trans e5
  have il := idle_len (t := t) z6
  refine q_when (b := false) (et_not (a := true) (t_val (K := K) (gc_same (n := 2) (d := dN (idleN s t)) (as_cons (gc_idles (as_cons (g_var rfl (h23.mono e35)) (as_cons (g_var rfl (hx3.mono e35)) as_nil)) z lt) (as_cons (g_var rfl hx4) as_nil)) (dd3_N il)))) (fun b => Bool.noConfusion b) fun _ H6 e6 => ?_
  have e36 := e35.trans e6
  refine u_asg (K := K) (sh := .d (dC (clumpsN s t))) (gc_clumps (as_cons (g_var rfl (h23.mono e36)) (as_cons (g_var rfl (hx3.mono e36)) as_nil)) z lt) fun x5 H7 e7 hx5 => ?_
  change tSeq _ _ _ [some v, some x1, some x2, some x3, some x4, some x5, none, none, none, none] H7
  have e37 := e36.trans e7
  have h47 := (hx4.mono e6).mono e7
  refine u_asgR (K := K) (⟨r, s, 100⟩ : Rt) (as_cons (g_var rfl (hx1.mono (e2.trans (e3.trans e37)))) (as_cons (g_var rfl (h23.mono e37)) (as_cons g_nat as_nil))) ⟨hr, z, by show 100 ≤ 100; decide⟩ fun x6 u H8 lu e8 hx6 => ?_
  change tSeq _ _ _ [some v, some x1, some x2, some x3, some x4, some x5, some x6, none, none, none] H8
  have hx6 : Hold K H8 x6 (.d (dB u)) := hx6
  have lu : u.length = prodN s := lu
  have e38 := e37.trans e8
  have h28 := h23.mono e38
  have iu := idle_len (t := u) z6
  refine q_when (b := false) (et_not (a := true) (t_val (K := K) (gc_same (n := 2) (d := dN (idleN s u)) (as_cons (gc_idles (as_cons (g_var rfl h28) (as_cons (g_var rfl hx6) as_nil)) z lu) (as_cons (gc_lawidle (as_cons (g_var rfl h28) (as_cons (g_var rfl hx6) as_nil)) z lu) as_nil)) (dd3_N iu)))) (fun b => Bool.noConfusion b) fun _ H9 e9 => ?_
  refine u_asgN (K := K) (n_lst (ds := []) as_nil) fun p xs Ha np ea hp htp => ?_
  change tSeq _ _ _ [some v, some x1, some x2, some x3, some x4, some x5, some x6, some (.ref p), none, none] Ha
  have m0 : Ml K H9 Ha p ((pU s.length (knitB s u) 0).map dP2) := Ml.new np ea hp htp
  have h29 := h28.mono e9
  have h69 := hx6.mono e9
  refine u_forS (K := K) (S := fun _ _ => True) (l := List.range s.length) (g := Dt.nat) (fun _ k σ' H' => ∃ a8 a9, σ' = [some v, some x1, some x2, some x3, some x4, some x5, some x6, some (.ref p), a8, a9] ∧ Ml K H9 H' p ((pU s.length (knitB s u) k).map dP2))
    (i_rng1 (g_lenN (g_var rfl (h29.mono ea))) (by omega)) (fun H4 e4 => ⟨none, none, rfl, m0.ex e4⟩) (fun _ _ _ _ _ _ => True.intro) ?_ ?_
  · rintro Hb k k' x8 σ' Hc Hd eb hk ⟨a8, a9, rfl, m⟩ ed hx8
    refine tgn ?_
    change tFor _ _ _ _ [some v, some x1, some x2, some x3, some x4, some x5, some x6, some (.ref p), some x8, a9] Hd
    obtain ⟨kl, ek⟩ := List.getElem?_eq_some_iff.mp hk
    rw [List.getElem_range] at ek
    rw [List.length_range] at kl
    subst ek
    have ex8 : x8 = .int (k : Int) := Tp.intI hx8
    have k8 : ∀ {H' : Hp}, Hold K H' x8 (.d (.nat k)) := by rw [ex8]; exact hold_int
    have md := m.ex ed
    refine v_forS (K := K) (S := fun _ _ => True) (l := List.range (s.length - (k + 1))) (g := fun q => Dt.nat (k + 1 + q)) (fun _ r σ' H' => ∃ a9, σ' = [some v, some x1, some x2, some x3, some x4, some x5, some x6, some (.ref p), some x8, a9] ∧ Ml K H9 H' p ((pU s.length (knitB s u) k ++ pI (knitB s u) k r).map dP2)) (i_rng2 (g_addN (g_var rfl k8) g_nat) (g_lenN (g_var rfl (h29.mono md.2.1))) ⟨by omega, by omega⟩) (fun H6 e6 => ⟨a9, rfl, ?_⟩) (fun _ _ _ _ _ _ => True.intro) ?_ ?_
    · have e : pU s.length (knitB s u) k ++ pI (knitB s u) k 0 = pU s.length (knitB s u) k := List.append_nil _
      rw [e]
      exact md.ex e6
    · rintro He r r' x9 σ' Hf Hg ee hr ⟨a9, rfl, mf⟩ eg hx9
      refine tgn ?_
      change tIfS _ _ _ _ [some v, some x1, some x2, some x3, some x4, some x5, some x6, some (.ref p), some x8, some x9] Hg
      obtain ⟨rl, er⟩ := List.getElem?_eq_some_iff.mp hr
      rw [List.getElem_range] at er
      rw [List.length_range] at rl
      subst er
      have hx9 : Hold K Hg x9 (.d (.nat (k + 1 + r))) := hx9
      have mg := mf.ex eg
      have eg9 := mg.2.1
      have ok : Hh.Ok ⟨s, u, k, k + 1 + r⟩ := ⟨z, lu, kl, by show k + 1 + r < s.length; omega, by show k ≠ k + 1 + r; omega⟩
      have ll : (pU s.length (knitB s u) k ++ pI (knitB s u) k r).length < 100000 := by
        rw [List.length_append]
        have l1 := pU_len (f := knitB s u) (show k ≤ 6 by omega) z6
        have l2 := pI_len (f := knitB s u) (i := k) (m := r)
        omega
      refine s_when (b := knitB s u k (k + 1 + r)) (t_val (K := K) (gc_lawknit (as_cons (g_var rfl (h29.mono eg9)) (as_cons (g_var rfl (h69.mono eg9)) (as_cons (g_var rfl k8) (as_cons (g_var rfl hx9) as_nil)))) ok)) (fun yes Hh eh => ?_) (fun no Hh eh => ⟨some x9, rfl, ?_⟩)
      · refine v_app (K := K) (d := dP2 (k, k + 1 + r)) (mg.ex eh) (by rfl) (g_tup (ds := [.nat k, .nat (k + 1 + r)]) (as_cons (g_var rfl k8) (as_cons (g_var rfl (hx9.mono eh)) as_nil)) (by show 2 ≤ 100000; decide)) (by rw [List.length_map]; exact ll) fun Hi mi _ _ => ⟨some x9, rfl, ?_⟩
        rw [pI_succ, if_pos yes, ← List.append_assoc, ← map_app]
        exact mi
      · rw [pI_succ, if_neg (by rw [no]; exact Bool.false_ne_true), List.append_nil]
        exact mg.ex eh
    · rintro He σ' Hf ee ⟨a9, rfl, mf⟩
      rw [List.length_range, ← pU_succ] at mf
      exact ⟨some x8, a9, rfl, mf⟩
  · rintro Hb σ' Hc eb ⟨a8, a9, rfl, m⟩
    rw [List.length_range, pU_all] at m
    have e9c := m.2.1
    have h2c := h29.mono e9c
    have h6c := h69.mono e9c
    have hps := pairs_ok (n := s.length) (k := knitB s u) z6
    have hlen := pairs_len (n := s.length) (k := knitB s u) z6
    have clen := classes_len (n := s.length) (ps := pairsN s u) z6
    have clet := classes_len (n := s.length) (ps := pairsN s t) z6
    refine q_when (b := false) (et_or (a := false) (b := false) (et_not (a := true) (t_val (K := K) (gc_same (n := 2) (d := dC (clumpsN s u)) (as_cons (gc_clumps (as_cons (g_var rfl h2c) (as_cons (g_var rfl h6c) as_nil)) z lu) (as_cons (gc_classes (n := s.length) (ps := pairsN s u) (as_cons (g_lenN (g_var rfl h2c)) (as_cons (g_var rfl m.hold) as_nil)) ⟨z6, hps⟩) as_nil)) (dd3_C clen.1 clen.2)))) fun _ =>
      et_not (a := true) (t_val (K := K) (gc_same (n := 2) (d := dP (pairsN s u)) (as_cons (gc_pairs (as_cons (g_var rfl h2c) (as_cons (g_var rfl h6c) as_nil)) z lu) (as_cons (g_tupOf (ds := (pairsN s u).map dP2) (g_var rfl m.hold)) as_nil)) (dd3_P (by show (pairsOf' _ _).length ≤ _; omega))))) (fun b => Bool.noConfusion b) fun _ Hd ed => ?_
    have e3d := e38.trans (e9.trans (e9c.trans ed))
    have e7d := e8.trans (e9.trans (e9c.trans ed))
    have h2d := h23.mono e3d
    have h3d := hx3.mono e3d
    refine v_ret (K := K) (sh := .d (.bl true)) (g_and (x := true) (y := true) (gc_same (n := 2) (d := dC (clumpsN s t)) (as_cons (gc_clumps (as_cons (g_var rfl h2d) (as_cons (g_var rfl h3d) as_nil)) z lt) (as_cons (g_var rfl (hx5.mono e7d)) as_nil)) (dd3_C clet.1 clet.2)) fun _ =>
      gc_same (n := 2) (d := dN (idleN s t)) (as_cons (gc_idles (as_cons (g_var rfl h2d) (as_cons (g_var rfl h3d) as_nil)) z lt) (as_cons (g_var rfl (h47.mono e7d)) as_nil)) (dd3_N il)) fun v' He ee hv' => ?_
    rw [Tp.blI hv']
    exact q He
end
end Ck
set_option Elab.async false
set_option linter.all false
set_option maxRecDepth 100000
set_option maxHeartbeats 0
namespace Ck
open PySem PySem.Spec PyProof.Rows L2

def top (i : Nat) : Stmt := PySem.Challenge.pw_closereckoned_k07_whole_seams_and_clumps.main.body.getD i (.Pass ⟨0, 0, 0, 0⟩)
abbrev s_a_want : Stmt := top 5
abbrev s_integer_fits : Stmt := top 6
abbrev s_number_fits : Stmt := top 7
abbrev s_many_fits : Stmt := top 8
abbrev s_sizes_fit : Stmt := top 9
abbrev s_setting_fits : Stmt := top 10
abbrev s_house_fits : Stmt := top 11
abbrev s_lot_fits : Stmt := top 12
abbrev s_spans_of : Stmt := top 14
abbrev s_many_settings : Stmt := top 15
abbrev s_place_by : Stmt := top 16
abbrev s_setting_by : Stmt := top 17
abbrev s_corner_places : Stmt := top 18
abbrev s_odd_spot : Stmt := top 19
abbrev s_is_number : Stmt := top 21
abbrev s_is_bit : Stmt := top 22
abbrev s_is_sizes : Stmt := top 23
abbrev s_is_setting : Stmt := top 24
abbrev s_is_lot : Stmt := top 25
abbrev s_is_table : Stmt := top 27
abbrev s_want_houses : Stmt := top 29
abbrev s_odd_four : Stmt := top 30
abbrev s_are_knit : Stmt := top 31
abbrev s_knit_pairs : Stmt := top 32
abbrev s_clumps_of : Stmt := top 33
abbrev s_idle_houses : Stmt := top 34
abbrev s_is_idle : Stmt := top 35
abbrev s_is_four : Stmt := top 37
abbrev s_is_change : Stmt := top 38
abbrev s_changed : Stmt := top 39
abbrev s_four_settings : Stmt := top 40
abbrev s_is_odd : Stmt := top 41
abbrev s_is_seam : Stmt := top 43
abbrev s_law_row : Stmt := top 45
abbrev s_law_same : Stmt := top 46
abbrev s_law_settings : Stmt := top 47
abbrev s_law_steps : Stmt := top 48
abbrev s_law_sizes : Stmt := top 49
abbrev s_law_on : Stmt := top 50
abbrev s_law_summed : Stmt := top 51
abbrev s_law_by_terms : Stmt := top 52
abbrev s_law_table : Stmt := top 53
abbrev s_law_odd_sum : Stmt := top 54
abbrev s_law_knit : Stmt := top 55
abbrev s_law_classes : Stmt := top 56
abbrev s_law_lots : Stmt := top 57
abbrev s_law_seam : Stmt := top 58
abbrev s_law_four_right : Stmt := top 59
abbrev s_law_idle : Stmt := top 60
abbrev s_law_pairs_right : Stmt := top 61
abbrev s_law : Stmt := top 62
abbrev FnP (K : PySem.W.Frag) (x : Str) (st : Stmt) (f : Addr) (fd : FuncData) : Prop := FunD K x x (defArgs st) (defBody st) (defScope st) [] [] f fd
def d_a_want : He.DefD := ⟨("a_want", none), "a_want", "a_want", defArgs s_a_want, defBody s_a_want, defScope s_a_want, [], []⟩
def d_integer_fits : He.DefD := ⟨("integer_fits", none), "integer_fits", "integer_fits", defArgs s_integer_fits, defBody s_integer_fits, defScope s_integer_fits, [], []⟩
def d_number_fits : He.DefD := ⟨("number_fits", none), "number_fits", "number_fits", defArgs s_number_fits, defBody s_number_fits, defScope s_number_fits, [], []⟩
def d_many_fits : He.DefD := ⟨("many_fits", none), "many_fits", "many_fits", defArgs s_many_fits, defBody s_many_fits, defScope s_many_fits, [], []⟩
def d_sizes_fit : He.DefD := ⟨("sizes_fit", none), "sizes_fit", "sizes_fit", defArgs s_sizes_fit, defBody s_sizes_fit, defScope s_sizes_fit, [], []⟩
def d_setting_fits : He.DefD := ⟨("setting_fits", none), "setting_fits", "setting_fits", defArgs s_setting_fits, defBody s_setting_fits, defScope s_setting_fits, [], []⟩
def d_house_fits : He.DefD := ⟨("house_fits", none), "house_fits", "house_fits", defArgs s_house_fits, defBody s_house_fits, defScope s_house_fits, [], []⟩
def d_lot_fits : He.DefD := ⟨("lot_fits", none), "lot_fits", "lot_fits", defArgs s_lot_fits, defBody s_lot_fits, defScope s_lot_fits, [], []⟩
def d_spans_of : He.DefD := ⟨("spans_of", none), "spans_of", "spans_of", defArgs s_spans_of, defBody s_spans_of, defScope s_spans_of, [], []⟩
def d_many_settings : He.DefD := ⟨("many_settings", none), "many_settings", "many_settings", defArgs s_many_settings, defBody s_many_settings, defScope s_many_settings, [], []⟩
def d_place_by : He.DefD := ⟨("place_by", none), "place_by", "place_by", defArgs s_place_by, defBody s_place_by, defScope s_place_by, [], []⟩
def d_setting_by : He.DefD := ⟨("setting_by", none), "setting_by", "setting_by", defArgs s_setting_by, defBody s_setting_by, defScope s_setting_by, [], []⟩
def d_corner_places : He.DefD := ⟨("corner_places", none), "corner_places", "corner_places", defArgs s_corner_places, defBody s_corner_places, defScope s_corner_places, [], []⟩
def d_odd_spot : He.DefD := ⟨("odd_spot", none), "odd_spot", "odd_spot", defArgs s_odd_spot, defBody s_odd_spot, defScope s_odd_spot, [], []⟩
def d_is_number : He.DefD := ⟨("is_number", none), "is_number", "is_number", defArgs s_is_number, defBody s_is_number, defScope s_is_number, [], []⟩
def d_is_bit : He.DefD := ⟨("is_bit", none), "is_bit", "is_bit", defArgs s_is_bit, defBody s_is_bit, defScope s_is_bit, [], []⟩
def d_is_sizes : He.DefD := ⟨("is_sizes", none), "is_sizes", "is_sizes", defArgs s_is_sizes, defBody s_is_sizes, defScope s_is_sizes, [], []⟩
def d_is_setting : He.DefD := ⟨("is_setting", none), "is_setting", "is_setting", defArgs s_is_setting, defBody s_is_setting, defScope s_is_setting, [], []⟩
def d_is_lot : He.DefD := ⟨("is_lot", none), "is_lot", "is_lot", defArgs s_is_lot, defBody s_is_lot, defScope s_is_lot, [], []⟩
def d_is_table : He.DefD := ⟨("is_table", none), "is_table", "is_table", defArgs s_is_table, defBody s_is_table, defScope s_is_table, [], []⟩
def d_want_houses : He.DefD := ⟨("_want_houses", none), "_want_houses", "_want_houses", defArgs s_want_houses, defBody s_want_houses, defScope s_want_houses, [], []⟩
def d_odd_four : He.DefD := ⟨("odd_four", none), "odd_four", "odd_four", defArgs s_odd_four, defBody s_odd_four, defScope s_odd_four, [], []⟩
def d_are_knit : He.DefD := ⟨("are_knit", none), "are_knit", "are_knit", defArgs s_are_knit, defBody s_are_knit, defScope s_are_knit, [], []⟩
def d_knit_pairs : He.DefD := ⟨("knit_pairs", none), "knit_pairs", "knit_pairs", defArgs s_knit_pairs, defBody s_knit_pairs, defScope s_knit_pairs, [], []⟩
def d_clumps_of : He.DefD := ⟨("clumps_of", none), "clumps_of", "clumps_of", defArgs s_clumps_of, defBody s_clumps_of, defScope s_clumps_of, [], []⟩
def d_idle_houses : He.DefD := ⟨("idle_houses", none), "idle_houses", "idle_houses", defArgs s_idle_houses, defBody s_idle_houses, defScope s_idle_houses, [], []⟩
def d_is_idle : He.DefD := ⟨("_is_idle", none), "_is_idle", "_is_idle", defArgs s_is_idle, defBody s_is_idle, defScope s_is_idle, [], []⟩
def d_is_four : He.DefD := ⟨("is_four", none), "is_four", "is_four", defArgs s_is_four, defBody s_is_four, defScope s_is_four, [], []⟩
def d_is_change : He.DefD := ⟨("_is_change", none), "_is_change", "_is_change", defArgs s_is_change, defBody s_is_change, defScope s_is_change, [], []⟩
def d_changed : He.DefD := ⟨("_changed", none), "_changed", "_changed", defArgs s_changed, defBody s_changed, defScope s_changed, [], []⟩
def d_four_settings : He.DefD := ⟨("four_settings", none), "four_settings", "four_settings", defArgs s_four_settings, defBody s_four_settings, defScope s_four_settings, [], []⟩
def d_is_odd : He.DefD := ⟨("is_odd", none), "is_odd", "is_odd", defArgs s_is_odd, defBody s_is_odd, defScope s_is_odd, [], []⟩
def d_is_seam : He.DefD := ⟨("is_seam", none), "is_seam", "is_seam", defArgs s_is_seam, defBody s_is_seam, defScope s_is_seam, [], []⟩
def d_law_row : He.DefD := ⟨("_law_row", none), "_law_row", "_law_row", defArgs s_law_row, defBody s_law_row, defScope s_law_row, [], []⟩
def d_law_same : He.DefD := ⟨("_law_same", none), "_law_same", "_law_same", defArgs s_law_same, defBody s_law_same, defScope s_law_same, [], []⟩
def d_law_settings : He.DefD := ⟨("_law_settings", none), "_law_settings", "_law_settings", defArgs s_law_settings, defBody s_law_settings, defScope s_law_settings, [], []⟩
def d_law_steps : He.DefD := ⟨("_law_steps", none), "_law_steps", "_law_steps", defArgs s_law_steps, defBody s_law_steps, defScope s_law_steps, [], []⟩
def d_law_sizes : He.DefD := ⟨("_law_sizes", none), "_law_sizes", "_law_sizes", defArgs s_law_sizes, defBody s_law_sizes, defScope s_law_sizes, [], []⟩
def d_law_on : He.DefD := ⟨("_law_on", none), "_law_on", "_law_on", defArgs s_law_on, defBody s_law_on, defScope s_law_on, [], []⟩
def d_law_summed : He.DefD := ⟨("_law_summed", none), "_law_summed", "_law_summed", defArgs s_law_summed, defBody s_law_summed, defScope s_law_summed, [], []⟩
def d_law_by_terms : He.DefD := ⟨("_law_by_terms", none), "_law_by_terms", "_law_by_terms", defArgs s_law_by_terms, defBody s_law_by_terms, defScope s_law_by_terms, [], []⟩
def d_law_table : He.DefD := ⟨("_law_table", none), "_law_table", "_law_table", defArgs s_law_table, defBody s_law_table, defScope s_law_table, [], []⟩
def d_law_odd_sum : He.DefD := ⟨("_law_odd_sum", none), "_law_odd_sum", "_law_odd_sum", defArgs s_law_odd_sum, defBody s_law_odd_sum, defScope s_law_odd_sum, [], []⟩
def d_law_knit : He.DefD := ⟨("_law_knit", none), "_law_knit", "_law_knit", defArgs s_law_knit, defBody s_law_knit, defScope s_law_knit, [], []⟩
def d_law_classes : He.DefD := ⟨("_law_classes", none), "_law_classes", "_law_classes", defArgs s_law_classes, defBody s_law_classes, defScope s_law_classes, [], []⟩
def d_law_lots : He.DefD := ⟨("_law_lots", none), "_law_lots", "_law_lots", defArgs s_law_lots, defBody s_law_lots, defScope s_law_lots, [], []⟩
def d_law_seam : He.DefD := ⟨("_law_seam", none), "_law_seam", "_law_seam", defArgs s_law_seam, defBody s_law_seam, defScope s_law_seam, [], []⟩
def d_law_four_right : He.DefD := ⟨("_law_four_right", none), "_law_four_right", "_law_four_right", defArgs s_law_four_right, defBody s_law_four_right, defScope s_law_four_right, [], []⟩
def d_law_idle : He.DefD := ⟨("_law_idle", none), "_law_idle", "_law_idle", defArgs s_law_idle, defBody s_law_idle, defScope s_law_idle, [], []⟩
def d_law_pairs_right : He.DefD := ⟨("_law_pairs_right", none), "_law_pairs_right", "_law_pairs_right", defArgs s_law_pairs_right, defBody s_law_pairs_right, defScope s_law_pairs_right, [], []⟩
def d_law : He.DefD := ⟨("law", none), "law", "law", defArgs s_law, defBody s_law, defScope s_law, [], []⟩
def fn : List He.DefD := [d_a_want, d_integer_fits, d_number_fits, d_many_fits, d_sizes_fit, d_setting_fits, d_house_fits, d_lot_fits, d_spans_of, d_many_settings, d_place_by, d_setting_by, d_corner_places, d_odd_spot, d_is_number, d_is_bit, d_is_sizes, d_is_setting, d_is_lot, d_is_table, d_want_houses, d_odd_four, d_are_knit, d_knit_pairs, d_clumps_of, d_idle_houses, d_is_idle, d_is_four, d_is_change, d_changed, d_four_settings, d_is_odd, d_is_seam, d_law_row, d_law_same, d_law_settings, d_law_steps, d_law_sizes, d_law_on, d_law_summed, d_law_by_terms, d_law_table, d_law_odd_sum, d_law_knit, d_law_classes, d_law_lots, d_law_seam, d_law_four_right, d_law_idle, d_law_pairs_right, d_law]
def fa : List He.Fa := [.glo "a_want", .glo "integer_fits", .glo "number_fits", .glo "many_fits", .glo "sizes_fit", .glo "setting_fits", .glo "house_fits", .glo "lot_fits", .glo "spans_of", .glo "many_settings", .glo "place_by", .glo "setting_by", .glo "corner_places", .glo "odd_spot", .glo "is_number", .glo "is_bit", .glo "is_sizes", .glo "is_setting", .glo "is_lot", .glo "is_table", .glo "_want_houses", .glo "odd_four", .glo "are_knit", .glo "knit_pairs", .glo "clumps_of", .glo "idle_houses", .glo "_is_idle", .glo "is_four", .glo "_is_change", .glo "_changed", .glo "four_settings", .glo "is_odd", .glo "is_seam", .glo "_law_row", .glo "_law_same", .glo "_law_settings", .glo "_law_steps", .glo "_law_sizes", .glo "_law_on", .glo "_law_summed", .glo "_law_by_terms", .glo "_law_table", .glo "_law_odd_sum", .glo "_law_knit", .glo "_law_classes", .glo "_law_lots", .glo "_law_seam", .glo "_law_four_right", .glo "_law_idle", .glo "_law_pairs_right", .glo "law", .free "isinstance", .free "int", .free "bool", .free "tuple", .free "len", .free "all", .free "zip", .free "range", .free "list", .free "max", .free "min", .free "sum", .free "sorted", .free "abs", .free "str"]
def loose1 : List PySem.Str := ["ReckonError", "GroundError", "NotUsable", "a_want", "integer_fits", "number_fits", "many_fits", "sizes_fit", "setting_fits", "house_fits", "lot_fits", "spans_of", "many_settings", "place_by", "setting_by", "corner_places", "odd_spot", "is_number", "is_bit", "is_sizes", "is_setting", "is_lot", "is_table", "_want_houses", "odd_four", "are_knit", "knit_pairs", "clumps_of", "idle_houses", "_is_idle"]
def loose2 : List PySem.Str := ["is_four", "_is_change", "_changed", "four_settings", "is_odd", "is_seam", "_law_row", "_law_same", "_law_settings", "_law_steps", "_law_sizes", "_law_on", "_law_summed", "_law_by_terms", "_law_table", "_law_odd_sum", "_law_knit", "_law_classes", "_law_lots", "_law_seam", "_law_four_right", "_law_idle", "_law_pairs_right"]
def loose : List PySem.Str := loose1 ++ loose2
abbrev R : PySem.W.OpenRow := PySem.W.OpenLaw.row PySem.Challenge.rw_closereckoned_k07_whole_seams_and_clumps
abbrev hk : PySem.W.Hook := He.hookD 4 fa fn
def ob (s : PySem.W.SharedT) : He.AlD := He.obsDG 4 fa fn (HandSHeadRun.getT s)
theorem ob_eq (s : PySem.W.SharedT) : ob s = hk.obs s.abs := He.obsDG_eq (HandSHeadRun.getT_eq s)
theorem run (w : World) : HandSHeadRun.RunEq R (PySem.W.view R.prog [62]) hk ob 6000 loose w := by
  intro os
  kernel_rfl
end Ck
set_option Elab.async false
set_option linter.all false
set_option maxRecDepth 100000
set_option maxHeartbeats 4000000
/-! Px: the layer's rules under the names of Ly, one a construct; a def's promise by its body. -/
namespace Ck
open PySem PySem.Spec PyProof.Rows L2 Evl RZ
structure Bs (mg : Str → Option Value) : Prop where
  isinstance : mg "isinstance" = none
  int : mg "int" = none
  bool : mg "bool" = none
  tuple : mg "tuple" = none
  len : mg "len" = none
  all : mg "all" = none
  zip : mg "zip" = none
  range : mg "range" = none
  list : mg "list" = none
  max : mg "max" = none
  min : mg "min" = none
  sum : mg "sum" = none
  sorted : mg "sorted" = none
  abs : mg "abs" = none
  str : mg "str" = none
/-- the def x keeps the promise sp, by at most level k -/
structure Cal (P : Program) (w : World) (K : PySem.W.Frag) (mg : Str → Option Value) (base : Heap) (k : Nat) (x : Str) (sp : Sp) : Prop where
  ex : ∃ (f : Addr) (fd : FuncData) (ps : List Str), FnOk P w K mg base CX0 k f fd ps sp ∧ mg x = some (.ref f) ∧ PySem.W.keepIn K (.ref f) = true ∧ Binds K fd ps []
theorem px_c {X : Cx} {k j : Nat} {x : Str} {sp : Sp} {e : Expr} {es : List Expr} {t : TA} {p pos : Pos} (c : Cal X.prog X.w X.K X.mg X.base k x sp) (hr : Room j X.A) (hk : k ≤ j) (hg : Gl X x) (ha : PA X (e :: es) t)
    (hdb : (x == ("__debug__" : Str)) = false := by decide) (he : starEach (e :: es) X.env = (false, eval e X.env) :: starEach es X.env := by rfl) (hpl : (backTo pos (starEach es X.env)).any (·.1) = false := by rfl) :
    PE X (.Call (.Name x p) (e :: es) [] pos) (xCall sp t) := by
  obtain ⟨f, fd, ps, F, hm, kp, b⟩ := c.ex
  exact pe_call F (hr.mono hk) hg hm kp b .nil pass0 ha hdb he hpl
section
variable {X : Cx} {a b c e : Expr} {ta tb tc te : TE} {pos p : Pos}
theorem px_nat {n : Nat} {j : Nat} : PE X (.Constant (.int (n : Int)) j pos) (xNat n) := pe_int
theorem px_bl {z : Bool} {j : Nat} : PE X (.Constant (.bool z) j pos) (xBl z) := pe_bl
theorem px_non {j : Nat} : PE X (.Constant .none j pos) xNon := pe_non
theorem px_str {z : Str} {j : Nat} : PE X (.Constant (.str z) j pos) (xStr z) := pe_str
theorem px_add (ha : PE X a ta) (hb : PE X b tb) : PE X (.BinOp a .Add b pos) (xAdd ta tb) := pe_op op_add ha hb
theorem px_sub (ha : PE X a ta) (hb : PE X b tb) : PE X (.BinOp a .Sub b pos) (xSub ta tb) := pe_op op_sub ha hb
theorem px_mul (ha : PE X a ta) (hb : PE X b tb) : PE X (.BinOp a .Mult b pos) (xMul ta tb) := pe_op op_mul ha hb
theorem px_fdiv (ha : PE X a ta) (hb : PE X b tb) : PE X (.BinOp a .FloorDiv b pos) (xFdiv ta tb) := pe_op op_fdiv ha hb
theorem px_mod (ha : PE X a ta) (hb : PE X b tb) : PE X (.BinOp a .Mod b pos) (xMod ta tb) := pe_op op_mod ha hb
theorem px_xor (ha : PE X a ta) (hb : PE X b tb) : PE X (.BinOp a .BitXor b pos) (xXor ta tb) := pe_op op_xor ha hb
theorem px_catT (ha : PE X a ta) (hb : PE X b tb) : PE X (.BinOp a .Add b pos) (xCatT X.K ta tb) := pe_op op_catA ha hb
theorem px_catL (ha : PE X a ta) (hb : PE X b tb) : PE X (.BinOp a .Add b pos) (xCatL ta tb) := pe_op op_cat ha hb
theorem px_rep (ha : PE X a ta) (hb : PE X b tb) : PE X (.BinOp a .Mult b pos) (xRep ta tb) := pe_op op_rep ha hb
theorem px_neg (ha : PE X a ta) : PE X (.UnaryOp .USub a pos) (xNeg ta) := pe_un un_neg ha
theorem px_not (ha : PE X a ta) : PE X (.UnaryOp .Not a pos) (xNot ta) := pe_not ha
theorem px_lt (ha : PE X a ta) (hb : PE X b tb) : PE X (.Compare a [.Lt] [b] pos) (xLt ta tb) := pe_cmpR op_lt ha hb (nomark _)
theorem px_le (ha : PE X a ta) (hb : PE X b tb) : PE X (.Compare a [.LtE] [b] pos) (xLe ta tb) := pe_cmpR op_le ha hb (nomark _)
theorem px_gt (ha : PE X a ta) (hb : PE X b tb) : PE X (.Compare a [.Gt] [b] pos) (xGt ta tb) := pe_cmpR op_gt ha hb (nomark _)
theorem px_ge (ha : PE X a ta) (hb : PE X b tb) : PE X (.Compare a [.GtE] [b] pos) (xGe ta tb) := pe_cmpR op_ge ha hb (nomark _)
theorem px_eq (ha : PE X a ta) (hb : PE X b tb) : PE X (.Compare a [.Eq] [b] pos) (xEq ta tb) := pe_cmpR op_eq ha hb (nomark _)
theorem px_ne (ha : PE X a ta) (hb : PE X b tb) : PE X (.Compare a [.NotEq] [b] pos) (xNe ta tb) := pe_cmpR op_ne ha hb (nomark _)
theorem px_isN {j p'} (ha : PE X a ta) : PE X (.Compare a [.Is] [.Constant .none j p'] pos) (xIsN ta) := pe_cmp (pc_isN ha)
theorem px_notN {j p'} (ha : PE X a ta) : PE X (.Compare a [.IsNot] [.Constant .none j p'] pos) (xNotN ta) := pe_cmp (pc_notN ha)
theorem px_in (ha : PE X a ta) (hb : PE X b tb) (hm : behindInMarks .In b = false := by rfl) : PE X (.Compare a [.In] [b] pos) (xIn X.K ta tb) := pe_cmpR op_in_seq ha hb hm
theorem px_notin (ha : PE X a ta) (hb : PE X b tb) (hm : behindInMarks .NotIn b = false := by rfl) : PE X (.Compare a [.NotIn] [b] pos) (xNotIn X.K ta tb) := pe_cmpR op_notIn_seq ha hb hm
theorem px_chLt (ha : PE X a ta) (hb : PE X b tb) (hc : PE X c tc) (hm : lastMarks [CmpOp.Lt, CmpOp.Lt] [b, c] = false := by rfl) : PE X (.Compare a [.Lt, .Lt] [b, c] pos) (xChLt ta tb tc) := pe_chain op_lt op_lt ha hb hc hm
theorem pq_lt (ha : PE X a ta) (hb : PE X b tb) : PT X (.Compare a [.Lt] [b] pos) (tB (xLt ta tb)) := pt_cmpR op_lt ha hb (nomark _)
theorem pq_le (ha : PE X a ta) (hb : PE X b tb) : PT X (.Compare a [.LtE] [b] pos) (tB (xLe ta tb)) := pt_cmpR op_le ha hb (nomark _)
theorem pq_gt (ha : PE X a ta) (hb : PE X b tb) : PT X (.Compare a [.Gt] [b] pos) (tB (xGt ta tb)) := pt_cmpR op_gt ha hb (nomark _)
theorem pq_ge (ha : PE X a ta) (hb : PE X b tb) : PT X (.Compare a [.GtE] [b] pos) (tB (xGe ta tb)) := pt_cmpR op_ge ha hb (nomark _)
theorem pq_eq (ha : PE X a ta) (hb : PE X b tb) : PT X (.Compare a [.Eq] [b] pos) (tB (xEq ta tb)) := pt_cmpR op_eq ha hb (nomark _)
theorem pq_ne (ha : PE X a ta) (hb : PE X b tb) : PT X (.Compare a [.NotEq] [b] pos) (tB (xNe ta tb)) := pt_cmpR op_ne ha hb (nomark _)
theorem pq_isN {j p'} (ha : PE X a ta) : PT X (.Compare a [.Is] [.Constant .none j p'] pos) (tB (xIsN ta)) := pt_cmp (pc_isN ha)
theorem pq_notN {j p'} (ha : PE X a ta) : PT X (.Compare a [.IsNot] [.Constant .none j p'] pos) (tB (xNotN ta)) := pt_cmp (pc_notN ha)
theorem pq_in (ha : PE X a ta) (hb : PE X b tb) (hm : behindInMarks .In b = false := by rfl) : PT X (.Compare a [.In] [b] pos) (tB (xIn X.K ta tb)) := pt_cmpR op_in_seq ha hb hm
theorem pq_notin (ha : PE X a ta) (hb : PE X b tb) (hm : behindInMarks .NotIn b = false := by rfl) : PT X (.Compare a [.NotIn] [b] pos) (tB (xNotIn X.K ta tb)) := pt_cmpR op_notIn_seq ha hb hm
theorem pq_chLt (ha : PE X a ta) (hb : PE X b tb) (hc : PE X c tc) (hm : lastMarks [CmpOp.Lt, CmpOp.Lt] [b, c] = false := by rfl) : PT X (.Compare a [.Lt, .Lt] [b, c] pos) (tB (xChLt ta tb tc)) := pt_chain op_lt op_lt ha hb hc hm
theorem px_ixL (ha : PE X a ta) (hb : PE X b tb) (hs : PlainIx b := by exact fun _ _ => rfl) : PE X (.Subscript a b pos) (xIxL X.K ta tb) := pe_ix ix_list ha hb hs
theorem px_ixT (ha : PE X a ta) (hb : PE X b tb) (hs : PlainIx b := by exact fun _ _ => rfl) : PE X (.Subscript a b pos) (xIxT X.K ta tb) := pe_ix ix_tup ha hb hs
theorem px_tup {es : List Expr} {t : TA} {j : Nat} (h : PA X es t) : PE X (.Tuple es j pos) (xTup t) := pe_tup h
theorem px_lst {es : List Expr} {t : TA} (h : PA X es t) : PE X (.List es pos) (xLst t) := pe_lst h
theorem px_if {t : TT} (hc : PT X c t) (ha : PE X a ta) (hb : PE X b tb) : PE X (.IfExp c a b pos) (tIf t ta tb) := pe_ifExp hc ha hb
theorem px_tyInt (hg : Gl X "int") (hm : X.mg "int" = none) : PE X (.Name "int" pos) (xTy "int") := pe_bltn hg hm boot_int rfl
theorem px_tyBool (hg : Gl X "bool") (hm : X.mg "bool" = none) : PE X (.Name "bool" pos) (xTy "bool") := pe_bltn hg hm boot_bool rfl
theorem px_tyTup (hg : Gl X "tuple") (hm : X.mg "tuple" = none) : PE X (.Name "tuple" pos) (xTy "tuple") := pe_bltn hg hm boot_tuple rfl
theorem px_tyStr (hg : Gl X "str") (hm : X.mg "str" = none) : PE X (.Name "str" pos) (xTy "str") := pe_bltn hg hm boot_str rfl
theorem cal_mk {P : Program} {w : World} {K : PySem.W.Frag} {mg : Str → Option Value} {base : Heap} {x : Str} {st : Stmt} {f : Addr} {fd : FuncData} {N ps : List Str} {k : Nat} {sp : Sp} {t : TS}
    (F : FunD K x x (defArgs st) (defBody st) (defScope st) [] [] f fd) (g : mg x = some (.ref f))
    (hb : ∀ (kV doc pm : Value) (an : Option Addr) (cdv ct : Value) (us : List Value), us.length = ps.length → bindArgs (PySem.W.fnOf x x (defArgs st) (defBody st) (defScope st) .none kV doc pm an cdv ct) ⟨us, []⟩ = pure (ps.zip us))
    (S : FnScope N ps (defScope st)) (len : ∀ vs H Q E, sp vs H Q E → vs.length = ps.length)
    (d : ∀ (cdv : Value) (A : Around) (outer : List Env) (s : Shared) (H : Hp) (E : XK), Room k (A.deeper (envOfC x (defScope st) s.heap.objs.size f cdv)) → PSs (cxOf CX0 P w K mg base N x (defScope st) f cdv A outer s H E).nox (defBody st) t)
    (pure : ∀ vs H Q E, sp vs H Q E → t { nx := fun _ H' => Q .non H', rt := Q } (start N vs) H) : Cal P w K mg base (k + 1) x sp :=
  ⟨f, fd, ps, F.ok S len fun cdv A outer s H vs Q E hr h => ⟨t, PSs.nox (d cdv A outer s H E hr), pure vs H Q E h⟩, g, F.kp, F.bindsN hb⟩
theorem cal_never {P : Program} {w : World} {K : PySem.W.Frag} {mg : Str → Option Value} {base : Heap} {x : Str} {st : Stmt} {f : Addr} {fd : FuncData} {ps : List Str}
    (F : FunD K x x (defArgs st) (defBody st) (defScope st) [] [] f fd) (g : mg x = some (.ref f))
    (hb : ∀ (kV doc pm : Value) (an : Option Addr) (cdv ct : Value) (us : List Value), us.length = ps.length → bindArgs (PySem.W.fnOf x x (defArgs st) (defBody st) (defScope st) .none kV doc pm an cdv ct) ⟨us, []⟩ = pure (ps.zip us)) : Cal P w K mg base 0 x (fun _ _ _ _ => False) :=
  ⟨f, fd, ps, ⟨fun _ _ _ _ h => h.elim, fun _ _ _ _ _ _ _ _ _ _ _ _ _ h => h.elim⟩, g, F.kp, F.bindsN hb⟩
end
end Ck
set_option Elab.async false
set_option linter.all false
set_option maxRecDepth 100000
set_option maxHeartbeats 4000000
namespace Ck
open PySem PySem.Spec PyProof.Rows L2 Evl RZ
theorem sc_a_want : FnScope N_a_want ["good", "word"] (defScope s_a_want) := ⟨rfl, rfl, rfl, by decide +kernel, rfl, by decide +kernel, by decide +kernel⟩
theorem sc_integer_fits : FnScope N_integer_fits ["thing"] (defScope s_integer_fits) := ⟨rfl, rfl, rfl, by decide +kernel, rfl, by decide +kernel, by decide +kernel⟩
theorem sc_number_fits : FnScope N_number_fits ["thing"] (defScope s_number_fits) := ⟨rfl, rfl, rfl, by decide +kernel, rfl, by decide +kernel, by decide +kernel⟩
theorem sc_many_fits : FnScope N_many_fits ["thing"] (defScope s_many_fits) := ⟨rfl, rfl, rfl, by decide +kernel, rfl, by decide +kernel, by decide +kernel⟩
theorem sc_sizes_fit : FnScope N_sizes_fit ["thing"] (defScope s_sizes_fit) := ⟨rfl, rfl, rfl, by decide +kernel, rfl, by decide +kernel, by decide +kernel⟩
theorem sc_setting_fits : FnScope N_setting_fits ["sizes", "thing"] (defScope s_setting_fits) := ⟨rfl, rfl, rfl, by decide +kernel, rfl, by decide +kernel, by decide +kernel⟩
theorem sc_house_fits : FnScope N_house_fits ["many", "thing"] (defScope s_house_fits) := ⟨rfl, rfl, rfl, by decide +kernel, rfl, by decide +kernel, by decide +kernel⟩
theorem sc_lot_fits : FnScope N_lot_fits ["many", "thing"] (defScope s_lot_fits) := ⟨rfl, rfl, rfl, by decide +kernel, rfl, by decide +kernel, by decide +kernel⟩
theorem sc_spans_of : FnScope N_spans_of ["sizes"] (defScope s_spans_of) := ⟨rfl, rfl, rfl, by decide +kernel, rfl, by decide +kernel, by decide +kernel⟩
theorem sc_many_settings : FnScope N_many_settings ["sizes"] (defScope s_many_settings) := ⟨rfl, rfl, rfl, by decide +kernel, rfl, by decide +kernel, by decide +kernel⟩
theorem sc_place_by : FnScope N_place_by ["sizes", "setting"] (defScope s_place_by) := ⟨rfl, rfl, rfl, by decide +kernel, rfl, by decide +kernel, by decide +kernel⟩
theorem sc_setting_by : FnScope N_setting_by ["sizes", "place"] (defScope s_setting_by) := ⟨rfl, rfl, rfl, by decide +kernel, rfl, by decide +kernel, by decide +kernel⟩
theorem sc_corner_places : FnScope N_corner_places ["sizes", "lot"] (defScope s_corner_places) := ⟨rfl, rfl, rfl, by decide +kernel, rfl, by decide +kernel, by decide +kernel⟩
theorem sc_odd_spot : FnScope N_odd_spot ["sizes", "table", "one", "other"] (defScope s_odd_spot) := ⟨rfl, rfl, rfl, by decide +kernel, rfl, by decide +kernel, by decide +kernel⟩
theorem sc_is_number : FnScope N_is_number ["thing"] (defScope s_is_number) := ⟨rfl, rfl, rfl, by decide +kernel, rfl, by decide +kernel, by decide +kernel⟩
theorem sc_is_bit : FnScope N_is_bit ["thing"] (defScope s_is_bit) := ⟨rfl, rfl, rfl, by decide +kernel, rfl, by decide +kernel, by decide +kernel⟩
theorem sc_is_sizes : FnScope N_is_sizes ["thing"] (defScope s_is_sizes) := ⟨rfl, rfl, rfl, by decide +kernel, rfl, by decide +kernel, by decide +kernel⟩
theorem sc_is_setting : FnScope N_is_setting ["sizes", "thing"] (defScope s_is_setting) := ⟨rfl, rfl, rfl, by decide +kernel, rfl, by decide +kernel, by decide +kernel⟩
theorem sc_is_lot : FnScope N_is_lot ["many", "thing"] (defScope s_is_lot) := ⟨rfl, rfl, rfl, by decide +kernel, rfl, by decide +kernel, by decide +kernel⟩
theorem sc_is_table : FnScope N_is_table ["sizes", "thing"] (defScope s_is_table) := ⟨rfl, rfl, rfl, by decide +kernel, rfl, by decide +kernel, by decide +kernel⟩
theorem sc_want_houses : FnScope N_want_houses ["sizes", "table", "one", "other"] (defScope s_want_houses) := ⟨rfl, rfl, rfl, by decide +kernel, rfl, by decide +kernel, by decide +kernel⟩
theorem sc_odd_four : FnScope N_odd_four ["sizes", "table", "one", "other"] (defScope s_odd_four) := ⟨rfl, rfl, rfl, by decide +kernel, rfl, by decide +kernel, by decide +kernel⟩
theorem sc_are_knit : FnScope N_are_knit ["sizes", "table", "one", "other"] (defScope s_are_knit) := ⟨rfl, rfl, rfl, by decide +kernel, rfl, by decide +kernel, by decide +kernel⟩
theorem sc_knit_pairs : FnScope N_knit_pairs ["sizes", "table"] (defScope s_knit_pairs) := ⟨rfl, rfl, rfl, by decide +kernel, rfl, by decide +kernel, by decide +kernel⟩
theorem sc_clumps_of : FnScope N_clumps_of ["sizes", "table"] (defScope s_clumps_of) := ⟨rfl, rfl, rfl, by decide +kernel, rfl, by decide +kernel, by decide +kernel⟩
theorem sc_idle_houses : FnScope N_idle_houses ["sizes", "table"] (defScope s_idle_houses) := ⟨rfl, rfl, rfl, by decide +kernel, rfl, by decide +kernel, by decide +kernel⟩
theorem sc_is_idle : FnScope N_is_idle ["sizes", "table", "house"] (defScope s_is_idle) := ⟨rfl, rfl, rfl, by decide +kernel, rfl, by decide +kernel, by decide +kernel⟩
theorem sc_is_four : FnScope N_is_four ["sizes", "thing"] (defScope s_is_four) := ⟨rfl, rfl, rfl, by decide +kernel, rfl, by decide +kernel, by decide +kernel⟩
theorem sc_is_change : FnScope N_is_change ["sizes", "setting", "house", "choice"] (defScope s_is_change) := ⟨rfl, rfl, rfl, by decide +kernel, rfl, by decide +kernel, by decide +kernel⟩
theorem sc_changed : FnScope N_changed ["setting", "house", "choice"] (defScope s_changed) := ⟨rfl, rfl, rfl, by decide +kernel, rfl, by decide +kernel, by decide +kernel⟩
theorem sc_four_settings : FnScope N_four_settings ["sizes", "four"] (defScope s_four_settings) := ⟨rfl, rfl, rfl, by decide +kernel, rfl, by decide +kernel, by decide +kernel⟩
theorem sc_is_odd : FnScope N_is_odd ["sizes", "table", "four"] (defScope s_is_odd) := ⟨rfl, rfl, rfl, by decide +kernel, rfl, by decide +kernel, by decide +kernel⟩
theorem sc_is_seam : FnScope N_is_seam ["sizes", "table", "lot"] (defScope s_is_seam) := ⟨rfl, rfl, rfl, by decide +kernel, rfl, by decide +kernel, by decide +kernel⟩
theorem sc_law_row : FnScope N_law_row ["_law_script", "_law_many"] (defScope s_law_row) := ⟨rfl, rfl, rfl, by decide +kernel, rfl, by decide +kernel, by decide +kernel⟩
theorem sc_law_same : FnScope N_law_same ["_law_a", "_law_b"] (defScope s_law_same) := ⟨rfl, rfl, rfl, by decide +kernel, rfl, by decide +kernel, by decide +kernel⟩
theorem sc_law_settings : FnScope N_law_settings ["_law_s"] (defScope s_law_settings) := ⟨rfl, rfl, rfl, by decide +kernel, rfl, by decide +kernel, by decide +kernel⟩
theorem sc_law_steps : FnScope N_law_steps ["_law_s"] (defScope s_law_steps) := ⟨rfl, rfl, rfl, by decide +kernel, rfl, by decide +kernel, by decide +kernel⟩
theorem sc_law_sizes : FnScope N_law_sizes ["_law_row_here"] (defScope s_law_sizes) := ⟨rfl, rfl, rfl, by decide +kernel, rfl, by decide +kernel, by decide +kernel⟩
theorem sc_law_on : FnScope N_law_on ["_law_s", "_law_steps_here", "_law_l", "_law_x"] (defScope s_law_on) := ⟨rfl, rfl, rfl, by decide +kernel, rfl, by decide +kernel, by decide +kernel⟩
theorem sc_law_summed : FnScope N_law_summed ["_law_row_here", "_law_s", "_law_start"] (defScope s_law_summed) := ⟨rfl, rfl, rfl, by decide +kernel, rfl, by decide +kernel, by decide +kernel⟩
theorem sc_law_by_terms : FnScope N_law_by_terms ["_law_row_here", "_law_s", "_law_start"] (defScope s_law_by_terms) := ⟨rfl, rfl, rfl, by decide +kernel, rfl, by decide +kernel, by decide +kernel⟩
theorem sc_law_table : FnScope N_law_table ["_law_row_here", "_law_s", "_law_start"] (defScope s_law_table) := ⟨rfl, rfl, rfl, by decide +kernel, rfl, by decide +kernel, by decide +kernel⟩
theorem sc_law_odd_sum : FnScope N_law_odd_sum ["_law_t", "_law_p", "_law_up", "_law_across"] (defScope s_law_odd_sum) := ⟨rfl, rfl, rfl, by decide +kernel, rfl, by decide +kernel, by decide +kernel⟩
theorem sc_law_knit : FnScope N_law_knit ["_law_s", "_law_t", "_law_i", "_law_j"] (defScope s_law_knit) := ⟨rfl, rfl, rfl, by decide +kernel, rfl, by decide +kernel, by decide +kernel⟩
theorem sc_law_classes : FnScope N_law_classes ["_law_n", "_law_pairs"] (defScope s_law_classes) := ⟨rfl, rfl, rfl, by decide +kernel, rfl, by decide +kernel, by decide +kernel⟩
theorem sc_law_lots : FnScope N_law_lots ["_law_n"] (defScope s_law_lots) := ⟨rfl, rfl, rfl, by decide +kernel, rfl, by decide +kernel, by decide +kernel⟩
theorem sc_law_seam : FnScope N_law_seam ["_law_s", "_law_t", "_law_l"] (defScope s_law_seam) := ⟨rfl, rfl, rfl, by decide +kernel, rfl, by decide +kernel, by decide +kernel⟩
theorem sc_law_four_right : FnScope N_law_four_right ["_law_s", "_law_t", "_law_i", "_law_j", "_law_told"] (defScope s_law_four_right) := ⟨rfl, rfl, rfl, by decide +kernel, rfl, by decide +kernel, by decide +kernel⟩
theorem sc_law_idle : FnScope N_law_idle ["_law_s", "_law_t"] (defScope s_law_idle) := ⟨rfl, rfl, rfl, by decide +kernel, rfl, by decide +kernel, by decide +kernel⟩
theorem sc_law_pairs_right : FnScope N_law_pairs_right ["_law_s", "_law_t"] (defScope s_law_pairs_right) := ⟨rfl, rfl, rfl, by decide +kernel, rfl, by decide +kernel, by decide +kernel⟩
theorem sc_law : FnScope N_law ["_law_script"] (defScope s_law) := ⟨rfl, rfl, rfl, by decide +kernel, rfl, by decide +kernel, by decide +kernel⟩
theorem dv_a_want {P : Program} {w : World} {K : PySem.W.Frag} {mg : Str → Option Value} {base : Heap} {k : Nat} (B : Bs mg) {f : Addr} {cdv : Value} {A : Around} {outer : List Env} {s : Shared} {H : Hp} {E : XK} (hr : Room k (A.deeper (envOfC "a_want" (defScope s_a_want) s.heap.objs.size f cdv))) :
    PSs (cxOf CX0 P w K mg base N_a_want "a_want" (defScope s_a_want) f cdv A outer s H E).nox (defBody s_a_want) (t_a_want K) :=
  (pss_one (ps_if (pt_not (pt_val (pv 0))) (pss_one ps_never) pss_nil))
theorem dv_integer_fits {P : Program} {w : World} {K : PySem.W.Frag} {mg : Str → Option Value} {base : Heap} {k : Nat} (B : Bs mg) {f : Addr} {cdv : Value} {A : Around} {outer : List Env} {s : Shared} {H : Hp} {E : XK} (hr : Room k (A.deeper (envOfC "integer_fits" (defScope s_integer_fits) s.heap.objs.size f cdv))) :
    PSs (cxOf CX0 P w K mg base N_integer_fits "integer_fits" (defScope s_integer_fits) f cdv A outer s H E).nox (defBody s_integer_fits) (t_integer_fits K) :=
  (pss_one (ps_ret (pe_and (pe_callB call_isi (by rfl) B.isinstance boot_isinstance (pa_cons (pv 0) (pa_cons (px_tyInt (by rfl) B.int) pa_nil))) (pe_one (px_not (pe_callB call_isi (by rfl) B.isinstance boot_isinstance (pa_cons (pv 0) (pa_cons (px_tyBool (by rfl) B.bool) pa_nil))))))))
theorem dv_number_fits {P : Program} {w : World} {K : PySem.W.Frag} {mg : Str → Option Value} {base : Heap} {k : Nat} (B : Bs mg) {k_integer_fits : Nat} {sp_integer_fits : Sp} (c_integer_fits : Cal P w K mg base k_integer_fits "integer_fits" sp_integer_fits) (h_integer_fits : k_integer_fits ≤ k) {f : Addr} {cdv : Value} {A : Around} {outer : List Env} {s : Shared} {H : Hp} {E : XK} (hr : Room k (A.deeper (envOfC "number_fits" (defScope s_number_fits) s.heap.objs.size f cdv))) :
    PSs (cxOf CX0 P w K mg base N_number_fits "number_fits" (defScope s_number_fits) f cdv A outer s H E).nox (defBody s_number_fits) (t_number_fits K sp_integer_fits) :=
  (pss_one (ps_ret (pe_and (px_c c_integer_fits hr h_integer_fits (by rfl) (pa_cons (pv 0) pa_nil)) (pe_one (px_ge (pv 0) px_nat)))))
theorem dv_many_fits {P : Program} {w : World} {K : PySem.W.Frag} {mg : Str → Option Value} {base : Heap} {k : Nat} (B : Bs mg) {k_integer_fits : Nat} {sp_integer_fits : Sp} (c_integer_fits : Cal P w K mg base k_integer_fits "integer_fits" sp_integer_fits) (h_integer_fits : k_integer_fits ≤ k) {f : Addr} {cdv : Value} {A : Around} {outer : List Env} {s : Shared} {H : Hp} {E : XK} (hr : Room k (A.deeper (envOfC "many_fits" (defScope s_many_fits) s.heap.objs.size f cdv))) :
    PSs (cxOf CX0 P w K mg base N_many_fits "many_fits" (defScope s_many_fits) f cdv A outer s H E).nox (defBody s_many_fits) (t_many_fits K sp_integer_fits) :=
  (pss_one (ps_ret (pe_and (px_c c_integer_fits hr h_integer_fits (by rfl) (pa_cons (pv 0) pa_nil)) (pe_one (px_ge (pv 0) px_nat)))))
theorem dv_sizes_fit {P : Program} {w : World} {K : PySem.W.Frag} {mg : Str → Option Value} {base : Heap} {k : Nat} (B : Bs mg) {k_many_fits : Nat} {sp_many_fits : Sp} (c_many_fits : Cal P w K mg base k_many_fits "many_fits" sp_many_fits) (h_many_fits : k_many_fits ≤ k) {f : Addr} {cdv : Value} {A : Around} {outer : List Env} {s : Shared} {H : Hp} {E : XK} (hr : Room k (A.deeper (envOfC "sizes_fit" (defScope s_sizes_fit) s.heap.objs.size f cdv))) :
    PSs (cxOf CX0 P w K mg base N_sizes_fit "sizes_fit" (defScope s_sizes_fit) f cdv A outer s H E).nox (defBody s_sizes_fit) (t_sizes_fit K sp_many_fits) :=
  (pss_one (ps_ret (pe_and (pe_callB call_isi (by rfl) B.isinstance boot_isinstance (pa_cons (pv 0) (pa_cons (px_tyTup (by rfl) B.tuple) pa_nil))) (pe_and (px_gt (pe_callB call_len_seq (by rfl) B.len boot_len (pa_cons (pv 0) pa_nil)) px_nat) (pe_one (pe_callB (cr_all rfl) (by rfl) B.all boot_all (pa_cons (pe_lc (own := [("size", 1)]) (g := (gName 1)) rfl sc_sizes_fit.nd (pi_tup (pv 0)) (blkOk_by (own := [("size", 1)]) (N := N_sizes_fit) (sc := defScope s_sizes_fit) (by decide +kernel)) (fun _ _ _ _ _ => (pg_name (i := 1) sc_sizes_fit.nd rfl (Or.inl rfl))) (fun _ _ _ _ _ => pts_nil) (fun _ _ _ _ _ => (px_c c_many_fits hr h_many_fits (by rfl) (pa_cons (pv 1) pa_nil)))) pa_nil)))))))
theorem dv_setting_fits {P : Program} {w : World} {K : PySem.W.Frag} {mg : Str → Option Value} {base : Heap} {k : Nat} (B : Bs mg) {k_number_fits : Nat} {sp_number_fits : Sp} (c_number_fits : Cal P w K mg base k_number_fits "number_fits" sp_number_fits) (h_number_fits : k_number_fits ≤ k) {f : Addr} {cdv : Value} {A : Around} {outer : List Env} {s : Shared} {H : Hp} {E : XK} (hr : Room k (A.deeper (envOfC "setting_fits" (defScope s_setting_fits) s.heap.objs.size f cdv))) :
    PSs (cxOf CX0 P w K mg base N_setting_fits "setting_fits" (defScope s_setting_fits) f cdv A outer s H E).nox (defBody s_setting_fits) (t_setting_fits K sp_number_fits) :=
  (pss_cons (ps_if (PW.pt (pw_or (pt_not (pt_val (pe_callB call_isi (by rfl) B.isinstance boot_isinstance (pa_cons (pv 1) (pa_cons (px_tyTup (by rfl) B.tuple) pa_nil))))) (pw_or1 (pq_ne (pe_callB call_len_seq (by rfl) B.len boot_len (pa_cons (pv 1) pa_nil)) (pe_callB call_len_seq (by rfl) B.len boot_len (pa_cons (pv 0) pa_nil)))))) (pss_one (ps_ret px_bl)) pss_nil)
    (pss_one (ps_ret (pe_callB (cr_all rfl) (by rfl) B.all boot_all (pa_cons (pe_lc (own := [("choice", 2), ("size", 3)]) (g := (gTup K 2 (gCons (gName 2) (gCons (gName 3) gNil)))) rfl sc_setting_fits.nd (pi_zipA (by rfl) B.zip (pa_cons (pv 1) (pa_cons (pv 0) pa_nil))) (blkOk_by (own := [("choice", 2), ("size", 3)]) (N := N_setting_fits) (sc := defScope s_setting_fits) (by decide +kernel)) (fun _ _ _ _ _ => (pg_tup rfl (pgs_cons (pg_name (i := 2) sc_setting_fits.nd rfl (Or.inl rfl)) (pgs_cons (pg_name (i := 3) sc_setting_fits.nd rfl (Or.inl rfl)) pgs_nil)))) (fun _ _ _ _ _ => pts_nil) (fun _ _ _ _ _ => (pe_and (px_c c_number_fits hr h_number_fits (by rfl) (pa_cons (pv 2) pa_nil)) (pe_one (px_lt (pv 2) (pv 3)))))) pa_nil)))))
theorem dv_house_fits {P : Program} {w : World} {K : PySem.W.Frag} {mg : Str → Option Value} {base : Heap} {k : Nat} (B : Bs mg) {k_number_fits : Nat} {sp_number_fits : Sp} (c_number_fits : Cal P w K mg base k_number_fits "number_fits" sp_number_fits) (h_number_fits : k_number_fits ≤ k) {f : Addr} {cdv : Value} {A : Around} {outer : List Env} {s : Shared} {H : Hp} {E : XK} (hr : Room k (A.deeper (envOfC "house_fits" (defScope s_house_fits) s.heap.objs.size f cdv))) :
    PSs (cxOf CX0 P w K mg base N_house_fits "house_fits" (defScope s_house_fits) f cdv A outer s H E).nox (defBody s_house_fits) (t_house_fits K sp_number_fits) :=
  (pss_one (ps_ret (pe_and (px_c c_number_fits hr h_number_fits (by rfl) (pa_cons (pv 1) pa_nil)) (pe_one (px_lt (pv 1) (pv 0))))))
theorem dv_lot_fits {P : Program} {w : World} {K : PySem.W.Frag} {mg : Str → Option Value} {base : Heap} {k : Nat} (B : Bs mg) {k_house_fits : Nat} {sp_house_fits : Sp} (c_house_fits : Cal P w K mg base k_house_fits "house_fits" sp_house_fits) (h_house_fits : k_house_fits ≤ k) {f : Addr} {cdv : Value} {A : Around} {outer : List Env} {s : Shared} {H : Hp} {E : XK} (hr : Room k (A.deeper (envOfC "lot_fits" (defScope s_lot_fits) s.heap.objs.size f cdv))) :
    PSs (cxOf CX0 P w K mg base N_lot_fits "lot_fits" (defScope s_lot_fits) f cdv A outer s H E).nox (defBody s_lot_fits) (t_lot_fits K sp_house_fits) :=
  (pss_cons (ps_if (pt_not (pt_val (pe_callB call_isi (by rfl) B.isinstance boot_isinstance (pa_cons (pv 1) (pa_cons (px_tyTup (by rfl) B.tuple) pa_nil))))) (pss_one (ps_ret px_bl)) pss_nil)
    (pss_cons (ps_set (i := 2) sc_lot_fits.nd rfl (Or.inl rfl) (px_neg px_nat))
    (pss_cons (ps_for PassesOwn.never rfl (pi_tup (pv 1)) (pg_name (i := 3) sc_lot_fits.nd rfl (Or.inl rfl)) (pss_cons (ps_if (PW.pt (pw_or (pt_not (pt_val (px_c c_house_fits hr h_house_fits (by rfl) (pa_cons (pv 0) (pa_cons (pv 3) pa_nil))))) (pw_or1 (pq_le (pv 3) (pv 2))))) (pss_one (ps_ret px_bl)) pss_nil)
    (pss_one (ps_set (i := 2) sc_lot_fits.nd rfl (Or.inl rfl) (pv 3)))))
    (pss_one (ps_ret px_bl)))))
theorem dv_spans_of {P : Program} {w : World} {K : PySem.W.Frag} {mg : Str → Option Value} {base : Heap} {k : Nat} (B : Bs mg) {f : Addr} {cdv : Value} {A : Around} {outer : List Env} {s : Shared} {H : Hp} {E : XK} (hr : Room k (A.deeper (envOfC "spans_of" (defScope s_spans_of) s.heap.objs.size f cdv))) :
    PSs (cxOf CX0 P w K mg base N_spans_of "spans_of" (defScope s_spans_of) f cdv A outer s H E).nox (defBody s_spans_of) (t_spans_of K) :=
  (pss_cons (ps_setLc (i := 1) (own := [("_", 2)]) (g := (gName 2)) rfl sc_spans_of.nd rfl rfl (sw_true rfl rfl rfl (by decide +kernel)) (pi_tup (pv 0)) (blkOk_by (own := [("_", 2)]) (N := N_spans_of) (sc := defScope s_spans_of) (by decide +kernel)) (fun _ _ _ _ _ => (pg_name (i := 2) sc_spans_of.nd rfl (Or.inl rfl))) (fun _ _ _ _ _ => pts_nil) (fun _ _ _ _ _ => px_nat))
    (pss_cons (ps_for PassesOwn.never rfl (pi_range3 (by rfl) B.range (pa_cons (px_sub (pe_callB call_len_seq (by rfl) B.len boot_len (pa_cons (pv 0) pa_nil)) px_nat) (pa_cons (px_neg px_nat) (pa_cons (px_neg px_nat) pa_nil)))) (pg_name (i := 3) sc_spans_of.nd rfl (Or.inl rfl)) (pss_one (ps_asg (px_mul (px_ixL (pv 1) (px_add (pv 3) px_nat)) (px_ixT (pv 0) (px_add (pv 3) px_nat))) (pg_sub (pv 1) (pv 3) set_list))))
    (pss_one (ps_ret (pv 1)))))
theorem dv_many_settings {P : Program} {w : World} {K : PySem.W.Frag} {mg : Str → Option Value} {base : Heap} {k : Nat} (B : Bs mg) {f : Addr} {cdv : Value} {A : Around} {outer : List Env} {s : Shared} {H : Hp} {E : XK} (hr : Room k (A.deeper (envOfC "many_settings" (defScope s_many_settings) s.heap.objs.size f cdv))) :
    PSs (cxOf CX0 P w K mg base N_many_settings "many_settings" (defScope s_many_settings) f cdv A outer s H E).nox (defBody s_many_settings) (t_many_settings K) :=
  (pss_cons (ps_set (i := 1) sc_many_settings.nd rfl (Or.inl rfl) px_nat)
    (pss_cons (ps_for PassesOwn.never rfl (pi_tup (pv 0)) (pg_name (i := 2) sc_many_settings.nd rfl (Or.inl rfl)) (pss_one (ps_set (i := 1) sc_many_settings.nd rfl (Or.inl rfl) (px_mul (pv 1) (pv 2)))))
    (pss_one (ps_ret (pv 1)))))
theorem dv_place_by {P : Program} {w : World} {K : PySem.W.Frag} {mg : Str → Option Value} {base : Heap} {k : Nat} (B : Bs mg) {f : Addr} {cdv : Value} {A : Around} {outer : List Env} {s : Shared} {H : Hp} {E : XK} (hr : Room k (A.deeper (envOfC "place_by" (defScope s_place_by) s.heap.objs.size f cdv))) :
    PSs (cxOf CX0 P w K mg base N_place_by "place_by" (defScope s_place_by) f cdv A outer s H E).nox (defBody s_place_by) (t_place_by K) :=
  (pss_cons (ps_set (i := 2) sc_place_by.nd rfl (Or.inl rfl) px_nat)
    (pss_cons (ps_for PassesOwn.never rfl (pi_range1 (by rfl) B.range (pa_cons (pe_callB call_len_seq (by rfl) B.len boot_len (pa_cons (pv 0) pa_nil)) pa_nil)) (pg_name (i := 3) sc_place_by.nd rfl (Or.inl rfl)) (pss_one (ps_set (i := 2) sc_place_by.nd rfl (Or.inl rfl) (px_add (px_mul (pv 2) (px_ixT (pv 0) (pv 3))) (px_ixT (pv 1) (pv 3))))))
    (pss_one (ps_ret (pv 2)))))
theorem dv_setting_by {P : Program} {w : World} {K : PySem.W.Frag} {mg : Str → Option Value} {base : Heap} {k : Nat} (B : Bs mg) {k_spans_of : Nat} {sp_spans_of : Sp} (c_spans_of : Cal P w K mg base k_spans_of "spans_of" sp_spans_of) (h_spans_of : k_spans_of ≤ k) {f : Addr} {cdv : Value} {A : Around} {outer : List Env} {s : Shared} {H : Hp} {E : XK} (hr : Room k (A.deeper (envOfC "setting_by" (defScope s_setting_by) s.heap.objs.size f cdv))) :
    PSs (cxOf CX0 P w K mg base N_setting_by "setting_by" (defScope s_setting_by) f cdv A outer s H E).nox (defBody s_setting_by) (t_setting_by K sp_spans_of) :=
  (pss_cons (ps_set (i := 2) sc_setting_by.nd rfl (Or.inr rfl) (px_c c_spans_of hr h_spans_of (by rfl) (pa_cons (pv 0) pa_nil)))
    (pss_one (ps_ret (pe_callTy call_tuple_of (by rfl) B.tuple boot_tuple (pa_cons (pe_lc (own := [("house", 3)]) (g := (gName 3)) rfl sc_setting_by.nd (pi_range1 (by rfl) B.range (pa_cons (pe_callB call_len_seq (by rfl) B.len boot_len (pa_cons (pv 0) pa_nil)) pa_nil)) (blkOk_by (own := [("house", 3)]) (N := N_setting_by) (sc := defScope s_setting_by) (by decide +kernel)) (fun _ _ _ _ _ => (pg_name (i := 3) sc_setting_by.nd rfl (Or.inl rfl))) (fun _ _ _ _ _ => pts_nil) (fun _ _ _ _ _ => (px_mod (px_fdiv (pv 1) (px_ixL (pv 2) (pv 3))) (px_ixT (pv 0) (pv 3))))) pa_nil)))))
theorem dv_corner_places {P : Program} {w : World} {K : PySem.W.Frag} {mg : Str → Option Value} {base : Heap} {k : Nat} (B : Bs mg) {k_spans_of : Nat} {sp_spans_of : Sp} (c_spans_of : Cal P w K mg base k_spans_of "spans_of" sp_spans_of) (h_spans_of : k_spans_of ≤ k) {f : Addr} {cdv : Value} {A : Around} {outer : List Env} {s : Shared} {H : Hp} {E : XK} (hr : Room k (A.deeper (envOfC "corner_places" (defScope s_corner_places) s.heap.objs.size f cdv))) :
    PSs (cxOf CX0 P w K mg base N_corner_places "corner_places" (defScope s_corner_places) f cdv A outer s H E).nox (defBody s_corner_places) (t_corner_places K sp_spans_of) :=
  (pss_cons (ps_set (i := 2) sc_corner_places.nd rfl (Or.inr rfl) (px_c c_spans_of hr h_spans_of (by rfl) (pa_cons (pv 0) pa_nil)))
    (pss_cons (ps_set (i := 3) sc_corner_places.nd rfl (Or.inl rfl) (px_lst (pa_cons px_nat pa_nil)))
    (pss_cons (ps_for PassesOwn.never rfl (pi_list (pv 1)) (pg_name (i := 4) sc_corner_places.nd rfl (Or.inr rfl)) (pss_one (ps_setLc2 (i := 3) (own := [("place", 5), ("choice", 6)]) (vs1 := [6]) (g := (gName 5)) (g1 := (gName 6)) rfl sc_corner_places.nd rfl rfl (sw_true rfl rfl rfl (by decide +kernel)) (pi_list (pv 3)) (blkOk_by (own := [("place", 5), ("choice", 6)]) (N := N_corner_places) (sc := defScope s_corner_places) (by decide +kernel)) (by decide) (fun _ _ _ _ _ => (pg_name (i := 5) sc_corner_places.nd rfl (Or.inl rfl))) (fun _ _ _ _ _ => pts_nil) (fun _ _ _ _ _ => (pi_range1 (by rfl) B.range (pa_cons (px_ixT (pv 0) (pv 4)) pa_nil))) (fun _ _ _ _ _ => (pg_name (i := 6) sc_corner_places.nd rfl (Or.inl rfl))) (fun _ _ _ _ _ => pts_nil) (fun _ _ _ _ _ => (px_add (pv 5) (px_mul (pv 6) (px_ixL (pv 2) (pv 4))))))))
    (pss_one (ps_ret (pv 3))))))
theorem dv_odd_spot {P : Program} {w : World} {K : PySem.W.Frag} {mg : Str → Option Value} {base : Heap} {k : Nat} (B : Bs mg) {k_spans_of : Nat} {sp_spans_of : Sp} (c_spans_of : Cal P w K mg base k_spans_of "spans_of" sp_spans_of) (h_spans_of : k_spans_of ≤ k) {k_corner_places : Nat} {sp_corner_places : Sp} (c_corner_places : Cal P w K mg base k_corner_places "corner_places" sp_corner_places) (h_corner_places : k_corner_places ≤ k) {f : Addr} {cdv : Value} {A : Around} {outer : List Env} {s : Shared} {H : Hp} {E : XK} (hr : Room k (A.deeper (envOfC "odd_spot" (defScope s_odd_spot) s.heap.objs.size f cdv))) :
    PSs (cxOf CX0 P w K mg base N_odd_spot "odd_spot" (defScope s_odd_spot) f cdv A outer s H E).nox (defBody s_odd_spot) (t_odd_spot K sp_spans_of sp_corner_places) :=
  (pss_cons (ps_set (i := 4) sc_odd_spot.nd rfl (Or.inl rfl) (px_c c_spans_of hr h_spans_of (by rfl) (pa_cons (pv 0) pa_nil)))
    (pss_cons (ps_setLc (i := 5) (own := [("house", 6)]) (g := (gName 6)) rfl sc_odd_spot.nd rfl rfl (sw_true rfl rfl rfl (by decide +kernel)) (pi_range1 (by rfl) B.range (pa_cons (pe_callB call_len_seq (by rfl) B.len boot_len (pa_cons (pv 0) pa_nil)) pa_nil)) (blkOk_by (own := [("house", 6)]) (N := N_odd_spot) (sc := defScope s_odd_spot) (by decide +kernel)) (fun _ _ _ _ _ => (pg_name (i := 6) sc_odd_spot.nd rfl (Or.inl rfl))) (fun _ _ _ _ _ => pts_one (PW.pt (pw_and (pq_ne (pv 6) (pv 2)) (pw_and1 (pq_ne (pv 6) (pv 3)))))) (fun _ _ _ _ _ => (pv 6)))
    (pss_cons (ps_for PassesOwn.never rfl (pi_list (px_c c_corner_places hr h_corner_places (by rfl) (pa_cons (pv 0) (pa_cons (pv 5) pa_nil)))) (pg_name (i := 7) sc_odd_spot.nd rfl (Or.inl rfl)) (pss_one (ps_for PassesOwn.never rfl (pi_range2 (by rfl) B.range (pa_cons px_nat (pa_cons (px_ixT (pv 0) (pv 2)) pa_nil))) (pg_name (i := 8) sc_odd_spot.nd rfl (Or.inl rfl)) (pss_cons (ps_set (i := 9) sc_odd_spot.nd rfl (Or.inl rfl) (px_add (pv 7) (px_mul (pv 8) (px_ixL (pv 4) (pv 2)))))
    (pss_one (ps_for PassesOwn.never rfl (pi_range2 (by rfl) B.range (pa_cons px_nat (pa_cons (px_ixT (pv 0) (pv 3)) pa_nil))) (pg_name (i := 10) sc_odd_spot.nd rfl (Or.inl rfl)) (pss_cons (ps_set (i := 11) sc_odd_spot.nd rfl (Or.inl rfl) (px_mul (pv 10) (px_ixL (pv 4) (pv 3))))
    (pss_one (ps_if (pq_eq (px_xor (px_xor (px_xor (px_ixT (pv 1) (pv 7)) (px_ixT (pv 1) (pv 9))) (px_ixT (pv 1) (px_add (pv 7) (pv 11)))) (px_ixT (pv 1) (px_add (pv 9) (pv 11)))) px_nat) (pss_one (ps_ret (px_tup (pa_cons (pv 7) (pa_cons (pv 8) (pa_cons (pv 10) pa_nil)))))) pss_nil)))))))))
    (pss_one (ps_ret px_non)))))
theorem dv_is_number {P : Program} {w : World} {K : PySem.W.Frag} {mg : Str → Option Value} {base : Heap} {k : Nat} (B : Bs mg) {k_number_fits : Nat} {sp_number_fits : Sp} (c_number_fits : Cal P w K mg base k_number_fits "number_fits" sp_number_fits) (h_number_fits : k_number_fits ≤ k) {f : Addr} {cdv : Value} {A : Around} {outer : List Env} {s : Shared} {H : Hp} {E : XK} (hr : Room k (A.deeper (envOfC "is_number" (defScope s_is_number) s.heap.objs.size f cdv))) :
    PSs (cxOf CX0 P w K mg base N_is_number "is_number" (defScope s_is_number) f cdv A outer s H E).nox (defBody s_is_number) (t_is_number K sp_number_fits) :=
  (pss_one (ps_ret (px_c c_number_fits hr h_number_fits (by rfl) (pa_cons (pv 0) pa_nil))))
theorem dv_is_bit {P : Program} {w : World} {K : PySem.W.Frag} {mg : Str → Option Value} {base : Heap} {k : Nat} (B : Bs mg) {k_number_fits : Nat} {sp_number_fits : Sp} (c_number_fits : Cal P w K mg base k_number_fits "number_fits" sp_number_fits) (h_number_fits : k_number_fits ≤ k) {f : Addr} {cdv : Value} {A : Around} {outer : List Env} {s : Shared} {H : Hp} {E : XK} (hr : Room k (A.deeper (envOfC "is_bit" (defScope s_is_bit) s.heap.objs.size f cdv))) :
    PSs (cxOf CX0 P w K mg base N_is_bit "is_bit" (defScope s_is_bit) f cdv A outer s H E).nox (defBody s_is_bit) (t_is_bit K sp_number_fits) :=
  (pss_one (ps_ret (pe_and (px_c c_number_fits hr h_number_fits (by rfl) (pa_cons (pv 0) pa_nil)) (pe_one (px_le (pv 0) px_nat)))))
theorem dv_is_sizes {P : Program} {w : World} {K : PySem.W.Frag} {mg : Str → Option Value} {base : Heap} {k : Nat} (B : Bs mg) {k_sizes_fit : Nat} {sp_sizes_fit : Sp} (c_sizes_fit : Cal P w K mg base k_sizes_fit "sizes_fit" sp_sizes_fit) (h_sizes_fit : k_sizes_fit ≤ k) {f : Addr} {cdv : Value} {A : Around} {outer : List Env} {s : Shared} {H : Hp} {E : XK} (hr : Room k (A.deeper (envOfC "is_sizes" (defScope s_is_sizes) s.heap.objs.size f cdv))) :
    PSs (cxOf CX0 P w K mg base N_is_sizes "is_sizes" (defScope s_is_sizes) f cdv A outer s H E).nox (defBody s_is_sizes) (t_is_sizes K sp_sizes_fit) :=
  (pss_one (ps_ret (px_c c_sizes_fit hr h_sizes_fit (by rfl) (pa_cons (pv 0) pa_nil))))
theorem dv_is_setting {P : Program} {w : World} {K : PySem.W.Frag} {mg : Str → Option Value} {base : Heap} {k : Nat} (B : Bs mg) {k_a_want : Nat} {sp_a_want : Sp} (c_a_want : Cal P w K mg base k_a_want "a_want" sp_a_want) (h_a_want : k_a_want ≤ k) {k_sizes_fit : Nat} {sp_sizes_fit : Sp} (c_sizes_fit : Cal P w K mg base k_sizes_fit "sizes_fit" sp_sizes_fit) (h_sizes_fit : k_sizes_fit ≤ k) {k_setting_fits : Nat} {sp_setting_fits : Sp} (c_setting_fits : Cal P w K mg base k_setting_fits "setting_fits" sp_setting_fits) (h_setting_fits : k_setting_fits ≤ k) {f : Addr} {cdv : Value} {A : Around} {outer : List Env} {s : Shared} {H : Hp} {E : XK} (hr : Room k (A.deeper (envOfC "is_setting" (defScope s_is_setting) s.heap.objs.size f cdv))) :
    PSs (cxOf CX0 P w K mg base N_is_setting "is_setting" (defScope s_is_setting) f cdv A outer s H E).nox (defBody s_is_setting) (t_is_setting K sp_a_want sp_sizes_fit sp_setting_fits) :=
  (pss_cons (ps_expr (px_c c_a_want hr h_a_want (by rfl) (pa_cons (px_c c_sizes_fit hr h_sizes_fit (by rfl) (pa_cons (pv 0) pa_nil)) (pa_cons px_str pa_nil))))
    (pss_one (ps_ret (px_c c_setting_fits hr h_setting_fits (by rfl) (pa_cons (pv 0) (pa_cons (pv 1) pa_nil))))))
theorem dv_is_lot {P : Program} {w : World} {K : PySem.W.Frag} {mg : Str → Option Value} {base : Heap} {k : Nat} (B : Bs mg) {k_a_want : Nat} {sp_a_want : Sp} (c_a_want : Cal P w K mg base k_a_want "a_want" sp_a_want) (h_a_want : k_a_want ≤ k) {k_many_fits : Nat} {sp_many_fits : Sp} (c_many_fits : Cal P w K mg base k_many_fits "many_fits" sp_many_fits) (h_many_fits : k_many_fits ≤ k) {k_lot_fits : Nat} {sp_lot_fits : Sp} (c_lot_fits : Cal P w K mg base k_lot_fits "lot_fits" sp_lot_fits) (h_lot_fits : k_lot_fits ≤ k) {f : Addr} {cdv : Value} {A : Around} {outer : List Env} {s : Shared} {H : Hp} {E : XK} (hr : Room k (A.deeper (envOfC "is_lot" (defScope s_is_lot) s.heap.objs.size f cdv))) :
    PSs (cxOf CX0 P w K mg base N_is_lot "is_lot" (defScope s_is_lot) f cdv A outer s H E).nox (defBody s_is_lot) (t_is_lot K sp_a_want sp_many_fits sp_lot_fits) :=
  (pss_cons (ps_expr (px_c c_a_want hr h_a_want (by rfl) (pa_cons (px_c c_many_fits hr h_many_fits (by rfl) (pa_cons (pv 0) pa_nil)) (pa_cons px_str pa_nil))))
    (pss_one (ps_ret (px_c c_lot_fits hr h_lot_fits (by rfl) (pa_cons (pv 0) (pa_cons (pv 1) pa_nil))))))
theorem dv_is_table {P : Program} {w : World} {K : PySem.W.Frag} {mg : Str → Option Value} {base : Heap} {k : Nat} (B : Bs mg) {k_a_want : Nat} {sp_a_want : Sp} (c_a_want : Cal P w K mg base k_a_want "a_want" sp_a_want) (h_a_want : k_a_want ≤ k) {k_is_sizes : Nat} {sp_is_sizes : Sp} (c_is_sizes : Cal P w K mg base k_is_sizes "is_sizes" sp_is_sizes) (h_is_sizes : k_is_sizes ≤ k) {k_many_settings : Nat} {sp_many_settings : Sp} (c_many_settings : Cal P w K mg base k_many_settings "many_settings" sp_many_settings) (h_many_settings : k_many_settings ≤ k) {k_is_bit : Nat} {sp_is_bit : Sp} (c_is_bit : Cal P w K mg base k_is_bit "is_bit" sp_is_bit) (h_is_bit : k_is_bit ≤ k) {f : Addr} {cdv : Value} {A : Around} {outer : List Env} {s : Shared} {H : Hp} {E : XK} (hr : Room k (A.deeper (envOfC "is_table" (defScope s_is_table) s.heap.objs.size f cdv))) :
    PSs (cxOf CX0 P w K mg base N_is_table "is_table" (defScope s_is_table) f cdv A outer s H E).nox (defBody s_is_table) (t_is_table K sp_a_want sp_is_sizes sp_many_settings sp_is_bit) :=
  (pss_cons (ps_expr (px_c c_a_want hr h_a_want (by rfl) (pa_cons (px_c c_is_sizes hr h_is_sizes (by rfl) (pa_cons (pv 0) pa_nil)) (pa_cons px_str pa_nil))))
    (pss_cons (ps_if (PW.pt (pw_or (pt_not (pt_val (pe_callB call_isi (by rfl) B.isinstance boot_isinstance (pa_cons (pv 1) (pa_cons (px_tyTup (by rfl) B.tuple) pa_nil))))) (pw_or1 (pq_ne (pe_callB call_len_seq (by rfl) B.len boot_len (pa_cons (pv 1) pa_nil)) (px_c c_many_settings hr h_many_settings (by rfl) (pa_cons (pv 0) pa_nil)))))) (pss_one (ps_ret px_bl)) pss_nil)
    (pss_cons (ps_for PassesOwn.never rfl (pi_tup (pv 1)) (pg_name (i := 2) sc_is_table.nd rfl (Or.inl rfl)) (pss_one (ps_if (pt_not (pt_val (px_c c_is_bit hr h_is_bit (by rfl) (pa_cons (pv 2) pa_nil)))) (pss_one (ps_ret px_bl)) pss_nil)))
    (pss_one (ps_ret px_bl)))))
theorem dv_want_houses {P : Program} {w : World} {K : PySem.W.Frag} {mg : Str → Option Value} {base : Heap} {k : Nat} (B : Bs mg) {k_a_want : Nat} {sp_a_want : Sp} (c_a_want : Cal P w K mg base k_a_want "a_want" sp_a_want) (h_a_want : k_a_want ≤ k) {k_is_sizes : Nat} {sp_is_sizes : Sp} (c_is_sizes : Cal P w K mg base k_is_sizes "is_sizes" sp_is_sizes) (h_is_sizes : k_is_sizes ≤ k) {k_is_table : Nat} {sp_is_table : Sp} (c_is_table : Cal P w K mg base k_is_table "is_table" sp_is_table) (h_is_table : k_is_table ≤ k) {k_is_number : Nat} {sp_is_number : Sp} (c_is_number : Cal P w K mg base k_is_number "is_number" sp_is_number) (h_is_number : k_is_number ≤ k) {f : Addr} {cdv : Value} {A : Around} {outer : List Env} {s : Shared} {H : Hp} {E : XK} (hr : Room k (A.deeper (envOfC "_want_houses" (defScope s_want_houses) s.heap.objs.size f cdv))) :
    PSs (cxOf CX0 P w K mg base N_want_houses "_want_houses" (defScope s_want_houses) f cdv A outer s H E).nox (defBody s_want_houses) (t_want_houses K sp_a_want sp_is_sizes sp_is_table sp_is_number) :=
  (pss_cons (ps_expr (px_c c_a_want hr h_a_want (by rfl) (pa_cons (px_c c_is_sizes hr h_is_sizes (by rfl) (pa_cons (pv 0) pa_nil)) (pa_cons px_str pa_nil))))
    (pss_cons (ps_expr (px_c c_a_want hr h_a_want (by rfl) (pa_cons (px_c c_is_table hr h_is_table (by rfl) (pa_cons (pv 0) (pa_cons (pv 1) pa_nil))) (pa_cons px_str pa_nil))))
    (pss_cons (ps_expr (px_c c_a_want hr h_a_want (by rfl) (pa_cons (pe_and (px_c c_is_number hr h_is_number (by rfl) (pa_cons (pv 2) pa_nil)) (pe_one (px_lt (pv 2) (pe_callB call_len_seq (by rfl) B.len boot_len (pa_cons (pv 0) pa_nil))))) (pa_cons px_str pa_nil))))
    (pss_one (ps_expr (px_c c_a_want hr h_a_want (by rfl) (pa_cons (pe_and (px_c c_is_number hr h_is_number (by rfl) (pa_cons (pv 3) pa_nil)) (pe_and (px_lt (pv 3) (pe_callB call_len_seq (by rfl) B.len boot_len (pa_cons (pv 0) pa_nil))) (pe_one (px_ne (pv 3) (pv 2))))) (pa_cons px_str pa_nil))))))))
theorem dv_odd_four {P : Program} {w : World} {K : PySem.W.Frag} {mg : Str → Option Value} {base : Heap} {k : Nat} (B : Bs mg) {k_want_houses : Nat} {sp_want_houses : Sp} (c_want_houses : Cal P w K mg base k_want_houses "_want_houses" sp_want_houses) (h_want_houses : k_want_houses ≤ k) {k_odd_spot : Nat} {sp_odd_spot : Sp} (c_odd_spot : Cal P w K mg base k_odd_spot "odd_spot" sp_odd_spot) (h_odd_spot : k_odd_spot ≤ k) {k_setting_by : Nat} {sp_setting_by : Sp} (c_setting_by : Cal P w K mg base k_setting_by "setting_by" sp_setting_by) (h_setting_by : k_setting_by ≤ k) {f : Addr} {cdv : Value} {A : Around} {outer : List Env} {s : Shared} {H : Hp} {E : XK} (hr : Room k (A.deeper (envOfC "odd_four" (defScope s_odd_four) s.heap.objs.size f cdv))) :
    PSs (cxOf CX0 P w K mg base N_odd_four "odd_four" (defScope s_odd_four) f cdv A outer s H E).nox (defBody s_odd_four) (t_odd_four K sp_want_houses sp_odd_spot sp_setting_by) :=
  (pss_cons (ps_expr (px_c c_want_houses hr h_want_houses (by rfl) (pa_cons (pv 0) (pa_cons (pv 1) (pa_cons (pv 2) (pa_cons (pv 3) pa_nil))))))
    (pss_cons (ps_set (i := 4) sc_odd_four.nd rfl (Or.inl rfl) (px_c c_odd_spot hr h_odd_spot (by rfl) (pa_cons (pv 0) (pa_cons (pv 1) (pa_cons (pv 2) (pa_cons (pv 3) pa_nil))))))
    (pss_cons (ps_if (pq_isN (pv 4)) (pss_one (ps_ret px_non)) pss_nil)
    (pss_cons (ps_asg (pv 4) (pg_tup rfl (pgs_cons (pg_name (i := 5) sc_odd_four.nd rfl (Or.inl rfl)) (pgs_cons (pg_name (i := 6) sc_odd_four.nd rfl (Or.inl rfl)) (pgs_cons (pg_name (i := 7) sc_odd_four.nd rfl (Or.inl rfl)) pgs_nil)))))
    (pss_one (ps_ret (px_tup (pa_cons (px_c c_setting_by hr h_setting_by (by rfl) (pa_cons (pv 0) (pa_cons (pv 5) pa_nil))) (pa_cons (pv 2) (pa_cons (pv 6) (pa_cons (pv 3) (pa_cons (pv 7) pa_nil))))))))))))
theorem dv_are_knit {P : Program} {w : World} {K : PySem.W.Frag} {mg : Str → Option Value} {base : Heap} {k : Nat} (B : Bs mg) {k_want_houses : Nat} {sp_want_houses : Sp} (c_want_houses : Cal P w K mg base k_want_houses "_want_houses" sp_want_houses) (h_want_houses : k_want_houses ≤ k) {k_odd_spot : Nat} {sp_odd_spot : Sp} (c_odd_spot : Cal P w K mg base k_odd_spot "odd_spot" sp_odd_spot) (h_odd_spot : k_odd_spot ≤ k) {f : Addr} {cdv : Value} {A : Around} {outer : List Env} {s : Shared} {H : Hp} {E : XK} (hr : Room k (A.deeper (envOfC "are_knit" (defScope s_are_knit) s.heap.objs.size f cdv))) :
    PSs (cxOf CX0 P w K mg base N_are_knit "are_knit" (defScope s_are_knit) f cdv A outer s H E).nox (defBody s_are_knit) (t_are_knit K sp_want_houses sp_odd_spot) :=
  (pss_cons (ps_expr (px_c c_want_houses hr h_want_houses (by rfl) (pa_cons (pv 0) (pa_cons (pv 1) (pa_cons (pv 2) (pa_cons (pv 3) pa_nil))))))
    (pss_one (ps_ret (px_notN (px_c c_odd_spot hr h_odd_spot (by rfl) (pa_cons (pv 0) (pa_cons (pv 1) (pa_cons (pv 2) (pa_cons (pv 3) pa_nil)))))))))
theorem dv_knit_pairs {P : Program} {w : World} {K : PySem.W.Frag} {mg : Str → Option Value} {base : Heap} {k : Nat} (B : Bs mg) {k_a_want : Nat} {sp_a_want : Sp} (c_a_want : Cal P w K mg base k_a_want "a_want" sp_a_want) (h_a_want : k_a_want ≤ k) {k_is_sizes : Nat} {sp_is_sizes : Sp} (c_is_sizes : Cal P w K mg base k_is_sizes "is_sizes" sp_is_sizes) (h_is_sizes : k_is_sizes ≤ k) {k_is_table : Nat} {sp_is_table : Sp} (c_is_table : Cal P w K mg base k_is_table "is_table" sp_is_table) (h_is_table : k_is_table ≤ k) {k_odd_spot : Nat} {sp_odd_spot : Sp} (c_odd_spot : Cal P w K mg base k_odd_spot "odd_spot" sp_odd_spot) (h_odd_spot : k_odd_spot ≤ k) {f : Addr} {cdv : Value} {A : Around} {outer : List Env} {s : Shared} {H : Hp} {E : XK} (hr : Room k (A.deeper (envOfC "knit_pairs" (defScope s_knit_pairs) s.heap.objs.size f cdv))) :
    PSs (cxOf CX0 P w K mg base N_knit_pairs "knit_pairs" (defScope s_knit_pairs) f cdv A outer s H E).nox (defBody s_knit_pairs) (t_knit_pairs K sp_a_want sp_is_sizes sp_is_table sp_odd_spot) :=
  (pss_cons (ps_expr (px_c c_a_want hr h_a_want (by rfl) (pa_cons (px_c c_is_sizes hr h_is_sizes (by rfl) (pa_cons (pv 0) pa_nil)) (pa_cons px_str pa_nil))))
    (pss_cons (ps_expr (px_c c_a_want hr h_a_want (by rfl) (pa_cons (px_c c_is_table hr h_is_table (by rfl) (pa_cons (pv 0) (pa_cons (pv 1) pa_nil))) (pa_cons px_str pa_nil))))
    (pss_cons (ps_set (i := 2) sc_knit_pairs.nd rfl (Or.inl rfl) (px_lst pa_nil))
    (pss_cons (ps_for PassesOwn.never rfl (pi_range1 (by rfl) B.range (pa_cons (pe_callB call_len_seq (by rfl) B.len boot_len (pa_cons (pv 0) pa_nil)) pa_nil)) (pg_name (i := 3) sc_knit_pairs.nd rfl (Or.inl rfl)) (pss_one (ps_for PassesOwn.never rfl (pi_range2 (by rfl) B.range (pa_cons (px_add (pv 3) px_nat) (pa_cons (pe_callB call_len_seq (by rfl) B.len boot_len (pa_cons (pv 0) pa_nil)) pa_nil))) (pg_name (i := 4) sc_knit_pairs.nd rfl (Or.inl rfl)) (pss_one (ps_if (pq_notN (px_c c_odd_spot hr h_odd_spot (by rfl) (pa_cons (pv 0) (pa_cons (pv 1) (pa_cons (pv 3) (pa_cons (pv 4) pa_nil)))))) (pss_one (ps_expr (pe_bm PySem.F.plainAttrs_list PySem.F.slot_list_append PySem.F.type_list_append mt_append (pv 2) (pa_cons (px_tup (pa_cons (pv 3) (pa_cons (pv 4) pa_nil))) pa_nil)))) pss_nil)))))
    (pss_one (ps_ret (pe_callTy call_tuple_of (by rfl) B.tuple boot_tuple (pa_cons (pv 2) pa_nil))))))))
theorem dv_clumps_of {P : Program} {w : World} {K : PySem.W.Frag} {mg : Str → Option Value} {base : Heap} {k : Nat} (B : Bs mg) {k_knit_pairs : Nat} {sp_knit_pairs : Sp} (c_knit_pairs : Cal P w K mg base k_knit_pairs "knit_pairs" sp_knit_pairs) (h_knit_pairs : k_knit_pairs ≤ k) {f : Addr} {cdv : Value} {A : Around} {outer : List Env} {s : Shared} {H : Hp} {E : XK} (hr : Room k (A.deeper (envOfC "clumps_of" (defScope s_clumps_of) s.heap.objs.size f cdv))) :
    PSs (cxOf CX0 P w K mg base N_clumps_of "clumps_of" (defScope s_clumps_of) f cdv A outer s H E).nox (defBody s_clumps_of) (t_clumps_of K sp_knit_pairs) :=
  (pss_cons (ps_set (i := 2) sc_clumps_of.nd rfl (Or.inr rfl) (px_lst pa_nil))
    (pss_cons (ps_set (i := 3) sc_clumps_of.nd rfl (Or.inl rfl) (px_c c_knit_pairs hr h_knit_pairs (by rfl) (pa_cons (pv 0) (pa_cons (pv 1) pa_nil))))
    (pss_cons (ps_for PassesOwn.never rfl (pi_range1 (by rfl) B.range (pa_cons (pe_callB call_len_seq (by rfl) B.len boot_len (pa_cons (pv 0) pa_nil)) pa_nil)) (pg_name (i := 4) sc_clumps_of.nd rfl (Or.inl rfl)) (pss_one (ps_expr (pe_bm PySem.F.plainAttrs_list PySem.F.slot_list_append PySem.F.type_list_append mt_append (pv 2) (pa_cons (pv 4) pa_nil)))))
    (pss_cons (ps_for PassesOwn.never rfl (pi_tup (pv 3)) (pg_tup rfl (pgs_cons (pg_name (i := 5) sc_clumps_of.nd rfl (Or.inl rfl)) (pgs_cons (pg_name (i := 6) sc_clumps_of.nd rfl (Or.inl rfl)) pgs_nil))) (pss_cons (ps_set (i := 7) sc_clumps_of.nd rfl (Or.inr rfl) (pe_callB (call_min2 rfl) (by rfl) B.min boot_min (pa_cons (px_ixL (pv 2) (pv 5)) (pa_cons (px_ixL (pv 2) (pv 6)) pa_nil))))
    (pss_cons (ps_set (i := 8) sc_clumps_of.nd rfl (Or.inr rfl) (pe_callB (call_max2 rfl) (by rfl) B.max boot_max (pa_cons (px_ixL (pv 2) (pv 5)) (pa_cons (px_ixL (pv 2) (pv 6)) pa_nil))))
    (pss_one (ps_set (i := 2) sc_clumps_of.nd rfl (Or.inr rfl) (pe_lc (own := [("mark", 9)]) (g := (gName 9)) rfl sc_clumps_of.nd (pi_list (pv 2)) (blkOk_by (own := [("mark", 9)]) (N := N_clumps_of) (sc := defScope s_clumps_of) (by decide +kernel)) (fun _ _ _ _ _ => (pg_name (i := 9) sc_clumps_of.nd rfl (Or.inl rfl))) (fun _ _ _ _ _ => pts_nil) (fun _ _ _ _ _ => (px_if (pq_eq (pv 9) (pv 8)) (pv 7) (pv 9)))))))))
    (pss_cons (ps_set (i := 10) sc_clumps_of.nd rfl (Or.inl rfl) (px_lst pa_nil))
    (pss_cons (ps_for PassesOwn.never rfl (pi_range1 (by rfl) B.range (pa_cons (pe_callB call_len_seq (by rfl) B.len boot_len (pa_cons (pv 0) pa_nil)) pa_nil)) (pg_name (i := 9) sc_clumps_of.nd rfl (Or.inr rfl)) (pss_one (ps_if (pq_in (pv 9) (pv 2)) (pss_one (ps_expr (pe_bm PySem.F.plainAttrs_list PySem.F.slot_list_append PySem.F.type_list_append mt_append (pv 10) (pa_cons (pe_callTy call_tuple_of (by rfl) B.tuple boot_tuple (pa_cons (pe_lc (own := [("house", 4)]) (g := (gName 4)) rfl sc_clumps_of.nd (pi_range1 (by rfl) B.range (pa_cons (pe_callB call_len_seq (by rfl) B.len boot_len (pa_cons (pv 0) pa_nil)) pa_nil)) (blkOk_by (own := [("house", 4)]) (N := N_clumps_of) (sc := defScope s_clumps_of) (by decide +kernel)) (fun _ _ _ _ _ => (pg_name (i := 4) sc_clumps_of.nd rfl (Or.inl rfl))) (fun _ _ _ _ _ => pts_one (pq_eq (px_ixL (pv 2) (pv 4)) (pv 9))) (fun _ _ _ _ _ => (pv 4))) pa_nil)) pa_nil)))) pss_nil)))
    (pss_one (ps_ret (pe_callTy call_tuple_of (by rfl) B.tuple boot_tuple (pa_cons (pv 10) pa_nil))))))))))
theorem dv_idle_houses {P : Program} {w : World} {K : PySem.W.Frag} {mg : Str → Option Value} {base : Heap} {k : Nat} (B : Bs mg) {k_a_want : Nat} {sp_a_want : Sp} (c_a_want : Cal P w K mg base k_a_want "a_want" sp_a_want) (h_a_want : k_a_want ≤ k) {k_is_sizes : Nat} {sp_is_sizes : Sp} (c_is_sizes : Cal P w K mg base k_is_sizes "is_sizes" sp_is_sizes) (h_is_sizes : k_is_sizes ≤ k) {k_is_table : Nat} {sp_is_table : Sp} (c_is_table : Cal P w K mg base k_is_table "is_table" sp_is_table) (h_is_table : k_is_table ≤ k) {k_is_idle : Nat} {sp_is_idle : Sp} (c_is_idle : Cal P w K mg base k_is_idle "_is_idle" sp_is_idle) (h_is_idle : k_is_idle ≤ k) {f : Addr} {cdv : Value} {A : Around} {outer : List Env} {s : Shared} {H : Hp} {E : XK} (hr : Room k (A.deeper (envOfC "idle_houses" (defScope s_idle_houses) s.heap.objs.size f cdv))) :
    PSs (cxOf CX0 P w K mg base N_idle_houses "idle_houses" (defScope s_idle_houses) f cdv A outer s H E).nox (defBody s_idle_houses) (t_idle_houses K sp_a_want sp_is_sizes sp_is_table sp_is_idle) :=
  (pss_cons (ps_expr (px_c c_a_want hr h_a_want (by rfl) (pa_cons (px_c c_is_sizes hr h_is_sizes (by rfl) (pa_cons (pv 0) pa_nil)) (pa_cons px_str pa_nil))))
    (pss_cons (ps_expr (px_c c_a_want hr h_a_want (by rfl) (pa_cons (px_c c_is_table hr h_is_table (by rfl) (pa_cons (pv 0) (pa_cons (pv 1) pa_nil))) (pa_cons px_str pa_nil))))
    (pss_one (ps_ret (pe_callTy call_tuple_of (by rfl) B.tuple boot_tuple (pa_cons (pe_lc (own := [("house", 2)]) (g := (gName 2)) rfl sc_idle_houses.nd (pi_range1 (by rfl) B.range (pa_cons (pe_callB call_len_seq (by rfl) B.len boot_len (pa_cons (pv 0) pa_nil)) pa_nil)) (blkOk_by (own := [("house", 2)]) (N := N_idle_houses) (sc := defScope s_idle_houses) (by decide +kernel)) (fun _ _ _ _ _ => (pg_name (i := 2) sc_idle_houses.nd rfl (Or.inl rfl))) (fun _ _ _ _ _ => pts_one (pt_val (px_c c_is_idle hr h_is_idle (by rfl) (pa_cons (pv 0) (pa_cons (pv 1) (pa_cons (pv 2) pa_nil)))))) (fun _ _ _ _ _ => (pv 2))) pa_nil))))))
theorem dv_is_idle {P : Program} {w : World} {K : PySem.W.Frag} {mg : Str → Option Value} {base : Heap} {k : Nat} (B : Bs mg) {k_spans_of : Nat} {sp_spans_of : Sp} (c_spans_of : Cal P w K mg base k_spans_of "spans_of" sp_spans_of) (h_spans_of : k_spans_of ≤ k) {k_corner_places : Nat} {sp_corner_places : Sp} (c_corner_places : Cal P w K mg base k_corner_places "corner_places" sp_corner_places) (h_corner_places : k_corner_places ≤ k) {f : Addr} {cdv : Value} {A : Around} {outer : List Env} {s : Shared} {H : Hp} {E : XK} (hr : Room k (A.deeper (envOfC "_is_idle" (defScope s_is_idle) s.heap.objs.size f cdv))) :
    PSs (cxOf CX0 P w K mg base N_is_idle "_is_idle" (defScope s_is_idle) f cdv A outer s H E).nox (defBody s_is_idle) (t_is_idle K sp_spans_of sp_corner_places) :=
  (pss_cons (ps_set (i := 3) sc_is_idle.nd rfl (Or.inl rfl) (px_ixL (px_c c_spans_of hr h_spans_of (by rfl) (pa_cons (pv 0) pa_nil)) (pv 2)))
    (pss_cons (ps_for PassesOwn.never rfl (pi_list (px_c c_corner_places hr h_corner_places (by rfl) (pa_cons (pv 0) (pa_cons (pe_lc (own := [("near", 5)]) (g := (gName 5)) rfl sc_is_idle.nd (pi_range1 (by rfl) B.range (pa_cons (pe_callB call_len_seq (by rfl) B.len boot_len (pa_cons (pv 0) pa_nil)) pa_nil)) (blkOk_by (own := [("near", 5)]) (N := N_is_idle) (sc := defScope s_is_idle) (by decide +kernel)) (fun _ _ _ _ _ => (pg_name (i := 5) sc_is_idle.nd rfl (Or.inl rfl))) (fun _ _ _ _ _ => pts_one (pq_ne (pv 5) (pv 2))) (fun _ _ _ _ _ => (pv 5))) pa_nil)))) (pg_name (i := 4) sc_is_idle.nd rfl (Or.inl rfl)) (pss_one (ps_for PassesOwn.never rfl (pi_range2 (by rfl) B.range (pa_cons px_nat (pa_cons (px_ixT (pv 0) (pv 2)) pa_nil))) (pg_name (i := 6) sc_is_idle.nd rfl (Or.inl rfl)) (pss_one (ps_if (pq_ne (px_ixT (pv 1) (px_add (pv 4) (px_mul (pv 6) (pv 3)))) (px_ixT (pv 1) (pv 4))) (pss_one (ps_ret px_bl)) pss_nil)))))
    (pss_one (ps_ret px_bl))))
theorem dv_is_four {P : Program} {w : World} {K : PySem.W.Frag} {mg : Str → Option Value} {base : Heap} {k : Nat} (B : Bs mg) {k_a_want : Nat} {sp_a_want : Sp} (c_a_want : Cal P w K mg base k_a_want "a_want" sp_a_want) (h_a_want : k_a_want ≤ k) {k_is_sizes : Nat} {sp_is_sizes : Sp} (c_is_sizes : Cal P w K mg base k_is_sizes "is_sizes" sp_is_sizes) (h_is_sizes : k_is_sizes ≤ k) {k_is_setting : Nat} {sp_is_setting : Sp} (c_is_setting : Cal P w K mg base k_is_setting "is_setting" sp_is_setting) (h_is_setting : k_is_setting ≤ k) {k_is_change : Nat} {sp_is_change : Sp} (c_is_change : Cal P w K mg base k_is_change "_is_change" sp_is_change) (h_is_change : k_is_change ≤ k) {f : Addr} {cdv : Value} {A : Around} {outer : List Env} {s : Shared} {H : Hp} {E : XK} (hr : Room k (A.deeper (envOfC "is_four" (defScope s_is_four) s.heap.objs.size f cdv))) :
    PSs (cxOf CX0 P w K mg base N_is_four "is_four" (defScope s_is_four) f cdv A outer s H E).nox (defBody s_is_four) (t_is_four K sp_a_want sp_is_sizes sp_is_setting sp_is_change) :=
  (pss_cons (ps_expr (px_c c_a_want hr h_a_want (by rfl) (pa_cons (px_c c_is_sizes hr h_is_sizes (by rfl) (pa_cons (pv 0) pa_nil)) (pa_cons px_str pa_nil))))
    (pss_cons (ps_if (PW.pt (pw_or (pt_not (pt_val (pe_callB call_isi (by rfl) B.isinstance boot_isinstance (pa_cons (pv 1) (pa_cons (px_tyTup (by rfl) B.tuple) pa_nil))))) (pw_or (pq_ne (pe_callB call_len_seq (by rfl) B.len boot_len (pa_cons (pv 1) pa_nil)) px_nat) (pw_or1 (pt_not (pt_val (px_c c_is_setting hr h_is_setting (by rfl) (pa_cons (pv 0) (pa_cons (px_ixT (pv 1) px_nat) pa_nil))))))))) (pss_one (ps_ret px_bl)) pss_nil)
    (pss_cons (ps_asg (pv 1) (pg_tup rfl (pgs_cons (pg_name (i := 2) sc_is_four.nd rfl (Or.inl rfl)) (pgs_cons (pg_name (i := 3) sc_is_four.nd rfl (Or.inl rfl)) (pgs_cons (pg_name (i := 4) sc_is_four.nd rfl (Or.inl rfl)) (pgs_cons (pg_name (i := 5) sc_is_four.nd rfl (Or.inl rfl)) (pgs_cons (pg_name (i := 6) sc_is_four.nd rfl (Or.inl rfl)) pgs_nil)))))))
    (pss_one (ps_ret (pe_and (px_c c_is_change hr h_is_change (by rfl) (pa_cons (pv 0) (pa_cons (pv 2) (pa_cons (pv 3) (pa_cons (pv 4) pa_nil))))) (pe_and (px_c c_is_change hr h_is_change (by rfl) (pa_cons (pv 0) (pa_cons (pv 2) (pa_cons (pv 5) (pa_cons (pv 6) pa_nil))))) (pe_one (px_ne (pv 3) (pv 5))))))))))
theorem dv_is_change {P : Program} {w : World} {K : PySem.W.Frag} {mg : Str → Option Value} {base : Heap} {k : Nat} (B : Bs mg) {k_is_number : Nat} {sp_is_number : Sp} (c_is_number : Cal P w K mg base k_is_number "is_number" sp_is_number) (h_is_number : k_is_number ≤ k) {f : Addr} {cdv : Value} {A : Around} {outer : List Env} {s : Shared} {H : Hp} {E : XK} (hr : Room k (A.deeper (envOfC "_is_change" (defScope s_is_change) s.heap.objs.size f cdv))) :
    PSs (cxOf CX0 P w K mg base N_is_change "_is_change" (defScope s_is_change) f cdv A outer s H E).nox (defBody s_is_change) (t_is_change K sp_is_number) :=
  (pss_cons (ps_if (PW.pt (pw_or (pt_not (pt_val (px_c c_is_number hr h_is_number (by rfl) (pa_cons (pv 2) pa_nil)))) (pw_or (pq_ge (pv 2) (pe_callB call_len_seq (by rfl) B.len boot_len (pa_cons (pv 0) pa_nil))) (pw_or1 (pt_not (pt_val (px_c c_is_number hr h_is_number (by rfl) (pa_cons (pv 3) pa_nil)))))))) (pss_one (ps_ret px_bl)) pss_nil)
    (pss_one (ps_ret (pe_and (px_lt (pv 3) (px_ixT (pv 0) (pv 2))) (pe_one (px_ne (pv 3) (px_ixT (pv 1) (pv 2))))))))
theorem dv_changed {P : Program} {w : World} {K : PySem.W.Frag} {mg : Str → Option Value} {base : Heap} {k : Nat} (B : Bs mg) {f : Addr} {cdv : Value} {A : Around} {outer : List Env} {s : Shared} {H : Hp} {E : XK} (hr : Room k (A.deeper (envOfC "_changed" (defScope s_changed) s.heap.objs.size f cdv))) :
    PSs (cxOf CX0 P w K mg base N_changed "_changed" (defScope s_changed) f cdv A outer s H E).nox (defBody s_changed) (t_changed K) :=
  (pss_one (ps_ret (px_catT (px_catT (pe_slice sl_tupA (pv 0) po_none (po_some (pv 1))) (px_tup (pa_cons (pv 2) pa_nil))) (pe_slice sl_tupA (pv 0) (po_some (px_add (pv 1) px_nat)) po_none))))
theorem dv_four_settings {P : Program} {w : World} {K : PySem.W.Frag} {mg : Str → Option Value} {base : Heap} {k : Nat} (B : Bs mg) {k_a_want : Nat} {sp_a_want : Sp} (c_a_want : Cal P w K mg base k_a_want "a_want" sp_a_want) (h_a_want : k_a_want ≤ k) {k_is_sizes : Nat} {sp_is_sizes : Sp} (c_is_sizes : Cal P w K mg base k_is_sizes "is_sizes" sp_is_sizes) (h_is_sizes : k_is_sizes ≤ k) {k_is_four : Nat} {sp_is_four : Sp} (c_is_four : Cal P w K mg base k_is_four "is_four" sp_is_four) (h_is_four : k_is_four ≤ k) {k_changed : Nat} {sp_changed : Sp} (c_changed : Cal P w K mg base k_changed "_changed" sp_changed) (h_changed : k_changed ≤ k) {f : Addr} {cdv : Value} {A : Around} {outer : List Env} {s : Shared} {H : Hp} {E : XK} (hr : Room k (A.deeper (envOfC "four_settings" (defScope s_four_settings) s.heap.objs.size f cdv))) :
    PSs (cxOf CX0 P w K mg base N_four_settings "four_settings" (defScope s_four_settings) f cdv A outer s H E).nox (defBody s_four_settings) (t_four_settings K sp_a_want sp_is_sizes sp_is_four sp_changed) :=
  (pss_cons (ps_expr (px_c c_a_want hr h_a_want (by rfl) (pa_cons (px_c c_is_sizes hr h_is_sizes (by rfl) (pa_cons (pv 0) pa_nil)) (pa_cons px_str pa_nil))))
    (pss_cons (ps_expr (px_c c_a_want hr h_a_want (by rfl) (pa_cons (px_c c_is_four hr h_is_four (by rfl) (pa_cons (pv 0) (pa_cons (pv 1) pa_nil))) (pa_cons px_str pa_nil))))
    (pss_cons (ps_asg (pv 1) (pg_tup rfl (pgs_cons (pg_name (i := 2) sc_four_settings.nd rfl (Or.inl rfl)) (pgs_cons (pg_name (i := 3) sc_four_settings.nd rfl (Or.inl rfl)) (pgs_cons (pg_name (i := 4) sc_four_settings.nd rfl (Or.inl rfl)) (pgs_cons (pg_name (i := 5) sc_four_settings.nd rfl (Or.inl rfl)) (pgs_cons (pg_name (i := 6) sc_four_settings.nd rfl (Or.inl rfl)) pgs_nil)))))))
    (pss_cons (ps_set (i := 7) sc_four_settings.nd rfl (Or.inl rfl) (px_c c_changed hr h_changed (by rfl) (pa_cons (pv 2) (pa_cons (pv 3) (pa_cons (pv 4) pa_nil)))))
    (pss_one (ps_ret (px_tup (pa_cons (pv 2) (pa_cons (pv 7) (pa_cons (px_c c_changed hr h_changed (by rfl) (pa_cons (pv 2) (pa_cons (pv 5) (pa_cons (pv 6) pa_nil)))) (pa_cons (px_c c_changed hr h_changed (by rfl) (pa_cons (pv 7) (pa_cons (pv 5) (pa_cons (pv 6) pa_nil)))) pa_nil)))))))))))
theorem dv_is_odd {P : Program} {w : World} {K : PySem.W.Frag} {mg : Str → Option Value} {base : Heap} {k : Nat} (B : Bs mg) {k_a_want : Nat} {sp_a_want : Sp} (c_a_want : Cal P w K mg base k_a_want "a_want" sp_a_want) (h_a_want : k_a_want ≤ k) {k_is_sizes : Nat} {sp_is_sizes : Sp} (c_is_sizes : Cal P w K mg base k_is_sizes "is_sizes" sp_is_sizes) (h_is_sizes : k_is_sizes ≤ k) {k_is_table : Nat} {sp_is_table : Sp} (c_is_table : Cal P w K mg base k_is_table "is_table" sp_is_table) (h_is_table : k_is_table ≤ k) {k_is_four : Nat} {sp_is_four : Sp} (c_is_four : Cal P w K mg base k_is_four "is_four" sp_is_four) (h_is_four : k_is_four ≤ k) {k_four_settings : Nat} {sp_four_settings : Sp} (c_four_settings : Cal P w K mg base k_four_settings "four_settings" sp_four_settings) (h_four_settings : k_four_settings ≤ k) {k_place_by : Nat} {sp_place_by : Sp} (c_place_by : Cal P w K mg base k_place_by "place_by" sp_place_by) (h_place_by : k_place_by ≤ k) {f : Addr} {cdv : Value} {A : Around} {outer : List Env} {s : Shared} {H : Hp} {E : XK} (hr : Room k (A.deeper (envOfC "is_odd" (defScope s_is_odd) s.heap.objs.size f cdv))) :
    PSs (cxOf CX0 P w K mg base N_is_odd "is_odd" (defScope s_is_odd) f cdv A outer s H E).nox (defBody s_is_odd) (t_is_odd K sp_a_want sp_is_sizes sp_is_table sp_is_four sp_four_settings sp_place_by) :=
  (pss_cons (ps_expr (px_c c_a_want hr h_a_want (by rfl) (pa_cons (px_c c_is_sizes hr h_is_sizes (by rfl) (pa_cons (pv 0) pa_nil)) (pa_cons px_str pa_nil))))
    (pss_cons (ps_expr (px_c c_a_want hr h_a_want (by rfl) (pa_cons (px_c c_is_table hr h_is_table (by rfl) (pa_cons (pv 0) (pa_cons (pv 1) pa_nil))) (pa_cons px_str pa_nil))))
    (pss_cons (ps_expr (px_c c_a_want hr h_a_want (by rfl) (pa_cons (px_c c_is_four hr h_is_four (by rfl) (pa_cons (pv 0) (pa_cons (pv 2) pa_nil))) (pa_cons px_str pa_nil))))
    (pss_cons (ps_set (i := 3) sc_is_odd.nd rfl (Or.inl rfl) px_nat)
    (pss_cons (ps_for PassesOwn.never rfl (pi_tup (px_c c_four_settings hr h_four_settings (by rfl) (pa_cons (pv 0) (pa_cons (pv 2) pa_nil)))) (pg_name (i := 4) sc_is_odd.nd rfl (Or.inl rfl)) (pss_one (ps_set (i := 3) sc_is_odd.nd rfl (Or.inl rfl) (px_xor (pv 3) (px_ixT (pv 1) (px_c c_place_by hr h_place_by (by rfl) (pa_cons (pv 0) (pa_cons (pv 4) pa_nil))))))))
    (pss_one (ps_ret (px_eq (pv 3) px_nat))))))))
theorem dv_is_seam {P : Program} {w : World} {K : PySem.W.Frag} {mg : Str → Option Value} {base : Heap} {k : Nat} (B : Bs mg) {k_a_want : Nat} {sp_a_want : Sp} (c_a_want : Cal P w K mg base k_a_want "a_want" sp_a_want) (h_a_want : k_a_want ≤ k) {k_is_sizes : Nat} {sp_is_sizes : Sp} (c_is_sizes : Cal P w K mg base k_is_sizes "is_sizes" sp_is_sizes) (h_is_sizes : k_is_sizes ≤ k) {k_is_table : Nat} {sp_is_table : Sp} (c_is_table : Cal P w K mg base k_is_table "is_table" sp_is_table) (h_is_table : k_is_table ≤ k) {k_is_lot : Nat} {sp_is_lot : Sp} (c_is_lot : Cal P w K mg base k_is_lot "is_lot" sp_is_lot) (h_is_lot : k_is_lot ≤ k) {k_knit_pairs : Nat} {sp_knit_pairs : Sp} (c_knit_pairs : Cal P w K mg base k_knit_pairs "knit_pairs" sp_knit_pairs) (h_knit_pairs : k_knit_pairs ≤ k) {f : Addr} {cdv : Value} {A : Around} {outer : List Env} {s : Shared} {H : Hp} {E : XK} (hr : Room k (A.deeper (envOfC "is_seam" (defScope s_is_seam) s.heap.objs.size f cdv))) :
    PSs (cxOf CX0 P w K mg base N_is_seam "is_seam" (defScope s_is_seam) f cdv A outer s H E).nox (defBody s_is_seam) (t_is_seam K sp_a_want sp_is_sizes sp_is_table sp_is_lot sp_knit_pairs) :=
  (pss_cons (ps_expr (px_c c_a_want hr h_a_want (by rfl) (pa_cons (px_c c_is_sizes hr h_is_sizes (by rfl) (pa_cons (pv 0) pa_nil)) (pa_cons px_str pa_nil))))
    (pss_cons (ps_expr (px_c c_a_want hr h_a_want (by rfl) (pa_cons (px_c c_is_table hr h_is_table (by rfl) (pa_cons (pv 0) (pa_cons (pv 1) pa_nil))) (pa_cons px_str pa_nil))))
    (pss_cons (ps_expr (px_c c_a_want hr h_a_want (by rfl) (pa_cons (px_c c_is_lot hr h_is_lot (by rfl) (pa_cons (pe_callB call_len_seq (by rfl) B.len boot_len (pa_cons (pv 0) pa_nil)) (pa_cons (pv 2) pa_nil))) (pa_cons px_str pa_nil))))
    (pss_cons (ps_for PassesOwn.never rfl (pi_tup (px_c c_knit_pairs hr h_knit_pairs (by rfl) (pa_cons (pv 0) (pa_cons (pv 1) pa_nil)))) (pg_tup rfl (pgs_cons (pg_name (i := 3) sc_is_seam.nd rfl (Or.inl rfl)) (pgs_cons (pg_name (i := 4) sc_is_seam.nd rfl (Or.inl rfl)) pgs_nil))) (pss_one (ps_if (pq_ne (px_in (pv 3) (pv 2)) (px_in (pv 4) (pv 2))) (pss_one (ps_ret px_bl)) pss_nil)))
    (pss_one (ps_ret px_bl))))))
theorem dv_law_row {P : Program} {w : World} {K : PySem.W.Frag} {mg : Str → Option Value} {base : Heap} {k : Nat} (B : Bs mg) {f : Addr} {cdv : Value} {A : Around} {outer : List Env} {s : Shared} {H : Hp} {E : XK} (hr : Room k (A.deeper (envOfC "_law_row" (defScope s_law_row) s.heap.objs.size f cdv))) :
    PSs (cxOf CX0 P w K mg base N_law_row "_law_row" (defScope s_law_row) f cdv A outer s H E).nox (defBody s_law_row) (t_law_row K) :=
  (pss_cons (ps_if (pq_eq (pe_callB call_len_seq (by rfl) B.len boot_len (pa_cons (pv 0) pa_nil)) px_nat) (pss_one (ps_ret (pe_lc (own := [("_law_k", 2)]) (g := (gName 2)) rfl sc_law_row.nd (pi_range1 (by rfl) B.range (pa_cons (pv 1) pa_nil)) (blkOk_by (own := [("_law_k", 2)]) (N := N_law_row) (sc := defScope s_law_row) (by decide +kernel)) (fun _ _ _ _ _ => (pg_name (i := 2) sc_law_row.nd rfl (Or.inl rfl))) (fun _ _ _ _ _ => pts_nil) (fun _ _ _ _ _ => (px_add (pv 2) px_nat))))) pss_nil)
    (pss_cons (ps_set (i := 3) sc_law_row.nd rfl (Or.inl rfl) px_nat)
    (pss_cons (ps_set (i := 4) sc_law_row.nd rfl (Or.inl rfl) (px_lst pa_nil))
    (pss_cons (ps_for PassesOwn.never rfl (pi_list (pv 0)) (pg_name (i := 5) sc_law_row.nd rfl (Or.inl rfl)) (pss_cons (ps_set (i := 3) sc_law_row.nd rfl (Or.inl rfl) (px_mod (pe_callTy call_int1 (by rfl) B.int boot_int (pa_cons (px_add (px_mul (pv 3) px_nat) (pv 5)) pa_nil)) px_nat))
    (pss_cons (ps_set (i := 6) sc_law_row.nd rfl (Or.inl rfl) (pe_callB call_abs (by rfl) B.abs boot_abs (pa_cons (pv 5) pa_nil)))
    (pss_one (ps_if (pq_ge (pv 6) px_nat) (pss_one (ps_for PassesOwn.never rfl (pi_range1 (by rfl) B.range (pa_cons px_nat pa_nil)) (pg_name (i := 2) sc_law_row.nd rfl (Or.inl rfl)) (pss_one (ps_if (pq_gt (pv 6) px_nat) (pss_cons (ps_expr (pe_bm PySem.F.plainAttrs_list PySem.F.slot_list_append PySem.F.type_list_append mt_append (pv 4) (pa_cons (px_mod (pe_callTy call_int1 (by rfl) B.int boot_int (pa_cons (pv 6) pa_nil)) px_nat) pa_nil)))
    (pss_one (ps_set (i := 6) sc_law_row.nd rfl (Or.inl rfl) (px_fdiv (pv 6) px_nat)))) pss_nil)))) pss_nil)))))
    (pss_cons (ps_for PassesOwn.never rfl (pi_range1 (by rfl) B.range (pa_cons (pv 1) pa_nil)) (pg_name (i := 2) sc_law_row.nd rfl (Or.inl rfl)) (pss_cons (ps_set (i := 3) sc_law_row.nd rfl (Or.inl rfl) (px_mod (pe_callTy call_int1 (by rfl) B.int boot_int (pa_cons (px_add (px_add (px_mul (pv 3) px_nat) px_nat) (pv 2)) pa_nil)) px_nat))
    (pss_cons (ps_set (i := 7) sc_law_row.nd rfl (Or.inl rfl) (px_mod (pe_callTy call_int1 (by rfl) B.int boot_int (pa_cons (px_add (px_add (px_mul (pv 3) (pv 3)) (px_fdiv (pv 3) px_nat)) px_nat) pa_nil)) px_nat))
    (pss_one (ps_expr (pe_bm PySem.F.plainAttrs_list PySem.F.slot_list_append PySem.F.type_list_append mt_append (pv 4) (pa_cons (px_mod (pe_callTy call_int1 (by rfl) B.int boot_int (pa_cons (px_fdiv (pv 7) px_nat) pa_nil)) px_nat) pa_nil)))))))
    (pss_one (ps_ret (pv 4))))))))
theorem dv_law_same {P : Program} {w : World} {K : PySem.W.Frag} {mg : Str → Option Value} {base : Heap} {k : Nat} (B : Bs mg) {k_law_same : Nat} {sp_law_same : Sp} (c_law_same : Cal P w K mg base k_law_same "_law_same" sp_law_same) (h_law_same : k_law_same ≤ k) {f : Addr} {cdv : Value} {A : Around} {outer : List Env} {s : Shared} {H : Hp} {E : XK} (hr : Room k (A.deeper (envOfC "_law_same" (defScope s_law_same) s.heap.objs.size f cdv))) :
    PSs (cxOf CX0 P w K mg base N_law_same "_law_same" (defScope s_law_same) f cdv A outer s H E).nox (defBody s_law_same) (t_law_same K sp_law_same) :=
  (pss_cons (ps_if (pt_val (pe_callB call_isi (by rfl) B.isinstance boot_isinstance (pa_cons (pv 1) (pa_cons (px_tyTup (by rfl) B.tuple) pa_nil)))) (pss_cons (ps_if (PW.pt (pw_or (pt_not (pt_val (pe_callB call_isi (by rfl) B.isinstance boot_isinstance (pa_cons (pv 0) (pa_cons (px_tyTup (by rfl) B.tuple) pa_nil))))) (pw_or1 (pq_ne (pe_callB call_len_seq (by rfl) B.len boot_len (pa_cons (pv 0) pa_nil)) (pe_callB call_len_seq (by rfl) B.len boot_len (pa_cons (pv 1) pa_nil)))))) (pss_one (ps_ret px_bl)) pss_nil)
    (pss_cons (ps_for PassesOwn.never rfl (pi_range1 (by rfl) B.range (pa_cons (pe_callB call_len_seq (by rfl) B.len boot_len (pa_cons (pv 1) pa_nil)) pa_nil)) (pg_name (i := 2) sc_law_same.nd rfl (Or.inl rfl)) (pss_one (ps_if (pt_not (pt_val (px_c c_law_same hr h_law_same (by rfl) (pa_cons (px_ixT (pv 0) (pv 2)) (pa_cons (px_ixT (pv 1) (pv 2)) pa_nil))))) (pss_one (ps_ret px_bl)) pss_nil)))
    (pss_one (ps_ret px_bl)))) pss_nil)
    (pss_cons (ps_if (pq_isN (pv 1)) (pss_one (ps_ret (px_isN (pv 0)))) pss_nil)
    (pss_cons (ps_if (pt_val (pe_callB call_isi (by rfl) B.isinstance boot_isinstance (pa_cons (pv 1) (pa_cons (px_tyBool (by rfl) B.bool) pa_nil)))) (pss_one (ps_ret (pe_and (pe_callB call_isi (by rfl) B.isinstance boot_isinstance (pa_cons (pv 0) (pa_cons (px_tyBool (by rfl) B.bool) pa_nil))) (pe_one (px_eq (pv 0) (pv 1)))))) pss_nil)
    (pss_cons (ps_if (pt_val (pe_callB call_isi (by rfl) B.isinstance boot_isinstance (pa_cons (pv 1) (pa_cons (px_tyInt (by rfl) B.int) pa_nil)))) (pss_one (ps_ret (pe_and (pe_callB call_isi (by rfl) B.isinstance boot_isinstance (pa_cons (pv 0) (pa_cons (px_tyInt (by rfl) B.int) pa_nil))) (pe_and (px_not (pe_callB call_isi (by rfl) B.isinstance boot_isinstance (pa_cons (pv 0) (pa_cons (px_tyBool (by rfl) B.bool) pa_nil)))) (pe_one (px_eq (pv 0) (pv 1))))))) pss_nil)
    (pss_one (ps_ret (pe_and (pe_callB call_isi (by rfl) B.isinstance boot_isinstance (pa_cons (pv 0) (pa_cons (px_tyStr (by rfl) B.str) pa_nil))) (pe_one (px_eq (pv 0) (pv 1))))))))))
theorem dv_law_settings {P : Program} {w : World} {K : PySem.W.Frag} {mg : Str → Option Value} {base : Heap} {k : Nat} (B : Bs mg) {f : Addr} {cdv : Value} {A : Around} {outer : List Env} {s : Shared} {H : Hp} {E : XK} (hr : Room k (A.deeper (envOfC "_law_settings" (defScope s_law_settings) s.heap.objs.size f cdv))) :
    PSs (cxOf CX0 P w K mg base N_law_settings "_law_settings" (defScope s_law_settings) f cdv A outer s H E).nox (defBody s_law_settings) (t_law_settings K) :=
  (pss_cons (ps_set (i := 1) sc_law_settings.nd rfl (Or.inl rfl) (px_lst (pa_cons (px_tup pa_nil) pa_nil)))
    (pss_cons (ps_for PassesOwn.never rfl (pi_tup (pv 0)) (pg_name (i := 2) sc_law_settings.nd rfl (Or.inl rfl)) (pss_cons (ps_set (i := 3) sc_law_settings.nd rfl (Or.inl rfl) (px_lst pa_nil))
    (pss_cons (ps_for PassesOwn.never rfl (pi_list (pv 1)) (pg_name (i := 4) sc_law_settings.nd rfl (Or.inl rfl)) (pss_one (ps_for PassesOwn.never rfl (pi_range1 (by rfl) B.range (pa_cons (pv 2) pa_nil)) (pg_name (i := 5) sc_law_settings.nd rfl (Or.inl rfl)) (pss_one (ps_expr (pe_bm PySem.F.plainAttrs_list PySem.F.slot_list_append PySem.F.type_list_append mt_append (pv 3) (pa_cons (px_catT (pv 4) (px_tup (pa_cons (pv 5) pa_nil))) pa_nil)))))))
    (pss_one (ps_set (i := 1) sc_law_settings.nd rfl (Or.inl rfl) (pe_callTy call_list_of (by rfl) B.list boot_list (pa_cons (pv 3) pa_nil)))))))
    (pss_one (ps_ret (pv 1)))))
theorem dv_law_steps {P : Program} {w : World} {K : PySem.W.Frag} {mg : Str → Option Value} {base : Heap} {k : Nat} (B : Bs mg) {f : Addr} {cdv : Value} {A : Around} {outer : List Env} {s : Shared} {H : Hp} {E : XK} (hr : Room k (A.deeper (envOfC "_law_steps" (defScope s_law_steps) s.heap.objs.size f cdv))) :
    PSs (cxOf CX0 P w K mg base N_law_steps "_law_steps" (defScope s_law_steps) f cdv A outer s H E).nox (defBody s_law_steps) (t_law_steps K) :=
  (pss_cons (ps_set (i := 1) sc_law_steps.nd rfl (Or.inl rfl) (px_rep (px_lst (pa_cons px_nat pa_nil)) (pe_callB call_len_seq (by rfl) B.len boot_len (pa_cons (pv 0) pa_nil))))
    (pss_cons (ps_for PassesOwn.never rfl (pi_range2 (by rfl) B.range (pa_cons px_nat (pa_cons (pe_callB call_len_seq (by rfl) B.len boot_len (pa_cons (pv 0) pa_nil)) pa_nil))) (pg_name (i := 2) sc_law_steps.nd rfl (Or.inl rfl)) (pss_cons (ps_set (i := 3) sc_law_steps.nd rfl (Or.inl rfl) (px_sub (px_sub (pe_callB call_len_seq (by rfl) B.len boot_len (pa_cons (pv 0) pa_nil)) px_nat) (pv 2)))
    (pss_one (ps_asg (px_mul (px_ixL (pv 1) (px_add (pv 3) px_nat)) (px_ixT (pv 0) (px_add (pv 3) px_nat))) (pg_sub (pv 1) (pv 3) set_list)))))
    (pss_one (ps_ret (pv 1)))))
theorem dv_law_sizes {P : Program} {w : World} {K : PySem.W.Frag} {mg : Str → Option Value} {base : Heap} {k : Nat} (B : Bs mg) {f : Addr} {cdv : Value} {A : Around} {outer : List Env} {s : Shared} {H : Hp} {E : XK} (hr : Room k (A.deeper (envOfC "_law_sizes" (defScope s_law_sizes) s.heap.objs.size f cdv))) :
    PSs (cxOf CX0 P w K mg base N_law_sizes "_law_sizes" (defScope s_law_sizes) f cdv A outer s H E).nox (defBody s_law_sizes) (t_law_sizes K) :=
  (pss_cons (ps_set (i := 1) sc_law_sizes.nd rfl (Or.inl rfl) (px_add px_nat (px_mod (pe_callTy call_int1 (by rfl) B.int boot_int (pa_cons (px_ixL (pv 0) px_nat) pa_nil)) px_nat)))
    (pss_cons (ps_set (i := 2) sc_law_sizes.nd rfl (Or.inl rfl) px_nat)
    (pss_cons (ps_if (pq_eq (px_mod (pe_callTy call_int1 (by rfl) B.int boot_int (pa_cons (px_ixL (pv 0) px_nat) pa_nil)) px_nat) px_nat) (pss_one (ps_set (i := 2) sc_law_sizes.nd rfl (Or.inl rfl) px_nat)) pss_nil)
    (pss_cons (ps_if (pq_eq (px_mod (pe_callTy call_int1 (by rfl) B.int boot_int (pa_cons (px_ixL (pv 0) px_nat) pa_nil)) px_nat) px_nat) (pss_one (ps_set (i := 2) sc_law_sizes.nd rfl (Or.inl rfl) px_nat)) pss_nil)
    (pss_cons (ps_set (i := 3) sc_law_sizes.nd rfl (Or.inl rfl) (px_lst pa_nil))
    (pss_cons (ps_set (i := 4) sc_law_sizes.nd rfl (Or.inl rfl) px_nat)
    (pss_cons (ps_for PassesOwn.never rfl (pi_range1 (by rfl) B.range (pa_cons (pv 1) pa_nil)) (pg_name (i := 5) sc_law_sizes.nd rfl (Or.inl rfl)) (pss_cons (ps_set (i := 6) sc_law_sizes.nd rfl (Or.inl rfl) (px_ixL (px_lst (pa_cons px_nat (pa_cons px_nat (pa_cons px_nat (pa_cons px_nat (pa_cons px_nat (pa_cons px_nat pa_nil))))))) (px_mod (pe_callTy call_int1 (by rfl) B.int boot_int (pa_cons (px_ixL (pv 0) (px_add px_nat (pv 5))) pa_nil)) px_nat)))
    (pss_cons (ps_for PassesOwn.never rfl (pi_range1 (by rfl) B.range (pa_cons px_nat pa_nil)) (pg_name (i := 7) sc_law_sizes.nd rfl (Or.inl rfl)) (pss_one (ps_if (pq_gt (px_mul (pv 4) (pv 6)) (pv 2)) (pss_one (ps_set (i := 6) sc_law_sizes.nd rfl (Or.inl rfl) (px_sub (pv 6) px_nat))) pss_nil)))
    (pss_cons (ps_set (i := 4) sc_law_sizes.nd rfl (Or.inl rfl) (px_mul (pv 4) (pv 6)))
    (pss_one (ps_expr (pe_bm PySem.F.plainAttrs_list PySem.F.slot_list_append PySem.F.type_list_append mt_append (pv 3) (pa_cons (pv 6) pa_nil))))))))
    (pss_cons (ps_if (pq_eq (px_mod (pe_callTy call_int1 (by rfl) B.int boot_int (pa_cons (px_ixL (pv 0) px_nat) pa_nil)) px_nat) px_nat) (pss_one (ps_set (i := 3) sc_law_sizes.nd rfl (Or.inl rfl) (pe_revL (pv 3)))) pss_nil)
    (pss_one (ps_ret (pe_callTy call_tuple_of (by rfl) B.tuple boot_tuple (pa_cons (pv 3) pa_nil))))))))))))
theorem dv_law_on_L {P : Program} {w : World} {K : PySem.W.Frag} {mg : Str → Option Value} {base : Heap} {k : Nat} (B : Bs mg) {f : Addr} {cdv : Value} {A : Around} {outer : List Env} {s : Shared} {H : Hp} {E : XK} (hr : Room k (A.deeper (envOfC "_law_on" (defScope s_law_on) s.heap.objs.size f cdv))) :
    PSs (cxOf CX0 P w K mg base N_law_on "_law_on" (defScope s_law_on) f cdv A outer s H E).nox (defBody s_law_on) (t_law_on_L K) :=
  (pss_one (ps_ret (pe_callB (cr_sum rfl) (by rfl) B.sum boot_sum (pa_cons (pe_lc (own := [("_law_h", 4)]) (g := (gName 4)) rfl sc_law_on.nd (pi_list (pv 2)) (blkOk_by (own := [("_law_h", 4)]) (N := N_law_on) (sc := defScope s_law_on) (by decide +kernel)) (fun _ _ _ _ _ => (pg_name (i := 4) sc_law_on.nd rfl (Or.inl rfl))) (fun _ _ _ _ _ => pts_nil) (fun _ _ _ _ _ => (px_mul (px_ixT (pv 3) (pv 4)) (px_ixL (pv 1) (pv 4))))) pa_nil))))
theorem dv_law_on_T {P : Program} {w : World} {K : PySem.W.Frag} {mg : Str → Option Value} {base : Heap} {k : Nat} (B : Bs mg) {f : Addr} {cdv : Value} {A : Around} {outer : List Env} {s : Shared} {H : Hp} {E : XK} (hr : Room k (A.deeper (envOfC "_law_on" (defScope s_law_on) s.heap.objs.size f cdv))) :
    PSs (cxOf CX0 P w K mg base N_law_on "_law_on" (defScope s_law_on) f cdv A outer s H E).nox (defBody s_law_on) (t_law_on_T K) :=
  (pss_one (ps_ret (pe_callB (cr_sum rfl) (by rfl) B.sum boot_sum (pa_cons (pe_lc (own := [("_law_h", 4)]) (g := (gName 4)) rfl sc_law_on.nd (pi_tup (pv 2)) (blkOk_by (own := [("_law_h", 4)]) (N := N_law_on) (sc := defScope s_law_on) (by decide +kernel)) (fun _ _ _ _ _ => (pg_name (i := 4) sc_law_on.nd rfl (Or.inl rfl))) (fun _ _ _ _ _ => pts_nil) (fun _ _ _ _ _ => (px_mul (px_ixT (pv 3) (pv 4)) (px_ixL (pv 1) (pv 4))))) pa_nil))))
theorem dv_law_summed {P : Program} {w : World} {K : PySem.W.Frag} {mg : Str → Option Value} {base : Heap} {k : Nat} (B : Bs mg) {k_law_settings : Nat} {sp_law_settings : Sp} (c_law_settings : Cal P w K mg base k_law_settings "_law_settings" sp_law_settings) (h_law_settings : k_law_settings ≤ k) {k_law_steps : Nat} {sp_law_steps : Sp} (c_law_steps : Cal P w K mg base k_law_steps "_law_steps" sp_law_steps) (h_law_steps : k_law_steps ≤ k) {k_law_on_L : Nat} {sp_law_on_L : Sp} (c_law_on_L : Cal P w K mg base k_law_on_L "_law_on" sp_law_on_L) (h_law_on_L : k_law_on_L ≤ k) {f : Addr} {cdv : Value} {A : Around} {outer : List Env} {s : Shared} {H : Hp} {E : XK} (hr : Room k (A.deeper (envOfC "_law_summed" (defScope s_law_summed) s.heap.objs.size f cdv))) :
    PSs (cxOf CX0 P w K mg base N_law_summed "_law_summed" (defScope s_law_summed) f cdv A outer s H E).nox (defBody s_law_summed) (t_law_summed K sp_law_settings sp_law_steps sp_law_on_L) :=
  (pss_cons (ps_set (i := 3) sc_law_summed.nd rfl (Or.inl rfl) (px_c c_law_settings hr h_law_settings (by rfl) (pa_cons (pv 1) pa_nil)))
    (pss_cons (ps_set (i := 4) sc_law_summed.nd rfl (Or.inl rfl) (px_c c_law_steps hr h_law_steps (by rfl) (pa_cons (pv 1) pa_nil)))
    (pss_cons (ps_set (i := 5) sc_law_summed.nd rfl (Or.inl rfl) (px_rep (px_lst (pa_cons (px_mod (pe_callTy call_int1 (by rfl) B.int boot_int (pa_cons (px_ixL (pv 0) (pv 2)) pa_nil)) px_nat) pa_nil)) (pe_callB call_len_seq (by rfl) B.len boot_len (pa_cons (pv 3) pa_nil))))
    (pss_cons (ps_for PassesOwn.never rfl (pi_range1 (by rfl) B.range (pa_cons px_nat pa_nil)) (pg_name (i := 6) sc_law_summed.nd rfl (Or.inr rfl)) (pss_cons (ps_setLc (i := 7) (own := [("_law_h", 8)]) (g := (gName 8)) rfl sc_law_summed.nd rfl rfl (sw_true rfl rfl rfl (by decide +kernel)) (pi_range1 (by rfl) B.range (pa_cons (pe_callB call_len_seq (by rfl) B.len boot_len (pa_cons (pv 1) pa_nil)) pa_nil)) (blkOk_by (own := [("_law_h", 8)]) (N := N_law_summed) (sc := defScope s_law_summed) (by decide +kernel)) (fun _ _ _ _ _ => (pg_name (i := 8) sc_law_summed.nd rfl (Or.inl rfl))) (fun _ _ _ _ _ => pts_one (pq_eq (px_mod (px_fdiv (px_ixL (pv 0) (px_add (px_add (pv 2) px_nat) (pv 8))) px_nat) px_nat) (pv 6))) (fun _ _ _ _ _ => (pv 8)))
    (pss_one (ps_for PassesOwn.never rfl (pi_range1 (by rfl) B.range (pa_cons (pe_callB call_len_seq (by rfl) B.len boot_len (pa_cons (pv 3) pa_nil)) pa_nil)) (pg_name (i := 9) sc_law_summed.nd rfl (Or.inl rfl)) (pss_one (ps_asg (px_mod (pe_callTy call_int1 (by rfl) B.int boot_int (pa_cons (px_add (px_ixL (pv 5) (pv 9)) (px_fdiv (px_ixL (pv 0) (px_add (px_add (px_add (pv 2) px_nat) (pv 6)) (px_c c_law_on_L hr h_law_on_L (by rfl) (pa_cons (pv 1) (pa_cons (pv 4) (pa_cons (pv 7) (pa_cons (px_ixL (pv 3) (pv 9)) pa_nil))))))) px_nat)) pa_nil)) px_nat) (pg_sub (pv 5) (pv 9) set_list)))))))
    (pss_one (ps_ret (pv 5)))))))
theorem dv_law_by_terms {P : Program} {w : World} {K : PySem.W.Frag} {mg : Str → Option Value} {base : Heap} {k : Nat} (B : Bs mg) {k_law_settings : Nat} {sp_law_settings : Sp} (c_law_settings : Cal P w K mg base k_law_settings "_law_settings" sp_law_settings) (h_law_settings : k_law_settings ≤ k) {f : Addr} {cdv : Value} {A : Around} {outer : List Env} {s : Shared} {H : Hp} {E : XK} (hr : Room k (A.deeper (envOfC "_law_by_terms" (defScope s_law_by_terms) s.heap.objs.size f cdv))) :
    PSs (cxOf CX0 P w K mg base N_law_by_terms "_law_by_terms" (defScope s_law_by_terms) f cdv A outer s H E).nox (defBody s_law_by_terms) (t_law_by_terms K sp_law_settings) :=
  (pss_cons (ps_set (i := 3) sc_law_by_terms.nd rfl (Or.inr rfl) (px_c c_law_settings hr h_law_settings (by rfl) (pa_cons (pv 1) pa_nil)))
    (pss_cons (ps_set (i := 4) sc_law_by_terms.nd rfl (Or.inl rfl) (px_rep (px_lst (pa_cons (px_mod (pe_callTy call_int1 (by rfl) B.int boot_int (pa_cons (px_ixL (pv 0) (pv 2)) pa_nil)) px_nat) pa_nil)) (pe_callB call_len_seq (by rfl) B.len boot_len (pa_cons (pv 3) pa_nil))))
    (pss_cons (ps_for PassesOwn.never rfl (pi_range1 (by rfl) B.range (pa_cons px_nat pa_nil)) (pg_name (i := 5) sc_law_by_terms.nd rfl (Or.inr rfl)) (pss_cons (ps_set (i := 6) sc_law_by_terms.nd rfl (Or.inl rfl) (px_ixL (pv 0) (px_add (px_add (pv 2) px_nat) (pv 5))))
    (pss_cons (ps_setLc (i := 7) (own := [("_law_h", 8)]) (g := (gName 8)) rfl sc_law_by_terms.nd rfl rfl (sw_true rfl rfl rfl (by decide +kernel)) (pi_range1 (by rfl) B.range (pa_cons (pe_callB call_len_seq (by rfl) B.len boot_len (pa_cons (pv 1) pa_nil)) pa_nil)) (blkOk_by (own := [("_law_h", 8)]) (N := N_law_by_terms) (sc := defScope s_law_by_terms) (by decide +kernel)) (fun _ _ _ _ _ => (pg_name (i := 8) sc_law_by_terms.nd rfl (Or.inl rfl))) (fun _ _ _ _ _ => pts_one (pq_eq (px_mod (px_fdiv (px_ixL (pv 0) (px_add (px_add (px_add (pv 2) px_nat) (px_mul px_nat (pv 5))) (pv 8))) px_nat) px_nat) px_nat)) (fun _ _ _ _ _ => (pv 8)))
    (pss_cons (ps_set (i := 7) sc_law_by_terms.nd rfl (Or.inl rfl) (pe_slice sl_list (pv 7) po_none (po_some (px_add px_nat (px_mod (pe_callTy call_int1 (by rfl) B.int boot_int (pa_cons (pv 6) pa_nil)) px_nat)))))
    (pss_one (ps_if (pq_gt (px_mod (px_fdiv (pv 6) px_nat) px_nat) px_nat) (pss_one (ps_for PassesOwn.never rfl (pi_range1 (by rfl) B.range (pa_cons (pe_callB call_len_seq (by rfl) B.len boot_len (pa_cons (pv 3) pa_nil)) pa_nil)) (pg_name (i := 9) sc_law_by_terms.nd rfl (Or.inr rfl)) (pss_cons (ps_set (i := 10) sc_law_by_terms.nd rfl (Or.inl rfl) (pe_callB (cr_sum rfl) (by rfl) B.sum boot_sum (pa_cons (pe_lc (own := [("_law_h", 8)]) (g := (gName 8)) rfl sc_law_by_terms.nd (pi_list (pv 7)) (blkOk_by (own := [("_law_h", 8)]) (N := N_law_by_terms) (sc := defScope s_law_by_terms) (by decide +kernel)) (fun _ _ _ _ _ => (pg_name (i := 8) sc_law_by_terms.nd rfl (Or.inl rfl))) (fun _ _ _ _ _ => pts_one (pq_eq (px_ixT (px_ixL (pv 3) (pv 9)) (pv 8)) (px_add px_nat (px_mod (pe_callTy call_int1 (by rfl) B.int boot_int (pa_cons (px_fdiv (px_ixL (pv 0) (px_add (px_add (px_add (pv 2) px_nat) (px_mul px_nat (pv 5))) (pv 8))) px_nat) pa_nil)) px_nat)))) (fun _ _ _ _ _ => px_nat)) pa_nil)))
    (pss_one (ps_if (pq_eq (pv 10) (pe_callB call_len_seq (by rfl) B.len boot_len (pa_cons (pv 7) pa_nil))) (pss_one (ps_asg (px_sub px_nat (px_ixL (pv 4) (pv 9))) (pg_sub (pv 4) (pv 9) set_list))) pss_nil))))) pss_nil))))))
    (pss_one (ps_ret (pv 4))))))
theorem dv_law_table {P : Program} {w : World} {K : PySem.W.Frag} {mg : Str → Option Value} {base : Heap} {k : Nat} (B : Bs mg) {k_law_settings : Nat} {sp_law_settings : Sp} (c_law_settings : Cal P w K mg base k_law_settings "_law_settings" sp_law_settings) (h_law_settings : k_law_settings ≤ k) {k_law_summed : Nat} {sp_law_summed : Sp} (c_law_summed : Cal P w K mg base k_law_summed "_law_summed" sp_law_summed) (h_law_summed : k_law_summed ≤ k) {k_law_by_terms : Nat} {sp_law_by_terms : Sp} (c_law_by_terms : Cal P w K mg base k_law_by_terms "_law_by_terms" sp_law_by_terms) (h_law_by_terms : k_law_by_terms ≤ k) {f : Addr} {cdv : Value} {A : Around} {outer : List Env} {s : Shared} {H : Hp} {E : XK} (hr : Room k (A.deeper (envOfC "_law_table" (defScope s_law_table) s.heap.objs.size f cdv))) :
    PSs (cxOf CX0 P w K mg base N_law_table "_law_table" (defScope s_law_table) f cdv A outer s H E).nox (defBody s_law_table) (t_law_table K sp_law_settings sp_law_summed sp_law_by_terms) :=
  (pss_cons (ps_set (i := 3) sc_law_table.nd rfl (Or.inl rfl) (pe_callB call_len_seq (by rfl) B.len boot_len (pa_cons (px_c c_law_settings hr h_law_settings (by rfl) (pa_cons (pv 1) pa_nil)) pa_nil)))
    (pss_cons (ps_set (i := 4) sc_law_table.nd rfl (Or.inl rfl) (px_mod (pe_callTy call_int1 (by rfl) B.int boot_int (pa_cons (px_ixL (pv 0) (px_add (pv 2) px_nat)) pa_nil)) px_nat))
    (pss_cons (ps_if (pq_lt (pv 4) px_nat) (pss_one (ps_set (i := 5) sc_law_table.nd rfl (Or.inl rfl) (px_c c_law_summed hr h_law_summed (by rfl) (pa_cons (pv 0) (pa_cons (pv 1) (pa_cons (pv 2) pa_nil)))))) (pss_one (ps_if (pq_lt (pv 4) px_nat) (pss_one (ps_set (i := 5) sc_law_table.nd rfl (Or.inl rfl) (px_c c_law_by_terms hr h_law_by_terms (by rfl) (pa_cons (pv 0) (pa_cons (pv 1) (pa_cons (pv 2) pa_nil)))))) (pss_one (ps_if (pq_eq (pv 4) px_nat) (pss_one (ps_setLc (i := 5) (own := [("_law_k", 6)]) (g := (gName 6)) rfl sc_law_table.nd rfl rfl (sw_true rfl rfl rfl (by decide +kernel)) (pi_range1 (by rfl) B.range (pa_cons (pv 3) pa_nil)) (blkOk_by (own := [("_law_k", 6)]) (N := N_law_table) (sc := defScope s_law_table) (by decide +kernel)) (fun _ _ _ _ _ => (pg_name (i := 6) sc_law_table.nd rfl (Or.inl rfl))) (fun _ _ _ _ _ => pts_nil) (fun _ _ _ _ _ => (px_mod (pe_callTy call_int1 (by rfl) B.int boot_int (pa_cons (px_fdiv (px_ixL (pv 0) (px_add (px_add (pv 2) px_nat) (pv 6))) px_nat) pa_nil)) px_nat)))) (pss_one (ps_set (i := 5) sc_law_table.nd rfl (Or.inl rfl) (px_rep (px_lst (pa_cons (px_mod (pe_callTy call_int1 (by rfl) B.int boot_int (pa_cons (px_ixL (pv 0) (pv 2)) pa_nil)) px_nat) pa_nil)) (pv 3)))))))))
    (pss_cons (ps_if (pq_in (pv 4) (px_tup (pa_cons px_nat (pa_cons px_nat pa_nil)))) (pss_cons (ps_set (i := 6) sc_law_table.nd rfl (Or.inl rfl) (px_mod (pe_callTy call_int1 (by rfl) B.int boot_int (pa_cons (px_ixL (pv 0) (px_add (pv 2) px_nat)) pa_nil)) (pv 3)))
    (pss_one (ps_asg (px_sub px_nat (px_ixL (pv 5) (pv 6))) (pg_sub (pv 5) (pv 6) set_list)))) pss_nil)
    (pss_one (ps_ret (pe_callTy call_tuple_of (by rfl) B.tuple boot_tuple (pa_cons (pv 5) pa_nil))))))))
theorem dv_law_odd_sum {P : Program} {w : World} {K : PySem.W.Frag} {mg : Str → Option Value} {base : Heap} {k : Nat} (B : Bs mg) {f : Addr} {cdv : Value} {A : Around} {outer : List Env} {s : Shared} {H : Hp} {E : XK} (hr : Room k (A.deeper (envOfC "_law_odd_sum" (defScope s_law_odd_sum) s.heap.objs.size f cdv))) :
    PSs (cxOf CX0 P w K mg base N_law_odd_sum "_law_odd_sum" (defScope s_law_odd_sum) f cdv A outer s H E).nox (defBody s_law_odd_sum) (t_law_odd_sum K) :=
  (pss_one (ps_ret (px_eq (px_mod (px_add (px_add (px_add (px_ixT (pv 0) (pv 1)) (px_ixT (pv 0) (px_add (pv 1) (pv 2)))) (px_ixT (pv 0) (px_add (pv 1) (pv 3)))) (px_ixT (pv 0) (px_add (px_add (pv 1) (pv 2)) (pv 3)))) px_nat) px_nat)))
theorem dv_law_knit {P : Program} {w : World} {K : PySem.W.Frag} {mg : Str → Option Value} {base : Heap} {k : Nat} (B : Bs mg) {k_law_steps : Nat} {sp_law_steps : Sp} (c_law_steps : Cal P w K mg base k_law_steps "_law_steps" sp_law_steps) (h_law_steps : k_law_steps ≤ k) {k_law_settings : Nat} {sp_law_settings : Sp} (c_law_settings : Cal P w K mg base k_law_settings "_law_settings" sp_law_settings) (h_law_settings : k_law_settings ≤ k) {k_law_odd_sum : Nat} {sp_law_odd_sum : Sp} (c_law_odd_sum : Cal P w K mg base k_law_odd_sum "_law_odd_sum" sp_law_odd_sum) (h_law_odd_sum : k_law_odd_sum ≤ k) {f : Addr} {cdv : Value} {A : Around} {outer : List Env} {s : Shared} {H : Hp} {E : XK} (hr : Room k (A.deeper (envOfC "_law_knit" (defScope s_law_knit) s.heap.objs.size f cdv))) :
    PSs (cxOf CX0 P w K mg base N_law_knit "_law_knit" (defScope s_law_knit) f cdv A outer s H E).nox (defBody s_law_knit) (t_law_knit K sp_law_steps sp_law_settings sp_law_odd_sum) :=
  (pss_cons (ps_set (i := 4) sc_law_knit.nd rfl (Or.inl rfl) (px_c c_law_steps hr h_law_steps (by rfl) (pa_cons (pv 0) pa_nil)))
    (pss_cons (ps_set (i := 5) sc_law_knit.nd rfl (Or.inl rfl) (px_c c_law_settings hr h_law_settings (by rfl) (pa_cons (pv 0) pa_nil)))
    (pss_cons (ps_for PassesOwn.never rfl (pi_range1 (by rfl) B.range (pa_cons (pe_callB call_len_seq (by rfl) B.len boot_len (pa_cons (pv 5) pa_nil)) pa_nil)) (pg_name (i := 6) sc_law_knit.nd rfl (Or.inl rfl)) (pss_cons (ps_set (i := 7) sc_law_knit.nd rfl (Or.inl rfl) (px_ixL (pv 5) (pv 6)))
    (pss_one (ps_for PassesOwn.never rfl (pi_range2 (by rfl) B.range (pa_cons (px_add (px_ixT (pv 7) (pv 2)) px_nat) (pa_cons (px_ixT (pv 0) (pv 2)) pa_nil))) (pg_name (i := 8) sc_law_knit.nd rfl (Or.inl rfl)) (pss_one (ps_for PassesOwn.never rfl (pi_range2 (by rfl) B.range (pa_cons (px_add (px_ixT (pv 7) (pv 3)) px_nat) (pa_cons (px_ixT (pv 0) (pv 3)) pa_nil))) (pg_name (i := 9) sc_law_knit.nd rfl (Or.inl rfl)) (pss_one (ps_if (pt_val (px_c c_law_odd_sum hr h_law_odd_sum (by rfl) (pa_cons (pv 1) (pa_cons (pv 6) (pa_cons (px_mul (px_sub (pv 8) (px_ixT (pv 7) (pv 2))) (px_ixL (pv 4) (pv 2))) (pa_cons (px_mul (px_sub (pv 9) (px_ixT (pv 7) (pv 3))) (px_ixL (pv 4) (pv 3))) pa_nil)))))) (pss_one (ps_ret px_bl)) pss_nil))))))))
    (pss_one (ps_ret px_bl)))))
theorem dv_law_classes {P : Program} {w : World} {K : PySem.W.Frag} {mg : Str → Option Value} {base : Heap} {k : Nat} (B : Bs mg) {f : Addr} {cdv : Value} {A : Around} {outer : List Env} {s : Shared} {H : Hp} {E : XK} (hr : Room k (A.deeper (envOfC "_law_classes" (defScope s_law_classes) s.heap.objs.size f cdv))) :
    PSs (cxOf CX0 P w K mg base N_law_classes "_law_classes" (defScope s_law_classes) f cdv A outer s H E).nox (defBody s_law_classes) (t_law_classes K) :=
  (pss_cons (ps_set (i := 2) sc_law_classes.nd rfl (Or.inr rfl) (pe_listRg rfl (by rfl) B.list (prg_1 (by rfl) B.range (pv 0))))
    (pss_cons (ps_for PassesOwn.never rfl (pi_list (pv 1)) (pg_tup rfl (pgs_cons (pg_name (i := 3) sc_law_classes.nd rfl (Or.inl rfl)) (pgs_cons (pg_name (i := 4) sc_law_classes.nd rfl (Or.inl rfl)) pgs_nil))) (pss_cons (ps_set (i := 5) sc_law_classes.nd rfl (Or.inr rfl) (pe_callB (call_min2 rfl) (by rfl) B.min boot_min (pa_cons (px_ixL (pv 2) (pv 3)) (pa_cons (px_ixL (pv 2) (pv 4)) pa_nil))))
    (pss_cons (ps_set (i := 6) sc_law_classes.nd rfl (Or.inr rfl) (pe_callB (call_max2 rfl) (by rfl) B.max boot_max (pa_cons (px_ixL (pv 2) (pv 3)) (pa_cons (px_ixL (pv 2) (pv 4)) pa_nil))))
    (pss_one (ps_set (i := 2) sc_law_classes.nd rfl (Or.inr rfl) (pe_lc (own := [("_law_c", 7)]) (g := (gName 7)) rfl sc_law_classes.nd (pi_list (pv 2)) (blkOk_by (own := [("_law_c", 7)]) (N := N_law_classes) (sc := defScope s_law_classes) (by decide +kernel)) (fun _ _ _ _ _ => (pg_name (i := 7) sc_law_classes.nd rfl (Or.inl rfl))) (fun _ _ _ _ _ => pts_nil) (fun _ _ _ _ _ => (px_if (pq_eq (pv 7) (pv 6)) (pv 5) (pv 7)))))))))
    (pss_cons (ps_set (i := 8) sc_law_classes.nd rfl (Or.inl rfl) (px_lst pa_nil))
    (pss_cons (ps_for PassesOwn.never rfl (pi_range1 (by rfl) B.range (pa_cons (pv 0) pa_nil)) (pg_name (i := 7) sc_law_classes.nd rfl (Or.inr rfl)) (pss_cons (ps_set (i := 9) sc_law_classes.nd rfl (Or.inl rfl) (pe_callTy call_tuple_of (by rfl) B.tuple boot_tuple (pa_cons (pe_lc (own := [("_law_h", 10)]) (g := (gName 10)) rfl sc_law_classes.nd (pi_range1 (by rfl) B.range (pa_cons (pv 0) pa_nil)) (blkOk_by (own := [("_law_h", 10)]) (N := N_law_classes) (sc := defScope s_law_classes) (by decide +kernel)) (fun _ _ _ _ _ => (pg_name (i := 10) sc_law_classes.nd rfl (Or.inl rfl))) (fun _ _ _ _ _ => pts_one (pq_eq (px_ixL (pv 2) (pv 10)) (pv 7))) (fun _ _ _ _ _ => (pv 10))) pa_nil)))
    (pss_one (ps_if (pq_gt (pe_callB call_len_seq (by rfl) B.len boot_len (pa_cons (pv 9) pa_nil)) px_nat) (pss_one (ps_expr (pe_bm PySem.F.plainAttrs_list PySem.F.slot_list_append PySem.F.type_list_append mt_append (pv 8) (pa_cons (pv 9) pa_nil)))) pss_nil))))
    (pss_one (ps_ret (pe_callTy call_tuple_of (by rfl) B.tuple boot_tuple (pa_cons (pe_callB (cr_sortX (hu_of hr)) (by rfl) B.sorted boot_sorted (pa_cons (pv 8) pa_nil)) pa_nil))))))))
theorem dv_law_lots {P : Program} {w : World} {K : PySem.W.Frag} {mg : Str → Option Value} {base : Heap} {k : Nat} (B : Bs mg) {f : Addr} {cdv : Value} {A : Around} {outer : List Env} {s : Shared} {H : Hp} {E : XK} (hr : Room k (A.deeper (envOfC "_law_lots" (defScope s_law_lots) s.heap.objs.size f cdv))) :
    PSs (cxOf CX0 P w K mg base N_law_lots "_law_lots" (defScope s_law_lots) f cdv A outer s H E).nox (defBody s_law_lots) (t_law_lots K) :=
  (pss_cons (ps_set (i := 1) sc_law_lots.nd rfl (Or.inl rfl) (px_lst (pa_cons (px_tup pa_nil) pa_nil)))
    (pss_cons (ps_for PassesOwn.never rfl (pi_range1 (by rfl) B.range (pa_cons (pv 0) pa_nil)) (pg_name (i := 2) sc_law_lots.nd rfl (Or.inr rfl)) (pss_one (ps_set (i := 1) sc_law_lots.nd rfl (Or.inl rfl) (px_catL (pv 1) (pe_lc (own := [("_law_l", 3)]) (g := (gName 3)) rfl sc_law_lots.nd (pi_list (pv 1)) (blkOk_by (own := [("_law_l", 3)]) (N := N_law_lots) (sc := defScope s_law_lots) (by decide +kernel)) (fun _ _ _ _ _ => (pg_name (i := 3) sc_law_lots.nd rfl (Or.inl rfl))) (fun _ _ _ _ _ => pts_nil) (fun _ _ _ _ _ => (px_catT (pv 3) (px_tup (pa_cons (pv 2) pa_nil)))))))))
    (pss_one (ps_ret (pv 1)))))
theorem dv_law_seam {P : Program} {w : World} {K : PySem.W.Frag} {mg : Str → Option Value} {base : Heap} {k : Nat} (B : Bs mg) {k_law_steps : Nat} {sp_law_steps : Sp} (c_law_steps : Cal P w K mg base k_law_steps "_law_steps" sp_law_steps) (h_law_steps : k_law_steps ≤ k) {k_law_settings : Nat} {sp_law_settings : Sp} (c_law_settings : Cal P w K mg base k_law_settings "_law_settings" sp_law_settings) (h_law_settings : k_law_settings ≤ k) {k_law_on_T : Nat} {sp_law_on_T : Sp} (c_law_on_T : Cal P w K mg base k_law_on_T "_law_on" sp_law_on_T) (h_law_on_T : k_law_on_T ≤ k) {f : Addr} {cdv : Value} {A : Around} {outer : List Env} {s : Shared} {H : Hp} {E : XK} (hr : Room k (A.deeper (envOfC "_law_seam" (defScope s_law_seam) s.heap.objs.size f cdv))) :
    PSs (cxOf CX0 P w K mg base N_law_seam "_law_seam" (defScope s_law_seam) f cdv A outer s H E).nox (defBody s_law_seam) (t_law_seam K sp_law_steps sp_law_settings sp_law_on_T) :=
  (pss_cons (ps_set (i := 3) sc_law_seam.nd rfl (Or.inl rfl) (px_c c_law_steps hr h_law_steps (by rfl) (pa_cons (pv 0) pa_nil)))
    (pss_cons (ps_set (i := 4) sc_law_seam.nd rfl (Or.inl rfl) (px_c c_law_settings hr h_law_settings (by rfl) (pa_cons (pv 0) pa_nil)))
    (pss_cons (ps_for PassesOwn.never rfl (pi_range1 (by rfl) B.range (pa_cons (pe_callB call_len_seq (by rfl) B.len boot_len (pa_cons (pv 4) pa_nil)) pa_nil)) (pg_name (i := 5) sc_law_seam.nd rfl (Or.inl rfl)) (pss_cons (ps_set (i := 6) sc_law_seam.nd rfl (Or.inl rfl) (px_c c_law_on_T hr h_law_on_T (by rfl) (pa_cons (pv 0) (pa_cons (pv 3) (pa_cons (pv 2) (pa_cons (px_ixL (pv 4) (pv 5)) pa_nil))))))
    (pss_one (ps_if (pq_eq (px_mod (px_add (px_add (px_add (px_ixT (pv 1) (pv 5)) (px_ixT (pv 1) (pv 6))) (px_ixT (pv 1) (px_sub (pv 5) (pv 6)))) (px_ixT (pv 1) px_nat)) px_nat) px_nat) (pss_one (ps_ret px_bl)) pss_nil))))
    (pss_one (ps_ret px_bl)))))
theorem dv_law_four_right {P : Program} {w : World} {K : PySem.W.Frag} {mg : Str → Option Value} {base : Heap} {k : Nat} (B : Bs mg) {k_law_same : Nat} {sp_law_same : Sp} (c_law_same : Cal P w K mg base k_law_same "_law_same" sp_law_same) (h_law_same : k_law_same ≤ k) {k_law_steps : Nat} {sp_law_steps : Sp} (c_law_steps : Cal P w K mg base k_law_steps "_law_steps" sp_law_steps) (h_law_steps : k_law_steps ≤ k) {k_law_on_L : Nat} {sp_law_on_L : Sp} (c_law_on_L : Cal P w K mg base k_law_on_L "_law_on" sp_law_on_L) (h_law_on_L : k_law_on_L ≤ k) {k_law_odd_sum : Nat} {sp_law_odd_sum : Sp} (c_law_odd_sum : Cal P w K mg base k_law_odd_sum "_law_odd_sum" sp_law_odd_sum) (h_law_odd_sum : k_law_odd_sum ≤ k) {k_is_odd : Nat} {sp_is_odd : Sp} (c_is_odd : Cal P w K mg base k_is_odd "is_odd" sp_is_odd) (h_is_odd : k_is_odd ≤ k) {f : Addr} {cdv : Value} {A : Around} {outer : List Env} {s : Shared} {H : Hp} {E : XK} (hr : Room k (A.deeper (envOfC "_law_four_right" (defScope s_law_four_right) s.heap.objs.size f cdv))) :
    PSs (cxOf CX0 P w K mg base N_law_four_right "_law_four_right" (defScope s_law_four_right) f cdv A outer s H E).nox (defBody s_law_four_right) (t_law_four_right K sp_law_same sp_law_steps sp_law_on_L sp_law_odd_sum sp_is_odd) :=
  (pss_cons (ps_if (PW.pt (pw_or (pt_not (pt_val (pe_callB call_isi (by rfl) B.isinstance boot_isinstance (pa_cons (pv 4) (pa_cons (px_tyTup (by rfl) B.tuple) pa_nil))))) (pw_or (pq_ne (pe_callB call_len_seq (by rfl) B.len boot_len (pa_cons (pv 4) pa_nil)) px_nat) (pw_or (pt_not (pt_val (pe_callB call_isi (by rfl) B.isinstance boot_isinstance (pa_cons (px_ixT (pv 4) px_nat) (pa_cons (px_tyTup (by rfl) B.tuple) pa_nil))))) (pw_or1 (pq_ne (pe_callB call_len_seq (by rfl) B.len boot_len (pa_cons (px_ixT (pv 4) px_nat) pa_nil)) (pe_callB call_len_seq (by rfl) B.len boot_len (pa_cons (pv 0) pa_nil)))))))) (pss_one (ps_ret px_bl)) pss_nil)
    (pss_cons (ps_if (PW.pt (pw_or (pt_not (pt_val (px_c c_law_same hr h_law_same (by rfl) (pa_cons (px_ixT (pv 4) px_nat) (pa_cons (pv 2) pa_nil))))) (pw_or1 (pt_not (pt_val (px_c c_law_same hr h_law_same (by rfl) (pa_cons (px_ixT (pv 4) px_nat) (pa_cons (pv 3) pa_nil)))))))) (pss_one (ps_ret px_bl)) pss_nil)
    (pss_cons (ps_for PassesOwn.never rfl (pi_range1 (by rfl) B.range (pa_cons (pe_callB call_len_seq (by rfl) B.len boot_len (pa_cons (pv 0) pa_nil)) pa_nil)) (pg_name (i := 5) sc_law_four_right.nd rfl (Or.inl rfl)) (pss_cons (ps_set (i := 6) sc_law_four_right.nd rfl (Or.inl rfl) (px_ixT (px_ixT (pv 4) px_nat) (pv 5)))
    (pss_one (ps_if (PW.pt (pw_or (pt_not (pt_val (pe_callB call_isi (by rfl) B.isinstance boot_isinstance (pa_cons (pv 6) (pa_cons (px_tyInt (by rfl) B.int) pa_nil))))) (pw_or (pt_val (pe_callB call_isi (by rfl) B.isinstance boot_isinstance (pa_cons (pv 6) (pa_cons (px_tyBool (by rfl) B.bool) pa_nil)))) (pw_or (pq_lt (pv 6) px_nat) (pw_or1 (pq_ge (pv 6) (px_ixT (pv 0) (pv 5)))))))) (pss_one (ps_ret px_bl)) pss_nil))))
    (pss_cons (ps_for PassesOwn.never rfl (pi_tup (px_tup (pa_cons (px_tup (pa_cons (pv 2) (pa_cons (px_ixT (pv 4) px_nat) pa_nil))) (pa_cons (px_tup (pa_cons (pv 3) (pa_cons (px_ixT (pv 4) px_nat) pa_nil))) pa_nil)))) (pg_tup rfl (pgs_cons (pg_name (i := 7) sc_law_four_right.nd rfl (Or.inl rfl)) (pgs_cons (pg_name (i := 6) sc_law_four_right.nd rfl (Or.inl rfl)) pgs_nil))) (pss_one (ps_if (PW.pt (pw_or (pt_not (pt_val (pe_callB call_isi (by rfl) B.isinstance boot_isinstance (pa_cons (pv 6) (pa_cons (px_tyInt (by rfl) B.int) pa_nil))))) (pw_or (pt_val (pe_callB call_isi (by rfl) B.isinstance boot_isinstance (pa_cons (pv 6) (pa_cons (px_tyBool (by rfl) B.bool) pa_nil)))) (pw_or (pq_lt (pv 6) px_nat) (pw_or (pq_ge (pv 6) (px_ixT (pv 0) (pv 7))) (pw_or1 (pq_eq (pv 6) (px_ixT (px_ixT (pv 4) px_nat) (pv 7))))))))) (pss_one (ps_ret px_bl)) pss_nil)))
    (pss_cons (ps_set (i := 8) sc_law_four_right.nd rfl (Or.inl rfl) (px_c c_law_steps hr h_law_steps (by rfl) (pa_cons (pv 0) pa_nil)))
    (pss_cons (ps_set (i := 9) sc_law_four_right.nd rfl (Or.inl rfl) (px_c c_law_on_L hr h_law_on_L (by rfl) (pa_cons (pv 0) (pa_cons (pv 8) (pa_cons (pe_listRg rfl (by rfl) B.list (prg_1 (by rfl) B.range (pe_callB call_len_seq (by rfl) B.len boot_len (pa_cons (pv 0) pa_nil)))) (pa_cons (px_ixT (pv 4) px_nat) pa_nil))))))
    (pss_cons (ps_set (i := 10) sc_law_four_right.nd rfl (Or.inl rfl) (px_mul (px_sub (px_ixT (pv 4) px_nat) (px_ixT (px_ixT (pv 4) px_nat) (pv 2))) (px_ixL (pv 8) (pv 2))))
    (pss_cons (ps_set (i := 11) sc_law_four_right.nd rfl (Or.inl rfl) (px_mul (px_sub (px_ixT (pv 4) px_nat) (px_ixT (px_ixT (pv 4) px_nat) (pv 3))) (px_ixL (pv 8) (pv 3))))
    (pss_one (ps_ret (pe_and (px_c c_law_odd_sum hr h_law_odd_sum (by rfl) (pa_cons (pv 1) (pa_cons (pv 9) (pa_cons (pv 10) (pa_cons (pv 11) pa_nil))))) (pe_one (px_c c_law_same hr h_law_same (by rfl) (pa_cons (px_c c_is_odd hr h_is_odd (by rfl) (pa_cons (pv 0) (pa_cons (pv 1) (pa_cons (pv 4) pa_nil)))) (pa_cons px_bl pa_nil)))))))))))))))
theorem dv_law_idle {P : Program} {w : World} {K : PySem.W.Frag} {mg : Str → Option Value} {base : Heap} {k : Nat} (B : Bs mg) {k_law_steps : Nat} {sp_law_steps : Sp} (c_law_steps : Cal P w K mg base k_law_steps "_law_steps" sp_law_steps) (h_law_steps : k_law_steps ≤ k) {k_law_settings : Nat} {sp_law_settings : Sp} (c_law_settings : Cal P w K mg base k_law_settings "_law_settings" sp_law_settings) (h_law_settings : k_law_settings ≤ k) {f : Addr} {cdv : Value} {A : Around} {outer : List Env} {s : Shared} {H : Hp} {E : XK} (hr : Room k (A.deeper (envOfC "_law_idle" (defScope s_law_idle) s.heap.objs.size f cdv))) :
    PSs (cxOf CX0 P w K mg base N_law_idle "_law_idle" (defScope s_law_idle) f cdv A outer s H E).nox (defBody s_law_idle) (t_law_idle K sp_law_steps sp_law_settings) :=
  (pss_cons (ps_set (i := 2) sc_law_idle.nd rfl (Or.inr rfl) (px_c c_law_steps hr h_law_steps (by rfl) (pa_cons (pv 0) pa_nil)))
    (pss_cons (ps_set (i := 3) sc_law_idle.nd rfl (Or.inr rfl) (px_c c_law_settings hr h_law_settings (by rfl) (pa_cons (pv 0) pa_nil)))
    (pss_cons (ps_set (i := 4) sc_law_idle.nd rfl (Or.inl rfl) (px_lst pa_nil))
    (pss_cons (ps_for PassesOwn.never rfl (pi_range1 (by rfl) B.range (pa_cons (pe_callB call_len_seq (by rfl) B.len boot_len (pa_cons (pv 0) pa_nil)) pa_nil)) (pg_name (i := 5) sc_law_idle.nd rfl (Or.inr rfl)) (pss_one (ps_if (pq_eq (pe_callB (cr_sum rfl) (by rfl) B.sum boot_sum (pa_cons (pe_lc (own := [("_law_k", 6)]) (g := (gName 6)) rfl sc_law_idle.nd (pi_range1 (by rfl) B.range (pa_cons (pe_callB call_len_seq (by rfl) B.len boot_len (pa_cons (pv 3) pa_nil)) pa_nil)) (blkOk_by (own := [("_law_k", 6)]) (N := N_law_idle) (sc := defScope s_law_idle) (by decide +kernel)) (fun _ _ _ _ _ => (pg_name (i := 6) sc_law_idle.nd rfl (Or.inl rfl))) (fun _ _ _ _ _ => pts_one (pq_ne (px_ixT (pv 1) (pv 6)) (px_ixT (pv 1) (px_sub (pv 6) (px_mul (px_ixT (px_ixL (pv 3) (pv 6)) (pv 5)) (px_ixL (pv 2) (pv 5))))))) (fun _ _ _ _ _ => px_nat)) pa_nil)) px_nat) (pss_one (ps_expr (pe_bm PySem.F.plainAttrs_list PySem.F.slot_list_append PySem.F.type_list_append mt_append (pv 4) (pa_cons (pv 5) pa_nil)))) pss_nil)))
    (pss_one (ps_ret (pe_callTy call_tuple_of (by rfl) B.tuple boot_tuple (pa_cons (pv 4) pa_nil))))))))
theorem dv_law_pairs_right {P : Program} {w : World} {K : PySem.W.Frag} {mg : Str → Option Value} {base : Heap} {k : Nat} (B : Bs mg) {k_law_knit : Nat} {sp_law_knit : Sp} (c_law_knit : Cal P w K mg base k_law_knit "_law_knit" sp_law_knit) (h_law_knit : k_law_knit ≤ k) {k_law_same : Nat} {sp_law_same : Sp} (c_law_same : Cal P w K mg base k_law_same "_law_same" sp_law_same) (h_law_same : k_law_same ≤ k) {k_are_knit : Nat} {sp_are_knit : Sp} (c_are_knit : Cal P w K mg base k_are_knit "are_knit" sp_are_knit) (h_are_knit : k_are_knit ≤ k) {k_odd_four : Nat} {sp_odd_four : Sp} (c_odd_four : Cal P w K mg base k_odd_four "odd_four" sp_odd_four) (h_odd_four : k_odd_four ≤ k) {k_law_four_right : Nat} {sp_law_four_right : Sp} (c_law_four_right : Cal P w K mg base k_law_four_right "_law_four_right" sp_law_four_right) (h_law_four_right : k_law_four_right ≤ k) {k_law_classes : Nat} {sp_law_classes : Sp} (c_law_classes : Cal P w K mg base k_law_classes "_law_classes" sp_law_classes) (h_law_classes : k_law_classes ≤ k) {k_knit_pairs : Nat} {sp_knit_pairs : Sp} (c_knit_pairs : Cal P w K mg base k_knit_pairs "knit_pairs" sp_knit_pairs) (h_knit_pairs : k_knit_pairs ≤ k) {k_clumps_of : Nat} {sp_clumps_of : Sp} (c_clumps_of : Cal P w K mg base k_clumps_of "clumps_of" sp_clumps_of) (h_clumps_of : k_clumps_of ≤ k) {k_law_lots : Nat} {sp_law_lots : Sp} (c_law_lots : Cal P w K mg base k_law_lots "_law_lots" sp_law_lots) (h_law_lots : k_law_lots ≤ k) {k_law_seam : Nat} {sp_law_seam : Sp} (c_law_seam : Cal P w K mg base k_law_seam "_law_seam" sp_law_seam) (h_law_seam : k_law_seam ≤ k) {k_is_seam : Nat} {sp_is_seam : Sp} (c_is_seam : Cal P w K mg base k_is_seam "is_seam" sp_is_seam) (h_is_seam : k_is_seam ≤ k) {f : Addr} {cdv : Value} {A : Around} {outer : List Env} {s : Shared} {H : Hp} {E : XK} (hr : Room k (A.deeper (envOfC "_law_pairs_right" (defScope s_law_pairs_right) s.heap.objs.size f cdv))) :
    PSs (cxOf CX0 P w K mg base N_law_pairs_right "_law_pairs_right" (defScope s_law_pairs_right) f cdv A outer s H E).nox (defBody s_law_pairs_right) (t_law_pairs_right K sp_law_knit sp_law_same sp_are_knit sp_odd_four sp_law_four_right sp_law_classes sp_knit_pairs sp_clumps_of sp_law_lots sp_law_seam sp_is_seam) :=
  (pss_cons (ps_set (i := 2) sc_law_pairs_right.nd rfl (Or.inl rfl) (pe_callB call_len_seq (by rfl) B.len boot_len (pa_cons (pv 0) pa_nil)))
    (pss_cons (ps_set (i := 3) sc_law_pairs_right.nd rfl (Or.inl rfl) (px_lst pa_nil))
    (pss_cons (ps_for PassesOwn.never rfl (pi_range1 (by rfl) B.range (pa_cons (pv 2) pa_nil)) (pg_name (i := 4) sc_law_pairs_right.nd rfl (Or.inl rfl)) (pss_one (ps_for PassesOwn.never rfl (pi_range1 (by rfl) B.range (pa_cons (pv 2) pa_nil)) (pg_name (i := 5) sc_law_pairs_right.nd rfl (Or.inl rfl)) (pss_one (ps_if (pq_lt (pv 4) (pv 5)) (pss_cons (ps_set (i := 6) sc_law_pairs_right.nd rfl (Or.inl rfl) (px_c c_law_knit hr h_law_knit (by rfl) (pa_cons (pv 0) (pa_cons (pv 1) (pa_cons (pv 4) (pa_cons (pv 5) pa_nil))))))
    (pss_cons (ps_if (pt_val (pv 6)) (pss_one (ps_expr (pe_bm PySem.F.plainAttrs_list PySem.F.slot_list_append PySem.F.type_list_append mt_append (pv 3) (pa_cons (px_tup (pa_cons (pv 4) (pa_cons (pv 5) pa_nil))) pa_nil)))) pss_nil)
    (pss_one (ps_for PassesOwn.never rfl (pi_tup (px_tup (pa_cons (px_tup (pa_cons (pv 4) (pa_cons (pv 5) pa_nil))) (pa_cons (px_tup (pa_cons (pv 5) (pa_cons (pv 4) pa_nil))) pa_nil)))) (pg_tup rfl (pgs_cons (pg_name (i := 7) sc_law_pairs_right.nd rfl (Or.inl rfl)) (pgs_cons (pg_name (i := 8) sc_law_pairs_right.nd rfl (Or.inl rfl)) pgs_nil))) (pss_cons (ps_if (pt_not (pt_val (px_c c_law_same hr h_law_same (by rfl) (pa_cons (px_c c_are_knit hr h_are_knit (by rfl) (pa_cons (pv 0) (pa_cons (pv 1) (pa_cons (pv 7) (pa_cons (pv 8) pa_nil))))) (pa_cons (pv 6) pa_nil))))) (pss_one (ps_ret px_bl)) pss_nil)
    (pss_cons (ps_set (i := 9) sc_law_pairs_right.nd rfl (Or.inl rfl) (px_c c_odd_four hr h_odd_four (by rfl) (pa_cons (pv 0) (pa_cons (pv 1) (pa_cons (pv 7) (pa_cons (pv 8) pa_nil))))))
    (pss_cons (ps_if (PW.pt (pw_and (pt_not (pt_val (pv 6))) (pw_and1 (pq_notN (pv 9))))) (pss_one (ps_ret px_bl)) pss_nil)
    (pss_one (ps_if (PW.pt (pw_and (pt_val (pv 6)) (pw_and1 (pt_not (pt_val (px_c c_law_four_right hr h_law_four_right (by rfl) (pa_cons (pv 0) (pa_cons (pv 1) (pa_cons (pv 7) (pa_cons (pv 8) (pa_cons (pv 9) pa_nil))))))))))) (pss_one (ps_ret px_bl)) pss_nil))))))))) pss_nil)))))
    (pss_cons (ps_set (i := 10) sc_law_pairs_right.nd rfl (Or.inl rfl) (px_c c_law_classes hr h_law_classes (by rfl) (pa_cons (pv 2) (pa_cons (pv 3) pa_nil))))
    (pss_cons (ps_if (PW.pt (pw_or (pt_not (pt_val (px_c c_law_same hr h_law_same (by rfl) (pa_cons (px_c c_knit_pairs hr h_knit_pairs (by rfl) (pa_cons (pv 0) (pa_cons (pv 1) pa_nil))) (pa_cons (pe_callTy call_tuple_of (by rfl) B.tuple boot_tuple (pa_cons (pv 3) pa_nil)) pa_nil))))) (pw_or1 (pt_not (pt_val (px_c c_law_same hr h_law_same (by rfl) (pa_cons (px_c c_clumps_of hr h_clumps_of (by rfl) (pa_cons (pv 0) (pa_cons (pv 1) pa_nil))) (pa_cons (pv 10) pa_nil)))))))) (pss_one (ps_ret px_bl)) pss_nil)
    (pss_cons (ps_for PassesOwn.never rfl (pi_list (px_c c_law_lots hr h_law_lots (by rfl) (pa_cons (pv 2) pa_nil))) (pg_name (i := 11) sc_law_pairs_right.nd rfl (Or.inr rfl)) (pss_cons (ps_set (i := 12) sc_law_pairs_right.nd rfl (Or.inl rfl) px_nat)
    (pss_cons (ps_for PassesOwn.never rfl (pi_tup (pv 10)) (pg_name (i := 13) sc_law_pairs_right.nd rfl (Or.inl rfl)) (pss_cons (ps_set (i := 14) sc_law_pairs_right.nd rfl (Or.inl rfl) (pe_callB call_len_seq (by rfl) B.len boot_len (pa_cons (pe_lc (own := [("_law_h", 15)]) (g := (gName 15)) rfl sc_law_pairs_right.nd (pi_tup (pv 13)) (blkOk_by (own := [("_law_h", 15)]) (N := N_law_pairs_right) (sc := defScope s_law_pairs_right) (by decide +kernel)) (fun _ _ _ _ _ => (pg_name (i := 15) sc_law_pairs_right.nd rfl (Or.inl rfl))) (fun _ _ _ _ _ => pts_one (pq_in (pv 15) (pv 11))) (fun _ _ _ _ _ => (pv 15))) pa_nil)))
    (pss_one (ps_if (pq_chLt px_nat (pv 14) (pe_callB call_len_seq (by rfl) B.len boot_len (pa_cons (pv 13) pa_nil))) (pss_one (ps_set (i := 12) sc_law_pairs_right.nd rfl (Or.inl rfl) (px_add (pv 12) px_nat))) pss_nil))))
    (pss_cons (ps_set (i := 16) sc_law_pairs_right.nd rfl (Or.inl rfl) (px_c c_law_seam hr h_law_seam (by rfl) (pa_cons (pv 0) (pa_cons (pv 1) (pa_cons (pv 11) pa_nil)))))
    (pss_one (ps_if (PW.pt (pw_or (pq_ne (pv 16) (px_eq (pv 12) px_nat)) (pw_or1 (pt_not (pt_val (px_c c_law_same hr h_law_same (by rfl) (pa_cons (px_c c_is_seam hr h_is_seam (by rfl) (pa_cons (pv 0) (pa_cons (pv 1) (pa_cons (pv 11) pa_nil)))) (pa_cons (pv 16) pa_nil)))))))) (pss_one (ps_ret px_bl)) pss_nil))))))
    (pss_one (ps_ret px_bl))))))))
theorem dv_law {P : Program} {w : World} {K : PySem.W.Frag} {mg : Str → Option Value} {base : Heap} {k : Nat} (B : Bs mg) {k_law_row : Nat} {sp_law_row : Sp} (c_law_row : Cal P w K mg base k_law_row "_law_row" sp_law_row) (h_law_row : k_law_row ≤ k) {k_law_sizes : Nat} {sp_law_sizes : Sp} (c_law_sizes : Cal P w K mg base k_law_sizes "_law_sizes" sp_law_sizes) (h_law_sizes : k_law_sizes ≤ k) {k_law_table : Nat} {sp_law_table : Sp} (c_law_table : Cal P w K mg base k_law_table "_law_table" sp_law_table) (h_law_table : k_law_table ≤ k) {k_law_pairs_right : Nat} {sp_law_pairs_right : Sp} (c_law_pairs_right : Cal P w K mg base k_law_pairs_right "_law_pairs_right" sp_law_pairs_right) (h_law_pairs_right : k_law_pairs_right ≤ k) {k_law_idle : Nat} {sp_law_idle : Sp} (c_law_idle : Cal P w K mg base k_law_idle "_law_idle" sp_law_idle) (h_law_idle : k_law_idle ≤ k) {k_law_same : Nat} {sp_law_same : Sp} (c_law_same : Cal P w K mg base k_law_same "_law_same" sp_law_same) (h_law_same : k_law_same ≤ k) {k_idle_houses : Nat} {sp_idle_houses : Sp} (c_idle_houses : Cal P w K mg base k_idle_houses "idle_houses" sp_idle_houses) (h_idle_houses : k_idle_houses ≤ k) {k_clumps_of : Nat} {sp_clumps_of : Sp} (c_clumps_of : Cal P w K mg base k_clumps_of "clumps_of" sp_clumps_of) (h_clumps_of : k_clumps_of ≤ k) {k_law_knit : Nat} {sp_law_knit : Sp} (c_law_knit : Cal P w K mg base k_law_knit "_law_knit" sp_law_knit) (h_law_knit : k_law_knit ≤ k) {k_law_classes : Nat} {sp_law_classes : Sp} (c_law_classes : Cal P w K mg base k_law_classes "_law_classes" sp_law_classes) (h_law_classes : k_law_classes ≤ k) {k_knit_pairs : Nat} {sp_knit_pairs : Sp} (c_knit_pairs : Cal P w K mg base k_knit_pairs "knit_pairs" sp_knit_pairs) (h_knit_pairs : k_knit_pairs ≤ k) {f : Addr} {cdv : Value} {A : Around} {outer : List Env} {s : Shared} {H : Hp} {E : XK} (hr : Room k (A.deeper (envOfC "law" (defScope s_law) s.heap.objs.size f cdv))) :
    PSs (cxOf CX0 P w K mg base N_law "law" (defScope s_law) f cdv A outer s H E).nox (defBody s_law) (t_law K sp_law_row sp_law_sizes sp_law_table sp_law_pairs_right sp_law_idle sp_law_same sp_idle_houses sp_clumps_of sp_law_knit sp_law_classes sp_knit_pairs) :=
  (pss_cons (ps_set (i := 1) sc_law.nd rfl (Or.inl rfl) (px_c c_law_row hr h_law_row (by rfl) (pa_cons (pv 0) (pa_cons px_nat pa_nil))))
    (pss_cons (ps_set (i := 2) sc_law.nd rfl (Or.inl rfl) (px_c c_law_sizes hr h_law_sizes (by rfl) (pa_cons (pv 1) pa_nil)))
    (pss_cons (ps_set (i := 3) sc_law.nd rfl (Or.inl rfl) (px_c c_law_table hr h_law_table (by rfl) (pa_cons (pv 1) (pa_cons (pv 2) (pa_cons px_nat pa_nil)))))
    (pss_cons (ps_if (pt_not (pt_val (px_c c_law_pairs_right hr h_law_pairs_right (by rfl) (pa_cons (pv 2) (pa_cons (pv 3) pa_nil))))) (pss_one (ps_ret px_bl)) pss_nil)
    (pss_cons (ps_set (i := 4) sc_law.nd rfl (Or.inl rfl) (px_c c_law_idle hr h_law_idle (by rfl) (pa_cons (pv 2) (pa_cons (pv 3) pa_nil))))
    (pss_cons (ps_if (pt_not (pt_val (px_c c_law_same hr h_law_same (by rfl) (pa_cons (px_c c_idle_houses hr h_idle_houses (by rfl) (pa_cons (pv 2) (pa_cons (pv 3) pa_nil))) (pa_cons (pv 4) pa_nil))))) (pss_one (ps_ret px_bl)) pss_nil)
    (pss_cons (ps_set (i := 5) sc_law.nd rfl (Or.inl rfl) (px_c c_clumps_of hr h_clumps_of (by rfl) (pa_cons (pv 2) (pa_cons (pv 3) pa_nil))))
    (pss_cons (ps_set (i := 6) sc_law.nd rfl (Or.inl rfl) (px_c c_law_table hr h_law_table (by rfl) (pa_cons (pv 1) (pa_cons (pv 2) (pa_cons px_nat pa_nil)))))
    (pss_cons (ps_if (pt_not (pt_val (px_c c_law_same hr h_law_same (by rfl) (pa_cons (px_c c_idle_houses hr h_idle_houses (by rfl) (pa_cons (pv 2) (pa_cons (pv 6) pa_nil))) (pa_cons (px_c c_law_idle hr h_law_idle (by rfl) (pa_cons (pv 2) (pa_cons (pv 6) pa_nil))) pa_nil))))) (pss_one (ps_ret px_bl)) pss_nil)
    (pss_cons (ps_set (i := 7) sc_law.nd rfl (Or.inl rfl) (px_lst pa_nil))
    (pss_cons (ps_for PassesOwn.never rfl (pi_range1 (by rfl) B.range (pa_cons (pe_callB call_len_seq (by rfl) B.len boot_len (pa_cons (pv 2) pa_nil)) pa_nil)) (pg_name (i := 8) sc_law.nd rfl (Or.inl rfl)) (pss_one (ps_for PassesOwn.never rfl (pi_range2 (by rfl) B.range (pa_cons (px_add (pv 8) px_nat) (pa_cons (pe_callB call_len_seq (by rfl) B.len boot_len (pa_cons (pv 2) pa_nil)) pa_nil))) (pg_name (i := 9) sc_law.nd rfl (Or.inl rfl)) (pss_one (ps_if (pt_val (px_c c_law_knit hr h_law_knit (by rfl) (pa_cons (pv 2) (pa_cons (pv 6) (pa_cons (pv 8) (pa_cons (pv 9) pa_nil)))))) (pss_one (ps_expr (pe_bm PySem.F.plainAttrs_list PySem.F.slot_list_append PySem.F.type_list_append mt_append (pv 7) (pa_cons (px_tup (pa_cons (pv 8) (pa_cons (pv 9) pa_nil))) pa_nil)))) pss_nil)))))
    (pss_cons (ps_if (PW.pt (pw_or (pt_not (pt_val (px_c c_law_same hr h_law_same (by rfl) (pa_cons (px_c c_clumps_of hr h_clumps_of (by rfl) (pa_cons (pv 2) (pa_cons (pv 6) pa_nil))) (pa_cons (px_c c_law_classes hr h_law_classes (by rfl) (pa_cons (pe_callB call_len_seq (by rfl) B.len boot_len (pa_cons (pv 2) pa_nil)) (pa_cons (pv 7) pa_nil))) pa_nil))))) (pw_or1 (pt_not (pt_val (px_c c_law_same hr h_law_same (by rfl) (pa_cons (px_c c_knit_pairs hr h_knit_pairs (by rfl) (pa_cons (pv 2) (pa_cons (pv 6) pa_nil))) (pa_cons (pe_callTy call_tuple_of (by rfl) B.tuple boot_tuple (pa_cons (pv 7) pa_nil)) pa_nil)))))))) (pss_one (ps_ret px_bl)) pss_nil)
    (pss_one (ps_ret (pe_and (px_c c_law_same hr h_law_same (by rfl) (pa_cons (px_c c_clumps_of hr h_clumps_of (by rfl) (pa_cons (pv 2) (pa_cons (pv 3) pa_nil))) (pa_cons (pv 5) pa_nil))) (pe_one (px_c c_law_same hr h_law_same (by rfl) (pa_cons (px_c c_idle_houses hr h_idle_houses (by rfl) (pa_cons (pv 2) (pa_cons (pv 3) pa_nil))) (pa_cons (pv 4) pa_nil)))))))))))))))))))
end Ck
set_option Elab.async false
set_option linter.all false
set_option maxRecDepth 100000
set_option maxHeartbeats 0
namespace Ck
open PySem PySem.Spec PyProof.Rows L2 Evl RZ
theorem facts {P : Program} {w : World} {K : PySem.W.Frag} {h : Heap} {mg : Str → Option Value} {f : Addr} (X : K.In h) (G : h.Ns mainGlobals mg) (hfa : mg ("law" : Str) = some (.ref f)) (c : He.SaysD fa fn K) :
    ∃ fd : FuncData, (∀ (s : Shared) (v : Value), BindsTo s fd ⟨[v], []⟩ [("_law_script", v)]) ∧ ∀ base : Heap, K.In base → base.Ns mainGlobals mg → FnOk P w K mg base CX0 10 f fd ["_law_script"] (spLaw K) := by
  obtain ⟨fd_a_want, F_a_want⟩ := c.def_ 0 (d := d_a_want) rfl
  obtain ⟨fd_integer_fits, F_integer_fits⟩ := c.def_ 1 (d := d_integer_fits) rfl
  obtain ⟨fd_number_fits, F_number_fits⟩ := c.def_ 2 (d := d_number_fits) rfl
  obtain ⟨fd_many_fits, F_many_fits⟩ := c.def_ 3 (d := d_many_fits) rfl
  obtain ⟨fd_sizes_fit, F_sizes_fit⟩ := c.def_ 4 (d := d_sizes_fit) rfl
  obtain ⟨fd_setting_fits, F_setting_fits⟩ := c.def_ 5 (d := d_setting_fits) rfl
  obtain ⟨fd_house_fits, F_house_fits⟩ := c.def_ 6 (d := d_house_fits) rfl
  obtain ⟨fd_lot_fits, F_lot_fits⟩ := c.def_ 7 (d := d_lot_fits) rfl
  obtain ⟨fd_spans_of, F_spans_of⟩ := c.def_ 8 (d := d_spans_of) rfl
  obtain ⟨fd_many_settings, F_many_settings⟩ := c.def_ 9 (d := d_many_settings) rfl
  obtain ⟨fd_place_by, F_place_by⟩ := c.def_ 10 (d := d_place_by) rfl
  obtain ⟨fd_setting_by, F_setting_by⟩ := c.def_ 11 (d := d_setting_by) rfl
  obtain ⟨fd_corner_places, F_corner_places⟩ := c.def_ 12 (d := d_corner_places) rfl
  obtain ⟨fd_odd_spot, F_odd_spot⟩ := c.def_ 13 (d := d_odd_spot) rfl
  obtain ⟨fd_is_number, F_is_number⟩ := c.def_ 14 (d := d_is_number) rfl
  obtain ⟨fd_is_bit, F_is_bit⟩ := c.def_ 15 (d := d_is_bit) rfl
  obtain ⟨fd_is_sizes, F_is_sizes⟩ := c.def_ 16 (d := d_is_sizes) rfl
  obtain ⟨fd_is_setting, F_is_setting⟩ := c.def_ 17 (d := d_is_setting) rfl
  obtain ⟨fd_is_lot, F_is_lot⟩ := c.def_ 18 (d := d_is_lot) rfl
  obtain ⟨fd_is_table, F_is_table⟩ := c.def_ 19 (d := d_is_table) rfl
  obtain ⟨fd_want_houses, F_want_houses⟩ := c.def_ 20 (d := d_want_houses) rfl
  obtain ⟨fd_odd_four, F_odd_four⟩ := c.def_ 21 (d := d_odd_four) rfl
  obtain ⟨fd_are_knit, F_are_knit⟩ := c.def_ 22 (d := d_are_knit) rfl
  obtain ⟨fd_knit_pairs, F_knit_pairs⟩ := c.def_ 23 (d := d_knit_pairs) rfl
  obtain ⟨fd_clumps_of, F_clumps_of⟩ := c.def_ 24 (d := d_clumps_of) rfl
  obtain ⟨fd_idle_houses, F_idle_houses⟩ := c.def_ 25 (d := d_idle_houses) rfl
  obtain ⟨fd_is_idle, F_is_idle⟩ := c.def_ 26 (d := d_is_idle) rfl
  obtain ⟨fd_is_four, F_is_four⟩ := c.def_ 27 (d := d_is_four) rfl
  obtain ⟨fd_is_change, F_is_change⟩ := c.def_ 28 (d := d_is_change) rfl
  obtain ⟨fd_changed, F_changed⟩ := c.def_ 29 (d := d_changed) rfl
  obtain ⟨fd_four_settings, F_four_settings⟩ := c.def_ 30 (d := d_four_settings) rfl
  obtain ⟨fd_is_odd, F_is_odd⟩ := c.def_ 31 (d := d_is_odd) rfl
  obtain ⟨fd_is_seam, F_is_seam⟩ := c.def_ 32 (d := d_is_seam) rfl
  obtain ⟨fd_law_row, F_law_row⟩ := c.def_ 33 (d := d_law_row) rfl
  obtain ⟨fd_law_same, F_law_same⟩ := c.def_ 34 (d := d_law_same) rfl
  obtain ⟨fd_law_settings, F_law_settings⟩ := c.def_ 35 (d := d_law_settings) rfl
  obtain ⟨fd_law_steps, F_law_steps⟩ := c.def_ 36 (d := d_law_steps) rfl
  obtain ⟨fd_law_sizes, F_law_sizes⟩ := c.def_ 37 (d := d_law_sizes) rfl
  obtain ⟨fd_law_on, F_law_on⟩ := c.def_ 38 (d := d_law_on) rfl
  obtain ⟨fd_law_summed, F_law_summed⟩ := c.def_ 39 (d := d_law_summed) rfl
  obtain ⟨fd_law_by_terms, F_law_by_terms⟩ := c.def_ 40 (d := d_law_by_terms) rfl
  obtain ⟨fd_law_table, F_law_table⟩ := c.def_ 41 (d := d_law_table) rfl
  obtain ⟨fd_law_odd_sum, F_law_odd_sum⟩ := c.def_ 42 (d := d_law_odd_sum) rfl
  obtain ⟨fd_law_knit, F_law_knit⟩ := c.def_ 43 (d := d_law_knit) rfl
  obtain ⟨fd_law_classes, F_law_classes⟩ := c.def_ 44 (d := d_law_classes) rfl
  obtain ⟨fd_law_lots, F_law_lots⟩ := c.def_ 45 (d := d_law_lots) rfl
  obtain ⟨fd_law_seam, F_law_seam⟩ := c.def_ 46 (d := d_law_seam) rfl
  obtain ⟨fd_law_four_right, F_law_four_right⟩ := c.def_ 47 (d := d_law_four_right) rfl
  obtain ⟨fd_law_idle, F_law_idle⟩ := c.def_ 48 (d := d_law_idle) rfl
  obtain ⟨fd_law_pairs_right, F_law_pairs_right⟩ := c.def_ 49 (d := d_law_pairs_right) rfl
  obtain ⟨fd_law, F_law⟩ := c.def_ 50 (d := d_law) rfl
  have e := hfa.symm.trans (He.glo_ok X G (c.fact 50 (f := .glo "law") rfl))
  cases e
  have b := FunD.bindsA (ps := ["_law_script"]) F_law fun _ _ _ _ _ _ us hl => match us, hl with | [_], _ => rfl
  have B : Bs mg := ⟨He.free_ok X G (c.fact 51 (f := .free "isinstance") rfl), He.free_ok X G (c.fact 52 (f := .free "int") rfl), He.free_ok X G (c.fact 53 (f := .free "bool") rfl), He.free_ok X G (c.fact 54 (f := .free "tuple") rfl), He.free_ok X G (c.fact 55 (f := .free "len") rfl), He.free_ok X G (c.fact 56 (f := .free "all") rfl), He.free_ok X G (c.fact 57 (f := .free "zip") rfl), He.free_ok X G (c.fact 58 (f := .free "range") rfl), He.free_ok X G (c.fact 59 (f := .free "list") rfl), He.free_ok X G (c.fact 60 (f := .free "max") rfl), He.free_ok X G (c.fact 61 (f := .free "min") rfl), He.free_ok X G (c.fact 62 (f := .free "sum") rfl), He.free_ok X G (c.fact 63 (f := .free "sorted") rfl), He.free_ok X G (c.fact 64 (f := .free "abs") rfl), He.free_ok X G (c.fact 65 (f := .free "str") rfl)⟩
  refine ⟨fd_law, fun s v => b s [v] rfl, fun base _ _ => ?_⟩
  have c_law_row : Cal P w K mg base 1 "_law_row" (sp_law_row K) := cal_mk (st := s_law_row) (k := 0) F_law_row (He.glo_ok X G (c.fact 33 (f := .glo "_law_row") rfl)) (fun _ _ _ _ _ _ us hl => match us, hl with | [_, _], _ => rfl) sc_law_row (fun vs H Q E h => by
    obtain ⟨a, _, hv, _⟩ := h
    exact hv.len)
    (fun _ _ _ _ _ _ hr => dv_law_row B  hr) fun vs H Q E h => pure_law_row h
  have c_law_sizes : Cal P w K mg base 1 "_law_sizes" (sp_law_sizes K) := cal_mk (st := s_law_sizes) (k := 0) F_law_sizes (He.glo_ok X G (c.fact 37 (f := .glo "_law_sizes") rfl)) (fun _ _ _ _ _ _ us hl => match us, hl with | [_], _ => rfl) sc_law_sizes (fun vs H Q E h => by
    obtain ⟨a, _, hv, _⟩ := h
    exact hv.len)
    (fun _ _ _ _ _ _ hr => dv_law_sizes B  hr) fun vs H Q E h => pure_law_sizes h
  have c_law_settings : Cal P w K mg base 1 "_law_settings" (sp_law_settings K) := cal_mk (st := s_law_settings) (k := 0) F_law_settings (He.glo_ok X G (c.fact 35 (f := .glo "_law_settings") rfl)) (fun _ _ _ _ _ _ us hl => match us, hl with | [_], _ => rfl) sc_law_settings (fun vs H Q E h => by
    obtain ⟨a, _, hv, _⟩ := h
    exact hv.len)
    (fun _ _ _ _ _ _ hr => dv_law_settings B  hr) fun vs H Q E h => pure_law_settings h
  have c_law_steps : Cal P w K mg base 1 "_law_steps" (sp_law_steps K) := cal_mk (st := s_law_steps) (k := 0) F_law_steps (He.glo_ok X G (c.fact 36 (f := .glo "_law_steps") rfl)) (fun _ _ _ _ _ _ us hl => match us, hl with | [_], _ => rfl) sc_law_steps (fun vs H Q E h => by
    obtain ⟨a, _, hv, _⟩ := h
    exact hv.len)
    (fun _ _ _ _ _ _ hr => dv_law_steps B  hr) fun vs H Q E h => pure_law_steps h
  have c_law_on_L : Cal P w K mg base 1 "_law_on" (sp_law_on_L K) := cal_mk (st := s_law_on) (k := 0) F_law_on (He.glo_ok X G (c.fact 38 (f := .glo "_law_on") rfl)) (fun _ _ _ _ _ _ us hl => match us, hl with | [_, _, _, _], _ => rfl) sc_law_on (fun vs H Q E h => by
    obtain ⟨a, _, hv, _⟩ := h
    exact hv.len)
    (fun _ _ _ _ _ _ hr => dv_law_on_L B  hr) fun vs H Q E h => pure_law_on_L h
  have c_law_summed : Cal P w K mg base 2 "_law_summed" (sp_law_summed K) := cal_mk (st := s_law_summed) (k := 1) F_law_summed (He.glo_ok X G (c.fact 39 (f := .glo "_law_summed") rfl)) (fun _ _ _ _ _ _ us hl => match us, hl with | [_, _, _], _ => rfl) sc_law_summed (fun vs H Q E h => by
    obtain ⟨a, _, hv, _⟩ := h
    exact hv.len)
    (fun _ _ _ _ _ _ hr => dv_law_summed B c_law_settings (by decide) c_law_steps (by decide) c_law_on_L (by decide) hr) fun vs H Q E h => pure_law_summed h
  have c_law_by_terms : Cal P w K mg base 2 "_law_by_terms" (sp_law_by_terms K) := cal_mk (st := s_law_by_terms) (k := 1) F_law_by_terms (He.glo_ok X G (c.fact 40 (f := .glo "_law_by_terms") rfl)) (fun _ _ _ _ _ _ us hl => match us, hl with | [_, _, _], _ => rfl) sc_law_by_terms (fun vs H Q E h => by
    obtain ⟨a, _, hv, _⟩ := h
    exact hv.len)
    (fun _ _ _ _ _ _ hr => dv_law_by_terms B c_law_settings (by decide) hr) fun vs H Q E h => pure_law_by_terms h
  have c_law_table : Cal P w K mg base 3 "_law_table" (sp_law_table K) := cal_mk (st := s_law_table) (k := 2) F_law_table (He.glo_ok X G (c.fact 41 (f := .glo "_law_table") rfl)) (fun _ _ _ _ _ _ us hl => match us, hl with | [_, _, _], _ => rfl) sc_law_table (fun vs H Q E h => by
    obtain ⟨a, _, hv, _⟩ := h
    exact hv.len)
    (fun _ _ _ _ _ _ hr => dv_law_table B c_law_settings (by decide) c_law_summed (by decide) c_law_by_terms (by decide) hr) fun vs H Q E h => pure_law_table h
  have c_law_odd_sum : Cal P w K mg base 1 "_law_odd_sum" (sp_law_odd_sum K) := cal_mk (st := s_law_odd_sum) (k := 0) F_law_odd_sum (He.glo_ok X G (c.fact 42 (f := .glo "_law_odd_sum") rfl)) (fun _ _ _ _ _ _ us hl => match us, hl with | [_, _, _, _], _ => rfl) sc_law_odd_sum (fun vs H Q E h => by
    obtain ⟨a, _, hv, _⟩ := h
    exact hv.len)
    (fun _ _ _ _ _ _ hr => dv_law_odd_sum B  hr) fun vs H Q E h => pure_law_odd_sum h
  have c_law_knit : Cal P w K mg base 2 "_law_knit" (sp_law_knit K) := cal_mk (st := s_law_knit) (k := 1) F_law_knit (He.glo_ok X G (c.fact 43 (f := .glo "_law_knit") rfl)) (fun _ _ _ _ _ _ us hl => match us, hl with | [_, _, _, _], _ => rfl) sc_law_knit (fun vs H Q E h => by
    obtain ⟨a, _, hv, _⟩ := h
    exact hv.len)
    (fun _ _ _ _ _ _ hr => dv_law_knit B c_law_steps (by decide) c_law_settings (by decide) c_law_odd_sum (by decide) hr) fun vs H Q E h => pure_law_knit h
  have c_law_same0 : Cal P w K mg base 0 "_law_same" (sp_law_same K 0) := cal_never (st := s_law_same) (ps := ["_law_a", "_law_b"]) F_law_same (He.glo_ok X G (c.fact 34 (f := .glo "_law_same") rfl)) (fun _ _ _ _ _ _ us hl => match us, hl with | [_, _], _ => rfl)
  have c_law_same1 : Cal P w K mg base 1 "_law_same" (sp_law_same K 1) := cal_mk (st := s_law_same) (k := 0) F_law_same (He.glo_ok X G (c.fact 34 (f := .glo "_law_same") rfl)) (fun _ _ _ _ _ _ us hl => match us, hl with | [_, _], _ => rfl) sc_law_same (fun vs H Q E h => by
    obtain ⟨a, _, hv, _⟩ := h
    exact hv.len)
    (fun _ _ _ _ _ _ hr => dv_law_same B c_law_same0 (by decide) hr) fun vs H Q E h => pure_law_sameN h
  have c_law_same2 : Cal P w K mg base 2 "_law_same" (sp_law_same K 2) := cal_mk (st := s_law_same) (k := 1) F_law_same (He.glo_ok X G (c.fact 34 (f := .glo "_law_same") rfl)) (fun _ _ _ _ _ _ us hl => match us, hl with | [_, _], _ => rfl) sc_law_same (fun vs H Q E h => by
    obtain ⟨a, _, hv, _⟩ := h
    exact hv.len)
    (fun _ _ _ _ _ _ hr => dv_law_same B c_law_same1 (by decide) hr) fun vs H Q E h => pure_law_sameN h
  have c_law_same3 : Cal P w K mg base 3 "_law_same" (sp_law_same K 3) := cal_mk (st := s_law_same) (k := 2) F_law_same (He.glo_ok X G (c.fact 34 (f := .glo "_law_same") rfl)) (fun _ _ _ _ _ _ us hl => match us, hl with | [_, _], _ => rfl) sc_law_same (fun vs H Q E h => by
    obtain ⟨a, _, hv, _⟩ := h
    exact hv.len)
    (fun _ _ _ _ _ _ hr => dv_law_same B c_law_same2 (by decide) hr) fun vs H Q E h => pure_law_sameN h
  have c_a_want : Cal P w K mg base 1 "a_want" (sp_a_want K) := cal_mk (st := s_a_want) (k := 0) F_a_want (He.glo_ok X G (c.fact 0 (f := .glo "a_want") rfl)) (fun _ _ _ _ _ _ us hl => match us, hl with | [_, _], _ => rfl) sc_a_want (fun vs H Q E h => by
    obtain ⟨a, _, hv, _⟩ := h
    exact hv.len)
    (fun _ _ _ _ _ _ hr => dv_a_want B  hr) fun vs H Q E h => pure_a_want h
  have c_integer_fits : Cal P w K mg base 1 "integer_fits" (sp_integer_fits K) := cal_mk (st := s_integer_fits) (k := 0) F_integer_fits (He.glo_ok X G (c.fact 1 (f := .glo "integer_fits") rfl)) (fun _ _ _ _ _ _ us hl => match us, hl with | [_], _ => rfl) sc_integer_fits (fun vs H Q E h => by
    obtain ⟨a, _, hv, _⟩ := h
    exact hv.len)
    (fun _ _ _ _ _ _ hr => dv_integer_fits B  hr) fun vs H Q E h => pure_integer_fits h
  have c_many_fits : Cal P w K mg base 2 "many_fits" (sp_many_fits K) := cal_mk (st := s_many_fits) (k := 1) F_many_fits (He.glo_ok X G (c.fact 3 (f := .glo "many_fits") rfl)) (fun _ _ _ _ _ _ us hl => match us, hl with | [_], _ => rfl) sc_many_fits (fun vs H Q E h => by
    obtain ⟨a, _, hv, _⟩ := h
    exact hv.len)
    (fun _ _ _ _ _ _ hr => dv_many_fits B c_integer_fits (by decide) hr) fun vs H Q E h => pure_many_fits h
  have c_sizes_fit : Cal P w K mg base 3 "sizes_fit" (sp_sizes_fit K) := cal_mk (st := s_sizes_fit) (k := 2) F_sizes_fit (He.glo_ok X G (c.fact 4 (f := .glo "sizes_fit") rfl)) (fun _ _ _ _ _ _ us hl => match us, hl with | [_], _ => rfl) sc_sizes_fit (fun vs H Q E h => by
    obtain ⟨a, _, hv, _⟩ := h
    exact hv.len)
    (fun _ _ _ _ _ _ hr => dv_sizes_fit B c_many_fits (by decide) hr) fun vs H Q E h => pure_sizes_fit h
  have c_is_sizes : Cal P w K mg base 4 "is_sizes" (sp_is_sizes K) := cal_mk (st := s_is_sizes) (k := 3) F_is_sizes (He.glo_ok X G (c.fact 16 (f := .glo "is_sizes") rfl)) (fun _ _ _ _ _ _ us hl => match us, hl with | [_], _ => rfl) sc_is_sizes (fun vs H Q E h => by
    obtain ⟨a, _, hv, _⟩ := h
    exact hv.len)
    (fun _ _ _ _ _ _ hr => dv_is_sizes B c_sizes_fit (by decide) hr) fun vs H Q E h => pure_is_sizes h
  have c_many_settings : Cal P w K mg base 1 "many_settings" (sp_many_settings K) := cal_mk (st := s_many_settings) (k := 0) F_many_settings (He.glo_ok X G (c.fact 9 (f := .glo "many_settings") rfl)) (fun _ _ _ _ _ _ us hl => match us, hl with | [_], _ => rfl) sc_many_settings (fun vs H Q E h => by
    obtain ⟨a, _, hv, _⟩ := h
    exact hv.len)
    (fun _ _ _ _ _ _ hr => dv_many_settings B  hr) fun vs H Q E h => pure_many_settings h
  have c_number_fits : Cal P w K mg base 2 "number_fits" (sp_number_fits K) := cal_mk (st := s_number_fits) (k := 1) F_number_fits (He.glo_ok X G (c.fact 2 (f := .glo "number_fits") rfl)) (fun _ _ _ _ _ _ us hl => match us, hl with | [_], _ => rfl) sc_number_fits (fun vs H Q E h => by
    obtain ⟨a, _, hv, _⟩ := h
    exact hv.len)
    (fun _ _ _ _ _ _ hr => dv_number_fits B c_integer_fits (by decide) hr) fun vs H Q E h => pure_number_fits h
  have c_is_bit : Cal P w K mg base 3 "is_bit" (sp_is_bit K) := cal_mk (st := s_is_bit) (k := 2) F_is_bit (He.glo_ok X G (c.fact 15 (f := .glo "is_bit") rfl)) (fun _ _ _ _ _ _ us hl => match us, hl with | [_], _ => rfl) sc_is_bit (fun vs H Q E h => by
    obtain ⟨a, _, hv, _⟩ := h
    exact hv.len)
    (fun _ _ _ _ _ _ hr => dv_is_bit B c_number_fits (by decide) hr) fun vs H Q E h => pure_is_bit h
  have c_is_table : Cal P w K mg base 5 "is_table" (sp_is_table K) := cal_mk (st := s_is_table) (k := 4) F_is_table (He.glo_ok X G (c.fact 19 (f := .glo "is_table") rfl)) (fun _ _ _ _ _ _ us hl => match us, hl with | [_, _], _ => rfl) sc_is_table (fun vs H Q E h => by
    obtain ⟨a, _, hv, _⟩ := h
    exact hv.len)
    (fun _ _ _ _ _ _ hr => dv_is_table B c_a_want (by decide) c_is_sizes (by decide) c_many_settings (by decide) c_is_bit (by decide) hr) fun vs H Q E h => pure_is_table h
  have c_is_number : Cal P w K mg base 3 "is_number" (sp_is_number K) := cal_mk (st := s_is_number) (k := 2) F_is_number (He.glo_ok X G (c.fact 14 (f := .glo "is_number") rfl)) (fun _ _ _ _ _ _ us hl => match us, hl with | [_], _ => rfl) sc_is_number (fun vs H Q E h => by
    obtain ⟨a, _, hv, _⟩ := h
    exact hv.len)
    (fun _ _ _ _ _ _ hr => dv_is_number B c_number_fits (by decide) hr) fun vs H Q E h => pure_is_number h
  have c_want_houses : Cal P w K mg base 6 "_want_houses" (sp_want_houses K) := cal_mk (st := s_want_houses) (k := 5) F_want_houses (He.glo_ok X G (c.fact 20 (f := .glo "_want_houses") rfl)) (fun _ _ _ _ _ _ us hl => match us, hl with | [_, _, _, _], _ => rfl) sc_want_houses (fun vs H Q E h => by
    obtain ⟨a, _, hv, _⟩ := h
    exact hv.len)
    (fun _ _ _ _ _ _ hr => dv_want_houses B c_a_want (by decide) c_is_sizes (by decide) c_is_table (by decide) c_is_number (by decide) hr) fun vs H Q E h => pure_want_houses h
  have c_spans_of : Cal P w K mg base 1 "spans_of" (sp_spans_of K) := cal_mk (st := s_spans_of) (k := 0) F_spans_of (He.glo_ok X G (c.fact 8 (f := .glo "spans_of") rfl)) (fun _ _ _ _ _ _ us hl => match us, hl with | [_], _ => rfl) sc_spans_of (fun vs H Q E h => by
    obtain ⟨a, _, hv, _⟩ := h
    exact hv.len)
    (fun _ _ _ _ _ _ hr => dv_spans_of B  hr) fun vs H Q E h => pure_spans_of h
  have c_corner_places : Cal P w K mg base 2 "corner_places" (sp_corner_places K) := cal_mk (st := s_corner_places) (k := 1) F_corner_places (He.glo_ok X G (c.fact 12 (f := .glo "corner_places") rfl)) (fun _ _ _ _ _ _ us hl => match us, hl with | [_, _], _ => rfl) sc_corner_places (fun vs H Q E h => by
    obtain ⟨a, _, hv, _⟩ := h
    exact hv.len)
    (fun _ _ _ _ _ _ hr => dv_corner_places B c_spans_of (by decide) hr) fun vs H Q E h => pure_corner_places h
  have c_odd_spot : Cal P w K mg base 3 "odd_spot" (sp_odd_spot K) := cal_mk (st := s_odd_spot) (k := 2) F_odd_spot (He.glo_ok X G (c.fact 13 (f := .glo "odd_spot") rfl)) (fun _ _ _ _ _ _ us hl => match us, hl with | [_, _, _, _], _ => rfl) sc_odd_spot (fun vs H Q E h => by
    obtain ⟨a, _, hv, _⟩ := h
    exact hv.len)
    (fun _ _ _ _ _ _ hr => dv_odd_spot B c_spans_of (by decide) c_corner_places (by decide) hr) fun vs H Q E h => pure_odd_spot h
  have c_are_knit : Cal P w K mg base 7 "are_knit" (sp_are_knit K) := cal_mk (st := s_are_knit) (k := 6) F_are_knit (He.glo_ok X G (c.fact 22 (f := .glo "are_knit") rfl)) (fun _ _ _ _ _ _ us hl => match us, hl with | [_, _, _, _], _ => rfl) sc_are_knit (fun vs H Q E h => by
    obtain ⟨a, _, hv, _⟩ := h
    exact hv.len)
    (fun _ _ _ _ _ _ hr => dv_are_knit B c_want_houses (by decide) c_odd_spot (by decide) hr) fun vs H Q E h => pure_are_knit h
  have c_setting_by : Cal P w K mg base 2 "setting_by" (sp_setting_by K) := cal_mk (st := s_setting_by) (k := 1) F_setting_by (He.glo_ok X G (c.fact 11 (f := .glo "setting_by") rfl)) (fun _ _ _ _ _ _ us hl => match us, hl with | [_, _], _ => rfl) sc_setting_by (fun vs H Q E h => by
    obtain ⟨a, _, hv, _⟩ := h
    exact hv.len)
    (fun _ _ _ _ _ _ hr => dv_setting_by B c_spans_of (by decide) hr) fun vs H Q E h => pure_setting_by h
  have c_odd_four : Cal P w K mg base 7 "odd_four" (sp_odd_four K) := cal_mk (st := s_odd_four) (k := 6) F_odd_four (He.glo_ok X G (c.fact 21 (f := .glo "odd_four") rfl)) (fun _ _ _ _ _ _ us hl => match us, hl with | [_, _, _, _], _ => rfl) sc_odd_four (fun vs H Q E h => by
    obtain ⟨a, _, hv, _⟩ := h
    exact hv.len)
    (fun _ _ _ _ _ _ hr => dv_odd_four B c_want_houses (by decide) c_odd_spot (by decide) c_setting_by (by decide) hr) fun vs H Q E h => pure_odd_four h
  have c_setting_fits : Cal P w K mg base 3 "setting_fits" (sp_setting_fits K) := cal_mk (st := s_setting_fits) (k := 2) F_setting_fits (He.glo_ok X G (c.fact 5 (f := .glo "setting_fits") rfl)) (fun _ _ _ _ _ _ us hl => match us, hl with | [_, _], _ => rfl) sc_setting_fits (fun vs H Q E h => by
    obtain ⟨a, _, hv, _⟩ := h
    exact hv.len)
    (fun _ _ _ _ _ _ hr => dv_setting_fits B c_number_fits (by decide) hr) fun vs H Q E h => pure_setting_fits h
  have c_is_setting : Cal P w K mg base 4 "is_setting" (sp_is_setting K) := cal_mk (st := s_is_setting) (k := 3) F_is_setting (He.glo_ok X G (c.fact 17 (f := .glo "is_setting") rfl)) (fun _ _ _ _ _ _ us hl => match us, hl with | [_, _], _ => rfl) sc_is_setting (fun vs H Q E h => by
    obtain ⟨a, _, hv, _⟩ := h
    exact hv.len)
    (fun _ _ _ _ _ _ hr => dv_is_setting B c_a_want (by decide) c_sizes_fit (by decide) c_setting_fits (by decide) hr) fun vs H Q E h => pure_is_setting h
  have c_is_change : Cal P w K mg base 4 "_is_change" (sp_is_change K) := cal_mk (st := s_is_change) (k := 3) F_is_change (He.glo_ok X G (c.fact 28 (f := .glo "_is_change") rfl)) (fun _ _ _ _ _ _ us hl => match us, hl with | [_, _, _, _], _ => rfl) sc_is_change (fun vs H Q E h => by
    obtain ⟨a, _, hv, _⟩ := h
    exact hv.len)
    (fun _ _ _ _ _ _ hr => dv_is_change B c_is_number (by decide) hr) fun vs H Q E h => pure_is_change h
  have c_is_four : Cal P w K mg base 5 "is_four" (sp_is_four K) := cal_mk (st := s_is_four) (k := 4) F_is_four (He.glo_ok X G (c.fact 27 (f := .glo "is_four") rfl)) (fun _ _ _ _ _ _ us hl => match us, hl with | [_, _], _ => rfl) sc_is_four (fun vs H Q E h => by
    obtain ⟨a, _, hv, _⟩ := h
    exact hv.len)
    (fun _ _ _ _ _ _ hr => dv_is_four B c_a_want (by decide) c_is_sizes (by decide) c_is_setting (by decide) c_is_change (by decide) hr) fun vs H Q E h => pure_is_four h
  have c_changed : Cal P w K mg base 1 "_changed" (sp_changed K) := cal_mk (st := s_changed) (k := 0) F_changed (He.glo_ok X G (c.fact 29 (f := .glo "_changed") rfl)) (fun _ _ _ _ _ _ us hl => match us, hl with | [_, _, _], _ => rfl) sc_changed (fun vs H Q E h => by
    obtain ⟨a, _, hv, _⟩ := h
    exact hv.len)
    (fun _ _ _ _ _ _ hr => dv_changed B  hr) fun vs H Q E h => pure_changed h
  have c_four_settings : Cal P w K mg base 6 "four_settings" (sp_four_settings K) := cal_mk (st := s_four_settings) (k := 5) F_four_settings (He.glo_ok X G (c.fact 30 (f := .glo "four_settings") rfl)) (fun _ _ _ _ _ _ us hl => match us, hl with | [_, _], _ => rfl) sc_four_settings (fun vs H Q E h => by
    obtain ⟨a, _, hv, _⟩ := h
    exact hv.len)
    (fun _ _ _ _ _ _ hr => dv_four_settings B c_a_want (by decide) c_is_sizes (by decide) c_is_four (by decide) c_changed (by decide) hr) fun vs H Q E h => pure_four_settings h
  have c_place_by : Cal P w K mg base 1 "place_by" (sp_place_by K) := cal_mk (st := s_place_by) (k := 0) F_place_by (He.glo_ok X G (c.fact 10 (f := .glo "place_by") rfl)) (fun _ _ _ _ _ _ us hl => match us, hl with | [_, _], _ => rfl) sc_place_by (fun vs H Q E h => by
    obtain ⟨a, _, hv, _⟩ := h
    exact hv.len)
    (fun _ _ _ _ _ _ hr => dv_place_by B  hr) fun vs H Q E h => pure_place_by h
  have c_is_odd : Cal P w K mg base 7 "is_odd" (sp_is_odd K) := cal_mk (st := s_is_odd) (k := 6) F_is_odd (He.glo_ok X G (c.fact 31 (f := .glo "is_odd") rfl)) (fun _ _ _ _ _ _ us hl => match us, hl with | [_, _, _], _ => rfl) sc_is_odd (fun vs H Q E h => by
    obtain ⟨a, _, hv, _⟩ := h
    exact hv.len)
    (fun _ _ _ _ _ _ hr => dv_is_odd B c_a_want (by decide) c_is_sizes (by decide) c_is_table (by decide) c_is_four (by decide) c_four_settings (by decide) c_place_by (by decide) hr) fun vs H Q E h => pure_is_odd h
  have c_law_four_right : Cal P w K mg base 8 "_law_four_right" (sp_law_four_right K) := cal_mk (st := s_law_four_right) (k := 7) F_law_four_right (He.glo_ok X G (c.fact 47 (f := .glo "_law_four_right") rfl)) (fun _ _ _ _ _ _ us hl => match us, hl with | [_, _, _, _, _], _ => rfl) sc_law_four_right (fun vs H Q E h => by
    obtain ⟨a, _, hv, _⟩ := h
    exact hv.len)
    (fun _ _ _ _ _ _ hr => dv_law_four_right B c_law_same3 (by decide) c_law_steps (by decide) c_law_on_L (by decide) c_law_odd_sum (by decide) c_is_odd (by decide) hr) fun vs H Q E h => pure_law_four_right h
  have c_law_classes : Cal P w K mg base 1 "_law_classes" (sp_law_classes K) := cal_mk (st := s_law_classes) (k := 0) F_law_classes (He.glo_ok X G (c.fact 44 (f := .glo "_law_classes") rfl)) (fun _ _ _ _ _ _ us hl => match us, hl with | [_, _], _ => rfl) sc_law_classes (fun vs H Q E h => by
    obtain ⟨a, _, hv, _⟩ := h
    exact hv.len)
    (fun _ _ _ _ _ _ hr => dv_law_classes B  hr) fun vs H Q E h => pure_law_classes h
  have c_knit_pairs : Cal P w K mg base 6 "knit_pairs" (sp_knit_pairs K) := cal_mk (st := s_knit_pairs) (k := 5) F_knit_pairs (He.glo_ok X G (c.fact 23 (f := .glo "knit_pairs") rfl)) (fun _ _ _ _ _ _ us hl => match us, hl with | [_, _], _ => rfl) sc_knit_pairs (fun vs H Q E h => by
    obtain ⟨a, _, hv, _⟩ := h
    exact hv.len)
    (fun _ _ _ _ _ _ hr => dv_knit_pairs B c_a_want (by decide) c_is_sizes (by decide) c_is_table (by decide) c_odd_spot (by decide) hr) fun vs H Q E h => pure_knit_pairs h
  have c_clumps_of : Cal P w K mg base 7 "clumps_of" (sp_clumps_of K) := cal_mk (st := s_clumps_of) (k := 6) F_clumps_of (He.glo_ok X G (c.fact 24 (f := .glo "clumps_of") rfl)) (fun _ _ _ _ _ _ us hl => match us, hl with | [_, _], _ => rfl) sc_clumps_of (fun vs H Q E h => by
    obtain ⟨a, _, hv, _⟩ := h
    exact hv.len)
    (fun _ _ _ _ _ _ hr => dv_clumps_of B c_knit_pairs (by decide) hr) fun vs H Q E h => pure_clumps_of h
  have c_law_lots : Cal P w K mg base 1 "_law_lots" (sp_law_lots K) := cal_mk (st := s_law_lots) (k := 0) F_law_lots (He.glo_ok X G (c.fact 45 (f := .glo "_law_lots") rfl)) (fun _ _ _ _ _ _ us hl => match us, hl with | [_], _ => rfl) sc_law_lots (fun vs H Q E h => by
    obtain ⟨a, _, hv, _⟩ := h
    exact hv.len)
    (fun _ _ _ _ _ _ hr => dv_law_lots B  hr) fun vs H Q E h => pure_law_lots h
  have c_law_on_T : Cal P w K mg base 1 "_law_on" (sp_law_on_T K) := cal_mk (st := s_law_on) (k := 0) F_law_on (He.glo_ok X G (c.fact 38 (f := .glo "_law_on") rfl)) (fun _ _ _ _ _ _ us hl => match us, hl with | [_, _, _, _], _ => rfl) sc_law_on (fun vs H Q E h => by
    obtain ⟨a, _, hv, _⟩ := h
    exact hv.len)
    (fun _ _ _ _ _ _ hr => dv_law_on_T B  hr) fun vs H Q E h => pure_law_on_T h
  have c_law_seam : Cal P w K mg base 2 "_law_seam" (sp_law_seam K) := cal_mk (st := s_law_seam) (k := 1) F_law_seam (He.glo_ok X G (c.fact 46 (f := .glo "_law_seam") rfl)) (fun _ _ _ _ _ _ us hl => match us, hl with | [_, _, _], _ => rfl) sc_law_seam (fun vs H Q E h => by
    obtain ⟨a, _, hv, _⟩ := h
    exact hv.len)
    (fun _ _ _ _ _ _ hr => dv_law_seam B c_law_steps (by decide) c_law_settings (by decide) c_law_on_T (by decide) hr) fun vs H Q E h => pure_law_seam h
  have c_house_fits : Cal P w K mg base 3 "house_fits" (sp_house_fits K) := cal_mk (st := s_house_fits) (k := 2) F_house_fits (He.glo_ok X G (c.fact 6 (f := .glo "house_fits") rfl)) (fun _ _ _ _ _ _ us hl => match us, hl with | [_, _], _ => rfl) sc_house_fits (fun vs H Q E h => by
    obtain ⟨a, _, hv, _⟩ := h
    exact hv.len)
    (fun _ _ _ _ _ _ hr => dv_house_fits B c_number_fits (by decide) hr) fun vs H Q E h => pure_house_fits h
  have c_lot_fits : Cal P w K mg base 4 "lot_fits" (sp_lot_fits K) := cal_mk (st := s_lot_fits) (k := 3) F_lot_fits (He.glo_ok X G (c.fact 7 (f := .glo "lot_fits") rfl)) (fun _ _ _ _ _ _ us hl => match us, hl with | [_, _], _ => rfl) sc_lot_fits (fun vs H Q E h => by
    obtain ⟨a, _, hv, _⟩ := h
    exact hv.len)
    (fun _ _ _ _ _ _ hr => dv_lot_fits B c_house_fits (by decide) hr) fun vs H Q E h => pure_lot_fits h
  have c_is_lot : Cal P w K mg base 5 "is_lot" (sp_is_lot K) := cal_mk (st := s_is_lot) (k := 4) F_is_lot (He.glo_ok X G (c.fact 18 (f := .glo "is_lot") rfl)) (fun _ _ _ _ _ _ us hl => match us, hl with | [_, _], _ => rfl) sc_is_lot (fun vs H Q E h => by
    obtain ⟨a, _, hv, _⟩ := h
    exact hv.len)
    (fun _ _ _ _ _ _ hr => dv_is_lot B c_a_want (by decide) c_many_fits (by decide) c_lot_fits (by decide) hr) fun vs H Q E h => pure_is_lot h
  have c_is_seam : Cal P w K mg base 7 "is_seam" (sp_is_seam K) := cal_mk (st := s_is_seam) (k := 6) F_is_seam (He.glo_ok X G (c.fact 32 (f := .glo "is_seam") rfl)) (fun _ _ _ _ _ _ us hl => match us, hl with | [_, _, _], _ => rfl) sc_is_seam (fun vs H Q E h => by
    obtain ⟨a, _, hv, _⟩ := h
    exact hv.len)
    (fun _ _ _ _ _ _ hr => dv_is_seam B c_a_want (by decide) c_is_sizes (by decide) c_is_table (by decide) c_is_lot (by decide) c_knit_pairs (by decide) hr) fun vs H Q E h => pure_is_seam h
  have c_law_pairs_right : Cal P w K mg base 9 "_law_pairs_right" (sp_law_pairs_right K) := cal_mk (st := s_law_pairs_right) (k := 8) F_law_pairs_right (He.glo_ok X G (c.fact 49 (f := .glo "_law_pairs_right") rfl)) (fun _ _ _ _ _ _ us hl => match us, hl with | [_, _], _ => rfl) sc_law_pairs_right (fun vs H Q E h => by
    obtain ⟨a, _, hv, _⟩ := h
    exact hv.len)
    (fun _ _ _ _ _ _ hr => dv_law_pairs_right B c_law_knit (by decide) c_law_same3 (by decide) c_are_knit (by decide) c_odd_four (by decide) c_law_four_right (by decide) c_law_classes (by decide) c_knit_pairs (by decide) c_clumps_of (by decide) c_law_lots (by decide) c_law_seam (by decide) c_is_seam (by decide) hr) fun vs H Q E h => pure_law_pairs_right h
  have c_law_idle : Cal P w K mg base 2 "_law_idle" (sp_law_idle K) := cal_mk (st := s_law_idle) (k := 1) F_law_idle (He.glo_ok X G (c.fact 48 (f := .glo "_law_idle") rfl)) (fun _ _ _ _ _ _ us hl => match us, hl with | [_, _], _ => rfl) sc_law_idle (fun vs H Q E h => by
    obtain ⟨a, _, hv, _⟩ := h
    exact hv.len)
    (fun _ _ _ _ _ _ hr => dv_law_idle B c_law_steps (by decide) c_law_settings (by decide) hr) fun vs H Q E h => pure_law_idle h
  have c_is_idle : Cal P w K mg base 3 "_is_idle" (sp_is_idle K) := cal_mk (st := s_is_idle) (k := 2) F_is_idle (He.glo_ok X G (c.fact 26 (f := .glo "_is_idle") rfl)) (fun _ _ _ _ _ _ us hl => match us, hl with | [_, _, _], _ => rfl) sc_is_idle (fun vs H Q E h => by
    obtain ⟨a, _, hv, _⟩ := h
    exact hv.len)
    (fun _ _ _ _ _ _ hr => dv_is_idle B c_spans_of (by decide) c_corner_places (by decide) hr) fun vs H Q E h => pure_is_idle h
  have c_idle_houses : Cal P w K mg base 6 "idle_houses" (sp_idle_houses K) := cal_mk (st := s_idle_houses) (k := 5) F_idle_houses (He.glo_ok X G (c.fact 25 (f := .glo "idle_houses") rfl)) (fun _ _ _ _ _ _ us hl => match us, hl with | [_, _], _ => rfl) sc_idle_houses (fun vs H Q E h => by
    obtain ⟨a, _, hv, _⟩ := h
    exact hv.len)
    (fun _ _ _ _ _ _ hr => dv_idle_houses B c_a_want (by decide) c_is_sizes (by decide) c_is_table (by decide) c_is_idle (by decide) hr) fun vs H Q E h => pure_idle_houses h
  exact F_law.ok (k := 9) sc_law (fun vs H Q E h => by
    obtain ⟨a, _, hv, _⟩ := h
    exact hv.len) fun cdv A outer s H vs Q E hr h => ⟨t_law K (sp_law_row K) (sp_law_sizes K) (sp_law_table K) (sp_law_pairs_right K) (sp_law_idle K) (sp_law_same K 3) (sp_idle_houses K) (sp_clumps_of K) (sp_law_knit K) (sp_law_classes K) (sp_knit_pairs K), PSs.nox (dv_law B c_law_row (by decide) c_law_sizes (by decide) c_law_table (by decide) c_law_pairs_right (by decide) c_law_idle (by decide) c_law_same3 (by decide) c_idle_houses (by decide) c_clumps_of (by decide) c_law_knit (by decide) c_law_classes (by decide) c_knit_pairs (by decide) hr), pure_law h⟩
theorem law_in {K : PySem.W.Frag} {H : Hp} {a : Addr} {ns : List Int} (hl : ns.length ≤ 63) (hS : SqL K H a (ns.map V.int)) : spLaw K [V.ref a] H (fun v _ => v = .bl true) (fun _ _ _ => False) := ⟨ns, hl, ⟨⟨a, _, rfl, hS, Tps.of_ints⟩, True.intro⟩, fun _ => rfl⟩
end Ck
open PySem PySem.W PySem.Calls PyProof.Rows
theorem PySem.Challenge.cw_closereckoned_k07_whole_seams_and_clumps_holds : PySem.Challenge.rw_closereckoned_k07_whole_seams_and_clumps.Holds := by
  w_on; o_law
  refine HandSHeadRun.head_any (r := OpenLaw.row PySem.Challenge.rw_closereckoned_k07_whole_seams_and_clumps) (q := view (OpenLaw.row PySem.Challenge.rw_closereckoned_k07_whole_seams_and_clumps).prog [62]) (H := Ck.hk) (ob := Ck.ob) (M := 6000) (loose := Ck.loose) (d := HandSHeadRun.topDef (OpenLaw.row PySem.Challenge.rw_closereckoned_k07_whole_seams_and_clumps).prog 62) (kwd := []) Ck.ob_eq
    (by kernel_rfl) (fun s => by kernel_rfl) Ck.run (by kernel_rfl) (by kernel_rfl) (by kernel_rfl) (by rfl) (by first | assumption | decide +kernel) (by decide +kernel) ⟨rfl, rfl, rfl, rfl, rfl, by decide +kernel⟩ ?hw ?hc
  case hw => w_witness2
  case hc =>
    refine L2.walk_ofE (l := PySem.Challenge.rw_closereckoned_k07_whole_seams_and_clumps) (n := 63) (k := 10) (x := "_law_script") (CX := L2.CX0) rfl (by decide) (by kernel_rfl) ⟨rfl, by decide, by decide⟩ ?F (fun _ _ _ _ z => z)
    intro w mg fa h Y G hmg0
    obtain ⟨K, KX, c⟩ := Y
    have hmg : mg ("law" : PySem.Str) = some (.ref fa) := by
      have e : (HandSHeadRun.topDef (OpenLaw.row PySem.Challenge.rw_closereckoned_k07_whole_seams_and_clumps).prog 62).name = ("law" : PySem.Str) := by kernel_rfl
      rw [← e]
      exact hmg0
    obtain ⟨fd, hb, hF⟩ := Ck.facts (P := (PySem.Challenge.rw_closereckoned_k07_whole_seams_and_clumps).prog) (w := w) KX G hmg c
    exact ⟨K, fd, Ck.spLaw K, KX, hb, fun H a ns hl hi hS => Ck.law_in hl hS, hF⟩
