import PyProof.Rows.All
import Wide.All
import OpenK.AllK
import Wide.FinOn
import HandS.ForMost
import HandS.ForExc
import HandS.IsInst
import HandS.TupAny
import HandS.TupMul
import HandS.Deep
import HandS.Defaults
import HandS.Style
import HandS.HeadHook4
import HandS.ExcInit
import HandS.ExcIs
import HandS.Head0
import HandS.Head1
import HandS.Head2
import HandS.HeadEnd
import HandS.HeadHook1
import HandS.HeadHook2
import HandS.HeadHook3
import HandS.HeadWalk
import HandS.Zip
import KE.GoesEnumKw
import HandS.TupSets
import HandS.TupLe
import KE.SortData
import KE.KEqNest
import KE.KDictCopyH
import HandS.Small
import KE.KDictKeyed
import PyProof.Rows.IntBool
import PyProof.ReprRoads
import PyProof.ReprBulk
import PyProof.CallFns
import HandS.Iter
import KE.KDictWalk
import KE.KDictSum
import HandS.Lambda
import HandS.EndTab
import PySem.Challenge.RW_movedfolders_k35_claims_of_things_requir
set_option Elab.async false
set_option linter.all false
set_option maxRecDepth 100000
set_option maxHeartbeats 0
/-! # Data, the pen, what an expression evaluates to -/
namespace Mv
open PySem PySem.Spec PyProof.Rows L2

/-! ### data at a value; its lists and dicts stand at none of the addresses S (what is being changed: the pen's list, lists that are filled) -/
mutual
inductive At (S : List Addr) (H : Hp) : V → PyData → Prop
  | non : At S H .non .none
  | bl (b : Bool) : At S H (.bl b) (.bool b)
  | int (i : Int) : At S H (.int i) (.int i)
  | str (x : Str) : At S H (.str x) (.str x)
  | lst {a : Addr} {xs : List V} {ds : List PyData} (ne : a ∉ S) (h : H a = some (.lst xs)) (r : Ats S H xs ds) : At S H (.ref a) (.list ds)
  | tup {a : Addr} {xs : List V} {ds : List PyData} (ne : a ∉ S) (h : H a = some (.tup xs)) (r : Ats S H xs ds) : At S H (.ref a) (.tuple ds)
  | emp {a : Addr} (ne : a ∉ S) (h : H a = some (.dK [])) : At S H (.ref a) (.dict [])
inductive Ats (S : List Addr) (H : Hp) : List V → List PyData → Prop
  | nil : Ats S H [] []
  | cons {v : V} {vs : List V} {d : PyData} {ds : List PyData} (h : At S H v d) (r : Ats S H vs ds) : Ats S H (v :: vs) (d :: ds)
end

/-- what stood stands; where b, the pen's own list may have changed -/
def Rl (b : Bool) (p : Addr × Addr) (H H' : Hp) : Prop := ∀ c o, (b = true → c ≠ p.1) → H c = some o → H' c = some o
/-- the pen: its list at p.1 holds the list of cells (at p.2), the place, the rest; both are of S, and S is tracked -/
structure Pen (p : Addr × Addr) (S : List Addr) (H : Hp) : Prop where
  pen : ∃ (ns : List Int) (i j : Int), H p.1 = some (.lst [.ref p.2, .int i, .int j]) ∧ H p.2 = some (.lst (ns.map V.int)) ∧ ns.length ≤ 63
  ne2 : p.2 ≠ p.1
  mem : p.1 ∈ S
  mem2 : p.2 ∈ S
  all : ∀ s ∈ S, ∃ o, H s = some o

section
variable {b : Bool} {p : Addr × Addr} {S : List Addr} {H H1 H2 H' : Hp}
theorem Rl.refl : Rl b p H H := fun _ _ _ h => h
theorem Rl.trans (a : Rl b p H H1) (c : Rl b p H1 H2) : Rl b p H H2 := fun x o n h => c x o n (a x o n h)
theorem Rl.of (a : Rl false p H H') : Rl b p H H' := fun x o _ h => a x o (fun q => by cases q) h
theorem Rl.tt (a : Rl b p H H') : Rl true p H H' := fun x o n h => a x o (fun _ => n rfl) h
theorem Rl.same (a : Rl false p H H') : ∀ c o, H c = some o → H' c = some o := fun x o h => a x o (fun q => by cases q) h
theorem Rl.ofSame (a : ∀ c o, H c = some o → H' c = some o) : Rl b p H H' := fun x o _ h => a x o h
theorem Rl.new {a : Addr} {o : HO} (h : H a = none) : Rl b p H (upd H a o) := fun c u _ e => by
  rw [upd_ne (ne_of_none e h)]
  exact e
/-- an object that the first heap does not know may change -/
theorem Rl.mut {a : Addr} {o : HO} (e : Rl b p H H') (h : H a = none) : Rl b p H (upd H' a o) := fun c u n q => by
  rw [upd_ne (ne_of_none q h)]
  exact e c u n q
theorem Pen.ne {a : Addr} (P : Pen p S H) (h : H a = none) : a ∉ S := fun e => by
  obtain ⟨o, q⟩ := P.all a e
  rw [h] at q
  cases q
theorem Pen.nep {a : Addr} (P : Pen p S H) (h : H a = none) : a ≠ p.1 := fun e => P.ne h (e ▸ P.mem)
theorem Rl.back {a : Addr} (e : Rl b p H H') (P' : Pen p S H') (h : H' a = none) : H a = none := by
  cases q : H a with
  | none => rfl
  | some o =>
    have := e a o (fun _ => P'.nep h) q
    rw [h] at this
    cases this
theorem Pen.ff (P : Pen p S H) (e : Rl false p H H') : Pen p S H' := by
  obtain ⟨⟨ns, i, j, h1, h2, h3⟩, n, m, m2, t⟩ := P
  exact ⟨⟨ns, i, j, e.same _ _ h1, e.same _ _ h2, h3⟩, n, m, m2, fun s hs => let ⟨o, ho⟩ := t s hs; ⟨o, e.same _ _ ho⟩⟩
theorem Pen.new {a : Addr} {o : HO} (P : Pen p S H) (h : H a = none) : Pen p S (upd H a o) := P.ff (Rl.new h)
/-- one more address is told -/
theorem Pen.more {a : Addr} (P : Pen p S H) (h : ∃ o, H a = some o) : Pen p (a :: S) H := ⟨P.pen, P.ne2, List.mem_cons_of_mem _ P.mem, List.mem_cons_of_mem _ P.mem2, fun s hs => by
  rcases List.mem_cons.mp hs with rfl | hs
  · exact h
  · exact P.all s hs⟩
theorem Pen.less {a : Addr} (P : Pen p (a :: S) H) (Q : Pen p S H') : Pen p S H := ⟨P.pen, Q.ne2, Q.mem, Q.mem2, fun s hs => P.all s (List.mem_cons_of_mem _ hs)⟩
/-- an object that is not the pen's is written -/
theorem Pen.put {a : Addr} {o : HO} (P : Pen p S H) (n1 : a ≠ p.1) (n2 : a ≠ p.2) : Pen p S (upd H a o) := by
  obtain ⟨⟨ns, i, j, h1, h2, h3⟩, n, m, m2, t⟩ := P
  refine ⟨⟨ns, i, j, (upd_ne (Ne.symm n1)).trans h1, (upd_ne (Ne.symm n2)).trans h2, h3⟩, n, m, m2, fun s hs => ?_⟩
  by_cases e : s = a
  · exact ⟨o, by rw [e, upd_same]⟩
  · rw [upd_ne e]
    exact t s hs

mutual
theorem At.mono (e : Rl b p H H') (hp : p.1 ∈ S) : ∀ {v : V} {d : PyData}, At S H v d → At S H' v d
  | _, _, .non => .non
  | _, _, .bl k => .bl k
  | _, _, .int i => .int i
  | _, _, .str x => .str x
  | _, _, .lst n h r => .lst n (e _ _ (fun _ q => n (q ▸ hp)) h) (Ats.mono e hp r)
  | _, _, .tup n h r => .tup n (e _ _ (fun _ q => n (q ▸ hp)) h) (Ats.mono e hp r)
  | _, _, .emp n h => .emp n (e _ _ (fun _ q => n (q ▸ hp)) h)
theorem Ats.mono (e : Rl b p H H') (hp : p.1 ∈ S) : ∀ {vs : List V} {ds : List PyData}, Ats S H vs ds → Ats S H' vs ds
  | _, _, .nil => .nil
  | _, _, .cons h r => .cons (At.mono e hp h) (Ats.mono e hp r)
end
mutual
/-- data that stood do not stand at what is new -/
theorem At.avoid {a : Addr} (ha : H a = none) : ∀ {v : V} {d : PyData}, At S H v d → At (a :: S) H v d
  | _, _, .non => .non
  | _, _, .bl k => .bl k
  | _, _, .int i => .int i
  | _, _, .str x => .str x
  | _, _, .lst n h r => .lst (fun q => (List.mem_cons.mp q).elim (fun q => ne_of_none h ha q) n) h (Ats.avoid ha r)
  | _, _, .tup n h r => .tup (fun q => (List.mem_cons.mp q).elim (fun q => ne_of_none h ha q) n) h (Ats.avoid ha r)
  | _, _, .emp n h => .emp (fun q => (List.mem_cons.mp q).elim (fun q => ne_of_none h ha q) n) h
theorem Ats.avoid {a : Addr} (ha : H a = none) : ∀ {vs : List V} {ds : List PyData}, Ats S H vs ds → Ats (a :: S) H vs ds
  | _, _, .nil => .nil
  | _, _, .cons h r => .cons (At.avoid ha h) (Ats.avoid ha r)
end
mutual
theorem At.less {a : Addr} : ∀ {v : V} {d : PyData}, At (a :: S) H v d → At S H v d
  | _, _, .non => .non
  | _, _, .bl k => .bl k
  | _, _, .int i => .int i
  | _, _, .str x => .str x
  | _, _, .lst n h r => .lst (fun q => n (List.mem_cons_of_mem _ q)) h (Ats.less r)
  | _, _, .tup n h r => .tup (fun q => n (List.mem_cons_of_mem _ q)) h (Ats.less r)
  | _, _, .emp n h => .emp (fun q => n (List.mem_cons_of_mem _ q)) h
theorem Ats.less {a : Addr} : ∀ {vs : List V} {ds : List PyData}, Ats (a :: S) H vs ds → Ats S H vs ds
  | _, _, .nil => .nil
  | _, _, .cons h r => .cons (At.less h) (Ats.less r)
end
theorem notin_ne {c a : Addr} (n : c ∉ S) (ha : a ∈ S) : c ≠ a := fun q => n (q ▸ ha)
mutual
/-- an object of S is written -/
theorem At.put {a : Addr} {o : HO} (ha : a ∈ S) : ∀ {v : V} {d : PyData}, At S H v d → At S (upd H a o) v d
  | _, _, .non => .non
  | _, _, .bl k => .bl k
  | _, _, .int i => .int i
  | _, _, .str x => .str x
  | _, _, .lst n h r => .lst n ((upd_ne (notin_ne n ha)).trans h) (Ats.put ha r)
  | _, _, .tup n h r => .tup n ((upd_ne (notin_ne n ha)).trans h) (Ats.put ha r)
  | _, _, .emp n h => .emp n ((upd_ne (notin_ne n ha)).trans h)
theorem Ats.put {a : Addr} {o : HO} (ha : a ∈ S) : ∀ {vs : List V} {ds : List PyData}, Ats S H vs ds → Ats S (upd H a o) vs ds
  | _, _, .nil => .nil
  | _, _, .cons h r => .cons (At.put ha h) (Ats.put ha r)
end
theorem Ats.length : ∀ {vs : List V} {ds : List PyData}, Ats S H vs ds → vs.length = ds.length
  | _, _, .nil => rfl
  | _, _, .cons _ r => congrArg (· + 1) (Ats.length r)
theorem Ats.get : ∀ {vs : List V} {ds : List PyData} {i : Nat} {v : V}, Ats S H vs ds → vs[i]? = some v → ∃ d, ds[i]? = some d ∧ At S H v d
  | _, _, _, _, .nil, e => by simp at e
  | _, _, 0, _, .cons h _, e => by
    simp at e
    subst e
    exact ⟨_, rfl, h⟩
  | _, _, i + 1, v, .cons _ r, e => by
    obtain ⟨d, h1, h2⟩ := Ats.get (i := i) (v := v) r (by simpa using e)
    exact ⟨d, by simpa using h1, h2⟩
theorem Ats.getD : ∀ {vs : List V} {ds : List PyData} {i : Nat} {d : PyData}, Ats S H vs ds → ds[i]? = some d → ∃ v, vs[i]? = some v ∧ At S H v d
  | _, _, _, _, .nil, e => by simp at e
  | _, _, 0, _, .cons h _, e => by
    simp at e
    subst e
    exact ⟨_, rfl, h⟩
  | _, _, i + 1, d, .cons _ r, e => by
    obtain ⟨v, h1, h2⟩ := Ats.getD (i := i) (d := d) r (by simpa using e)
    exact ⟨v, by simpa using h1, h2⟩
theorem Ats.append : ∀ {vs ws : List V} {ds es : List PyData}, Ats S H vs ds → Ats S H ws es → Ats S H (vs ++ ws) (ds ++ es)
  | _, _, _, _, .nil, s => s
  | _, _, _, _, .cons h r, s => .cons h (Ats.append r s)
theorem Ats.take : ∀ {vs : List V} {ds : List PyData} (n : Nat), Ats S H vs ds → Ats S H (vs.take n) (ds.take n)
  | _, _, 0, _ => .nil
  | _, _, _ + 1, .nil => .nil
  | _, _, n + 1, .cons h r => .cons h (Ats.take n r)
theorem Ats.drop : ∀ {vs : List V} {ds : List PyData} (n : Nat), Ats S H vs ds → Ats S H (vs.drop n) (ds.drop n)
  | _, _, 0, r => r
  | _, _, _ + 1, .nil => .nil
  | _, _, n + 1, .cons _ r => Ats.drop n r
theorem Ats.reverse : ∀ {vs : List V} {ds : List PyData}, Ats S H vs ds → Ats S H vs.reverse ds.reverse
  | _, _, .nil => .nil
  | _, _, .cons h r => by
    rw [List.reverse_cons, List.reverse_cons]
    exact (Ats.reverse r).append (.cons h .nil)
theorem Ats.snoc {vs : List V} {ds : List PyData} {v : V} {d : PyData} (r : Ats S H vs ds) (h : At S H v d) : Ats S H (vs ++ [v]) (ds ++ [d]) := r.append (.cons h .nil)
theorem Ats.ints (ns : List Int) : Ats S H (ns.map V.int) (ns.map PyData.int) := by
  induction ns with
  | nil => exact .nil
  | cons n ns ih => exact .cons (.int n) ih
theorem Ats.one {vs : List V} {d : PyData} (r : Ats S H vs [d]) : ∃ v, vs = [v] ∧ At S H v d := by
  cases r with
  | cons h r =>
    cases r
    exact ⟨_, rfl, h⟩
theorem Ats.two {vs : List V} {d e : PyData} (r : Ats S H vs [d, e]) : ∃ v w, vs = [v, w] ∧ At S H v d ∧ At S H w e := by
  cases r with
  | cons h r =>
    obtain ⟨w, rfl, h2⟩ := r.one
    exact ⟨_, _, rfl, h, h2⟩
theorem Ats.three {vs : List V} {d e f : PyData} (r : Ats S H vs [d, e, f]) : ∃ v w x, vs = [v, w, x] ∧ At S H v d ∧ At S H w e ∧ At S H x f := by
  cases r with
  | cons h r =>
    obtain ⟨w, x, rfl, h2, h3⟩ := r.two
    exact ⟨_, _, _, rfl, h, h2, h3⟩
theorem At.int_inv {v : V} {i : Int} (h : At S H v (.int i)) : v = .int i := by
  cases h
  rfl
theorem At.bl_inv {v : V} {k : Bool} (h : At S H v (.bool k)) : v = .bl k := by
  cases h
  rfl
theorem At.str_inv {v : V} {x : Str} (h : At S H v (.str x)) : v = .str x := by
  cases h
  rfl
theorem At.non_inv {v : V} (h : At S H v .none) : v = .non := by
  cases h
  rfl
theorem At.tup_inv {v : V} {ds : List PyData} (h : At S H v (.tuple ds)) : ∃ a xs, v = .ref a ∧ a ∉ S ∧ H a = some (.tup xs) ∧ Ats S H xs ds := by
  cases h with
  | tup n h r => exact ⟨_, _, rfl, n, h, r⟩
theorem At.lst_inv {v : V} {ds : List PyData} (h : At S H v (.list ds)) : ∃ a xs, v = .ref a ∧ a ∉ S ∧ H a = some (.lst xs) ∧ Ats S H xs ds := by
  cases h with
  | lst n h r => exact ⟨_, _, rfl, n, h, r⟩
/-- a value that is data is one datum -/
theorem At.fn : ∀ {v : V} {d e : PyData}, At S H v d → At S H v e → d = e ∨ ∃ a, v = .ref a := fun {v d e} h1 h2 => by
  cases v with
  | ref a => exact .inr ⟨a, rfl⟩
  | non => cases h1; cases h2; exact .inl rfl
  | bl k => cases h1; cases h2; exact .inl rfl
  | int i => cases h1; cases h2; exact .inl rfl
  | str x => cases h1; cases h2; exact .inl rfl
  | byt _ => cases h1
  | flt _ => cases h1
  | ty _ => cases h1
end

/-! ### what evaluates to what: R is what is true of the datum -/
section
variable (b : Bool) (p : Addr × Addr) (S : List Addr)
def Ev (te : TE) (σ : L2.St) (H : Hp) (R : PyData → Prop) : Prop := ∀ H1, Rl b p H H1 → Pen p S H1 → ∀ Q : VK, (∀ v H2 d, Rl b p H1 H2 → Pen p S H2 → At S H2 v d → R d → Q v H2) → te σ H1 Q
def EvA (ta : TA) (σ : L2.St) (H : Hp) (R : List PyData → Prop) : Prop := ∀ H1, Rl b p H H1 → Pen p S H1 → ∀ Q : List V → Hp → Prop, (∀ vs H2 ds, Rl b p H1 H2 → Pen p S H2 → Ats S H2 vs ds → R ds → Q vs H2) → ta σ H1 Q
def EvT (tt : TT) (σ : L2.St) (H : Hp) (R : Bool → Prop) : Prop := ∀ H1, Rl b p H H1 → Pen p S H1 → ∀ Q : Bool → Hp → Prop, (∀ k H2, Rl b p H1 H2 → Pen p S H2 → R k → Q k H2) → tt σ H1 Q
/-- an operation on data: two places, a call -/
def Rv2 (r : R2) (d e : PyData) (R : PyData → Prop) : Prop := ∀ x y H, Pen p S H → At S H x d → At S H y e → ∀ Q : VK, (∀ v H2 z, Rl b p H H2 → Pen p S H2 → At S H2 v z → R z → Q v H2) → r x y H Q
def RvC (r : List V → Hp → VK → Prop) (ds : List PyData) (R : PyData → Prop) : Prop := ∀ xs H, Pen p S H → Ats S H xs ds → ∀ Q : VK, (∀ v H2 z, Rl b p H H2 → Pen p S H2 → At S H2 v z → R z → Q v H2) → r xs H Q
end
section
variable {b : Bool} {p : Addr × Addr} {S : List Addr} {σ : L2.St} {H H' : Hp} {ta tb te : TE} {t u : TT} {R R1 R2 : PyData → Prop}
theorem Ev.mono (e : Rl b p H H') (h : Ev b p S te σ H R) : Ev b p S te σ H' R := fun H1 a P Q q => h H1 (e.trans a) P Q q
theorem Ev.imp (h : Ev b p S te σ H R) (k : ∀ d, R d → R1 d) : Ev b p S te σ H R1 := fun H1 a P Q q => h H1 a P Q fun v H2 d e2 P2 a2 r => q v H2 d e2 P2 a2 (k d r)
theorem EvT.mono {R : Bool → Prop} (e : Rl b p H H') (h : EvT b p S t σ H R) : EvT b p S t σ H' R := fun H1 a P Q q => h H1 (e.trans a) P Q q
theorem EvT.imp {R R1 : Bool → Prop} (h : EvT b p S t σ H R) (k : ∀ d, R d → R1 d) : EvT b p S t σ H R1 := fun H1 a P Q q => h H1 a P Q fun v H2 e2 P2 r => q v H2 e2 P2 (k v r)
theorem EvA.mono {t : TA} {R : List PyData → Prop} (e : Rl b p H H') (h : EvA b p S t σ H R) : EvA b p S t σ H' R := fun H1 a P Q q => h H1 (e.trans a) P Q q
theorem EvA.imp {t : TA} {R R1 : List PyData → Prop} (h : EvA b p S t σ H R) (k : ∀ d, R d → R1 d) : EvA b p S t σ H R1 := fun H1 a P Q q => h H1 a P Q fun v H2 d e2 P2 a2 r => q v H2 d e2 P2 a2 (k d r)
theorem ev_var {i : Nat} {v : V} {d : PyData} (h : σ[i]? = some (some v)) (a : At S H v d) : Ev b p S (tVar i) σ H (fun z => z = d) := fun H1 e P _ q => ⟨v, h, q v H1 d Rl.refl P (a.mono e P.mem) rfl⟩
theorem ev_cst {v : V} {d : PyData} (a : ∀ H, At S H v d) : Ev b p S (tC v) σ H (fun z => z = d) := fun H1 _ P _ q => q v H1 d Rl.refl P (a _) rfl
theorem ev_int {i : Int} : Ev b p S (tC (.int i)) σ H (fun z => z = .int i) := ev_cst fun _ => .int i
theorem ev_bl {k : Bool} : Ev b p S (tC (.bl k)) σ H (fun z => z = .bool k) := ev_cst fun _ => .bl k
theorem ev_str {x : Str} : Ev b p S (tC (.str x)) σ H (fun z => z = .str x) := ev_cst fun _ => .str x
theorem ev_non : Ev b p S (tC .non) σ H (fun z => z = .none) := ev_cst fun _ => .non
theorem ev_op {r : L2.R2} (ha : Ev b p S ta σ H R1) (hb : Ev b p S tb σ H R2) (hr : ∀ d e, R1 d → R2 e → Rv2 b p S r d e R) : Ev b p S (tOp r ta tb) σ H R := fun H1 e P Q q =>
  ha H1 e P _ fun x H2 d e2 P2 a2 r1 => hb H2 (e.trans e2) P2 _ fun y H3 f e3 P3 a3 r2 => hr d f r1 r2 x y H3 P3 (a2.mono e3 P2.mem) a3 Q fun v H4 z e4 P4 a4 r4 => q v H4 z ((e2.trans e3).trans e4) P4 a4 r4
theorem ea_nil : EvA b p S tNil σ H (fun z => z = []) := fun H1 _ P _ q => q [] H1 [] Rl.refl P .nil rfl
theorem ea_cons {tr : TA} {Rs R' : List PyData → Prop} (h : Ev b p S te σ H R) (hr : EvA b p S tr σ H Rs) (k : ∀ d ds, R d → Rs ds → R' (d :: ds)) : EvA b p S (tCons te tr) σ H R' := fun H1 e P _ q =>
  h H1 e P _ fun x H2 d e2 P2 a2 r1 => hr H2 (e.trans e2) P2 _ fun xs H3 ds e3 P3 a3 r2 => q _ H3 _ (e2.trans e3) P3 (.cons (a2.mono e3 P2.mem) a3) (k _ _ r1 r2)
theorem ev_call {r : List V → Hp → VK → Prop} {tr : TA} {Rs : List PyData → Prop} (h : EvA b p S tr σ H Rs) (hr : ∀ ds, Rs ds → RvC b p S r ds R) : Ev b p S (tCB r tr) σ H R := fun H1 e P Q q =>
  h H1 e P _ fun xs H2 ds e2 P2 a2 r1 => hr ds r1 xs H2 P2 a2 Q fun v H3 z e3 P3 a3 r3 => q v H3 z (e2.trans e3) P3 a3 r3
theorem Rl.up {a : Addr} {o : HO} (h : H a = none) : Rl b p H (upd H a o) := Rl.new h
theorem ev_tup {tr : TA} {Rs : List PyData → Prop} (h : EvA b p S tr σ H Rs) (hl : ∀ ds, Rs ds → ds.length ≤ 100000) : Ev b p S (tTup tr) σ H (fun z => ∃ ds, z = .tuple ds ∧ Rs ds) := fun H1 e P Q q =>
  h H1 e P _ fun xs H2 ds e2 P2 a2 r1 => ⟨Nat.le_trans (by rw [a2.length]; exact hl ds r1) (by decide), fun a ha => q _ _ _ (e2.trans (Rl.new ha)) (P2.new ha) (.tup (P2.ne ha) upd_same (a2.mono (p := p) (b := b) (Rl.new ha) P2.mem)) ⟨ds, rfl, r1⟩⟩
theorem ev_lst {tr : TA} {Rs : List PyData → Prop} (h : EvA b p S tr σ H Rs) (hl : ∀ ds, Rs ds → ds.length ≤ 100000) : Ev b p S (tLst tr) σ H (fun z => ∃ ds, z = .list ds ∧ Rs ds) := fun H1 e P Q q =>
  h H1 e P _ fun xs H2 ds e2 P2 a2 r1 => ⟨Nat.le_trans (by rw [a2.length]; exact hl ds r1) (by decide), fun a ha => q _ _ _ (e2.trans (Rl.new ha)) (P2.new ha) (.lst (P2.ne ha) upd_same (a2.mono (p := p) (b := b) (Rl.new ha) P2.mem)) ⟨ds, rfl, r1⟩⟩
theorem ev_if {Z : Bool → Prop} (h : EvT b p S t σ H Z) (h1 : Z true → Ev b p S ta σ H R) (h2 : Z false → Ev b p S tb σ H R) : Ev b p S (tIf t ta tb) σ H R := fun H1 e P Q q => h H1 e P _ fun k H2 e2 P2 s => by
  cases k with
  | true => exact (show ta σ H2 Q from h1 s H2 (e.trans e2) P2 Q fun v H3 z e3 => q v H3 z (e2.trans e3))
  | false => exact (show tb σ H2 Q from h2 s H2 (e.trans e2) P2 Q fun v H3 z e3 => q v H3 z (e2.trans e3))
theorem ev_and {k : Bool} (h1 : Ev b p S ta σ H fun z => z = .bool k) (h2 : k = true → Ev b p S tb σ H R) (h3 : k = false → R (.bool false)) : Ev b p S (tAndV ta tb) σ H R := fun H1 e P Q q => h1 H1 e P _ fun v H2 z e2 P2 a2 r => by
  subst r
  cases a2
  refine ⟨k, rfl, ?_⟩
  cases k with
  | true => exact (show tb σ H2 Q from h2 rfl H2 (e.trans e2) P2 Q fun v H3 z e3 => q v H3 z (e2.trans e3))
  | false => exact (show Q (.bl false) H2 from q _ H2 _ e2 P2 (.bl false) (h3 rfl))
theorem ev_or {k : Bool} (h1 : Ev b p S ta σ H fun z => z = .bool k) (h2 : k = false → Ev b p S tb σ H R) (h3 : k = true → R (.bool true)) : Ev b p S (tOrV ta tb) σ H R := fun H1 e P Q q => h1 H1 e P _ fun v H2 z e2 P2 a2 r => by
  subst r
  cases a2
  refine ⟨k, rfl, ?_⟩
  cases k with
  | true => exact (show Q (.bl true) H2 from q _ H2 _ e2 P2 (.bl true) (h3 rfl))
  | false => exact (show tb σ H2 Q from h2 rfl H2 (e.trans e2) P2 Q fun v H3 z e3 => q v H3 z (e2.trans e3))
theorem et_test {Z : Bool → Prop} (h : Ev b p S te σ H fun z => ∃ k, z = .bool k ∧ Z k) : EvT b p S (tTest te) σ H Z := fun H1 e P _ q => h H1 e P _ fun v H2 z e2 P2 a2 r => by
  obtain ⟨k, rfl, s⟩ := r
  cases a2
  exact ⟨k, rfl, q k H2 e2 P2 s⟩
theorem et_B {Z : Bool → Prop} (h : Ev b p S te σ H fun z => ∃ k, z = .bool k ∧ Z k) : EvT b p S (tB te) σ H Z := fun H1 e P _ q => h H1 e P _ fun v H2 z e2 P2 a2 r => by
  obtain ⟨k, rfl, s⟩ := r
  cases a2
  exact ⟨k, rfl, q k H2 e2 P2 s⟩
theorem et_and {Z1 Z : Bool → Prop} (h1 : EvT b p S t σ H Z1) (h2 : Z1 true → EvT b p S u σ H Z) (h3 : Z1 false → Z false) : EvT b p S (tAnd t u) σ H Z := fun H1 e P Q q => h1 H1 e P _ fun k H2 e2 P2 s => by
  cases k with
  | true => exact (show u σ H2 Q from h2 s H2 (e.trans e2) P2 Q fun v H3 e3 => q v H3 (e2.trans e3))
  | false => exact (show Q false H2 from q _ H2 e2 P2 (h3 s))
theorem et_or {Z1 Z : Bool → Prop} (h1 : EvT b p S t σ H Z1) (h2 : Z1 false → EvT b p S u σ H Z) (h3 : Z1 true → Z true) : EvT b p S (tOr t u) σ H Z := fun H1 e P Q q => h1 H1 e P _ fun k H2 e2 P2 s => by
  cases k with
  | true => exact (show Q true H2 from q _ H2 e2 P2 (h3 s))
  | false => exact (show u σ H2 Q from h2 s H2 (e.trans e2) P2 Q fun v H3 e3 => q v H3 (e2.trans e3))
theorem et_not {Z : Bool → Prop} (h1 : EvT b p S t σ H fun k => Z (!k)) : EvT b p S (tNot t) σ H Z := fun H1 e P _ q => h1 H1 e P _ fun k H2 e2 P2 s => q (!k) H2 e2 P2 s
end

/-! ### statements -/
section
variable {b : Bool} {p : Addr × Addr} {S : List Addr} {σ : L2.St} {H H' : Hp} {ta tb te : TE} {t : TT} {R : PyData → Prop} {D : Ends} {tu tw tz : TS}
theorem s_asg {i : Nat} (h : Ev b p S te σ H R) (P : Pen p S H) (k : ∀ v H1 d, Rl b p H H1 → Pen p S H1 → At S H1 v d → R d → D.nx (σ.set i (some v)) H1) : tAsg te (gName i) D σ H := h H Rl.refl P _ k
theorem s_ret (h : Ev b p S te σ H R) (P : Pen p S H) (k : ∀ v H1 d, Rl b p H H1 → Pen p S H1 → At S H1 v d → R d → D.rt v H1) : tRet te D σ H := h H Rl.refl P _ k
theorem s_if {Z : Bool → Prop} (h : EvT b p S t σ H Z) (P : Pen p S H) (h1 : Z true → ∀ H1, Rl b p H H1 → Pen p S H1 → tu D σ H1) (h2 : Z false → ∀ H1, Rl b p H H1 → Pen p S H1 → tw D σ H1) : tIfS t tu tw D σ H := h H Rl.refl P _ fun k H1 e P1 s => by
  cases k with
  | true => exact (show tu D σ H1 from h1 s H1 e P1)
  | false => exact (show tw D σ H1 from h2 s H1 e P1)
theorem s_drop (h : Ev b p S te σ H R) (P : Pen p S H) (k : ∀ v H1 d, Rl b p H H1 → Pen p S H1 → At S H1 v d → R d → D.nx σ H1) : tDrop te D σ H := h H Rl.refl P _ k
end

/-! ### promises -/
/-- f of data: what is asked of the arguments, what is told of the answer; the pen's list stays (b false) or may turn (b true) -/
def spD (b : Bool) (n : Nat) (R : List PyData → PyData → Prop) (Pre : List PyData → Prop) : Sp := fun vs H Q _ => ∃ (p : Addr × Addr) (S : List Addr) (ds : List PyData), Ats S H vs ds ∧ ds.length = n ∧ Pen p S H ∧ Pre ds ∧ ∀ v H' d, Rl b p H H' → Pen p S H' → At S H' v d → R ds d → Q v H'
end Mv
/-! # The text by places; what is known of it behind the top -/
namespace Mv
open PySem PySem.Spec PyProof.Rows L2 He
def top (i : Nat) : Stmt := PySem.Challenge.pw_movedfolders_k35_claims_of_things_requir.main.body.getD i (.Pass ⟨0, 0, 0, 0⟩)
def dfn (x : Str) (i : Nat) : DefD := ⟨(x, none), x, x, defArgs (top i), defBody (top i), defScope (top i), [], []⟩
abbrev sInit : Stmt := inClass (top 1) 0
def defNames0 : List Str := [Str.ofString "is_number", Str.ofString "are_values", Str.ofString "is_content", Str.ofString "is_item", Str.ofString "are_contents", Str.ofString "is_parts", Str.ofString "is_rising", Str.ofString "is_pair", Str.ofString "is_rule", Str.ofString "are_rules", Str.ofString "is_leak", Str.ofString "are_pairs", Str.ofString "is_thing_claim", Str.ofString "is_claim", Str.ofString "require_claim", Str.ofString "decide", Str.ofString "first_fault", Str.ofString "_law_pen", Str.ofString "_law_fresh", Str.ofString "_law_draw"]
def defNames1 : List Str := [Str.ofString "_law_one_of", Str.ofString "_law_plain", Str.ofString "_law_step", Str.ofString "_law_kind", Str.ofString "_law_house_of", Str.ofString "_law_small_house", Str.ofString "_law_wide", Str.ofString "_law_trap", Str.ofString "_law_deep", Str.ofString "_law_rules", Str.ofString "_law_contents", Str.ofString "_law_stepped", Str.ofString "_law_made", Str.ofString "_law_ways", Str.ofString "_law_spots", Str.ofString "_law_sum", Str.ofString "_law_offer", Str.ofString "_law_go_on", Str.ofString "_law_least", Str.ofString "_law_pairs_of"]
def defNames2 : List Str := [Str.ofString "_law_item", Str.ofString "_law_side", Str.ofString "_law_some_pair", Str.ofString "_law_thing", Str.ofString "_law_bent", Str.ofString "_law_is_whole", Str.ofString "_law_is_content", Str.ofString "_law_rises", Str.ofString "_law_are_contents", Str.ofString "_law_are_rules", Str.ofString "_law_are_pairs", Str.ofString "_law_claimed_pairs", Str.ofString "_law_small_pair", Str.ofString "_law_is_valid", Str.ofString "_law_outcome", Str.ofString "_law_some_claims", Str.ofString "law"]
def defNames : List Str := defNames0 ++ defNames1 ++ defNames2
def fn0 : List DefD := [dfn "is_number" 3, dfn "are_values" 4, dfn "is_content" 5, dfn "is_item" 6, dfn "are_contents" 7, dfn "is_parts" 14, dfn "is_rising" 16, dfn "is_pair" 17, dfn "is_rule" 46, dfn "are_rules" 47, dfn "is_leak" 63, dfn "are_pairs" 89, dfn "is_thing_claim" 90, dfn "is_claim" 123, dfn "require_claim" 124, dfn "decide" 125, dfn "first_fault" 167, dfn "_law_pen" 169, dfn "_law_fresh" 170, dfn "_law_draw" 171]
def fn1 : List DefD := [dfn "_law_one_of" 172, dfn "_law_plain" 173, dfn "_law_step" 174, dfn "_law_kind" 175, dfn "_law_house_of" 176, dfn "_law_small_house" 177, dfn "_law_wide" 178, dfn "_law_trap" 179, dfn "_law_deep" 180, dfn "_law_rules" 181, dfn "_law_contents" 182, dfn "_law_stepped" 183, dfn "_law_made" 184, dfn "_law_ways" 185, dfn "_law_spots" 186, dfn "_law_sum" 187, dfn "_law_offer" 188, dfn "_law_go_on" 189, dfn "_law_least" 190, dfn "_law_pairs_of" 191]
def fn2 : List DefD := [dfn "_law_item" 192, dfn "_law_side" 193, dfn "_law_some_pair" 194, dfn "_law_thing" 195, dfn "_law_bent" 196, dfn "_law_is_whole" 197, dfn "_law_is_content" 198, dfn "_law_rises" 199, dfn "_law_are_contents" 200, dfn "_law_are_rules" 201, dfn "_law_are_pairs" 202, dfn "_law_claimed_pairs" 203, dfn "_law_small_pair" 204, dfn "_law_is_valid" 205, dfn "_law_outcome" 206, dfn "_law_some_claims" 207, dfn "law" 208]
def fn : List DefD := fn0 ++ fn1 ++ fn2
def fa0 : List Fa := [.glo "InvalidClaim", .glo "is_number", .glo "are_values", .glo "is_content", .glo "is_item", .glo "are_contents", .glo "is_parts", .glo "is_rising", .glo "is_pair", .glo "is_rule", .glo "are_rules", .glo "is_leak", .glo "are_pairs", .glo "is_thing_claim", .glo "is_claim", .glo "require_claim", .glo "decide", .glo "first_fault", .glo "_law_pen", .glo "_law_fresh"]
def fa1 : List Fa := [.glo "_law_draw", .glo "_law_one_of", .glo "_law_plain", .glo "_law_step", .glo "_law_kind", .glo "_law_house_of", .glo "_law_small_house", .glo "_law_wide", .glo "_law_trap", .glo "_law_deep", .glo "_law_rules", .glo "_law_contents", .glo "_law_stepped", .glo "_law_made", .glo "_law_ways", .glo "_law_spots", .glo "_law_sum", .glo "_law_offer", .glo "_law_go_on", .glo "_law_least"]
def fa2 : List Fa := [.glo "_law_pairs_of", .glo "_law_item", .glo "_law_side", .glo "_law_some_pair", .glo "_law_thing", .glo "_law_bent", .glo "_law_is_whole", .glo "_law_is_content", .glo "_law_rises", .glo "_law_are_contents", .glo "_law_are_rules", .glo "_law_are_pairs", .glo "_law_claimed_pairs", .glo "_law_small_pair", .glo "_law_is_valid", .glo "_law_outcome", .glo "_law_some_claims", .glo "law", .free "len", .free "isinstance"]
def fa3 : List Fa := [.free "bool", .free "int", .free "tuple", .free "list", .free "str", .free "dict", .free "zip", .free "sorted", .free "set", .free "all", .free "range", .free "max", .free "min", .free "repr", .free "ValueError", .int "MOST_COST" (10 ^ 70), .int "MOST_RULES" 6]
def fa : List Fa := fa0 ++ fa1 ++ fa2 ++ fa3
def tf : List Defn := [(("law" : Str), none)]
/-- what the top has left -/
structure Top (K : PySem.W.Frag) (mg : Str → Option Value) : Prop where
  defs : ∀ (j : Nat) (d : DefD), fn[j]? = some d → ∃ fd, FunD K d.name d.qual d.params d.body d.scope (d.dvs K) (d.kws K) (fAd K d.at_) fd
  glo : ∀ (j : Nat) (x : Str), fa[j]? = some (.glo x) → mg x = some (.ref (ga K x))
  cost : ∃ t, mg "MOST_COST" = some (.int (10 ^ 70) t)
  rules : ∃ t, mg "MOST_RULES" = some (.int 6 t)
  f_len : mg "len" = none
  f_isinstance : mg "isinstance" = none
  f_bool : mg "bool" = none
  f_int : mg "int" = none
  f_tuple : mg "tuple" = none
  f_list : mg "list" = none
  f_str : mg "str" = none
  f_dict : mg "dict" = none
  f_zip : mg "zip" = none
  f_sorted : mg "sorted" = none
  f_set : mg "set" = none
  f_all : mg "all" = none
  f_range : mg "range" = none
  f_max : mg "max" = none
  f_min : mg "min" = none
  f_repr : mg "repr" = none
  f_ValueError : mg "ValueError" = none
/-- a def of the text that keeps a promise, by its name -/
structure Dn (P : Program) (w : World) (K : PySem.W.Frag) (mg : Str → Option Value) (base : Heap) (x : Str) (k : Nat) (ps : List Str) (sp : Sp) : Prop where
  ex : ∃ f fd, FnOk P w K mg base CX0 k f fd ps sp ∧ mg x = some (.ref f) ∧ PySem.W.keepIn K (.ref f) = true ∧ Binds K fd ps []
section
variable {P : Program} {w : World} {K : PySem.W.Frag} {mg : Str → Option Value} {base : Heap}
theorem Dn.up {x : Str} {j k : Nat} {ps : List Str} {sp : Sp} (D : Dn P w K mg base x j ps sp) (h : j ≤ k) : Dn P w K mg base x k ps sp := let ⟨f, fd, a, b, c, d⟩ := D.ex; ⟨f, fd, a.mono h, b, c, d⟩
theorem Top.dn (T : Top K mg) (j : Nat) {x : Str} {i : Nat} (hj : fn[j]? = some (dfn x i)) (hg : fa[j + 1]? = some (.glo x)) {N ps : List Str} (Sc : FnScope N ps (defScope (top i)))
    (hb : ∀ (kV doc pm : Value) (an : Option Addr) (cdv ct : Value) (us : List Value), us.length = ps.length → bindArgs (PySem.W.fnOf x x (defArgs (top i)) (defBody (top i)) (defScope (top i)) .none kV doc pm an cdv ct) ⟨us, []⟩ = pure (ps.zip us))
    {k : Nat} {b : Bool} {n : Nat} {R : List PyData → PyData → Prop} {Pre : List PyData → Prop} (hn : ps.length = n)
    (hbody : ∀ (f : Addr) (cdv : Value) (A : Around) (outer : List Env) (s : Shared) (p : Addr × Addr) (S : List Addr) (H : Hp) (ds : List PyData) (vs : List V) (Q : VK), Room k (A.deeper (envOfC x (defScope (top i)) s.heap.objs.size f cdv)) →
      Ats S H vs ds → ds.length = n → Pen p S H → Pre ds → (∀ v H' d, Rl b p H H' → Pen p S H' → At S H' v d → R ds d → Q v H') →
      ∃ t, PSs (cxOf CX0 P w K mg base N x (defScope (top i)) f cdv A outer s H E0).nox (defBody (top i)) t ∧ t { nx := fun _ H' => Q .non H', rt := Q } (start N vs) H) :
    Dn P w K mg base x (k + 1) ps (spD b n R Pre) := by
  obtain ⟨fd, F⟩ := T.defs j _ hj
  refine ⟨_, fd, ?_, T.glo (j + 1) x hg, F.kp, FunD.bindsN F hb⟩
  refine FunD.ok F Sc (fun vs H Q E h => ?_) fun cdv A outer s H vs Q E hr h => ?_
  · obtain ⟨_, _, ds, a, l, _⟩ := h
    rw [a.length, l, hn]
  · obtain ⟨p, S, ds, a, l, P1, pr, q⟩ := h
    obtain ⟨t, h1, h2⟩ := hbody _ cdv A outer s p S H ds vs Q hr a l P1 pr q
    exact ⟨t, h1.nox, h2⟩
/-- the same for a promise of any form -/
theorem Top.dnS (T : Top K mg) (j : Nat) {x : Str} {i : Nat} (hj : fn[j]? = some (dfn x i)) (hg : fa[j + 1]? = some (.glo x)) {N ps : List Str} (Sc : FnScope N ps (defScope (top i)))
    (hb : ∀ (kV doc pm : Value) (an : Option Addr) (cdv ct : Value) (us : List Value), us.length = ps.length → bindArgs (PySem.W.fnOf x x (defArgs (top i)) (defBody (top i)) (defScope (top i)) .none kV doc pm an cdv ct) ⟨us, []⟩ = pure (ps.zip us))
    {k : Nat} {sp : Sp} (hn : ∀ vs H Q E, sp vs H Q E → vs.length = ps.length)
    (hbody : ∀ (f : Addr) (cdv : Value) (A : Around) (outer : List Env) (s : Shared) (H : Hp) (vs : List V) (Q : VK) (E : XK), Room k (A.deeper (envOfC x (defScope (top i)) s.heap.objs.size f cdv)) → sp vs H Q E →
      ∃ t, PSs (cxOf CX0 P w K mg base N x (defScope (top i)) f cdv A outer s H E).nox (defBody (top i)) t ∧ t { nx := fun _ H' => Q .non H', rt := Q } (start N vs) H) :
    Dn P w K mg base x (k + 1) ps sp := by
  obtain ⟨fd, F⟩ := T.defs j _ hj
  refine ⟨_, fd, ?_, T.glo (j + 1) x hg, F.kp, FunD.bindsN F hb⟩
  refine FunD.ok F Sc (fun vs H Q E h => hn vs H Q E h) fun cdv A outer s H vs Q E hr h => ?_
  obtain ⟨t, h1, h2⟩ := hbody _ cdv A outer s H vs Q E hr h
  exact ⟨t, h1.nox, h2⟩
end
section
variable {X : Cx} {x : Str} {k : Nat} {ps : List Str} {sp : Sp} {p pos : Pos} {e : Expr} {es : List Expr} {t : TA}
theorem pe_dn (D : Dn X.prog X.w X.K X.mg X.base x k ps sp) (hr : Room k X.A) (hg : Gl X x) (ha : PA X (e :: es) t) (hdb : (x == ("__debug__" : Str)) = false := by decide)
    (he : starEach (e :: es) X.env = (false, eval e X.env) :: starEach es X.env := by rfl) (hpl : (backTo pos (starEach es X.env)).any (·.1) = false := by rfl) : PE X (.Call (.Name x p) (e :: es) [] pos) (tCall sp [] E0 t) := by
  obtain ⟨f, fd, F, hm, hk, hb⟩ := D.ex
  exact pe_call F hr hg hm hk hb .nil pass0 ha hdb he hpl
end
section
variable {b : Bool} {p : Addr × Addr} {S : List Addr} {σ : L2.St} {H : Hp} {t : TA} {Rs : List PyData → Prop} {n : Nat} {R : List PyData → PyData → Prop} {Pre : List PyData → Prop}
theorem ev_fn (h : EvA b p S t σ H Rs) (k : ∀ ds, Rs ds → ds.length = n ∧ Pre ds) : Ev b p S (tCall (spD b n R Pre) [] E0 t) σ H (fun z => ∃ ds, Rs ds ∧ R ds z) := fun H1 e P Q q =>
  h H1 e P _ fun vs H2 ds e2 P2 a2 r => by
    show spD b n R Pre (vs ++ []) H2 Q E0
    rw [List.append_nil]
    exact ⟨p, S, ds, a2, (k ds r).1, P2, (k ds r).2, fun v H3 d e3 P3 a3 r3 => q v H3 d (e2.trans e3) P3 a3 ⟨ds, r, r3⟩⟩
theorem ev_fn0 (h : EvA b p S t σ H Rs) (k : ∀ ds, Rs ds → ds.length = n ∧ Pre ds) : Ev b p S (tCall (spD false n R Pre) [] E0 t) σ H (fun z => ∃ ds, Rs ds ∧ R ds z) := fun H1 e P Q q =>
  h H1 e P _ fun vs H2 ds e2 P2 a2 r => by
    show spD false n R Pre (vs ++ []) H2 Q E0
    rw [List.append_nil]
    exact ⟨p, S, ds, a2, (k ds r).1, P2, (k ds r).2, fun v H3 d e3 P3 a3 r3 => q v H3 d (e2.trans e3.of) P3 a3 ⟨ds, r, r3⟩⟩
end
end Mv
/-! # What of the heap behind the top is looked at -/
namespace Mv
open PySem PySem.Spec PyProof.Rows L2 He
/-! ### what of the heap is looked at: the module, the defs that the law reaches, their code objects; the error's class -/
def codesOf (g : Addr → Option Obj) (a : Addr) : List Addr := match g a with
  | some ⟨_, _, .func fd, _⟩ => refV fd.code
  | _ => []
def nsOf (g : Addr → Option Obj) (a : Addr) : List Addr := match g a with
  | some ⟨_, _, .cls cd, _⟩ => [cd.ns]
  | _ => []
def asM (g : Addr → Option Obj) : List Addr :=
  let K1 := frG g [mainGlobals]
  let fs := defNames.map (ga K1)
  let C := ga K1 "InvalidClaim"
  let ns := nsOf g C
  let f0 := ma (frG g (mainGlobals :: C :: ns)) C "__init__"
  sysModules :: mainGlobals :: C :: f0 :: (ns ++ codesOf g f0 ++ fs ++ fs.flatMap (codesOf g))
/-! ### the error's class -/
def oexB (K : PySem.W.Frag) (C : Addr) : Bool := match K.lookup C with
  | some ⟨.type "type", _, .cls cd, sl⟩ => (match cd.mro, sl.toList with
    | .ref C' :: bm, [_, _, _, _, some (.builtin n), _] => C' == C && n == "ValueError.__new__" && cd.hasDict && !cd.hasDel && PySem.HandSPX.refsVE bm
    | _, _ => false)
  | _ => false
theorem oexB_ok {K : PySem.W.Frag} {C : Addr} (q : oexB K C = true) : ∃ nm q N bs bm sn sub ab col dd k0 k1 k2 k3 k5, K.lookup C = some (excClassObj nm q C N bs bm true sn sub ab col dd k0 k1 k2 k3 k5 "ValueError.__new__") ∧ PySem.HandSPX.refsVE bm = true := by
  unfold oexB at q
  split at q
  · rename_i cd sl ho
    split at q
    · rename_i C' bm k0 k1 k2 k3 n k5 hm hs
      simp only [Bool.and_eq_true, beq_iff_eq, Bool.not_eq_true'] at q
      obtain ⟨⟨⟨⟨h1, h2⟩, h3⟩, h4⟩, h5⟩ := q
      obtain ⟨nm, bs, mro, N, qn, hd, sn, sub, ab, col, del⟩ := cd
      simp only at hm h3 h4
      subst hm h1 h2 h3 h4
      have hsl : sl = #[k0, k1, k2, k3, some (.builtin "ValueError.__new__"), k5] := by
        apply Array.toList_inj.mp
        rw [hs]
      subst hsl
      exact ⟨nm, qn, N, bs, bm, sn, sub, ab, col, _, k0, k1, k2, k3, k5, ho, h5⟩
    · cases q
  · cases q
def valOf : Option PySem.W.CFound → Option Value
  | some (.val v) => some v
  | _ => none
/-- the facts of the class -/
def exL (K : PySem.W.Frag) : List Bool :=
  let C := ga K "InvalidClaim"
  let f := ma K C "__init__"
  [oexB K C, eqO (PySem.W.findIn K (.ref C) "__setattr__") (some (some (.builtin "object.__setattr__"))),
    decide (PySem.W.subIn K (.ref C) (.type "BaseException") = some true), decide (PySem.W.typeIn K (.ref C) = some (.type "type")), PySem.W.keepIn K (.ref C),
    eqO (PySem.W.findIn K (.ref C) "__init__") (some (some (.ref f))), decide (PySem.W.typeIn K (.ref f) = some (.type "function")),
    decide (valOf (PySem.W.findCls K (.type "ValueError") (.type "type") "__init__") = some (.builtin "ValueError.__init__")),
    decide (PySem.W.exmOne K (.ref C) (.ref C) = some true),
    eqO (PySem.W.findIn K (.ref C) "__getattribute__") (some (some (.builtin "BaseException.__getattribute__"))), eqO (PySem.W.findIn K (.ref C) "__getattr__") (some none),
    PySem.W.hasDictIn K C, eqO (PySem.W.findIn K (.ref C) "__class__") (some (some (.builtin "object.__class__"))),
    eqO (PySem.W.specialIn K (.builtin "object.__class__") "__get__") (some (some (.builtin "getset_descriptor.__get__"))),
    decide (PySem.W.takesIn K (.builtin "object.__class__") = some true), decide (PySem.W.mroIn K C (.type "object") = some true),
    decide (PySem.W.kitOne K (.ref C) (.type "ValueError") = some true),
    (K.lookup sysModules).isSome, (DefD.ok K ⟨(("InvalidClaim" : Str), some "__init__"), "__init__", "InvalidClaim.__init__", defArgs sInit, defBody sInit, defScope sInit, [], []⟩)]
def fnI (K : PySem.W.Frag) : FnW := fnW K (("InvalidClaim" : Str), some "__init__")
def dInit : DefD := ⟨(("InvalidClaim" : Str), some "__init__"), "__init__", "InvalidClaim.__init__", defArgs sInit, defBody sInit, defScope sInit, [], []⟩
def ex (K : PySem.W.Frag) : Bool := (exL K).all id
/-! ### the Hook -/
abbrev AlM : Type := AlD × (Bool × FnW)
def obsK (K : PySem.W.Frag) (g : Addr → Option Obj) : AlM := (obsD fa fn K, (ex K && tabsB g tf K, fnI K))
def obsM (g : Addr → Option Obj) : AlM := obsK (frT g (asM g)) g
def valM : AlM := (valD fn, (true, dInit.val))
structure SaysM (h : Heap) (K : PySem.W.Frag) : Prop where
  d : SaysD fa fn K
  more : ex K = true
  init : fnW K dInit.at_ = dInit.val
  hd : ∀ p ∈ tf, PySem.W.codeHdIn K (cT K p).1 (cT K p).2 = true
  out : ∀ p ∈ tf, K.lookup (cT K p).2 = none
  empty : ∀ p ∈ tf, h.get? (cT K p).2 = some { cls := .none, data := .fields #[] }
theorem saysM_of {h : Heap} (e : obsM h.get? = valM) : SaysM h (frT h.get? (asM h.get?)) := by
  have e1 : obsD fa fn (frT h.get? (asM h.get?)) = valD fn := congrArg (fun z : AlM => z.1) e
  have e2 : (ex (frT h.get? (asM h.get?)) && tabsB h.get? tf (frT h.get? (asM h.get?))) = true := congrArg (fun z : AlM => z.2.1) e
  have e3 : fnI (frT h.get? (asM h.get?)) = dInit.val := congrArg (fun z : AlM => z.2.2) e
  obtain ⟨h1, h2⟩ := ba e2
  have key : ∀ p ∈ tf, PySem.W.codeHdIn (frT h.get? (asM h.get?)) (cT (frT h.get? (asM h.get?)) p).1 (cT (frT h.get? (asM h.get?)) p).2 = true ∧ ∃ o, h.get? (cT (frT h.get? (asM h.get?)) p).2 = some o ∧ emptyTab o = true := fun p hp => by
    obtain ⟨h3, h4⟩ := ba (List.all_eq_true.mp h2 p hp)
    refine ⟨h3, ?_⟩
    cases q : h.get? (cT (frT h.get? (asM h.get?)) p).2 with
    | none =>
      rw [q] at h4
      cases h4
    | some o =>
      rw [q] at h4
      exact ⟨o, rfl, h4⟩
  exact ⟨e1, h1, e3, fun p hp => (key p hp).1, fun p hp => by
    obtain ⟨_, o, q, z⟩ := key p hp
    exact frT_none q z, fun p hp => by
    obtain ⟨_, o, q, z⟩ := key p hp
    rw [q, emptyTab_eq z]⟩
def hk : PySem.W.Hook where
  α := AlM
  obs := fun s => obsM s.heap.get?
  val := fun _ => valM
  says := fun _ h => ∃ K : PySem.W.Frag, K.In h ∧ SaysM h K
  of := fun _ _ e => ⟨_, frT_in, saysM_of e⟩
  keeps := fun _ _ _ ⟨K, hK, c⟩ k => ⟨K, PySem.W.Frag.In.keeps hK k, ⟨c.d, c.more, c.init, c.hd, c.out, fun p hp => k _ _ (c.empty p hp)⟩⟩
abbrev R : PySem.W.OpenRow := PySem.W.OpenLaw.row PySem.Challenge.rw_movedfolders_k35_claims_of_things_requir
def ob (s : PySem.W.SharedT) : AlM := obsM (HandSHeadRun.getT s)
theorem ob_eq (s : PySem.W.SharedT) : ob s = hk.obs s.abs := by
  have e : HandSHeadRun.getT s = s.abs.heap.get? := funext (HandSHeadRun.getT_eq s)
  show obsM (HandSHeadRun.getT s) = obsM s.abs.heap.get?
  rw [e]
def loose0 : List Str := [Str.ofString "__name__", Str.ofString "InvalidClaim", Str.ofString "is_number", Str.ofString "are_values", Str.ofString "is_content", Str.ofString "is_item", Str.ofString "are_contents", Str.ofString "contents", Str.ofString "PAPER", Str.ofString "MOST_COST", Str.ofString "MOST_ROWS", Str.ofString "MOST_LINKS", Str.ofString "is_parts", Str.ofString "is_marked", Str.ofString "is_rising", Str.ofString "is_pair", Str.ofString "is_row", Str.ofString "is_row_forms", Str.ofString "are_rows", Str.ofString "is_table", Str.ofString "is_chain", Str.ofString "is_ledger", Str.ofString "is_course_form", Str.ofString "stepped", Str.ofString "made"]
def loose1 : List Str := [Str.ofString "kind_table", Str.ofString "rows_to", Str.ofString "come_to", Str.ofString "added", Str.ofString "Least", Str.ofString "chain_told", Str.ofString "row_told", Str.ofString "rows_told", Str.ofString "chain_fault", Str.ofString "ledger_fault", Str.ofString "course_fault", Str.ofString "used_rules", Str.ofString "Maker", Str.ofString "course_for", Str.ofString "MOST_RULES", Str.ofString "is_rule", Str.ofString "are_rules", Str.ofString "rows_from", Str.ofString "least_table", Str.ofString "fewest", Str.ofString "costs_in", Str.ofString "costs_in_tables", Str.ofString "things_of", Str.ofString "is_dear", Str.ofString "Closing"]
def loose2 : List Str := [Str.ofString "table_fault", Str.ofString "thing_pairs", Str.ofString "MOST_LEAKS", Str.ofString "MOST_PRICE", Str.ofString "is_leak", Str.ofString "is_wish", Str.ofString "are_prices", Str.ofString "task_fault", Str.ofString "is_task", Str.ofString "leads", Str.ofString "left_of", Str.ofString "rules_left", Str.ofString "price_of", Str.ofString "withdrawals", Str.ofString "is_good", Str.ofString "cheapest", Str.ofString "MOST_PRICES", Str.ofString "is_task_claim", Str.ofString "chain_named", Str.ofString "ledger_named", Str.ofString "papers_of", Str.ofString "leak_reason", Str.ofString "lack_reason", Str.ofString "is_within", Str.ofString "reasons_against"]
def loose3 : List Str := [Str.ofString "decide_withdraw", Str.ofString "decide_lost", Str.ofString "are_pairs", Str.ofString "is_thing_claim", Str.ofString "leading", Str.ofString "decide_can", Str.ofString "decide_least", Str.ofString "decide_safe", Str.ofString "decide_pairs", Str.ofString "MOST_THINGS", Str.ofString "ROOT", Str.ofString "is_row_trees", Str.ofString "is_folder", Str.ofString "reaches_root", Str.ofString "tree_fault", Str.ofString "is_tree", Str.ofString "path_of", Str.ofString "let_by", Str.ofString "costs_in_forecasts", Str.ofString "left_to", Str.ofString "thing_levels", Str.ofString "inside_levels", Str.ofString "all_levels", Str.ofString "levels", Str.ofString "forecast"]
def loose4 : List Str := [Str.ofString "outside_of", Str.ofString "way_for", Str.ofString "is_tree_claim", Str.ofString "decide_comes", Str.ofString "decide_never", Str.ofString "is_claim", Str.ofString "require_claim", Str.ofString "decide", Str.ofString "MOST_REASONS", Str.ofString "are_indices", Str.ofString "are_papers", Str.ofString "is_leak_reason", Str.ofString "is_lack_reason", Str.ofString "are_reasons", Str.ofString "papers_fault", Str.ofString "leak_fault", Str.ofString "lack_fault", Str.ofString "excludes", Str.ofString "reasons_fault", Str.ofString "withdraw_fault", Str.ofString "lost_fault", Str.ofString "headed", Str.ofString "every", Str.ofString "told_by", Str.ofString "course_of_fault"]
def loose5 : List Str := [Str.ofString "table_without_fault", Str.ofString "table_above_fault", Str.ofString "can_fault", Str.ofString "course_moves_fault", Str.ofString "least_fault", Str.ofString "safe_fault", Str.ofString "all_pairs_fault", Str.ofString "are_chains", Str.ofString "pairs_fault", Str.ofString "is_entry", Str.ofString "is_way", Str.ofString "entry_fault", Str.ofString "Walk", Str.ofString "way_fault", Str.ofString "closed_fault", Str.ofString "levels_of", Str.ofString "number_fault", Str.ofString "moves_fault", Str.ofString "comes_fault", Str.ofString "never_fault", Str.ofString "first_fault", Str.ofString "_law_pen", Str.ofString "_law_fresh", Str.ofString "_law_draw", Str.ofString "_law_one_of"]
def loose6 : List Str := [Str.ofString "_law_plain", Str.ofString "_law_step", Str.ofString "_law_kind", Str.ofString "_law_house_of", Str.ofString "_law_small_house", Str.ofString "_law_wide", Str.ofString "_law_trap", Str.ofString "_law_deep", Str.ofString "_law_rules", Str.ofString "_law_contents", Str.ofString "_law_stepped", Str.ofString "_law_made", Str.ofString "_law_ways", Str.ofString "_law_spots", Str.ofString "_law_sum", Str.ofString "_law_offer", Str.ofString "_law_go_on", Str.ofString "_law_least", Str.ofString "_law_pairs_of", Str.ofString "_law_item", Str.ofString "_law_side", Str.ofString "_law_some_pair", Str.ofString "_law_thing", Str.ofString "_law_bent", Str.ofString "_law_is_whole"]
def loose7 : List Str := [Str.ofString "_law_is_content", Str.ofString "_law_rises", Str.ofString "_law_are_contents", Str.ofString "_law_are_rules", Str.ofString "_law_are_pairs", Str.ofString "_law_claimed_pairs", Str.ofString "_law_small_pair", Str.ofString "_law_is_valid", Str.ofString "_law_outcome", Str.ofString "_law_some_claims"]
def loose : List Str := loose0 ++ loose1 ++ loose2 ++ loose3 ++ loose4 ++ loose5 ++ loose6 ++ loose7
abbrev qv : Program := PySem.W.view R.prog [208]
/-- the top, run -/
noncomputable abbrev endR (w : World) (os : OsState) : Option PySem.W.SharedT := HandSHeadRun.endF (HandSHeadRun.stepQ (HandSHeadRun.denQ HandSHeadRun.tabQ) R.prog w) 12000 R.prog w os
end Mv
namespace Mv
open PySem PySem.Spec PyProof.Rows L2 He
open PySem.Calls PySem.W
theorem headB (w : World) (os : OsState) : (endR w os).map (fun s => s.abs.heap.isNs mainGlobals && ((s.abs.heap.nsKeys mainGlobals).take 120).all fun k => startupNames.contains k || R.prog.boundNames.contains k) = some (true) := by
  kernel_rfl
end Mv
namespace Mv
open PySem PySem.Spec PyProof.Rows L2 He
open PySem.Calls PySem.W
theorem headC (w : World) (os : OsState) : (endR w os).map (fun s => ((s.abs.heap.nsKeys mainGlobals).drop 120).all fun k => startupNames.contains k || R.prog.boundNames.contains k) = some (true) := by
  kernel_rfl
end Mv
/-! # The row, from its run and its walk -/
namespace Mv
open PySem PySem.W PySem.Calls PyProof.Rows
abbrev dLaw : DefRec := HandSHeadRun.topDef R.prog 208
theorem row_holds (said : R.wellSaid = true) (run : ∀ w, HandSHeadRun.RunEq R qv hk ob 12000 loose w) (hc : PySem.W.WalkO qv loose (PySem.W.XL qv []) hk.says R.toRowW dLaw [] fun f vs => PySem.call f vs) : R.Holds := by
  refine HandSHeadRun.head_any (r := Mv.R) (q := Mv.qv) (H := Mv.hk) (ob := Mv.ob) (M := 12000) (loose := Mv.loose) (d := Mv.dLaw) (kwd := []) Mv.ob_eq
    (by kernel_rfl) (fun s => by kernel_rfl) run (by kernel_rfl) (by kernel_rfl) (by kernel_rfl) (by rfl) said (by decide +kernel) ⟨rfl, rfl, rfl, rfl, rfl, by decide +kernel⟩ ?hw hc
  case hw => w_witness2
end Mv
namespace Mv
open PySem PySem.Spec PyProof.Rows L2 He
open PySem.Calls PySem.W
theorem headF (w : World) (os : OsState) : (endR w os).map (fun s => (ex (frT (HandSHeadRun.getT s) (asM (HandSHeadRun.getT s))) && tabsB (HandSHeadRun.getT s) tf (frT (HandSHeadRun.getT s) (asM (HandSHeadRun.getT s))), fnI (frT (HandSHeadRun.getT s) (asM (HandSHeadRun.getT s))))) = some ((true, dInit.val)) := by
  kernel_rfl
end Mv
namespace Mv
open PySem PySem.Spec PyProof.Rows L2 He
open PySem.Calls PySem.W
theorem headE1 (w : World) (os : OsState) : (endR w os).map (fun s => (obsD fa fn (frT (HandSHeadRun.getT s) (asM (HandSHeadRun.getT s)))).1) = some ((valD fn).1) := by
  kernel_rfl
end Mv
namespace Mv
open PySem PySem.Spec PyProof.Rows L2 He
open PySem.Calls PySem.W
theorem headD2 (w : World) (os : OsState) : (endR w os).map (fun s => (HandSHeadRun.seenQ qv loose (importedModules R.prog.main.body) (fun s => PySem.W.xlAt qv [] s && PySem.W.recOk R.toRowW.records s) s.abs).2) = some ((PySem.W.openGood qv loose).2) := by
  kernel_rfl
end Mv
namespace Mv
open PySem PySem.Spec PyProof.Rows L2 He
open PySem.Calls PySem.W
theorem headE2 (w : World) (os : OsState) : (endR w os).map (fun s => (obsD fa fn (frT (HandSHeadRun.getT s) (asM (HandSHeadRun.getT s)))).2) = some ((valD fn).2) := by
  kernel_rfl
end Mv
namespace Mv
open PySem PySem.Spec PyProof.Rows L2 He
open PySem.Calls PySem.W
theorem headD1 (w : World) (os : OsState) : (endR w os).map (fun s => (HandSHeadRun.seenQ qv loose (importedModules R.prog.main.body) (fun s => PySem.W.xlAt qv [] s && PySem.W.recOk R.toRowW.records s) s.abs).1) = some ((PySem.W.openGood qv loose).1) := by
  kernel_rfl
end Mv
namespace Mv
open PySem PySem.Spec PyProof.Rows L2 He
open PySem.Calls PySem.W
theorem headA (w : World) (os : OsState) : (endR w os).map (fun s => (staticsOk (importedModules R.prog.main.body) (PySem.W.boot_heap w.params) s.abs.heap && gensDone s.abs) && laidKept (PySem.W.boot_heap w.params) s.abs.heap) = some (true) := by
  kernel_rfl
end Mv
/-! # The law's own look: what is left is the row -/
namespace Mv
open PySem PySem.W PySem.Calls PyProof.Rows
theorem law_top (h : (PySem.W.OpenLaw.row PySem.Challenge.rw_movedfolders_k35_claims_of_things_requir).wellSaid = true → (PySem.W.OpenLaw.row PySem.Challenge.rw_movedfolders_k35_claims_of_things_requir).Holds) : PySem.Challenge.rw_movedfolders_k35_claims_of_things_requir.Holds := by
  w_on; o_law
  rename_i said
  exact h said
end Mv
/-! # zip(a, b, strict=True) of two tuples of one length -/
namespace Mv
open PySem PySem.Spec PyProof.Rows L2 RZ
/-- a strict zip over the iterators that the tuple at TI holds, its own pair at TO -/
abbrev IsZs (h : Heap) (z TI TO : Addr) (f0 : Value) : Prop :=
  h.get? z = some { cls := .type "zip", dict := none, data := .fields #[f0, .bool false, .bool true, .ref TI, .ref TO], slots := #[] }
section
variable {prog : Program} {w : World} {A : Around} {E : Value → Shared → Prop} {s : Shared}
theorem draw_item {it l : Addr} {i : Nat} {items : Array Value} {x : Value} {Q : Option Value → Shared → Prop} (h1 : s.heap.IsTupleIter it l i) (h2 : s.heap.IsTuple l items) (hx : items[i]? = some x)
    (q : ∀ h', h'.IsTupleIter it l (i + 1) → Heap.SameBut it s.heap h' → Q (some x) { s with heap := h' }) : wpAny (model prog w) A (Builtin.SmallTypes.nextOrEnd (.ref it)) Q E s := by
  unfold Builtin.SmallTypes.nextOrEnd
  exact wpAny_bind (wpAny_attempt (nextOf_tuple_item h1 h2 hx fun h' a b =>
    wpAny_pure (q h' a b)))
theorem draw_end {it l : Addr} {i : Nat} {items : Array Value} {Q : Option Value → Shared → Prop} (hh : A.handled = none) (h1 : s.heap.IsTupleIter it l i) (h2 : s.heap.IsTuple l items) (hx : items[i]? = none)
    (q : ∀ h', Heap.ExtBut it s.heap h' → Q none { s with heap := h' }) : wpAny (model prog w) A (Builtin.SmallTypes.nextOrEnd (.ref it)) Q E s := by
  unfold Builtin.SmallTypes.nextOrEnd
  refine wpAny_bind (wpAny_attempt (nextOf_tuple_end hh h1 h2 hx fun h' e a he => ?_))
  obtain ⟨o, ho, hc⟩ := he
  exact wpAny_bind (wpAny_isInstance (T := "StopIteration") (b := true) ⟨o, ho, hc⟩ isSubtype_stop (wpAny_pure (q h' a)))
theorem zs_item {z TI TO i1 i2 l1 l2 : Addr} {k1 k2 : Nat} {xs ys : Array Value} {x y a b : Value} {Q : Value → Shared → Prop} (D : ZipApart z TI TO i1 i2 l1 l2)
    (hz : IsZs s.heap z TI TO .none) (hTI : IsPair s.heap TI (.ref i1) (.ref i2)) (hTO : IsPair s.heap TO a b) (h1 : s.heap.IsTupleIter i1 l1 k1) (h2 : s.heap.IsTupleIter i2 l2 k2)
    (hl1 : s.heap.IsTuple l1 xs) (hl2 : s.heap.IsTuple l2 ys) (hx : xs[k1]? = some x) (hy : ys[k2]? = some y)
    (hQ : ∀ h', IsZs h' z TI TO (rawInt s.heap.objs.size) → IsPair h' TO x y → h'.IsTupleIter i1 l1 (k1 + 1) → h'.IsTupleIter i2 l2 (k2 + 1) → IsPair h' s.heap.objs.size x y →
      h'.objs.size = s.heap.objs.size + 1 → (∀ c o, c ≠ z → c ≠ TO → c ≠ i1 → c ≠ i2 → s.heap.get? c = some o → h'.get? c = some o) → Q (.ref s.heap.objs.size) { s with heap := h' }) :
    wpAny (model prog w) A (Builtin.«zip.__next__» ⟨[.ref z], []⟩) (fun fin s' => ∃ v, fin = .done (.ret v) ∧ Q v s') E s := by
  refine wpAny_bind (m := field (.ref z) 2) (wpAny_field hz rfl (x := .bool true) rfl ?_)
  refine wpAny_bind (m := field (.ref z) 3) (wpAny_field hz rfl (x := .ref TI) rfl ?_)
  refine wpAny_bind (wpAny_seqItems hTI rfl ?_)
  refine wpAny_bind (m := Builtin.SmallTypes.ownedTupleIsFree (.ref z)) ?_
  unfold Builtin.SmallTypes.ownedTupleIsFree
  refine wpAny_bind (wpAny_field hz rfl (x := .none) rfl (wpAny_pure ?_))
  simp only [if_true]
  refine wpAny_bind (wpAny_rule (wpAny_bind (wpAny_field hz rfl (x := .ref TO) rfl ?_)))
  refine wpAny_bind (wpAny_setField_rec hz (by simp) fun g1 z1 e1 => ?_)
  replace z1 : IsZs g1 z TI TO .ellipsis := z1
  refine wpAny_bind ?_
  simp only [List.zipIdx_cons, List.zipIdx_nil, List.forIn_cons, List.forIn_nil]
  refine wpAny_bind (wpAny_bind (wpAny_onRaise ?_))
  show wpAny _ _ (Builtin.SmallTypes.nextOrEnd (.ref i1)) _ _ _
  refine draw_item (h1.extBut e1.extBut D.i1z) (hl1.extBut e1.extBut D.l1z) hx fun g2 t2 e2 => ?_
  have o2 : IsPair g2 TO a b := e2.extBut _ _ D.TOi1 (e1.extBut _ _ D.TOz hTO)
  refine wpAny_bind (wpAny_seqItems o2 rfl (wpAny_bind (wpAny_updateSeq_pair o2 fun g3 o3 e3 => ?_)))
  replace o3 : IsPair g3 TO x b := o3
  refine wpAny_bind (wpAny_letGo (wpAny_pure (wpAny_bind (wpAny_bind (wpAny_onRaise ?_)))))
  show wpAny _ _ (Builtin.SmallTypes.nextOrEnd (.ref i2)) _ _ _
  have u2 : g3.IsTupleIter i2 l2 k2 := ((h2.extBut e1.extBut D.i2z).extBut e2.extBut D.i12.symm).extBut e3.extBut D.TOi2.symm
  have v2 : g3.IsTuple l2 ys := ((hl2.extBut e1.extBut D.l2z).extBut e2.extBut D.l2i1).extBut e3.extBut D.l2TO
  refine draw_item u2 v2 hy fun g4 t4 e4 => ?_
  have o4 : IsPair g4 TO x b := e4.extBut _ _ D.TOi2 o3
  refine wpAny_bind (wpAny_seqItems o4 rfl (wpAny_bind (wpAny_updateSeq_pair o4 fun g5 o5 e5 => ?_)))
  replace o5 : IsPair g5 TO x y := o5
  refine wpAny_bind (wpAny_letGo (wpAny_pure (wpAny_pure (wpAny_bind (wpAny_seqItems o5 rfl (wpAny_bind (wpAny_newTuple ?_)))))))
  have size5 : g5.objs.size = s.heap.objs.size := by rw [e5.1, e4.1, e3.1, e2.1, e1.1]
  have z5 : IsZs g5 z TI TO .ellipsis := e5.extBut _ _ D.TOz.symm (e4.extBut _ _ D.i2z.symm (e3.extBut _ _ D.TOz.symm (e2.extBut _ _ D.i1z.symm z1)))
  have kp5 : ∀ c o, c ≠ z → c ≠ TO → c ≠ i1 → c ≠ i2 → s.heap.get? c = some o → g5.get? c = some o := fun c o c1 c2 c3 c4 e =>
    e5.extBut _ _ c2 (e4.extBut _ _ c4 (e3.extBut _ _ c2 (e2.extBut _ _ c3 (e1.extBut _ _ c1 e))))
  have t15 : g5.IsTupleIter i1 l1 (k1 + 1) := ((t2.extBut e3.extBut D.TOi1.symm).extBut e4.extBut D.i12).extBut e5.extBut D.TOi1.symm
  have t25 : g5.IsTupleIter i2 l2 (k2 + 1) := t4.extBut e5.extBut D.TOi2.symm
  have zlt : z < g5.objs.size := Heap.lt_size z5
  refine wpAny_bind (m := Builtin.SmallTypes.ownedTupleHandOut (.ref z) (.ref g5.objs.size)) ?_
  unfold Builtin.SmallTypes.ownedTupleHandOut
  have z6 : IsZs (g5.push { cls := .type "tuple", data := .seq #[x, y] }) z TI TO .ellipsis := Heap.get?_push_of_some _ z5
  refine wpAny_bind (wpAny_setField_rec z6 (by simp) fun g7 z7 e7 => ?_)
  replace z7 : IsZs g7 z TI TO (rawInt g5.objs.size) := z7
  refine wpAny_setField_rec z7 (by simp) fun g8 z8 e8 => ?_
  replace z8 : IsZs g8 z TI TO (rawInt g5.objs.size) := z8
  have up : ∀ c o, c ≠ z → g5.get? c = some o → g8.get? c = some o := fun c o c1 e => e8.extBut _ _ c1 (e7.extBut _ _ c1 (Heap.get?_push_of_some _ e))
  have T8 : IsPair g8 g5.objs.size x y := e8.extBut _ _ (Nat.ne_of_gt zlt) (e7.extBut _ _ (Nat.ne_of_gt zlt) (Heap.get?_push_size _ rfl))
  have size8 : g8.objs.size = g5.objs.size + 1 := by rw [e8.1, e7.1, Heap.size_push]
  rw [size5] at z8 T8 size8
  refine wpAny_pure ⟨_, rfl, ?_⟩
  show Q (.ref g5.objs.size) _
  rw [size5]
  exact hQ g8 z8 (up _ _ D.TOz o5) (t15.at fun o e => up _ o D.i1z e) (t25.at fun o e => up _ o D.i2z e) T8 size8 fun c o c1 c2 c3 c4 e => up c o c1 (kp5 c o c1 c2 c3 c4 e)
theorem zs_end {z TI TO i1 i2 l1 l2 : Addr} {k1 k2 : Nat} {xs ys : Array Value} {a b : Value} {Q : Fin → Shared → Prop} (hh : A.handled = none) (D : ZipApart z TI TO i1 i2 l1 l2)
    (hz : IsZs s.heap z TI TO .none) (hTI : IsPair s.heap TI (.ref i1) (.ref i2)) (hTO : IsPair s.heap TO a b) (h1 : s.heap.IsTupleIter i1 l1 k1) (h2 : s.heap.IsTupleIter i2 l2 k2)
    (hl1 : s.heap.IsTuple l1 xs) (hl2 : s.heap.IsTuple l2 ys) (hx : xs[k1]? = none) (hy : ys[k2]? = none)
    (hE : ∀ h' e, (∀ c o, c ≠ z → c ≠ TO → c ≠ i1 → c ≠ i2 → s.heap.get? c = some o → h'.get? c = some o) → (∃ o, h'.get? e = some o ∧ o.cls = .type "StopIteration") → E (.ref e) { s with heap := h' }) :
    wpAny (model prog w) A (Builtin.«zip.__next__» ⟨[.ref z], []⟩) Q E s := by
  refine wpAny_bind (m := field (.ref z) 2) (wpAny_field hz rfl (x := .bool true) rfl ?_)
  refine wpAny_bind (m := field (.ref z) 3) (wpAny_field hz rfl (x := .ref TI) rfl ?_)
  refine wpAny_bind (wpAny_seqItems hTI rfl ?_)
  refine wpAny_bind (m := Builtin.SmallTypes.ownedTupleIsFree (.ref z)) ?_
  unfold Builtin.SmallTypes.ownedTupleIsFree
  refine wpAny_bind (wpAny_field hz rfl (x := .none) rfl (wpAny_pure ?_))
  simp only [if_true]
  refine wpAny_bind (wpAny_rule (wpAny_bind (wpAny_field hz rfl (x := .ref TO) rfl ?_)))
  refine wpAny_bind (wpAny_setField_rec hz (by simp) fun g1 z1 e1 => ?_)
  replace z1 : IsZs g1 z TI TO .ellipsis := z1
  refine wpAny_bind ?_
  simp only [List.zipIdx_cons, List.zipIdx_nil, List.forIn_cons, List.forIn_nil]
  refine wpAny_bind (wpAny_bind (wpAny_onRaise ?_))
  show wpAny _ _ (Builtin.SmallTypes.nextOrEnd (.ref i1)) _ _ _
  refine draw_end hh (h1.extBut e1.extBut D.i1z) (hl1.extBut e1.extBut D.l1z) hx fun g2 e2 => ?_
  have z2 : IsZs g2 z TI TO .ellipsis := e2 _ _ D.i1z.symm z1
  refine wpAny_bind (wpAny_setField_rec z2 (by simp) fun g3 z3 e3 => ?_)
  refine wpAny_bind ?_
  with_unfolding_all show wpAny _ _ (forIn [(Value.ref i2, 1)] PUnit.unit _ >>= _) _ _ _
  refine wpAny_bind ?_
  rw [List.forIn_cons]
  have u2 : g3.IsTupleIter i2 l2 k2 := ((h2.extBut e1.extBut D.i2z).extBut e2 D.i12.symm).extBut e3.extBut D.i2z
  have v2 : g3.IsTuple l2 ys := ((hl2.extBut e1.extBut D.l2z).extBut e2 D.l2i1).extBut e3.extBut D.l2z
  refine wpAny_bind (wpAny_bind (draw_end hh u2 v2 hy fun g4 e4 => ?_))
  simp only [Option.isSome_none, Bool.false_eq_true, if_false]
  refine wpAny_pure ?_
  simp only [List.forIn_nil]
  refine wpAny_pure (wpAny_bind (wpAny_rule (wpAny_bind (m := newExc (.type "StopIteration") []) ?_)))
  simp only [newExc, newTuple]
  refine wpAny_bind (wpAny_newObj_type (wpAny_bind (m := firstArgMember _ _) (wpAny_of_eq (a := Value.none) (by first | rfl | (simp only [firstArgMember]; rfl)) (wpAny_newObj_type ?_ (by size_fits)))) (by size_fits))
  simp only [raiseNew]
  refine wpAny_bind (wpAny_handled ?_)
  rw [hh]
  refine wpAny_bind (wpAny_pure (wpAny_throw (hE _ _ (fun c o c1 _ c3 c4 x => ?_) ⟨_, Heap.get?_push_size _ rfl, rfl⟩)))
  exact Heap.get?_push_of_some _ (Heap.get?_push_of_some _ (e4 _ _ c4 (e3.extBut _ _ c1 (e2 _ _ c3 (e1.extBut _ _ c1 x)))))
theorem zs_nextItem {z TI TO i1 i2 l1 l2 : Addr} {k1 k2 : Nat} {xs ys : Array Value} {x y a b : Value} {Q : Option Value → Shared → Prop} (D : ZipApart z TI TO i1 i2 l1 l2)
    (hz : IsZs s.heap z TI TO .none) (hTI : IsPair s.heap TI (.ref i1) (.ref i2)) (hTO : IsPair s.heap TO a b) (h1 : s.heap.IsTupleIter i1 l1 k1) (h2 : s.heap.IsTupleIter i2 l2 k2)
    (hl1 : s.heap.IsTuple l1 xs) (hl2 : s.heap.IsTuple l2 ys) (hx : xs[k1]? = some x) (hy : ys[k2]? = some y)
    (hQ : ∀ h', IsZs h' z TI TO (rawInt s.heap.objs.size) → IsPair h' TO x y → h'.IsTupleIter i1 l1 (k1 + 1) → h'.IsTupleIter i2 l2 (k2 + 1) → IsPair h' s.heap.objs.size x y →
      h'.objs.size = s.heap.objs.size + 1 → (∀ c o, c ≠ z → c ≠ TO → c ≠ i1 → c ≠ i2 → s.heap.get? c = some o → h'.get? c = some o) → Q (some (.ref s.heap.objs.size)) { s with heap := h' }) :
    wpAny (model prog w) A (pyNext (.ref z)) Q E s := by
  have hT : s.TypeIs (.ref z) "zip" := ⟨_, hz, rfl⟩
  unfold pyNext
  refine wpAny_bind (wpAny_attempt (wpAny_callSpecial?_slot (name := Str.ofString "__next__") hT F.slot_zip_next (wpAny_call_entry F.slot_zip_next hT F.entry_zip_next ?_ (F.args_zip_next_1 _))))
  exact zs_item D hz hTI hTO h1 h2 hl1 hl2 hx hy fun h' a1 a2 a3 a4 a5 a6 a7 => wpAny_pure (hQ h' a1 a2 a3 a4 a5 a6 a7)
theorem zs_nextEnd {z TI TO i1 i2 l1 l2 : Addr} {k1 k2 : Nat} {xs ys : Array Value} {a b : Value} {Q : Option Value → Shared → Prop} (hh : A.handled = none) (D : ZipApart z TI TO i1 i2 l1 l2)
    (hz : IsZs s.heap z TI TO .none) (hTI : IsPair s.heap TI (.ref i1) (.ref i2)) (hTO : IsPair s.heap TO a b) (h1 : s.heap.IsTupleIter i1 l1 k1) (h2 : s.heap.IsTupleIter i2 l2 k2)
    (hl1 : s.heap.IsTuple l1 xs) (hl2 : s.heap.IsTuple l2 ys) (hx : xs[k1]? = none) (hy : ys[k2]? = none)
    (hQ : ∀ h', (∀ c o, c ≠ z → c ≠ TO → c ≠ i1 → c ≠ i2 → s.heap.get? c = some o → h'.get? c = some o) → Q none { s with heap := h' }) : wpAny (model prog w) A (pyNext (.ref z)) Q E s := by
  have hT : s.TypeIs (.ref z) "zip" := ⟨_, hz, rfl⟩
  unfold pyNext
  refine wpAny_bind (wpAny_attempt (wpAny_callSpecial?_slot (name := Str.ofString "__next__") hT F.slot_zip_next (wpAny_call_entry F.slot_zip_next hT F.entry_zip_next ?_ (F.args_zip_next_1 _))))
  refine zs_end hh D hz hTI hTO h1 h2 hl1 hl2 hx hy fun h' e hk ⟨o, ho, hc⟩ => ?_
  exact wpAny_bind (wpAny_isInstance (T := "StopIteration") (b := true) ⟨o, ho, hc⟩ isSubtype_stop (wpAny_pure (hQ _ hk)))
theorem zs_letGo {elts : List Expr} {kk : Nat} {pos : Pos} {z TI TO T : Addr} {Q : Unit → Shared → Prop} (hz : IsZs s.heap z TI TO (rawInt T))
    (hQ : ∀ h', IsZs h' z TI TO .none → Heap.SameBut z s.heap h' → Q () { s with heap := h' }) : wpAny (model prog w) A (letOwnedTupleGo (.Tuple elts kk pos) (.ref z) (.ref T)) Q E s := by
  have hc : (["enumerate", "zip", "dict_itemiterator", "dict_reverseitemiterator", "odict_iterator", "itertools.zip_longest", "itertools.pairwise"].contains "zip" && (#[rawInt T, .bool false, .bool true, .ref TI, .ref TO] : Array Value)[0]? == some (rawInt T)) = true := by simp
  have step : wpAny (model prog w) A (setField (.ref z) 0 .none) Q E s :=
    wpAny_setField_rec hz (by simp) fun h' hz' hs' => hQ h' hz' hs'
  unfold letOwnedTupleGo
  exact wpAny_bind (wpAny_load hz (by
    show wpAny _ _ (if _ = true then _ else _) Q E s
    rw [if_pos hc]
    exact wpAny_bind (wpAny_rule step)))
theorem zs_iter {z TI TO : Addr} {f0 : Value} {Q : Value → Shared → Prop} (hz : IsZs s.heap z TI TO f0) (h : Q (.ref z) s) : wpAny (model prog w) A (pyIter (.ref z)) Q E s := by
  have hT : s.TypeIs (.ref z) "zip" := ⟨_, hz, rfl⟩
  exact wpAny_pyIter_slot hT F.slot_zip_iter (wpAny_call_entry F.slot_zip_iter hT F.entry_zip_iter (wpAny_pure ⟨_, rfl, "zip", _, hT, F.slot_zip_next.lookup, h⟩) (F.args_zip_iter_1 _))
end
/-! the making -/
abbrev zsA (h : Heap) (a : Addr) : Heap := h.push { cls := .type "tuple_iterator", data := .fields #[.ref a, .int 0 0] }
abbrev zsB (h : Heap) (a b : Addr) : Heap := (zsA h a).push { cls := .type "tuple_iterator", data := .fields #[.ref b, .int 0 0] }
abbrev zsC (h : Heap) (a b : Addr) : Heap := (zsB h a b).push { cls := .type "tuple", data := .seq #[.ref h.objs.size, .ref (zsA h a).objs.size] }
abbrev zsD (h : Heap) (a b : Addr) : Heap := (zsC h a b).push { cls := .type "tuple", data := .seq #[.none, .none] }
abbrev zsE (h : Heap) (a b : Addr) : Heap := (zsD h a b).push { cls := .type "zip", data := .fields #[.none, .bool false, .bool true, .ref (zsB h a b).objs.size, .ref (zsC h a b).objs.size] }
theorem meets_zs (a b : Addr) (xs ys : Array Value) :
    Meets (Builtin.«zip.__new__» ⟨[.type "zip", .ref a, .ref b], [(Str.ofString "strict", .bool true)]⟩) (fun _ R s => s.heap.IsTuple a xs ∧ s.heap.IsTuple b ys ∧ R (.ok (.ret (.ref (zsD s.heap a b).objs.size))) { s with heap := zsE s.heap a b }) :=
  .of_wp fun prog w A R s h => by
    obtain ⟨hp, g, d, tk, os⟩ := s
    obtain ⟨h1, h2, h⟩ := h
    have hsub := sub_zip
    have k1 : Heap.IsTuple (Shared.heap ⟨hp, g, d, tk, os⟩) a xs := h1
    have k2 : Heap.IsTuple (Shared.heap ⟨hp.push { cls := .type "tuple_iterator", data := .fields #[.ref a, .int 0 0] }, g, d, tk, os⟩) b ys := Heap.IsTuple.push h2 _
    have e1 : (Str.ofString "strict" == ("strict" : Str)) = true := by decide +kernel
    have e2 : (Str.ofString "strict" != ("strict" : Str)) = false := by decide +kernel
    wp_walk using wpAny_pyIter_tuple k1, wpAny_pyIter_tuple k2
    exact ⟨_, rfl, h⟩
section
variable {prog : Program} {w : World} {A : Around} {E : Value → Shared → Prop} {s : Shared}
theorem tc_zs (a b c : Value) : checkTypeCall "zip" ⟨[a, b], [(Str.ofString "strict", c)]⟩ = pure () := by kernel_rfl
theorem nc_zs (a b c : Value) : checkBuiltinCall "zip.__new__" ⟨[.type "zip", a, b], [(Str.ofString "strict", c)]⟩ = pure () := by kernel_rfl
theorem ao_zs (o a b c : Value) : argsOk "object.__init__" ⟨[o, a, b], [(Str.ofString "strict", c)]⟩ := by unfold argsOk; kernel_rfl
theorem call_zs {a b : Addr} {xs ys : Array Value} {Q : Value → Shared → Prop} (h1 : s.heap.IsTuple a xs) (h2 : s.heap.IsTuple b ys)
    (h : ∀ h', IsZs h' (s.heap.objs.size + 4) (s.heap.objs.size + 2) (s.heap.objs.size + 3) .none → IsPair h' (s.heap.objs.size + 2) (.ref s.heap.objs.size) (.ref (s.heap.objs.size + 1)) → IsPair h' (s.heap.objs.size + 3) .none .none →
      h'.IsTupleIter s.heap.objs.size a 0 → h'.IsTupleIter (s.heap.objs.size + 1) b 0 → (∀ c o, s.heap.get? c = some o → h'.get? c = some o) → Q (.ref (s.heap.objs.size + 4)) { s with heap := h' }) :
    wpAny (model prog w) A (call (.type "zip") [.ref a, .ref b] [(Str.ofString "strict", .bool true)]) Q E s := by
  refine callType_newKw F.called_zip (by decide) (tc_zs _ _ _) (nc_zs _ _ _) (fun obj => ao_zs obj _ _ _) F.entry_zip_new (meets_zs a b xs ys) ⟨h1, h2, ?_⟩
  have n1 : (zsA s.heap a).objs.size = s.heap.objs.size + 1 := Heap.size_push ..
  have n2 : (zsB s.heap a b).objs.size = s.heap.objs.size + 2 := by rw [Heap.size_push, n1]
  have n3 : (zsC s.heap a b).objs.size = s.heap.objs.size + 3 := by rw [Heap.size_push, n2]
  have n4 : (zsD s.heap a b).objs.size = s.heap.objs.size + 4 := by rw [Heap.size_push, n3]
  have old : ∀ {h : Heap} {o : Obj} {c : Addr} {u : Obj}, h.get? c = some u → (h.push o).get? c = some u := fun e => Heap.get?_push_of_some _ e
  have g5 : (zsE s.heap a b).get? (zsD s.heap a b).objs.size = some _ := Heap.get?_push_size _ rfl
  have g4 : (zsE s.heap a b).get? (zsC s.heap a b).objs.size = some _ := old (Heap.get?_push_size _ rfl)
  have g3 : (zsE s.heap a b).get? (zsB s.heap a b).objs.size = some _ := old (old (Heap.get?_push_size _ rfl))
  have g2 : (zsE s.heap a b).get? (zsA s.heap a).objs.size = some _ := old (old (old (Heap.get?_push_size _ rfl)))
  have g1 : (zsE s.heap a b).get? s.heap.objs.size = some _ := old (old (old (old (Heap.get?_push_size _ rfl))))
  show _ ∧ _
  rw [n2, n3, n4] at g5
  rw [n1, n2] at g3
  rw [n3] at g4
  rw [n1] at g2
  rw [n4]
  exact ⟨⟨_, g5, rfl⟩, h _ g5 g3 g4 ⟨_, g1, rfl, rfl⟩ ⟨_, g2, rfl, rfl⟩ fun c o x => old (old (old (old (old x))))⟩
theorem callWith_typeK {M : Model} {env : Env} {pos : Pos} {T : String} {e : Expr} {rest : List Expr} {kws : List Keyword} {Q : Value → Shared → Prop}
    (h : wpAny M A (spliced (backTo pos (starEach (e :: rest) env))) (fun vs s1 => wpAny M A (evalAll ((backToKw pos (keywordEach kws env)).map (·.2)))
      (fun us s2 => wpAny M A (call (.type T) vs (((backToKw pos (keywordEach kws env)).filterMap (·.1)).zip us)) Q E s2) E s1) E s)
    (he : backTo pos (starEach (e :: rest) env) = (false, eval e env) :: backTo pos (starEach rest env))
    (h1 : (backTo pos (starEach (e :: rest) env)).any (·.1) = false) (h2 : (backToKw pos (keywordEach kws env)).all (·.1.isSome) = true) (h3 : (backToKw pos (keywordEach kws env)).any (·.1.isNone) = false) :
    wpAny M A (callWith pos (.type T) [] (backTo pos (starEach (e :: rest) env)) (backToKw pos (keywordEach kws env))) Q E s := by
  have k : wpAny M A (evalArgs (.type T) true (backTo pos (starEach (e :: rest) env)) (backToKw pos (keywordEach kws env))) (fun a s1 => wpAny M A (call (.type T) ([] ++ a.pos) a.kw) Q E s1) E s := by
    rw [he] at h ⊢
    exact PyProof.Rows.evalArgs_kwB h2 h
  unfold callWith
  refine wpAny_bind (wpAny_holding (wpAny_mono k (fun a s1 h4 => wpAny_bind (wpAny_standAt ?_)) fun _ _ x => x))
  simp only [h1, h3, Bool.or_false]
  exact wpAny_bind (wpAny_pure (wpAny_bind (wpAny_mono h4 (fun r s2 hr => wpAny_bind (wpAny_holding (wpAny_point (wpAny_pure hr)))) fun _ _ x => x)))
end
/-! the walk -/
/-- the items of two tuples of one length, in new pairs -/
def Its (K : PySem.W.Frag) (a b : Addr) : It :=
  ⟨fun i H => ∃ (xs ys : List V) (x y : V), SqT K H a xs ∧ SqT K H b ys ∧ xs[i]? = some x ∧ ys[i]? = some y,
    fun i H v H' => ∃ T x y, v = .ref T ∧ H T = none ∧ H' = upd H T (.tup [x, y]) ∧ (∀ xs, SqT K H a xs → xs[i]? = some x) ∧ ∀ ys, SqT K H b ys → ys[i]? = some y,
    fun i H => ∃ xs ys : List V, SqT K H a xs ∧ SqT K H b ys ∧ xs.length ≤ i ∧ ys.length ≤ i⟩
theorem turn_zs {P : Program} {w : World} {K : PySem.W.Frag} {elts : List Expr} {kk : Nat} {tpos : Pos} {a b z TI TO i1 i2 : Addr} (D : ZipApart z TI TO i1 i2 a b) :
    Turn P w K (.Tuple elts kk tpos) (Its K a b) [z, TI, TO, i1, i2] z (fun i h => IsZs h z TI TO .none ∧ IsPair h TI (.ref i1) (.ref i2) ∧ (∃ x y, IsPair h TO x y) ∧ h.IsTupleIter i1 a i ∧ h.IsTupleIter i2 b i) where
  mem := by simp
  obj := fun i h st c hc => by
    obtain ⟨hz, hTI, ⟨x, y, hTO⟩, ⟨o1, e1, _, d1⟩, ⟨o2, e2, _, d2⟩⟩ := st
    simp only [List.mem_cons, List.not_mem_nil, or_false] at hc
    rcases hc with rfl | rfl | rfl | rfl | rfl
    · exact ⟨_, hz, fun v q => nomatch q⟩
    · exact ⟨_, hTI, fun v q => nomatch q⟩
    · exact ⟨_, hTO, fun v q => nomatch q⟩
    · exact ⟨o1, e1, fun v q => by rw [d1] at q; cases q⟩
    · exact ⟨o2, e2, fun v q => by rw [d2] at q; cases q⟩
  keep := fun i h h' st k => by
    obtain ⟨hz, hTI, ⟨x, y, hTO⟩, h1, h2⟩ := st
    exact ⟨k z (by simp) _ hz, k TI (by simp) _ hTI, ⟨x, y, k TO (by simp) _ hTO⟩, h1.at fun o => k i1 (by simp) o, h2.at fun o => k i2 (by simp) o⟩
  item := by
    intro X hP hw hK hc i pins s σ H E I hf st hg
    subst hP hw hK
    obtain ⟨hz, hTI, ⟨x0, y0, hTO⟩, h1, h2⟩ := st
    obtain ⟨xs, ys, x, y, hqx, hqy, hx, hy⟩ := hg
    obtain ⟨its, rv, p, _⟩ := I.tuple hqx
    obtain ⟨its2, rv2, p2, _⟩ := I.tuple hqy
    obtain ⟨u, hu, ru⟩ := rv.get hx
    obtain ⟨u2, hu2, ru2⟩ := rv2.get hy
    have hzl : z < s.heap.objs.size := Heap.lt_size hz
    have lt : ∀ c, c ∈ [z, TI, TO, i1, i2] → c < s.heap.objs.size := fun c hcm => by
      simp only [List.mem_cons, List.not_mem_nil, or_false] at hcm
      obtain ⟨_, e1, _⟩ := id h1
      obtain ⟨_, e2, _⟩ := id h2
      rcases hcm with rfl | rfl | rfl | rfl | rfl
      all_goals first | exact hzl | exact Heap.lt_size hTI | exact Heap.lt_size hTO | exact Heap.lt_size e1 | exact Heap.lt_size e2
    refine zs_nextItem D hz hTI hTO h1 h2 p p2 (x := u) (y := u2) (by simpa using hu) (by simpa using hu2) fun h' z' TO' t1 t2 hT hsz hk => ?_
    refine ⟨_, rfl, zs_letGo (s := { s with heap := h' }) z' fun h'' z'' sb => ?_⟩
    have hT2 : h''.get? s.heap.objs.size = some { cls := .type "tuple", data := .seq ([u, u2] : List Value).toArray } := (sb.2 _ (Nat.ne_of_gt hzl)).trans hT
    have nw : ObjOk X.prog X.w (upd H s.heap.objs.size (.tup [x, y])) h'' s.heap.objs.size (.tup [x, y]) := ⟨by show 2 ≤ sizeLine; decide, [u, u2], .cons ru (.cons ru2 .nil), ⟨_, hT2, rfl, _, rfl⟩⟩
    have kp : ∀ c o, c ∉ [z, TI, TO, i1, i2] → s.heap.get? c = some o → h''.get? c = some o := fun c o hb q => by
      simp only [List.mem_cons, List.not_mem_nil, or_false, not_or] at hb
      exact (sb.2 c hb.1).trans (hk c o hb.1 hb.2.2.1 hb.2.2.2.1 hb.2.2.2.2 q)
    refine ⟨.ref s.heap.objs.size, _, I.turnedNew (t' := s.toks) kp hf (Nat.le_refl _) nw, rfl, ⟨_, x, y, rfl, I.hok.fresh (Nat.le_refl _), rfl, fun l hl => by rw [I.tuple_inj hl hqx]; exact hx, fun l hl => by rw [I.tuple_inj hl hqy]; exact hy⟩, ⟨z'', ?_, ⟨u, u2, ?_⟩, ?_, ?_⟩, fun c hcm => ?_⟩
    · exact (sb.2 _ D.TIz).trans (hk _ _ D.TIz D.TITO D.TIi1 D.TIi2 hTI)
    · exact (sb.2 _ D.TOz).trans TO'
    · exact t1.at fun o => (sb.2 _ D.i1z).trans
    · exact t2.at fun o => (sb.2 _ D.i2z).trans
    · rw [upd_ne (Nat.ne_of_lt (lt c hcm))]
      exact (hf c hcm).1
  done := by
    intro X hP hw hK hc i pins s σ H E I hf st hg
    subst hP hw hK
    obtain ⟨hz, hTI, ⟨x0, y0, hTO⟩, h1, h2⟩ := st
    obtain ⟨xs, ys, hqx, hqy, l1, l2⟩ := hg
    obtain ⟨its, rv, p, _⟩ := I.tuple hqx
    obtain ⟨its2, rv2, p2, _⟩ := I.tuple hqy
    have n1 := rv.length
    have n2 := rv2.length
    refine zs_nextEnd (I.ok.hd hc) D hz hTI hTO h1 h2 p p2 (by simp; omega) (by simp; omega) fun h' hk => ⟨rfl, I.turnedL (t' := s.toks) (ch := [z, TI, TO, i1, i2]) (fun c o hb q => ?_) hf⟩
    simp only [List.mem_cons, List.not_mem_nil, or_false, not_or] at hb
    exact hk c o hb.1 hb.2.2.1 hb.2.2.2.1 hb.2.2.2.2 q
  self := fun A i s Q E st h => zs_iter st.1 h
def iZs (K : PySem.W.Frag) (ta tk : TA) : TI := fun σ H R => ta σ H fun vs H1 => tk σ H1 fun zs H2 => ∃ a b xs ys, vs = [.ref a, .ref b] ∧ zs = [.bl true] ∧ SqT K H2 a xs ∧ SqT K H2 b ys ∧ R (Its K a b) H2
theorem pi_zs {X : Cx} {e e2 : Expr} {ta tk : TA} {p pos tpos : Pos} {elts : List Expr} {kk : Nat} {kws : List Keyword} (hg : Gl X "zip") (hm : X.mg "zip" = none) (ha : PA X [e, e2] ta) (hk : PK X kws tk)
    (he : backTo pos (starEach [e, e2] X.env) = (false, eval e X.env) :: backTo pos (starEach [e2] X.env) := by rfl) (h1 : (backTo pos (starEach [e, e2] X.env)).any (·.1) = false := by rfl)
    (h2 : (backToKw pos (keywordEach kws X.env)).all (·.1.isSome) = true := by rfl) (h3 : (backToKw pos (keywordEach kws X.env)).any (·.1.isNone) = false := by rfl) (h4 : (backToKw pos (keywordEach kws X.env)).filterMap (·.1) = [Str.ofString "strict"] := by rfl) :
    PI X (.Tuple elts kk tpos) (.Call (.Name "zip" p) [e, e2] kws pos) (iZs X.K ta tk) := by
  refine ⟨fun pins s σ H R I h => ?_⟩
  refine wpAny_Call_Name_kw (ld_blt I hg hm PyProof.Rows.boot_zip (callWith_typeK (thn (ha.run pos pins s σ H _ I h) fun us s1 ⟨vs, H1, I1, r1, q1⟩ => thn (hk.run pos pins s1 σ H1 _ I1 q1) fun ws s2 ⟨zs, H2, I2, r2, q2⟩ => ?_) he h1 h2 h3))
  obtain ⟨a, b, xs, ys, ex, ez, hqx, hqy, q⟩ := q2
  subst ex ez
  rw [h4]
  obtain ⟨u, u', rfl, ra, rb⟩ := r1.two
  obtain ⟨k, rfl, rk⟩ := r2.one
  cases ra
  cases rb
  cases rk
  have fresh : ∀ c, c ∈ [s2.heap.objs.size + 4, s2.heap.objs.size + 2, s2.heap.objs.size + 3, s2.heap.objs.size, s2.heap.objs.size + 1] → FpOk X pins H2 c := fun c hcm => by
    have hle : s2.heap.objs.size ≤ c := by
      simp only [List.mem_cons, List.not_mem_nil, or_false] at hcm
      rcases hcm with rfl | rfl | rfl | rfl | rfl <;> first | exact Nat.le_refl _ | exact Nat.le_add_right _ _
    exact I2.fpOk hle (I2.hok.fresh hle)
  obtain ⟨its, rv, p1, _⟩ := I2.tuple hqx
  obtain ⟨its2, rv2, p2, _⟩ := I2.tuple hqy
  obtain ⟨o1, ho1, _⟩ := id p1
  obtain ⟨o2, ho2, _⟩ := id p2
  refine call_zs (show s2.heap.IsTuple a its.toArray from p1) (show s2.heap.IsTuple b its2.toArray from p2) fun h' hz hTI hTO t1 t2 hk' => zs_iter hz ?_
  exact ⟨_, _, _, _, H2, rfl, I2.kept (t' := s2.toks) hk', turn_zs (PySem.W.ktu_apart s2.heap.objs.size a b (Heap.lt_size ho1) (Heap.lt_size ho2)), ⟨hz, hTI, ⟨_, _, hTO⟩, t1, t2⟩, fresh, q⟩
end Mv
/-! # Operations on data -/
namespace Mv
open PySem PySem.Spec PyProof.Rows L2 He
section
variable {X : Cx} {K : PySem.W.Frag} {b : Bool} {p : Addr × Addr} {S : List Addr} {σ : L2.St} {H H' : Hp} {ta tb tc te : TE} {R R1 R2 : PyData → Prop}
/-! ### isinstance -/
def tyN : PyData → String
  | .none => "NoneType"
  | .bool _ => "bool"
  | .int _ => "int"
  | .str _ => "str"
  | .list _ => "list"
  | .tuple _ => "tuple"
  | .dict _ => "dict"
theorem At.ty {v : V} {d : PyData} (h : At S H v d) : TyX K H v (.type (tyN d)) := by
  cases h with
  | non => exact .base .non
  | bl k => exact .base (.bl k)
  | int i => exact .base (.int i)
  | str x => exact .base (.str x)
  | lst n h r => exact .base (.lst h)
  | tup n h r => exact .base (.tup h)
  | emp n h => exact .base (.dK h)
def isB : PyData → Bool
  | .bool _ => true
  | _ => false
def isI : PyData → Bool
  | .bool _ => true
  | .int _ => true
  | _ => false
def isT : PyData → Bool
  | .tuple _ => true
  | _ => false
def isS : PyData → Bool
  | .str _ => true
  | _ => false
theorem kit_bool (d : PyData) : kitB (tyN d) "bool" = some (isB d) := by
  cases d with
  | none => exact (by decide +kernel : kitB "NoneType" "bool" = some false)
  | bool _ => exact (by decide +kernel : kitB "bool" "bool" = some true)
  | int _ => exact (by decide +kernel : kitB "int" "bool" = some false)
  | str _ => exact (by decide +kernel : kitB "str" "bool" = some false)
  | list _ => exact (by decide +kernel : kitB "list" "bool" = some false)
  | tuple _ => exact (by decide +kernel : kitB "tuple" "bool" = some false)
  | dict _ => exact (by decide +kernel : kitB "dict" "bool" = some false)
theorem kit_int (d : PyData) : kitB (tyN d) "int" = some (isI d) := by
  cases d with
  | none => exact (by decide +kernel : kitB "NoneType" "int" = some false)
  | bool _ => exact (by decide +kernel : kitB "bool" "int" = some true)
  | int _ => exact (by decide +kernel : kitB "int" "int" = some true)
  | str _ => exact (by decide +kernel : kitB "str" "int" = some false)
  | list _ => exact (by decide +kernel : kitB "list" "int" = some false)
  | tuple _ => exact (by decide +kernel : kitB "tuple" "int" = some false)
  | dict _ => exact (by decide +kernel : kitB "dict" "int" = some false)
theorem kit_tuple (d : PyData) : kitB (tyN d) "tuple" = some (isT d) := by
  cases d with
  | none => exact (by decide +kernel : kitB "NoneType" "tuple" = some false)
  | bool _ => exact (by decide +kernel : kitB "bool" "tuple" = some false)
  | int _ => exact (by decide +kernel : kitB "int" "tuple" = some false)
  | str _ => exact (by decide +kernel : kitB "str" "tuple" = some false)
  | list _ => exact (by decide +kernel : kitB "list" "tuple" = some false)
  | tuple _ => exact (by decide +kernel : kitB "tuple" "tuple" = some true)
  | dict _ => exact (by decide +kernel : kitB "dict" "tuple" = some false)
theorem kit_str (d : PyData) : kitB (tyN d) "str" = some (isS d) := by
  cases d with
  | none => exact (by decide +kernel : kitB "NoneType" "str" = some false)
  | bool _ => exact (by decide +kernel : kitB "bool" "str" = some false)
  | int _ => exact (by decide +kernel : kitB "int" "str" = some false)
  | str _ => exact (by decide +kernel : kitB "str" "str" = some true)
  | list _ => exact (by decide +kernel : kitB "list" "str" = some false)
  | tuple _ => exact (by decide +kernel : kitB "tuple" "str" = some false)
  | dict _ => exact (by decide +kernel : kitB "dict" "str" = some false)
theorem ev_isi {T : String} {d : PyData} {k : Bool} (h : Ev b p S te σ H fun z => z = d) (hk : kitB (tyN d) T = some k) : Ev b p S (tCB (rIsi K) (tCons te (tCons (tC (.ty T)) tNil))) σ H fun z => z = .bool k := fun H1 e P Q q =>
  h H1 e P _ fun v H2 z e2 P2 a2 r => ⟨v, .ty T, .type (tyN d), .type T, k, rfl, .ty T, r ▸ a2.ty, kit_ty hk, q _ H2 _ e2 P2 (.bl k) rfl⟩
theorem pe_isi {e : Expr} {T : String} {x : Str} {p1 p2 pos : Pos} (hg : Gl X "isinstance") (hm : X.mg "isinstance" = none) (he : PE X e te) (hg2 : Gl X x) (hm2 : X.mg x = none) (hv : bootBuiltins x = some (.type T)) (hn : x ≠ "__name__" := by decide) (hd : (x == ("__debug__" : Str)) = false := by decide)
    (hs : starEach [e, .Name x p2] X.env = (false, eval e X.env) :: starEach [.Name x p2] X.env := by rfl) (hs2 : starEach [.Name x p2] X.env = (false, eval (.Name x p2) X.env) :: starEach [] X.env := by rfl)
    (hpl : (backTo pos (starEach [.Name x p2] X.env)).any (·.1) = false := by rfl) : PE X (.Call (.Name "isinstance" p1) [e, .Name x p2] [] pos) (tCB (rIsi X.K) (tCons te (tCons (tC (.ty T)) tNil))) :=
  pe_callB call_isi hg hm (by decide +kernel) (pa_cons he (pa_cons (pe_bltn hg2 hm2 hv rfl hn hd) pa_nil hs2) hs) (by decide) (by decide) hs hpl
theorem bb_bool : bootBuiltins "bool" = some (.type "bool") := by decide +kernel
theorem bb_int : bootBuiltins "int" = some (.type "int") := by decide +kernel
theorem bb_tuple : bootBuiltins "tuple" = some (.type "tuple") := by decide +kernel
theorem bb_str : bootBuiltins "str" = some (.type "str") := by decide +kernel
/-! ### numbers -/
theorem rv_I0 {g : Int → Int → V} {i j : Int} {z : PyData} (h : ∀ H, At S H (g i j) z) : Rv2 b p S (rI0 g) (.int i) (.int j) (fun y => y = z) := fun x y H P a1 a2 Q q => by
  cases a1
  cases a2
  exact ⟨i, j, rfl, rfl, q _ H _ Rl.refl P (h H) rfl⟩
theorem rv_I {C : Int → Int → Prop} {g : Int → Int → V} {i j : Int} {z : PyData} (hc : C i j) (h : ∀ H, At S H (g i j) z) : Rv2 b p S (rI C g) (.int i) (.int j) (fun y => y = z) := fun x y H P a1 a2 Q q => by
  cases a1
  cases a2
  exact ⟨i, j, rfl, rfl, hc, q _ H _ Rl.refl P (h H) rfl⟩
theorem ev_I0 {g : Int → Int → V} {i j : Int} {z : PyData} (ha : Ev b p S ta σ H fun z => z = .int i) (hb : Ev b p S tb σ H fun z => z = .int j) (h : ∀ H, At S H (g i j) z) : Ev b p S (tOp (rI0 g) ta tb) σ H fun y => y = z :=
  ev_op ha hb fun d e hd he => by
    subst hd he
    exact rv_I0 h
theorem ev_I {C : Int → Int → Prop} {g : Int → Int → V} {i j : Int} {z : PyData} (ha : Ev b p S ta σ H fun z => z = .int i) (hb : Ev b p S tb σ H fun z => z = .int j) (hc : C i j) (h : ∀ H, At S H (g i j) z) : Ev b p S (tOp (rI C g) ta tb) σ H fun y => y = z :=
  ev_op ha hb fun d e hd he => by
    subst hd he
    exact rv_I hc h
/-- a < b < c of numbers -/
theorem ev_chain {g g' : Int → Int → Bool} {i j l : Int} (ha : Ev b p S ta σ H fun z => z = .int i) (hb : Ev b p S tb σ H fun z => z = .int j) (hc : Ev b p S tc σ H fun z => z = .int l) :
    Ev b p S (tChain (rI0 fun i j => .bl (g i j)) (rI0 fun i j => .bl (g' i j)) ta tb tc) σ H fun z => z = .bool (g i j && g' j l) := fun H1 e P Q q =>
  ha H1 e P _ fun x H2 d e2 P2 a2 r1 => hb H2 (e.trans e2) P2 _ fun y H3 f e3 P3 a3 r2 => by
    subst r1 r2
    cases a2
    cases a3
    refine ⟨i, j, rfl, rfl, g i j, rfl, ?_⟩
    cases hg : g i j with
    | false => exact (show Q (.bl false) H3 from q _ H3 _ (e2.trans e3) P3 (.bl false) (by simp [hg]))
    | true =>
      refine (show tc σ H3 _ from hc H3 ((e.trans e2).trans e3) P3 _ fun w H4 k e4 P4 a4 r4 => ?_)
      subst r4
      cases a4
      exact ⟨j, l, rfl, rfl, q _ H4 _ ((e2.trans e3).trans e4) P4 (.bl _) (by simp [hg])⟩
/-! ### lengths, places -/
def rLenX (K : PySem.W.Frag) : List V → Hp → VK → Prop := fun xs H Q => ∃ x n, xs = [x] ∧ LenV K x H n ∧ Q (.int n) H
def items : PyData → List PyData
  | .tuple ds => ds
  | .list ds => ds
  | _ => []
def isSeq : PyData → Bool
  | .tuple _ => true
  | .list _ => true
  | _ => false
theorem At.seq {v : V} {d : PyData} (h : At S H v d) (s : isSeq d = true) : ∃ a xs, v = .ref a ∧ a ∉ S ∧ (SqL K H a xs ∨ SqT K H a xs) ∧ Ats S H xs (items d) := by
  cases h with
  | lst n h r => exact ⟨_, _, rfl, n, .inl (SqL.of h), r⟩
  | tup n h r => exact ⟨_, _, rfl, n, .inr (SqT.of h), r⟩
  | _ => cases s
theorem ev_len {d : PyData} (h : Ev b p S te σ H fun z => z = d) (s : isSeq d = true) : Ev b p S (tCB (rLenX K) (tCons te tNil)) σ H fun z => z = .int ((items d).length : Int) := fun H1 e P Q q =>
  h H1 e P _ fun v H2 z e2 P2 a2 r => by
    subst r
    obtain ⟨a, xs, rfl, _, hs, r⟩ := a2.seq (K := K) s
    refine ⟨.ref a, (items z).length, rfl, ?_, q _ H2 _ e2 P2 (.int _) rfl⟩
    rcases hs with hs | hs
    · exact .inl ⟨xs, hs, r.length.symm⟩
    · exact .inr ⟨xs, hs, r.length.symm⟩
theorem pe_len {e : Expr} {p1 pos : Pos} (hg : Gl X "len") (hm : X.mg "len" = none) (he : PE X e te) (hs : starEach [e] X.env = (false, eval e X.env) :: starEach [] X.env := by rfl) (hpl : (backTo pos (starEach [] X.env)).any (·.1) = false := by rfl) :
    PE X (.Call (.Name "len" p1) [e] [] pos) (tCB (rLenX X.K) (tCons te tNil)) := pe_callB call_len hg hm PySem.boot_len (pa_cons he pa_nil hs) (by decide) (by decide) hs hpl
theorem atI_of {α β : Type} {xs : List α} {ys : List β} {i : Int} {y : β} (hl : xs.length = ys.length) (h : atI ys i = some y) : ∃ (j : Nat) (x : α), ys[j]? = some y ∧ xs[j]? = some x ∧ atI xs i = some x := by
  unfold atI at h ⊢
  cases e : ixN ys.length i with
  | none =>
    rw [e] at h
    cases h
  | some j =>
    rw [e] at h
    have h' : ys[j]? = some y := h
    have hj : j < ys.length := (List.getElem?_eq_some_iff.mp h').1
    obtain ⟨x, hx⟩ : ∃ x, xs[j]? = some x := ⟨xs[j]'(by omega), List.getElem?_eq_getElem (by omega)⟩
    refine ⟨j, x, h', hx, ?_⟩
    rw [hl, e]
    exact hx
/-- xs[i] of a list or a tuple -/
theorem ev_ix {d z : PyData} {i : Int} (ha : Ev b p S ta σ H fun y => y = d) (hb : Ev b p S tb σ H fun y => y = .int i) (s : isSeq d = true) (hz : atI (items d) i = some z) : Ev b p S (tOp (rIx K) ta tb) σ H fun y => y = z :=
  ev_op ha hb fun d1 e1 h1 h2 x y H1 P a1 a2 Q q => by
    subst h1 h2
    cases a2
    obtain ⟨a, xs, rfl, _, hs, r⟩ := a1.seq (K := K) s
    obtain ⟨j, v, g1, g2, g3⟩ := atI_of r.length hz
    obtain ⟨z', g4, g5⟩ := r.get g2
    rw [g1] at g4
    cases g4
    have k := q v H1 z Rl.refl P g5 rfl
    rcases hs with hs | hs
    · exact .inl ⟨a, xs, i, v, rfl, rfl, hs, g3, k⟩
    · exact .inr (.inl ⟨a, xs, i, v, rfl, rfl, hs, g3, k⟩)
theorem ev_ixN {d z : PyData} {j : Nat} (ha : Ev b p S ta σ H fun y => y = d) (hb : Ev b p S tb σ H fun y => y = .int (j : Int)) (s : isSeq d = true) (hz : (items d)[j]? = some z) : Ev b p S (tOp (rIx K) ta tb) σ H fun y => y = z := ev_ix ha hb s (atI_nat hz)
/-! ### == of scalars -/
def scalD : PyData → PyData → Bool
  | .none, .none => true | .none, .int _ => true | .int _, .none => true | .none, .bool _ => true | .bool _, .none => true | .none, .str _ => true | .str _, .none => true
  | .int _, .int _ => true | .bool _, .bool _ => true | .str _, .str _ => true
  | .int _, .str _ => true | .str _, .int _ => true | .bool _, .str _ => true | .str _, .bool _ => true
  | _, _ => false
def eqS : PyData → PyData → Bool
  | .none, .none => true
  | .int i, .int j => decide (i = j)
  | .bool i, .bool j => decide (i = j)
  | .str i, .str j => decide (i = j)
  | _, _ => false
theorem scal_at {x y : V} {d e : PyData} (h1 : At S H x d) (h2 : At S H y e) (s : scalD d e = true) : scal x y = true ∧ decide (x = y) = eqS d e := by
  cases h1 <;> cases h2 <;> first | (cases s; done) | (refine ⟨rfl, ?_⟩; simp [eqS])
theorem ev_eqS {d e : PyData} (ha : Ev b p S ta σ H fun y => y = d) (hb : Ev b p S tb σ H fun y => y = e) (s : scalD d e = true) : Ev b p S (tOp rEq ta tb) σ H fun y => y = .bool (eqS d e) :=
  ev_op ha hb fun d1 e1 h1 h2 x y H1 P a1 a2 Q q => by
    subst h1 h2
    obtain ⟨g1, g2⟩ := scal_at a1 a2 s
    exact ⟨g1, by rw [g2]; exact q _ H1 _ Rl.refl P (.bl _) rfl⟩
theorem ev_neS {d e : PyData} (ha : Ev b p S ta σ H fun y => y = d) (hb : Ev b p S tb σ H fun y => y = e) (s : scalD d e = true) : Ev b p S (tOp rNe ta tb) σ H fun y => y = .bool (!eqS d e) :=
  ev_op ha hb fun d1 e1 h1 h2 x y H1 P a1 a2 Q q => by
    subst h1 h2
    obtain ⟨g1, g2⟩ := scal_at a1 a2 s
    exact ⟨g1, by rw [g2]; exact q _ H1 _ Rl.refl P (.bl _) rfl⟩
end
end Mv
/-! # Loops and comprehensions over data -/
namespace Mv
open PySem PySem.Spec PyProof.Rows L2 He
section
variable {K : PySem.W.Frag} {b : Bool} {p : Addr × Addr} {S : List Addr} {σ : L2.St} {H H' : Hp} {ta tb tc te tl : TE} {D : Ends} {body : TS}
theorem sqt_at {a : Addr} {xs : List V} (e : Rl b p H H') (n : a ≠ p.1) (h : H a = some (.tup xs)) : SqT K H' a xs := SqT.of (e _ _ (fun _ => n) h)
theorem sql_at {a : Addr} {xs : List V} (e : Rl b p H H') (n : a ≠ p.1) (h : H a = some (.lst xs)) : SqL K H' a xs := SqL.of (e _ _ (fun _ => n) h)
/-! ### for: the heap grows (and the pen turns); I: what is true of the slots -/
/-- the ends of a turn -/
def Nxt (b : Bool) (p : Addr × Addr) (S : List Addr) (D : Ends) (I : L2.St → Prop) (H0 : Hp) : Ends := { D with nx := fun σ2 H2 => I σ2 ∧ Rl b p H0 H2 ∧ Pen p S H2, ct := fun σ2 H2 => I σ2 ∧ Rl b p H0 H2 ∧ Pen p S H2, bk := D.nx }
theorem s_forT {ds : List PyData} {g : TG} (h : Ev b p S tl σ H fun z => z = .tuple ds) (P : Pen p S H) (I : Nat → L2.St → Prop) (h0 : I 0 σ)
    (hs : ∀ H0, Rl b p H H0 → Pen p S H0 → ∀ (i : Nat) (d : PyData) (v : V) (σ' : L2.St) (H' : Hp), ds[i]? = some d → I i σ' → Rl b p H0 H' → Pen p S H' → At S H' v d → g v σ' H' fun σ2 H2 => body (Nxt b p S D (I (i + 1)) H0) σ2 H2)
    (hd : ∀ σ' H', I ds.length σ' → Rl b p H H' → Pen p S H' → D.nx σ' H') : tFor (iTup K tl) g body D σ H := by
  refine h H Rl.refl P _ fun v H1 d e1 P1 a1 r1 => ?_
  subst r1
  obtain ⟨a, xs, rfl, na, ha, ra⟩ := a1.tup_inv
  have nap : a ≠ p.1 := fun q => na (q ▸ P.mem)
  refine ⟨a, rfl, ⟨xs, SqT.of ha⟩, for_tup (K := K) (a := a) (xs := xs) (fun i σ' H' => I i σ' ∧ Rl b p H1 H' ∧ Pen p S H') ⟨h0, Rl.refl, P1⟩ (fun i σ' H' _ q => sqt_at q.2.1 nap ha) (fun i x σ' H' hx q => ?_) fun σ' H' q => hd σ' H' (ra.length ▸ q.1) (e1.trans q.2.1) q.2.2⟩
  obtain ⟨d, hd', ad⟩ := ra.get hx
  exact hs H1 e1 P1 i d x σ' H' hd' q.1 q.2.1 q.2.2 (ad.mono q.2.1 P.mem)
theorem s_forL {ds : List PyData} {g : TG} (h : Ev b p S tl σ H fun z => z = .list ds) (P : Pen p S H) (I : Nat → L2.St → Prop) (h0 : I 0 σ)
    (hs : ∀ H0, Rl b p H H0 → Pen p S H0 → ∀ (i : Nat) (d : PyData) (v : V) (σ' : L2.St) (H' : Hp), ds[i]? = some d → I i σ' → Rl b p H0 H' → Pen p S H' → At S H' v d → g v σ' H' fun σ2 H2 => body (Nxt b p S D (I (i + 1)) H0) σ2 H2)
    (hd : ∀ σ' H', I ds.length σ' → Rl b p H H' → Pen p S H' → D.nx σ' H') : tFor (iList K tl) g body D σ H := by
  refine h H Rl.refl P _ fun v H1 d e1 P1 a1 r1 => ?_
  subst r1
  obtain ⟨a, xs, rfl, na, ha, ra⟩ := a1.lst_inv
  have nap : a ≠ p.1 := fun q => na (q ▸ P.mem)
  refine ⟨a, rfl, ⟨xs, SqL.of ha⟩, for_list (K := K) (a := a) (xs := xs) (fun i σ' H' => I i σ' ∧ Rl b p H1 H' ∧ Pen p S H') ⟨h0, Rl.refl, P1⟩ (fun i σ' H' _ q => sql_at q.2.1 nap ha) (fun i x σ' H' hx q => ?_) fun σ' H' q => hd σ' H' (ra.length ▸ q.1) (e1.trans q.2.1) q.2.2⟩
  obtain ⟨d, hd', ad⟩ := ra.get hx
  exact hs H1 e1 P1 i d x σ' H' hd' q.1 q.2.1 q.2.2 (ad.mono q.2.1 P.mem)
/-- for a, b in zip(x, y, strict=True) -/
theorem s_forZ {t tk : TA} {ds es : List PyData} {j j' : Nat} (h : EvA b p S t σ H fun zs => zs = [.tuple ds, .tuple es]) (hk : ∀ H1, ∀ Q : List V → Hp → Prop, Q [.bl true] H1 → tk σ H1 Q) (hl : ds.length = es.length) (P : Pen p S H) (I : Nat → L2.St → Prop) (h0 : I 0 σ)
    (hs : ∀ H0, Rl b p H H0 → Pen p S H0 → ∀ (i : Nat) (d d' : PyData) (v v' : V) (σ' : L2.St) (H' : Hp), ds[i]? = some d → es[i]? = some d' → I i σ' → Rl b p H0 H' → Pen p S H' → At S H' v d → At S H' v' d' → body (Nxt b p S D (I (i + 1)) H0) ((σ'.set j (some v)).set j' (some v')) H')
    (hd : ∀ σ' H', I ds.length σ' → Rl b p H H' → Pen p S H' → D.nx σ' H') : tFor (iZs K t tk) (gTup K 2 (gCons (gName j) (gCons (gName j') gNil))) body D σ H := by
  refine h H Rl.refl P _ fun vs H1 zs e1 P1 a1 r1 => hk H1 _ ?_
  subst r1
  obtain ⟨v, w, rfl, av, aw⟩ := a1.two
  obtain ⟨a, xs, rfl, na, ha, ra⟩ := av.tup_inv
  obtain ⟨c, ys, rfl, nc, hc, rc⟩ := aw.tup_inv
  have nap : a ≠ p.1 := fun q => na (q ▸ P.mem)
  have ncp : c ≠ p.1 := fun q => nc (q ▸ P.mem)
  have lx := ra.length
  have ly := rc.length
  refine ⟨a, c, xs, ys, rfl, rfl, SqT.of ha, SqT.of hc, fun i m σ' H' => m + i = xs.length ∧ I i σ' ∧ Rl b p H1 H' ∧ Pen p S H', ⟨xs.length, by omega, h0, Rl.refl, P1⟩, fun i m σ' H' ⟨hm, hI, e2, P2⟩ => ?_⟩
  have sa : SqT K H' a xs := sqt_at e2 nap ha
  have sc : SqT K H' c ys := sqt_at e2 ncp hc
  by_cases hi : i < xs.length
  · obtain ⟨x, hx⟩ : ∃ x, xs[i]? = some x := ⟨xs[i], List.getElem?_eq_getElem hi⟩
    obtain ⟨y, hy⟩ : ∃ y, ys[i]? = some y := ⟨ys[i]'(by omega), List.getElem?_eq_getElem (by omega)⟩
    obtain ⟨d, hd1, ad⟩ := ra.get hx
    obtain ⟨d', hd2, ad'⟩ := rc.get hy
    refine .inr ⟨⟨xs, ys, x, y, sa, sc, hx, hy⟩, fun σ2 H2 => I (i + 1) σ2 ∧ Rl b p H1 H2 ∧ Pen p S H2, fun σ2 H2 q => ⟨m - 1, by omega, by omega, q⟩, ?_⟩
    rintro _ _ ⟨T, x', y', rfl, hT, rfl, gx, gy⟩
    have ex : x' = x := Option.some.inj ((gx xs sa).symm.trans hx)
    have ey : y' = y := Option.some.inj ((gy ys sc).symm.trans hy)
    subst ex ey
    have e3 : Rl b p H' (upd H' T (.tup [x', y'])) := Rl.new hT
    refine ⟨T, [x', y'], rfl, SqT.of upd_same, rfl, x', [y'], rfl, y', [], rfl, rfl, ?_⟩
    exact hs H1 e1 P1 i d d' x' y' σ' _ hd1 hd2 hI (e2.trans e3) (P2.new hT) (ad.mono (e2.trans e3) P.mem) (ad'.mono (e2.trans e3) P.mem)
  · have hx : i = xs.length := by omega
    refine .inl ⟨⟨xs, ys, sa, sc, by omega, by omega⟩, hd σ' H' ?_ (e1.trans e2) P2⟩
    rw [← lx, ← hx]
    exact hI
theorem s_forR {t : TA} {n : Int} {j : Nat} (h : EvA b p S t σ H fun zs => zs = [.int n]) (hn : n ≤ 1000000) (hn0 : -1000000 ≤ n) (P : Pen p S H) (I : Nat → L2.St → Prop) (h0 : I 0 σ)
    (hs : ∀ H0, Rl b p H H0 → Pen p S H0 → ∀ (i : Nat) (σ' : L2.St) (H' : Hp), (i : Int) < n → I i σ' → Rl b p H0 H' → Pen p S H' → body (Nxt b p S D (I (i + 1)) H0) (σ'.set j (some (.int (i : Int)))) H')
    (hd : ∀ σ' H', I n.toNat σ' → Rl b p H H' → Pen p S H' → D.nx σ' H') : tFor (iRng1 t) (gName j) body D σ H := by
  refine h H Rl.refl P _ fun vs H1 zs e1 P1 a1 r1 => ?_
  subst r1
  obtain ⟨v, rfl, av⟩ := a1.one
  cases av
  refine ⟨n, rfl, by omega, by omega, for_range (lo := 0) (n := n.toNat) (fun i σ' H' => I i σ' ∧ Rl b p H1 H' ∧ Pen p S H') ⟨h0, Rl.refl, P1⟩ (fun i σ' H' hi q => ?_) fun σ' H' q => hd σ' H' q.1 (e1.trans q.2.1) q.2.2⟩
  have e0 : (0 : Int) + (i : Int) = (i : Int) := Int.zero_add _
  rw [e0]
  exact hs H1 e1 P1 i σ' H' (by omega) q.1 q.2.1 q.2.2
end
/-! ### comprehensions: what is kept, what is made of it -/
inductive Cmp (Z : PyData → Bool → Prop) (E : PyData → PyData → Prop) : List PyData → List PyData → Prop
  | nil : Cmp Z E [] []
  | skip {d : PyData} {ds zs : List PyData} : Cmp Z E ds zs → Z d false → Cmp Z E (ds ++ [d]) zs
  | take {d z : PyData} {ds zs : List PyData} : Cmp Z E ds zs → Z d true → E d z → Cmp Z E (ds ++ [d]) (zs ++ [z])
theorem Cmp.le {Z : PyData → Bool → Prop} {E : PyData → PyData → Prop} {ds zs : List PyData} (c : Cmp Z E ds zs) : zs.length ≤ ds.length := by
  induction c with
  | nil => exact Nat.le_refl _
  | skip _ _ ih =>
    rw [List.length_append]
    exact Nat.le_add_right_of_le ih
  | take _ _ _ ih =>
    rw [List.length_append, List.length_append]
    exact Nat.add_le_add_right ih 1
/-- tests and elements that are functions -/
theorem Cmp.fn {f : PyData → Bool} {g : PyData → PyData} {ds zs : List PyData} (c : Cmp (fun d k => k = f d) (fun d z => z = g d) ds zs) : zs = (ds.filter f).map g := by
  induction c with
  | nil => rfl
  | skip _ h ih =>
    rw [List.filter_append, List.map_append, ← ih, List.filter_cons, if_neg (by rw [← h]; exact Bool.false_ne_true)]
    simp
  | take _ h e ih =>
    rw [List.filter_append, List.map_append, ← ih, List.filter_cons, if_pos h.symm, e]
    rfl
theorem Cmp.all {Z : PyData → Bool → Prop} {E : PyData → PyData → Prop} {ds zs : List PyData} (c : Cmp Z E ds zs) : ∀ z ∈ zs, ∃ d ∈ ds, Z d true ∧ E d z := by
  induction c with
  | nil => intro z h; cases h
  | skip _ _ ih => exact fun z hz => let ⟨d, h1, h2⟩ := ih z hz; ⟨d, List.mem_append_left _ h1, h2⟩
  | take _ h e ih =>
    intro z hz
    rcases List.mem_append.mp hz with hz | hz
    · exact let ⟨d, h1, h2⟩ := ih z hz; ⟨d, List.mem_append_left _ h1, h2⟩
    · rw [List.mem_singleton] at hz
      subst hz
      exact ⟨_, List.mem_append_right _ (List.mem_singleton_self _), h, e⟩
theorem take_succ_of {α : Type} {l : List α} {i : Nat} {x : α} (h : l[i]? = some x) : l.take (i + 1) = l.take i ++ [x] := by
  rw [List.take_add_one, h]
  rfl
section
variable {K : PySem.W.Frag} {b : Bool} {p : Addr × Addr} {S : List Addr} {σ : L2.St} {H H' : Hp} {tl te : TE} {tt : TT} {Z : PyData → Bool → Prop} {E : PyData → PyData → Prop} {vs : List Nat}
/-- what stands behind i turns: the new list at A -/
def Cv (b : Bool) (p : Addr × Addr) (S : List Addr) (H1 : Hp) (A : Addr) (Z : PyData → Bool → Prop) (E : PyData → PyData → Prop) (ds : List PyData) (H' : Hp) : Prop :=
  Rl b p H1 H' ∧ Pen p (A :: S) H' ∧ ∃ acc zs, H' A = some (.lst acc) ∧ Ats (A :: S) H' acc zs ∧ Cmp Z E ds zs
theorem cv_start {A : Addr} {H1 : Hp} (hA : H1 A = none) (P : Pen p S H1) : Cv b p S H1 A Z E [] (upd H1 A (.lst [])) :=
  ⟨Rl.new hA, (P.new hA).more ⟨_, upd_same⟩, [], [], upd_same, .nil, .nil⟩
theorem cv_turn {A : Addr} {H1 : Hp} {ds : List PyData} {d : PyData} {σ2 : L2.St} (hA : H1 A = none) (P1 : Pen p S H1) (hn : ds.length < 100000) (c : Cv b p S H1 A Z E ds H')
    (ht : EvT b p (A :: S) tt σ2 H' (Z d)) (he : Z d true → ∀ H2, Rl b p H' H2 → Pen p (A :: S) H2 → Ev b p (A :: S) te σ2 H2 (E d)) :
    tt σ2 H' fun k H3 => if k = true then te σ2 H3 fun y H4 => ∃ acc, H4 A = some (.lst acc) ∧ acc.length < sizeLine ∧ Cv b p S H1 A Z E (ds ++ [d]) (upd H4 A (.lst (acc ++ [y]))) else Cv b p S H1 A Z E (ds ++ [d]) H3 := by
  obtain ⟨e1, Pa, acc, zs, hl, hr, hc⟩ := c
  have Anp : A ≠ p.1 := fun q => P1.ne hA (q ▸ P1.mem)
  refine ht H' Rl.refl Pa _ fun k H3 e3 P3 hz => ?_
  have l3 : H3 A = some (.lst acc) := e3 _ _ (fun _ => Anp) hl
  cases k with
  | false => exact (show Cv b p S H1 A Z E (ds ++ [d]) H3 from ⟨e1.trans e3, P3, acc, zs, l3, hr.mono e3 Pa.mem, hc.skip hz⟩)
  | true =>
    refine (show te σ2 H3 _ from he hz H3 e3 P3 H3 Rl.refl P3 _ fun y H4 z e4 P4 a4 r4 => ?_)
    have l4 : H4 A = some (.lst acc) := e4 _ _ (fun _ => Anp) l3
    have hz2 : acc.length < 100000 := by
      rw [hr.length]
      exact Nat.lt_of_le_of_lt hc.le hn
    refine ⟨acc, l4, Nat.lt_of_lt_of_le hz2 (by decide), ((e1.trans e3).trans e4).mut hA, P4.put Anp (fun q => P1.ne hA (q ▸ P1.mem2)), acc ++ [y], zs ++ [z], upd_same, ?_, hc.take hz r4⟩
    exact Ats.put List.mem_cons_self ((hr.mono (e3.trans e4) Pa.mem).snoc a4)
theorem At.through {A : Addr} {H0 : Hp} {v : V} {d : PyData} (a : At S H v d) (e : Rl b p H H0) (P : Pen p S H0) (hA : H0 A = none) (e2 : Rl b p H0 H') : At (A :: S) H' v d :=
  ((a.mono e P.mem).avoid hA).mono e2 (List.mem_cons_of_mem _ P.mem)
theorem Ats.through {A : Addr} {H0 : Hp} {v : List V} {d : List PyData} (a : Ats S H v d) (e : Rl b p H H0) (P : Pen p S H0) (hA : H0 A = none) (e2 : Rl b p H0 H') : Ats (A :: S) H' v d :=
  ((a.mono e P.mem).avoid hA).mono e2 (List.mem_cons_of_mem _ P.mem)
theorem cv_end {A : Addr} {H1 : Hp} {ds : List PyData} (hA : H1 A = none) (P1 : Pen p S H1) (c : Cv b p S H1 A Z E ds H') : Rl b p H1 H' ∧ Pen p S H' ∧ ∃ zs, At S H' (.ref A) (.list zs) ∧ Cmp Z E ds zs := by
  obtain ⟨e1, Pa, acc, zs, hl, hr, hc⟩ := c
  exact ⟨e1, Pa.less P1, zs, .lst (P1.ne hA) hl hr.less, hc⟩
theorem ev_lcT {ds : List PyData} {j : Nat} (h : Ev b p S tl σ H fun z => z = .tuple ds) (hz : ds.length ≤ 100000) (hw : ∀ x, wipe ((wipe σ vs).set j (some x)) vs = wipe σ vs)
    (ht : ∀ A H0, Rl b p H H0 → Pen p S H0 → H0 A = none → ∀ (i : Nat) (d : PyData) (v : V) (H' : Hp), ds[i]? = some d → Rl b p H0 H' → Pen p (A :: S) H' → At (A :: S) H' v d → EvT b p (A :: S) tt ((wipe σ vs).set j (some v)) H' (Z d))
    (he : ∀ A H0, Rl b p H H0 → Pen p S H0 → H0 A = none → ∀ (i : Nat) (d : PyData) (v : V) (H' : Hp), ds[i]? = some d → Rl b p H0 H' → Pen p (A :: S) H' → At (A :: S) H' v d → Z d true → Ev b p (A :: S) te ((wipe σ vs).set j (some v)) H' (E d)) :
    Ev b p S (tLc (iTup K tl) (gName j) tt te vs) σ H (fun z => ∃ zs, z = .list zs ∧ Cmp Z E ds zs) := fun H0 e P Q q => h H0 e P _ fun v H1 z e1 P1 a1 r1 => by
  subst r1
  obtain ⟨a, xs, rfl, na, ha, ra⟩ := a1.tup_inv
  have nap : a ≠ p.1 := fun q => na (q ▸ P.mem)
  refine ⟨a, rfl, ⟨xs, SqT.of ha⟩, fun A hA => ?_⟩
  refine lc_tup (xs := xs) (Qd := Q (.ref A)) (fun i H' => Cv b p S H1 A Z E (ds.take i) H') (by rw [List.take_zero]; exact cv_start hA P1) (fun i H' _ c => sqt_at c.1 nap ha) (fun i x H' hx c => ⟨hw x, ?_⟩) fun H' c => ?_
  · obtain ⟨d, hd, ad⟩ := ra.get hx
    have hlt : i < ds.length := (List.getElem?_eq_some_iff.mp hd).1
    have ad' : At (A :: S) H' x d := ad.through Rl.refl P1 hA c.1
    rw [take_succ_of hd]
    exact cv_turn hA P1 (by rw [List.length_take]; omega) c (ht A H1 (e.trans e1) P1 hA i d x H' hd c.1 c.2.1 ad') fun hzt H2 e2 P2 => he A H1 (e.trans e1) P1 hA i d x H2 hd (c.1.trans e2) P2 (ad'.mono e2 P2.mem) hzt
  · rw [ra.length, List.take_length] at c
    obtain ⟨g1, g2, zs, g3, g4⟩ := cv_end hA P1 c
    exact q _ _ _ (e1.trans g1) g2 g3 ⟨zs, rfl, g4⟩
theorem ev_lcL {ds : List PyData} {j : Nat} (h : Ev b p S tl σ H fun z => z = .list ds) (hz : ds.length ≤ 100000) (hw : ∀ x, wipe ((wipe σ vs).set j (some x)) vs = wipe σ vs)
    (ht : ∀ A H0, Rl b p H H0 → Pen p S H0 → H0 A = none → ∀ (i : Nat) (d : PyData) (v : V) (H' : Hp), ds[i]? = some d → Rl b p H0 H' → Pen p (A :: S) H' → At (A :: S) H' v d → EvT b p (A :: S) tt ((wipe σ vs).set j (some v)) H' (Z d))
    (he : ∀ A H0, Rl b p H H0 → Pen p S H0 → H0 A = none → ∀ (i : Nat) (d : PyData) (v : V) (H' : Hp), ds[i]? = some d → Rl b p H0 H' → Pen p (A :: S) H' → At (A :: S) H' v d → Z d true → Ev b p (A :: S) te ((wipe σ vs).set j (some v)) H' (E d)) :
    Ev b p S (tLc (iList K tl) (gName j) tt te vs) σ H (fun z => ∃ zs, z = .list zs ∧ Cmp Z E ds zs) := fun H0 e P Q q => h H0 e P _ fun v H1 z e1 P1 a1 r1 => by
  subst r1
  obtain ⟨a, xs, rfl, na, ha, ra⟩ := a1.lst_inv
  have nap : a ≠ p.1 := fun q => na (q ▸ P.mem)
  refine ⟨a, rfl, ⟨xs, SqL.of ha⟩, fun A hA => ?_⟩
  refine lc_list (xs := xs) (Qd := Q (.ref A)) (fun i H' => Cv b p S H1 A Z E (ds.take i) H') (by rw [List.take_zero]; exact cv_start hA P1) (fun i H' _ c => sql_at c.1 nap ha) (fun i x H' hx c => ⟨hw x, ?_⟩) fun H' c => ?_
  · obtain ⟨d, hd, ad⟩ := ra.get hx
    have hlt : i < ds.length := (List.getElem?_eq_some_iff.mp hd).1
    have ad' : At (A :: S) H' x d := ad.through Rl.refl P1 hA c.1
    rw [take_succ_of hd]
    exact cv_turn hA P1 (by rw [List.length_take]; omega) c (ht A H1 (e.trans e1) P1 hA i d x H' hd c.1 c.2.1 ad') fun hzt H2 e2 P2 => he A H1 (e.trans e1) P1 hA i d x H2 hd (c.1.trans e2) P2 (ad'.mono e2 P2.mem) hzt
  · rw [ra.length, List.take_length] at c
    obtain ⟨g1, g2, zs, g3, g4⟩ := cv_end hA P1 c
    exact q _ _ _ (e1.trans g1) g2 g3 ⟨zs, rfl, g4⟩
/-- the numbers of a range, as data -/
def rngD (n : Nat) : List PyData := (List.range n).map fun (i : Nat) => PyData.int (i : Int)
theorem rngD_get {n i : Nat} (h : i < n) : (rngD n)[i]? = some (.int (i : Int)) := by
  unfold rngD
  rw [List.getElem?_map, List.getElem?_range h]
  rfl
theorem rngD_len (n : Nat) : (rngD n).length = n := by
  unfold rngD
  rw [List.length_map, List.length_range]
theorem ev_lcR {t : TA} {n : Int} {j : Nat} (h : EvA b p S t σ H fun zs => zs = [.int n]) (hz : n ≤ 100000) (hz0 : -100000 ≤ n) (hw : ∀ x, wipe ((wipe σ vs).set j (some x)) vs = wipe σ vs)
    (ht : ∀ A H0, Rl b p H H0 → Pen p S H0 → H0 A = none → ∀ (i : Nat) (H' : Hp), (i : Int) < n → Rl b p H0 H' → Pen p (A :: S) H' → EvT b p (A :: S) tt ((wipe σ vs).set j (some (.int (i : Int)))) H' (Z (.int (i : Int))))
    (he : ∀ A H0, Rl b p H H0 → Pen p S H0 → H0 A = none → ∀ (i : Nat) (H' : Hp), (i : Int) < n → Rl b p H0 H' → Pen p (A :: S) H' → Z (.int (i : Int)) true → Ev b p (A :: S) te ((wipe σ vs).set j (some (.int (i : Int)))) H' (E (.int (i : Int)))) :
    Ev b p S (tLc (iRng1 t) (gName j) tt te vs) σ H (fun z => ∃ zs, z = .list zs ∧ Cmp Z E (rngD n.toNat) zs) := fun H0 e P Q q => h H0 e P _ fun xs H1 z e1 P1 a1 r1 => by
  subst r1
  obtain ⟨v, rfl, av⟩ := a1.one
  cases av
  refine ⟨n, rfl, by omega, by omega, fun A hA => ?_⟩
  refine lc_range (lo := 0) (n := n.toNat) (Qd := Q (.ref A)) (fun i H' => Cv b p S H1 A Z E ((rngD n.toNat).take i) H') (by rw [List.take_zero]; exact cv_start hA P1) (fun i H' hi c => ?_) fun H' c => ?_
  · have e0 : (0 : Int) + (i : Int) = (i : Int) := Int.zero_add _
    rw [e0]
    refine ⟨hw _, ?_⟩
    rw [take_succ_of (rngD_get hi)]
    exact cv_turn hA P1 (by rw [List.length_take, rngD_len]; omega) c (ht A H1 (e.trans e1) P1 hA i H' (by omega) c.1 c.2.1) fun hzt H2 e2 P2 => he A H1 (e.trans e1) P1 hA i H2 (by omega) (c.1.trans e2) P2 hzt
  · rw [List.take_of_length_le (by rw [rngD_len]; exact Nat.le_refl _)] at c
    obtain ⟨g1, g2, zs, g3, g4⟩ := cv_end hA P1 c
    exact q _ _ _ (e1.trans g1) g2 g3 ⟨zs, rfl, g4⟩
/-- pairs of the items of two lists, as data -/
def zipD (ds es : List PyData) : List PyData := List.zipWith (fun d e => PyData.tuple [d, e]) ds es
theorem zipD_get {ds es : List PyData} {i : Nat} {d e : PyData} (h1 : ds[i]? = some d) (h2 : es[i]? = some e) : (zipD ds es)[i]? = some (.tuple [d, e]) := by
  unfold zipD
  rw [List.getElem?_zipWith, h1, h2]
theorem zipD_len {ds es : List PyData} (h : ds.length = es.length) : (zipD ds es).length = ds.length := by
  unfold zipD
  rw [List.length_zipWith, h, Nat.min_self]
theorem ev_lcZ {t tk : TA} {ds es : List PyData} {j j' : Nat} (h : EvA b p S t σ H fun zs => zs = [.tuple ds, .tuple es]) (hk : ∀ H1, ∀ Q : List V → Hp → Prop, Q [.bl true] H1 → tk σ H1 Q) (hl : ds.length = es.length) (hz : ds.length ≤ 100000)
    (hw : ∀ x y, wipe (((wipe σ vs).set j (some x)).set j' (some y)) vs = wipe σ vs)
    (ht : ∀ A H0, Rl b p H H0 → Pen p S H0 → H0 A = none → ∀ (i : Nat) (d d' : PyData) (v v' : V) (H' : Hp), ds[i]? = some d → es[i]? = some d' → Rl b p H0 H' → Pen p (A :: S) H' → At (A :: S) H' v d → At (A :: S) H' v' d' → EvT b p (A :: S) tt (((wipe σ vs).set j (some v)).set j' (some v')) H' (Z (.tuple [d, d'])))
    (he : ∀ A H0, Rl b p H H0 → Pen p S H0 → H0 A = none → ∀ (i : Nat) (d d' : PyData) (v v' : V) (H' : Hp), ds[i]? = some d → es[i]? = some d' → Rl b p H0 H' → Pen p (A :: S) H' → At (A :: S) H' v d → At (A :: S) H' v' d' → Z (.tuple [d, d']) true →
      Ev b p (A :: S) te (((wipe σ vs).set j (some v)).set j' (some v')) H' (E (.tuple [d, d']))) :
    Ev b p S (tLc (iZs K t tk) (gTup K 2 (gCons (gName j) (gCons (gName j') gNil))) tt te vs) σ H (fun z => ∃ zs, z = .list zs ∧ Cmp Z E (zipD ds es) zs) := fun H0 e P Q q => h H0 e P _ fun ws H1 z e1 P1 a1 r1 => hk H1 _ (by
  subst r1
  obtain ⟨v, w, rfl, av, aw⟩ := a1.two
  obtain ⟨a, xs, rfl, na, ha, ra⟩ := av.tup_inv
  obtain ⟨c, ys, rfl, nc, hc, rc⟩ := aw.tup_inv
  have nap : a ≠ p.1 := fun q => na (q ▸ P.mem)
  have ncp : c ≠ p.1 := fun q => nc (q ▸ P.mem)
  have lx := ra.length
  have ly := rc.length
  have lz := zipD_len hl
  refine ⟨a, c, xs, ys, rfl, rfl, SqT.of ha, SqT.of hc, fun A hA => ?_⟩
  refine ⟨fun i m H' => m + i = xs.length ∧ Cv b p S H1 A Z E ((zipD ds es).take i) H', ⟨xs.length, by omega, by rw [List.take_zero]; exact cv_start hA P1⟩, fun i m H' ⟨hm, cv⟩ => ?_⟩
  have sa : SqT K H' a xs := sqt_at cv.1 nap ha
  have sc : SqT K H' c ys := sqt_at cv.1 ncp hc
  by_cases hi : i < xs.length
  · obtain ⟨x, hx⟩ : ∃ x, xs[i]? = some x := ⟨xs[i], List.getElem?_eq_getElem hi⟩
    obtain ⟨y, hy⟩ : ∃ y, ys[i]? = some y := ⟨ys[i]'(by omega), List.getElem?_eq_getElem (by omega)⟩
    obtain ⟨d, hd1, ad⟩ := ra.get hx
    obtain ⟨d', hd2, ad'⟩ := rc.get hy
    refine .inr ⟨⟨xs, ys, x, y, sa, sc, hx, hy⟩, fun H2 => Cv b p S H1 A Z E ((zipD ds es).take (i + 1)) H2, fun H2 q => ⟨m - 1, by omega, by omega, q⟩, ?_⟩
    rintro _ _ ⟨T, x', y', rfl, hT, rfl, gx, gy⟩
    have ex : x' = x := Option.some.inj ((gx xs sa).symm.trans hx)
    have ey : y' = y := Option.some.inj ((gy ys sc).symm.trans hy)
    subst ex ey
    have e3 : Rl b p H' (upd H' T (.tup [x', y'])) := Rl.new hT
    have P3 : Pen p (A :: S) (upd H' T (.tup [x', y'])) := cv.2.1.new hT
    have b1 : At (A :: S) H' x' d := ad.through Rl.refl P1 hA cv.1
    have b2 : At (A :: S) H' y' d' := ad'.through Rl.refl P1 hA cv.1
    have m1 : p.1 ∈ A :: S := cv.2.1.mem
    have cv3 : Cv b p S H1 A Z E ((zipD ds es).take i) (upd H' T (.tup [x', y'])) := by
      obtain ⟨e1', Pa, acc, zs, hl', hr, hc'⟩ := cv
      refine ⟨e1'.trans e3, P3, acc, zs, ?_, hr.mono e3 m1, hc'⟩
      rw [upd_ne (fun q => by rw [← q, hl'] at hT; cases hT)]
      exact hl'
    refine ⟨T, [x', y'], rfl, SqT.of upd_same, rfl, x', [y'], rfl, y', [], rfl, rfl, hw x' y', ?_⟩
    rw [take_succ_of (zipD_get hd1 hd2)]
    exact cv_turn hA P1 (by rw [List.length_take]; omega) cv3 (ht A H1 (e.trans e1) P1 hA i d d' x' y' _ hd1 hd2 (cv.1.trans e3) P3 (b1.mono e3 m1) (b2.mono e3 m1)) fun hzt H2 e2 P2 =>
      he A H1 (e.trans e1) P1 hA i d d' x' y' H2 hd1 hd2 ((cv.1.trans e3).trans e2) P2 ((b1.mono e3 m1).mono e2 P2.mem) ((b2.mono e3 m1).mono e2 P2.mem) hzt
  · have hx : i = xs.length := by omega
    rw [List.take_of_length_le (by omega)] at cv
    obtain ⟨g1, g2, zs, g3, g4⟩ := cv_end hA P1 cv
    exact .inl ⟨⟨xs, ys, sa, sc, by omega, by omega⟩, q _ _ _ (e1.trans g1) g2 g3 ⟨zs, rfl, g4⟩⟩)
end
end Mv
/-! # Comparisons of data at any depth -/
namespace Mv
open PySem PySem.Spec PyProof.Rows L2 He
mutual
theorem At.dp {K : PySem.W.Frag} {S : List Addr} {H : Hp} : ∀ {v : V} {d : PyData}, At S H v d → d.canLay0 = true → Dp K H v d
  | _, _, .non, _ => .non
  | _, _, .bl k, _ => .bl k
  | _, _, .int i, _ => .int i
  | _, _, .str x, _ => .str x
  | _, _, .lst _ h r, c => .lst (SqL.of h) (Ats.dp r (by simpa [PyData.canLay0] using c))
  | _, _, .tup _ h r, c => .tup (SqT.of h) (Ats.dp r (by simpa [PyData.canLay0] using c))
  | _, _, .emp _ _, c => by simp [PyData.canLay0] at c
theorem Ats.dp {K : PySem.W.Frag} {S : List Addr} {H : Hp} : ∀ {vs : List V} {ds : List PyData}, Ats S H vs ds → PyData.canLayAll0 ds = true → DpAll K H vs ds
  | _, _, .nil, _ => .nil
  | _, _, .cons h r, c => by
    rw [PyData.canLayAll0, Bool.and_eq_true] at c
    exact .cons (At.dp h c.1) (Ats.dp r c.2)
end
section
variable {X : Cx} {K : PySem.W.Frag} {b : Bool} {p : Addr × Addr} {S : List Addr} {σ : L2.St} {H H' : Hp} {ta tb tc te : TE} {R : PyData → Prop} {d e : PyData} {ds : List PyData}
theorem ev_eqD (ha : Ev b p S ta σ H fun z => z = d) (hb : Ev b p S tb σ H fun z => z = e) (sd : SeqAt.shaped d = true) (se : SeqAt.shaped e = true) : Ev b p S (tOp (rEqD K) ta tb) σ H fun z => z = .bool (PyData.eqv d e) :=
  ev_op ha hb fun d1 e1 h1 h2 x y H1 P a1 a2 Q q => by
    subst h1 h2
    exact ⟨_, _, a1.dp (SeqAt.canLay_of_shaped sd), a2.dp (SeqAt.canLay_of_shaped se), sd, se, q _ H1 _ Rl.refl P (.bl _) rfl⟩
theorem ev_neD (ha : Ev b p S ta σ H fun z => z = d) (hb : Ev b p S tb σ H fun z => z = e) (sd : SeqAt.shaped d = true) (se : SeqAt.shaped e = true) : Ev b p S (tOp (rNeD K) ta tb) σ H fun z => z = .bool (!PyData.eqv d e) :=
  ev_op ha hb fun d1 e1 h1 h2 x y H1 P a1 a2 Q q => by
    subst h1 h2
    exact ⟨_, _, a1.dp (SeqAt.canLay_of_shaped sd), a2.dp (SeqAt.canLay_of_shaped se), sd, se, q _ H1 _ Rl.refl P (.bl _) rfl⟩
/-! ### x in xs: a list or a tuple -/
def rInS (K : PySem.W.Frag) (f : Bool → Bool) : L2.R2 := fun x y H Q => ∃ d c, Dp K H x d ∧ Dp K H y c ∧ isSeq c = true ∧ SeqAt.shaped d = true ∧ SeqAt.shaped c = true ∧ Q (.bl (f ((items c).any fun z => PyData.eqv z d))) H
theorem op_inS (hu : X.A.units + 65 < cLine) : OpR X (compareOp .In) (rInS X.K fun k => k) := by
  intro pins s σ H x y v u Q I rx ry h
  obtain ⟨d, c, hd, he, hc, sd, se, q⟩ := h
  obtain ⟨as, r1⟩ := Dp.reads I d x v hd rx
  obtain ⟨bs, r2⟩ := Dp.reads I c y u he ry
  cases c with
  | list ds => exact SeqAt.in_list_reads r2 r1 (SeqAt.canLay_of_shaped se) (SeqAt.canLay_of_shaped sd) (room_in_shaped sd hu) ⟨.bl _, H, I, rfl, q⟩
  | tuple ds => exact SeqAt.in_tuple_reads r2 r1 (SeqAt.canLay_of_shaped se) (SeqAt.canLay_of_shaped sd) (room_in_shaped sd hu) ⟨.bl _, H, I, rfl, q⟩
  | _ => cases hc
theorem op_ninS (hu : X.A.units + 65 < cLine) : OpR X (compareOp .NotIn) (rInS X.K fun k => !k) := by
  intro pins s σ H x y v u Q I rx ry h
  obtain ⟨d, c, hd, he, hc, sd, se, q⟩ := h
  obtain ⟨as, r1⟩ := Dp.reads I d x v hd rx
  obtain ⟨bs, r2⟩ := Dp.reads I c y u he ry
  cases c with
  | list ds => exact SeqAt.notIn_list_reads r2 r1 (SeqAt.canLay_of_shaped se) (SeqAt.canLay_of_shaped sd) (room_in_shaped sd hu) ⟨.bl _, H, I, rfl, q⟩
  | tuple ds => exact SeqAt.notIn_tuple_reads r2 r1 (SeqAt.canLay_of_shaped se) (SeqAt.canLay_of_shaped sd) (room_in_shaped sd hu) ⟨.bl _, H, I, rfl, q⟩
  | _ => cases hc
theorem ev_inS {f : Bool → Bool} (ha : Ev b p S ta σ H fun z => z = d) (hb : Ev b p S tb σ H fun z => z = e) (hc : isSeq e = true) (sd : SeqAt.shaped d = true) (se : SeqAt.shaped e = true) :
    Ev b p S (tOp (rInS K f) ta tb) σ H fun z => z = .bool (f ((items e).any fun z => PyData.eqv z d)) :=
  ev_op ha hb fun d1 e1 h1 h2 x y H1 P a1 a2 Q q => by
    subst h1 h2
    exact ⟨_, _, a1.dp (SeqAt.canLay_of_shaped sd), a2.dp (SeqAt.canLay_of_shaped se), hc, sd, se, q _ H1 _ Rl.refl P (.bl _) rfl⟩
/-! ### t == (), whatever the tuple holds -/
def rEqE (K : PySem.W.Frag) (f : Bool → Bool) : L2.R2 := fun x y H Q => ∃ a c xs, x = .ref a ∧ y = .ref c ∧ SqT K H a xs ∧ SqT K H c [] ∧ Q (.bl (f xs.isEmpty)) H
theorem emp_size {xs : List V} {its : List Value} (r : Vals xs its) : ((List.range (min its.toArray.size (#[] : Array Value).size)).all (fun _ => true) && (its.toArray.size == (#[] : Array Value).size)) = xs.isEmpty := by
  cases r with
  | nil => rfl
  | cons h t => simp
theorem op_eqE (hu : X.A.units < cLine) : OpR X (compareOp .Eq) (rEqE X.K fun k => k) := by
  intro pins s σ H x y v u Q I rx ry h
  obtain ⟨a, c, xs, rfl, rfl, ha, hc, q⟩ := h
  cases rx
  cases ry
  obtain ⟨its, r, h1, _⟩ := I.tuple ha
  obtain ⟨it2, r2, h2, _⟩ := I.tuple hc
  cases r2
  refine SeqAt.rcIn_tuples (e := fun _ => true) h1 h2 hu (fun j _ h => absurd h (Nat.not_lt_zero _)) ?_
  rw [emp_size r]
  exact ⟨.bl _, H, I, rfl, q⟩
theorem ev_eqE {f : Bool → Bool} (ha : Ev b p S ta σ H fun z => z = .tuple ds) (hb : Ev b p S tb σ H fun z => z = .tuple []) : Ev b p S (tOp (rEqE K f) ta tb) σ H fun z => z = .bool (f ds.isEmpty) :=
  ev_op ha hb fun d1 e1 h1 h2 x y H1 P a1 a2 Q q => by
    subst h1 h2
    obtain ⟨a, xs, rfl, na, ha, ra⟩ := a1.tup_inv
    obtain ⟨c, ys, rfl, nc, hc, rc⟩ := a2.tup_inv
    cases rc
    refine ⟨a, c, xs, rfl, rfl, SqT.of ha, SqT.of hc, ?_⟩
    have e : xs.isEmpty = ds.isEmpty := by
      cases ra <;> rfl
    rw [e]
    exact q _ H1 _ Rl.refl P (.bl _) rfl
/-! ### d < e, alike data -/
def rLtD (K : PySem.W.Frag) : L2.R2 := fun x y H Q => ∃ d e, Dp K H x d ∧ Dp K H y e ∧ W.alike d e = true ∧ d ≠ .none ∧ SeqAt.shaped d = true ∧ Q (.bl (W.dataLt d e)) H
theorem op_ltD (hu : X.A.units + 64 < cLine) : OpR X (compareOp .Lt) (rLtD X.K) := by
  intro pins s σ H x y v u Q I rx ry h
  obtain ⟨d, e, hd, he, al, nn, sd, q⟩ := h
  obtain ⟨as, r1⟩ := Dp.reads I d x v hd rx
  obtain ⟨bs, r2⟩ := Dp.reads I e y u he ry
  have h1 := SeqAt.depth_of_shaped sd
  have h2 := Nat.min_le_left d.depth e.depth
  exact W.rcLt_alike d e X.A s v u as bs r1 r2 al nn (by omega) X.prog X.w _ _ ⟨.bl _, H, I, rfl, q⟩
theorem ev_ltD (ha : Ev b p S ta σ H fun z => z = d) (hb : Ev b p S tb σ H fun z => z = e) (al : W.alike d e = true) (nn : d ≠ .none) (sd : SeqAt.shaped d = true) (se : SeqAt.shaped e = true) : Ev b p S (tOp (rLtD K) ta tb) σ H fun z => z = .bool (W.dataLt d e) :=
  ev_op ha hb fun d1 e1 h1 h2 x y H1 P a1 a2 Q q => by
    subst h1 h2
    exact ⟨_, _, a1.dp (SeqAt.canLay_of_shaped sd), a2.dp (SeqAt.canLay_of_shaped se), al, nn, sd, q _ H1 _ Rl.refl P (.bl _) rfl⟩
end
end Mv
/-! # list, tuple, sorted, all, slices, sums of tuples -/
namespace Mv
open PySem PySem.Spec PyProof.Rows L2 He
section
variable {X : Cx} {K : PySem.W.Frag} {b : Bool} {p : Addr × Addr} {S : List Addr} {σ : L2.St} {H H' : Hp} {ta tb tc te : TE} {R : PyData → Prop} {d e : PyData} {ds es : List PyData}
/-! ### list(x), tuple(x) -/
def rListOf (K : PySem.W.Frag) : List V → Hp → VK → Prop := fun xs H Q => ∃ p ys, xs = [.ref p] ∧ (SqL K H p ys ∨ SqT K H p ys) ∧ ∀ l, H l = none → Q (.ref l) (upd H l (.lst ys))
theorem cr_listOf : CallR X (.type "list") (rListOf X.K) := call_list_of
def rTupOf (K : PySem.W.Frag) : List V → Hp → VK → Prop := fun xs H Q => ∃ p ys, xs = [.ref p] ∧ ((SqL K H p ys ∧ ∀ l, H l = none → Q (.ref l) (upd H l (.tup ys))) ∨ (SqT K H p ys ∧ Q (.ref p) H))
theorem cr_tupOf : CallR X (.type "tuple") (rTupOf X.K) := call_tuple_of
theorem at_new_lst {a : Addr} {xs : List V} (P : Pen p S H) (ha : H a = none) (r : Ats S H xs ds) : At S (upd H a (.lst xs)) (.ref a) (.list ds) := .lst (P.ne ha) upd_same (r.mono (p := p) (b := false) (Rl.new ha) P.mem)
theorem at_new_tup {a : Addr} {xs : List V} (P : Pen p S H) (ha : H a = none) (r : Ats S H xs ds) : At S (upd H a (.tup xs)) (.ref a) (.tuple ds) := .tup (P.ne ha) upd_same (r.mono (p := p) (b := false) (Rl.new ha) P.mem)
theorem ev_listOf (h : Ev b p S te σ H fun z => z = d) (s : isSeq d = true) : Ev b p S (tCB (rListOf K) (tCons te tNil)) σ H fun z => z = .list (items d) := fun H1 e P Q q =>
  h H1 e P _ fun v H2 z e2 P2 a2 r => by
    subst r
    obtain ⟨a, xs, rfl, na, hs, r⟩ := a2.seq (K := K) s
    exact ⟨a, xs, rfl, hs, fun l hl => q _ _ _ (e2.trans (Rl.new hl)) (P2.new hl) (at_new_lst P2 hl r) rfl⟩
theorem ev_tupOf (h : Ev b p S te σ H fun z => z = d) (s : isSeq d = true) : Ev b p S (tCB (rTupOf K) (tCons te tNil)) σ H fun z => z = .tuple (items d) := fun H1 e P Q q =>
  h H1 e P _ fun v H2 z e2 P2 a2 r => by
    subst r
    cases a2 with
    | lst n g r => exact ⟨_, _, rfl, .inl ⟨SqL.of g, fun l hl => q _ _ _ (e2.trans (Rl.new hl)) (P2.new hl) (at_new_tup P2 hl r) rfl⟩⟩
    | tup n g r => exact ⟨_, _, rfl, .inr ⟨SqT.of g, q _ H2 _ e2 P2 (.tup n g r) rfl⟩⟩
    | _ => cases s
/-- tuple of a list that is only partly known -/
theorem ev_tupR {Rs : List PyData → Prop} (h : Ev b p S te σ H fun z => ∃ ds, z = .list ds ∧ Rs ds) : Ev b p S (tCB (rTupOf K) (tCons te tNil)) σ H fun z => ∃ ds, z = .tuple ds ∧ Rs ds := fun H1 e P Q q =>
  h H1 e P _ fun v H2 z e2 P2 a2 r => by
    obtain ⟨ds, rfl, r⟩ := r
    obtain ⟨a, xs, rfl, na, ha, ra⟩ := a2.lst_inv
    exact ⟨_, _, rfl, .inl ⟨SqL.of ha, fun l hl => q _ _ _ (e2.trans (Rl.new hl)) (P2.new hl) (at_new_tup P2 hl ra) ⟨ds, rfl, r⟩⟩⟩
/-! ### sorted(list) of alike data -/
def rSortD (K : PySem.W.Frag) : List V → Hp → VK → Prop := fun vs H Q => ∃ (a : Addr) (xs : List V) (ds : List PyData) (T : V → PyData → Prop), vs = [V.ref a] ∧ SqL K H a xs ∧ Paired T xs ds ∧ (∀ v d, T v d → Dp K H v d) ∧ W.AllAlike ds ∧ W.Sortable ds ∧ PyData.depthAll ds ≤ 60 ∧
  ∀ (l : Addr) (ys : List V), H l = none → ys.length = ds.length → Paired T ys (ds.mergeSort (W.dataLe false id)) → Q (.ref l) (upd H l (.lst ys))
theorem each_of {T : V → PyData → Prop} : ∀ {xs : List V} {us : List Value} {ds : List PyData}, Vals xs us → Paired T xs ds → W.EachIs (fun v d => ∃ x, RelV x v ∧ T x d) us ds
  | _, _, _, .nil, .nil => .nil
  | _, _, _, .cons r t, .cons h g => .cons ⟨_, r, h⟩ (each_of t g)
theorem each_to {T : V → PyData → Prop} : ∀ {us : List Value} {ds : List PyData}, W.EachIs (fun v d => ∃ x, RelV x v ∧ T x d) us ds → ∃ xs, Vals xs us ∧ Paired T xs ds
  | _, _, .nil => ⟨[], .nil, .nil⟩
  | _, _, .cons ⟨x, r, h⟩ t => let ⟨xs, r2, h2⟩ := each_to t; ⟨x :: xs, .cons r r2, .cons h h2⟩
theorem each_mono {α β : Type} {F G : α → β → Prop} (f : ∀ a b, F a b → G a b) : ∀ {l : List α} {m : List β}, W.EachIs F l m → W.EachIs G l m
  | _, _, .nil => .nil
  | _, _, .cons r t => .cons (f _ _ r) (each_mono f t)
theorem depth_mem {d : PyData} : ∀ {ds : List PyData}, d ∈ ds → d.depth ≤ PyData.depthAll ds
  | x :: xs, h => by
    rw [PyData.depthAll]
    rcases List.mem_cons.mp h with rfl | h
    · exact Nat.le_max_left _ _
    · exact Nat.le_trans (depth_mem h) (Nat.le_max_right _ _)
theorem cr_sortD (hu : X.A.units + 64 < cLine) : CallR X (.builtin "sorted") (rSortD X.K) := by
  intro pins s σ H vs us Q I r h
  obtain ⟨a, xs, ds, T, rfl, hs, ht, hd, al, so, dp, q⟩ := h
  obtain ⟨its, rv, hl, hz⟩ := I.list hs
  rw [Vals.ref1 r]
  have e := each_of rv ht
  have hlen : ds.length = its.length := e.length.symm
  have hle : its.length ≤ sizeLine := rv.length ▸ hz
  refine W.sorted_data (A := X.A) (β := PyData) (enc := id) (R := fun v d => ∃ x, RelV x v ∧ T x d) (vs := its) (bs := ds) hl.isList e (each_mono (fun v d ⟨x, h1, h2⟩ => Dp.reads I d x v (hd x d h2) h1) e) (by rw [List.map_id]; exact al) (by rw [List.map_id]; exact so) (by rw [hlen]; exact hle)
    (fun d hd => by have := depth_mem hd; show X.A.units + 2 + d.depth < cLine; omega) fun out ol oe => ?_
  obtain ⟨ys, ry, ty⟩ := each_to oe
  obtain ⟨ep, he'⟩ := PyProof.Rows.sortedAll_at s.heap its (List.toArray out)
  have yl : ys.length = ds.length := ry.length.trans ol
  exact ⟨.ref _, upd H (s.heap.objs.size + 1) (.lst ys), I.laid (t' := s.toks) (fun _ _ => PyProof.Rows.sortedAll_old) (Nat.le_succ _) ⟨by rw [yl, hlen]; exact hle, out, ep, ry, he'⟩, rfl, q _ ys (I.hok.fresh (Nat.le_succ _)) yl ty⟩
theorem Ats.paired : ∀ {vs : List V} {ds : List PyData}, Ats S H vs ds → Paired (At S H) vs ds
  | _, _, .nil => .nil
  | _, _, .cons h r => .cons h (Ats.paired r)
theorem Ats.ofPaired : ∀ {vs : List V} {ds : List PyData}, Paired (At S H) vs ds → Ats S H vs ds
  | _, _, .nil => .nil
  | _, _, .cons h r => .cons h (Ats.ofPaired r)
theorem canLay_mem {d : PyData} : ∀ {ds : List PyData}, PyData.canLayAll0 ds = true → d ∈ ds → d.canLay0 = true
  | x :: xs, c, h => by
    rw [PyData.canLayAll0, Bool.and_eq_true] at c
    rcases List.mem_cons.mp h with rfl | h
    · exact c.1
    · exact canLay_mem c.2 h
def sortD (ds : List PyData) : List PyData := ds.mergeSort (W.dataLe false id)
theorem paired_and {α β : Type} {F : α → β → Prop} {G : β → Prop} : ∀ {l : List α} {m : List β}, Paired F l m → (∀ x ∈ m, G x) → Paired (fun a b => F a b ∧ G b) l m
  | _, _, .nil, _ => .nil
  | _, _, .cons r t, f => .cons ⟨r, f _ List.mem_cons_self⟩ (paired_and t fun x hx => f x (List.mem_cons_of_mem _ hx))
theorem ev_sortD (h : Ev b p S te σ H fun z => z = .list ds) (al : W.AllAlike ds) (so : W.Sortable ds) (sd : SeqAt.shaped (.list ds) = true) (dp : PyData.depthAll ds ≤ 60) : Ev b p S (tCB (rSortD K) (tCons te tNil)) σ H fun z => z = .list (sortD ds) := fun H1 e P Q q =>
  h H1 e P _ fun v H2 z e2 P2 a2 r => by
    subst r
    obtain ⟨a, xs, rfl, na, ha, ra⟩ := a2.lst_inv
    have cl : PyData.canLayAll0 ds = true := by
      have := SeqAt.canLay_of_shaped sd
      simpa [PyData.canLay0] using this
    refine ⟨a, xs, ds, fun v d => At S H2 v d ∧ d.canLay0 = true, rfl, SqL.of ha, paired_and ra.paired fun x hx => canLay_mem cl hx, fun v d h => h.1.dp h.2, al, so, dp, fun l ys hl _ hp => ?_⟩
    exact q _ _ _ (e2.trans (Rl.new hl)) (P2.new hl) (at_new_lst P2 hl (Ats.ofPaired (L2.Paired.mapP hp fun _ _ h => h.1))) rfl
/-! ### all(list of bools) -/
theorem Ats.bls : ∀ {vs : List V} {ks : List Bool}, Ats S H vs (ks.map PyData.bool) → vs = ks.map V.bl
  | _, [], .nil => rfl
  | _, k :: ks, .cons h r => by
    rw [h.bl_inv, Ats.bls r]
    rfl
theorem ev_all {ks : List Bool} (h : Ev b p S te σ H fun z => z = .list (ks.map PyData.bool)) : Ev b p S (tCB (rAll K) (tCons te tNil)) σ H fun z => z = .bool (ks.all id) := fun H1 e P Q q =>
  h H1 e P _ fun v H2 z e2 P2 a2 r => by
    subst r
    obtain ⟨a, xs, rfl, na, ha, ra⟩ := a2.lst_inv
    exact ⟨a, ks, rfl, SqL.of (ra.bls ▸ ha), q _ H2 _ e2 P2 (.bl _) rfl⟩
/-! ### slices -/
def cutD (ds : List PyData) (lo hi : Option Int) : List PyData := (ds.drop (HT.sIx ds.length 0 lo)).take (HT.sIx ds.length ds.length hi - HT.sIx ds.length 0 lo)
theorem Ats.cut {vs : List V} (r : Ats S H vs ds) (lo hi : Option Int) : Ats S H (cutV vs lo hi) (cutD ds lo hi) := by
  unfold cutV cutD
  rw [r.length]
  exact (r.drop _).take _
theorem cut_whole {lo hi : Option Int} (h : HT.sIx ds.length 0 lo = 0 ∧ HT.sIx ds.length ds.length hi = ds.length) : cutD ds lo hi = ds := by
  unfold cutD
  rw [h.1, h.2, List.drop_zero, Nat.sub_zero, List.take_length]
/-- what a part of a slice is -/
def EvO (b : Bool) (p : Addr × Addr) (S : List Addr) (t : TO) (σ : L2.St) (H : Hp) (o : Option Int) : Prop := ∀ H1, Rl b p H H1 → Pen p S H1 → ∀ Q : Option Int → Hp → Prop, (∀ H2, Rl b p H1 H2 → Pen p S H2 → Q o H2) → t σ H1 Q
theorem eo_none : EvO b p S tNoPart σ H none := fun H1 e P Q q => q H1 Rl.refl P
theorem eo_some {i : Int} (h : Ev b p S te σ H fun z => z = .int i) : EvO b p S (tPart te) σ H (some i) := fun H1 e P Q q => h H1 e P _ fun v H2 z e2 P2 a2 r => by
  subst r
  exact ⟨i, a2.int_inv, q H2 e2 P2⟩
theorem ev_slT {tl th : TO} {lo hi : Option Int} (h : Ev b p S te σ H fun z => z = .tuple ds) (hl : EvO b p S tl σ H lo) (hh : EvO b p S th σ H hi) : Ev b p S (tSl (rSlA K) te tl th) σ H fun z => z = .tuple (cutD ds lo hi) := fun H1 e P Q q =>
  h H1 e P _ fun v H2 z e2 P2 a2 r => hl H2 (e.trans e2) P2 _ fun H3 e3 P3 => hh H3 ((e.trans e2).trans e3) P3 _ fun H4 e4 P4 => by
    subst r
    have a4 := (a2.mono e3 P2.mem).mono e4 P3.mem
    obtain ⟨a, xs, rfl, na, ha, ra⟩ := a4.tup_inv
    have e5 := (e2.trans e3).trans e4
    refine ⟨a, xs, rfl, SqT.of ha, fun w => ?_, fun _ l hl => q _ _ _ (e5.trans (Rl.new hl)) (P4.new hl) (at_new_tup P4 hl (ra.cut lo hi)) rfl⟩
    rw [ra.length] at w
    exact q _ H4 _ e5 P4 a4 (by rw [cut_whole w])
theorem ev_slL {tl th : TO} {lo hi : Option Int} (h : Ev b p S te σ H fun z => z = .list ds) (hl : EvO b p S tl σ H lo) (hh : EvO b p S th σ H hi) : Ev b p S (tSl (rSlL K) te tl th) σ H fun z => z = .list (cutD ds lo hi) := fun H1 e P Q q =>
  h H1 e P _ fun v H2 z e2 P2 a2 r => hl H2 (e.trans e2) P2 _ fun H3 e3 P3 => hh H3 ((e.trans e2).trans e3) P3 _ fun H4 e4 P4 => by
    subst r
    have a4 := (a2.mono e3 P2.mem).mono e4 P3.mem
    obtain ⟨a, xs, rfl, na, ha, ra⟩ := a4.lst_inv
    have e5 := (e2.trans e3).trans e4
    exact ⟨a, xs, rfl, SqL.of ha, fun l hl => q _ _ _ (e5.trans (Rl.new hl)) (P4.new hl) (at_new_lst P4 hl (ra.cut lo hi)) rfl⟩
/-! ### t + u, tuples; lists -/
theorem rv_catT (hz : ds.length + es.length ≤ 100000) : Rv2 b p S (rCatA K) (.tuple ds) (.tuple es) fun z => z = .tuple (ds ++ es) := fun x y H1 P a1 a2 Q q => by
  obtain ⟨a, xs, rfl, na, ha, ra⟩ := a1.tup_inv
  obtain ⟨c, ys, rfl, nc, hc, rc⟩ := a2.tup_inv
  refine ⟨a, c, xs, ys, rfl, rfl, SqT.of ha, SqT.of hc, by rw [ra.length, rc.length]; exact Nat.le_trans hz (by decide), fun e => ?_, fun _ e => ?_, fun _ _ l hl => q _ _ _ (Rl.new hl) (P.new hl) (at_new_tup P hl (ra.append rc)) rfl⟩
  · subst e
    cases ra
    exact q _ H1 _ Rl.refl P a2 rfl
  · subst e
    cases rc
    exact q _ H1 _ Rl.refl P a1 (by rw [List.append_nil])
theorem ev_catT (ha : Ev b p S ta σ H fun z => z = .tuple ds) (hb : Ev b p S tb σ H fun z => z = .tuple es) (hz : ds.length + es.length ≤ 100000) : Ev b p S (tOp (rCatA K) ta tb) σ H fun z => z = .tuple (ds ++ es) :=
  ev_op ha hb fun d1 e1 h1 h2 => by
    subst h1 h2
    exact rv_catT hz
end
end Mv
/-! # Words for readings whose answers are known -/
namespace Mv
open PySem PySem.Spec PyProof.Rows L2 He
theorem hu_1 {A : Around} {k : Nat} (hr : Room k A) : A.units + 1 < cLine := hu_of hr
theorem hu_64 {A : Around} {k : Nat} (hr : Room k A) : A.units + 64 < cLine := hr.units
theorem hu_65 {A : Around} {k : Nat} (hr : Room k A) : A.units + 65 < cLine := by have := hr.un; omega
theorem hu_lt {A : Around} {k : Nat} (hr : Room k A) : A.units < cLine := hr.units0
theorem bb_list : bootBuiltins "list" = some (.type "list") := by decide +kernel
theorem bb_dict : bootBuiltins "dict" = some (.type "dict") := by decide +kernel
theorem bb_set : bootBuiltins "set" = some (.type "set") := by decide +kernel
theorem bb_sorted : bootBuiltins "sorted" = some (.builtin "sorted") := by decide +kernel
theorem bb_all : bootBuiltins "all" = some (.builtin "all") := by decide +kernel
theorem bb_max : bootBuiltins "max" = some (.builtin "max") := by decide +kernel
theorem bb_min : bootBuiltins "min" = some (.builtin "min") := by decide +kernel
theorem bb_repr : bootBuiltins "repr" = some (.builtin "repr") := by decide +kernel
/-! ### the same rules with K named: for use within a comprehension -/
section
variable {X : Cx} {K : PySem.W.Frag}
theorem op_eqDk (hK : X.K = K) (hu : X.A.units + 64 < cLine) : OpR X (compareOp .Eq) (rEqD K) := hK ▸ op_eqD hu
theorem op_neDk (hK : X.K = K) (hu : X.A.units + 64 < cLine) : OpR X (compareOp .NotEq) (rNeD K) := hK ▸ op_neD hu
theorem op_inSk (hK : X.K = K) (hu : X.A.units + 65 < cLine) : OpR X (compareOp .In) (rInS K fun k => k) := hK ▸ op_inS hu
theorem op_ninSk (hK : X.K = K) (hu : X.A.units + 65 < cLine) : OpR X (compareOp .NotIn) (rInS K fun k => !k) := hK ▸ op_ninS hu
theorem op_eqEk (hK : X.K = K) (hu : X.A.units < cLine) : OpR X (compareOp .Eq) (rEqE K fun k => k) := hK ▸ op_eqE hu
theorem op_ltDk (hK : X.K = K) (hu : X.A.units + 64 < cLine) : OpR X (compareOp .Lt) (rLtD K) := hK ▸ op_ltD hu
theorem op_catAk (hK : X.K = K) : OpR X (binaryOp .Add) (rCatA K) := hK ▸ op_catA
theorem sl_tupAk (hK : X.K = K) : SlR X (rSlA K) := hK ▸ sl_tupA
theorem ix_seqk (hK : X.K = K) : IxR X (rIx K) := hK ▸ ix_seq
theorem pg_tupk {pos : Pos} {es : List Expr} {k : Nat} {t : TGs} {n : Nat} (hK : X.K = K) (hc : X.calm = true) (h : PGs X es t) (hn : (assignEach es X.env).length = n := by rfl) (hst : (assignEach es X.env).findIdx? (·.1) = none := by rfl) : PG X (.Tuple es k pos) (gTup K n t) := hK ▸ pg_tup hc h hn hst
end
/-- a promise of one answer -/
def spF (b : Bool) (n : Nat) (f : List PyData → PyData) (Pre : List PyData → Prop) : Sp := spD b n (fun ds z => z = f ds) Pre
section
variable {X : Cx} {pos : Pos}
theorem pe_cost {mg : Str → Option Value} {K : PySem.W.Frag} (T : Top K mg) (hg : Gl X "MOST_COST") (hm : X.mg = mg) : PE X (.Name "MOST_COST" pos) (tC (.int (10 ^ 70))) := by
  obtain ⟨t, h⟩ := T.cost
  exact pe_glob hg (hm ▸ h) ⟨t, rfl⟩
theorem pe_rules {mg : Str → Option Value} {K : PySem.W.Frag} (T : Top K mg) (hg : Gl X "MOST_RULES") (hm : X.mg = mg) : PE X (.Name "MOST_RULES" pos) (tC (.int 6)) := by
  obtain ⟨t, h⟩ := T.rules
  exact pe_glob hg (hm ▸ h) ⟨t, rfl⟩
theorem pe_nev {e : Expr} : PE X e (fun _ _ _ => False) := ⟨fun _ _ _ _ _ _ h => h.elim⟩
end
section
variable {b : Bool} {p : Addr × Addr} {S : List Addr} {σ : L2.St} {H H' : Hp} {ta tb te : TE} {t u : TT} {d d1 d2 d3 : PyData} {ds : List PyData} {tr : TA} {R : PyData → Prop}
/-! ### arguments -/
theorem ea_one (h : Ev b p S te σ H fun z => z = d) : EvA b p S (tCons te tNil) σ H fun zs => zs = [d] := ea_cons h ea_nil fun x xs h1 h2 => by rw [h1, h2]
theorem ea_more (h : Ev b p S te σ H fun z => z = d) (hr : EvA b p S tr σ H fun zs => zs = ds) : EvA b p S (tCons te tr) σ H fun zs => zs = d :: ds := ea_cons h hr fun x xs h1 h2 => by rw [h1, h2]
theorem ea_two (h1 : Ev b p S ta σ H fun z => z = d1) (h2 : Ev b p S tb σ H fun z => z = d2) : EvA b p S (tCons ta (tCons tb tNil)) σ H fun zs => zs = [d1, d2] := ea_more h1 (ea_one h2)
theorem ev_f {n : Nat} {f : List PyData → PyData} {Pre : List PyData → Prop} {z : PyData} (h : EvA b p S tr σ H fun zs => zs = ds) (hl : ds.length = n) (hp : Pre ds) (hz : f ds = z) : Ev b p S (tCall (spF false n f Pre) [] E0 tr) σ H fun y => y = z :=
  (ev_fn0 h fun zs e => by subst e; exact ⟨hl, hp⟩).imp fun y ⟨zs, e, r⟩ => by
    subst e
    exact r.trans hz
theorem ev_eq {z : PyData} (h : Ev b p S te σ H fun y => y = d) (e : d = z) : Ev b p S te σ H fun y => y = z := e ▸ h
theorem ev_tupK (h : EvA b p S tr σ H fun zs => zs = ds) (hl : ds.length ≤ 100000 := by decide) : Ev b p S (tTup tr) σ H fun z => z = .tuple ds := (ev_tup h fun zs e => by subst e; exact hl).imp fun z ⟨zs, e, r⟩ => by rw [e, r]
theorem ev_lstK (h : EvA b p S tr σ H fun zs => zs = ds) (hl : ds.length ≤ 100000 := by decide) : Ev b p S (tLst tr) σ H fun z => z = .list ds := (ev_lst h fun zs e => by subst e; exact hl).imp fun z ⟨zs, e, r⟩ => by rw [e, r]
/-! ### tests -/
theorem et_k {k : Bool} (h : Ev b p S te σ H fun z => z = .bool k) : EvT b p S (tB te) σ H fun x => x = k := et_B (h.imp fun z e => ⟨k, e, rfl⟩)
theorem et_c {k : Bool} (h : Ev b p S te σ H fun z => z = .bool k) : EvT b p S (tTest te) σ H fun x => x = k := et_test (h.imp fun z e => ⟨k, e, rfl⟩)
theorem et_orK {k l : Bool} (h1 : EvT b p S t σ H fun x => x = k) (h2 : k = false → EvT b p S u σ H fun x => x = l) : EvT b p S (tOr t u) σ H fun x => x = (k || l) :=
  et_or h1 (fun e => by rw [← e]; exact h2 e.symm) fun e => by rw [← e]; rfl
theorem et_andK {k l : Bool} (h1 : EvT b p S t σ H fun x => x = k) (h2 : k = true → EvT b p S u σ H fun x => x = l) : EvT b p S (tAnd t u) σ H fun x => x = (k && l) :=
  et_and h1 (fun e => by rw [← e]; exact h2 e.symm) fun e => by rw [← e]; rfl
theorem et_notK {k : Bool} (h : EvT b p S t σ H fun x => x = k) : EvT b p S (tNot t) σ H fun x => x = !k := et_not (h.imp fun x e => by rw [e])
theorem ev_andK {k l : Bool} (h1 : Ev b p S ta σ H fun z => z = .bool k) (h2 : k = true → Ev b p S tb σ H fun z => z = .bool l) : Ev b p S (tAndV ta tb) σ H fun z => z = .bool (k && l) :=
  ev_and h1 (fun e => by subst e; exact h2 rfl) fun e => by subst e; rfl
theorem ev_orK {k l : Bool} (h1 : Ev b p S ta σ H fun z => z = .bool k) (h2 : k = false → Ev b p S tb σ H fun z => z = .bool l) : Ev b p S (tOrV ta tb) σ H fun z => z = .bool (k || l) :=
  ev_or h1 (fun e => by subst e; exact h2 rfl) fun e => by subst e; rfl
theorem ev_notK {k : Bool} (h : Ev b p S te σ H fun z => z = .bool k) : Ev b p S (tNotV te) σ H fun z => z = .bool !k := fun H1 e P Q q => h H1 e P _ fun v H2 z e2 P2 a2 r => by
  subst r
  cases a2
  exact ⟨k, rfl, q _ H2 _ e2 P2 (.bl _) rfl⟩
theorem ev_ifK {k : Bool} (h : EvT b p S t σ H fun x => x = k) (h1 : k = true → Ev b p S ta σ H R) (h2 : k = false → Ev b p S tb σ H R) : Ev b p S (tIf t ta tb) σ H R := ev_if h (fun e => h1 e.symm) fun e => h2 e.symm
/-! ### statements -/
variable {D : Ends} {tu tw : TS}
theorem s_ifK {k : Bool} (h : EvT b p S t σ H fun x => x = k) (P : Pen p S H) (h1 : k = true → ∀ H1, Rl b p H H1 → Pen p S H1 → tu D σ H1) (h2 : k = false → ∀ H1, Rl b p H H1 → Pen p S H1 → tw D σ H1) : tIfS t tu tw D σ H := s_if h P (fun e => h1 e.symm) fun e => h2 e.symm
theorem s_retK (h : Ev b p S te σ H fun z => z = d) (P : Pen p S H) (k : ∀ v H1, Rl b p H H1 → Pen p S H1 → At S H1 v d → D.rt v H1) : tRet te D σ H := s_ret h P fun v H1 z e P1 a r => by
  subst r
  exact k v H1 e P1 a
theorem s_asgK {i : Nat} (h : Ev b p S te σ H fun z => z = d) (P : Pen p S H) (k : ∀ v H1, Rl b p H H1 → Pen p S H1 → At S H1 v d → D.nx (σ.set i (some v)) H1) : tAsg te (gName i) D σ H := s_asg h P fun v H1 z e P1 a r => by
  subst r
  exact k v H1 e P1 a
end
end Mv
/-! # What a claim of the house is -/
namespace Mv
open PySem PySem.Spec PyProof.Rows L2 He
/-- a whole number from 0 on and below n -/
def isNum : PyData → Int → Bool
  | .int i, n => decide (0 ≤ i) && decide (i < n)
  | _, _ => false
def allNum : List PyData → List Int → Bool
  | d :: ds, n :: ns => isNum d n && allNum ds ns
  | [], [] => true
  | _, _ => false
def isCont (zs : List Int) : PyData → Bool
  | .tuple ds => allNum ds zs
  | _ => false
structure Hou where
  zs : List Int
  bg : PyData
  ks : List PyData
def Hou.d (h : Hou) : PyData := .tuple [.tuple (h.zs.map PyData.int), h.bg, .tuple h.ks]
def unInt : PyData → Int
  | .int i => i
  | _ => 0
theorem unInts (zs : List Int) : (zs.map PyData.int).map unInt = zs := by
  induction zs with
  | nil => rfl
  | cons z zs ih => exact congrArg (z :: ·) ih
def hou : PyData → Hou
  | .tuple [.tuple zs, bg, .tuple ks] => ⟨zs.map unInt, bg, ks⟩
  | _ => ⟨[], .none, []⟩
theorem hou_d (h : Hou) : hou h.d = h := by
  show (⟨(h.zs.map PyData.int).map unInt, h.bg, h.ks⟩ : Hou) = h
  rw [unInts]
/-- a house of few sizes and few kinds -/
structure Hou.Ok (h : Hou) : Prop where
  zs : h.zs.length ≤ 60
  ks : h.ks.length ≤ 60
  ne : h.zs ≠ []
def rises : List PyData → Bool
  | x :: y :: r => W.dataLt x y && rises (y :: r)
  | _ => true
def areConts (zs : List Int) : PyData → Bool
  | .tuple ds => !ds.isEmpty && (ds.all (isCont zs) && rises ds)
  | _ => false
def nth (d : PyData) (i : Nat) : PyData := (items d).getD i .none
/-- a tuple of n items -/
def isLen : PyData → Int → Bool
  | .tuple ds, n => decide ((ds.length : Int) = n)
  | _, _ => false
def isRule (h : Hou) (d : PyData) : Bool := isLen d 3 && (isNum (nth d 0) (h.ks.length + 1) && (areConts h.zs (nth d 1) && areConts h.zs (nth d 2)))
def areRules (h : Hou) : PyData → Bool
  | .tuple ds => decide (ds.length ≤ 6) && ds.all (isRule h)
  | _ => false
def isPair (h : Hou) (d : PyData) : Bool := isLen d 2 && (isCont h.zs (nth d 0) && isCont h.zs (nth d 1))
def arePairs (h : Hou) : PyData → Bool
  | .tuple ds => ds.all (isPair h) && rises ds
  | _ => false
def parts (w : Str) : Int := if w = Str.ofString "can" then 5 else if w = Str.ofString "least" then 6 else if w = Str.ofString "safe" then 3 else if w = Str.ofString "pairs" then 4 else 0
def unStr : PyData → Str
  | .str x => x
  | _ => Str.ofString ""
def isTail (h : Hou) (w : Str) (d : PyData) : Bool :=
  isLen d (parts w) && (areRules h (nth d 1) && (if w = Str.ofString "safe" then isRule h (nth d 2) else isNum (nth d 2) (h.ks.length + 1) &&
    (if w = Str.ofString "pairs" then arePairs h (nth d 3) else (isCont h.zs (nth d 3) && isCont h.zs (nth d 4)) && (decide (w = Str.ofString "can") || isNum (nth d 5) (10 ^ 70 + 1)))))
def isClaim (h : Hou) (d : PyData) : Bool := (isT d && isS (nth d 0)) && isTail h (unStr (nth d 0)) d
theorem isLen_iff {d : PyData} {n : Nat} : isLen d (n : Int) = true ↔ ∃ ds, d = .tuple ds ∧ ds.length = n := by
  cases d with
  | tuple ds =>
    show decide ((ds.length : Int) = n) = true ↔ _
    rw [decide_eq_true_iff]
    exact ⟨fun h => ⟨ds, rfl, by omega⟩, fun ⟨es, e, h⟩ => by cases e; omega⟩
  | _ => exact Iff.intro (fun h => by cases h) (fun ⟨_, e, _⟩ => by cases e)
theorem nth_get {d : PyData} {i : Nat} (h : i < (items d).length) : (items d)[i]? = some (nth d i) := by
  unfold nth
  rw [List.getD_eq_getElem?_getD, List.getElem?_eq_getElem h]
  rfl
theorem allNum_len : ∀ {ds : List PyData} {ns : List Int}, allNum ds ns = true → ds.length = ns.length
  | [], [], _ => rfl
  | d :: ds, n :: ns, h => by
    rw [allNum, Bool.and_eq_true] at h
    rw [List.length_cons, List.length_cons, allNum_len h.2]
  | [], _ :: _, h => by simp [allNum] at h
  | _ :: _, [], h => by simp [allNum] at h
theorem allNum_iff : ∀ {ds : List PyData} {ns : List Int}, ds.length = ns.length → (allNum ds ns = true ↔ ∀ (i : Nat) (d : PyData) (n : Int), ds[i]? = some d → ns[i]? = some n → isNum d n = true)
  | [], [], _ => ⟨fun _ i d n h => by simp at h, fun _ => rfl⟩
  | d :: ds, n :: ns, h => by
    rw [allNum, Bool.and_eq_true, allNum_iff (by simpa using h)]
    constructor
    · rintro ⟨h1, h2⟩ i d' n' e1 e2
      cases i with
      | zero =>
        simp at e1 e2
        subst e1 e2
        exact h1
      | succ i => exact h2 i d' n' (by simpa using e1) (by simpa using e2)
    · exact fun h => ⟨h 0 d n rfl rfl, fun i d' n' e1 e2 => h (i + 1) d' n' (by simpa using e1) (by simpa using e2)⟩
  | [], _ :: _, h => by simp at h
  | _ :: _, [], h => by simp at h
/-! rows of fewer than 61 items -/
mutual
def sm : PyData → Bool
  | .tuple ds => decide (ds.length ≤ 60) && smAll ds
  | .list ds => decide (ds.length ≤ 60) && smAll ds
  | _ => true
def smAll : List PyData → Bool
  | [] => true
  | d :: ds => sm d && smAll ds
end
theorem smAll_mem {d : PyData} : ∀ {ds : List PyData}, smAll ds = true → d ∈ ds → sm d = true
  | x :: xs, c, h => by
    rw [smAll, Bool.and_eq_true] at c
    rcases List.mem_cons.mp h with rfl | h
    · exact c.1
    · exact smAll_mem c.2 h
section
variable {X : Cx} {K : PySem.W.Frag} {b : Bool} {p : Addr × Addr} {S : List Addr} {σ : L2.St} {H H' : Hp} {ta tb tc te : TE} {t u : TT} {R : PyData → Prop} {d e : PyData} {ds es : List PyData} {n i : Nat}
theorem ev_nth (h : Ev b p S te σ H fun z => z = d) (hl : isLen d (n : Int) = true) (hi : i < n) : Ev b p S (tOp (rIx K) te (tC (.int (i : Int)))) σ H fun z => z = nth d i := by
  obtain ⟨ds, rfl, hn⟩ := isLen_iff.mp hl
  exact ev_ixN (j := i) h ev_int rfl (nth_get (by rw [show items (.tuple ds) = ds from rfl, hn]; exact hi))
/-- not isinstance(x, tuple) or len(x) != n or .. -/
theorem et_lenK {l : Bool} (h : Ev b p S te σ H fun z => z = d) (k : isLen d (n : Int) = true → EvT b p S u σ H fun x => x = l) :
    EvT b p S (tOr (tNot (tB (tCB (rIsi K) (tCons te (tCons (tC (.ty "tuple")) tNil))))) (tOr (tTest (tOp (rNeD K) (tCB (rLenX K) (tCons te tNil)) (tC (.int (n : Int))))) u)) σ H fun x => x = (!isLen d (n : Int) || l) := by
  cases d with
  | tuple ds =>
    refine EvT.imp (et_orK (et_notK (et_k (ev_isi h (kit_tuple _)))) fun _ => et_orK (l := l) (et_c (ev_neD (ev_len h rfl) ev_int rfl rfl)) fun e => k ?_) fun x e => e.trans ?_
    · simpa [isLen, PyData.eqv, items] using e
    · simp [isT, isLen, PyData.eqv, items]
      rfl
  | _ => exact EvT.imp (et_orK (l := l) (et_notK (et_k (ev_isi h (kit_tuple _)))) fun e => by cases e) fun x e => e.trans rfl
theorem et_lenK2 (h : Ev b p S te σ H fun z => z = d) :
    EvT b p S (tOr (tNot (tB (tCB (rIsi K) (tCons te (tCons (tC (.ty "tuple")) tNil))))) (tTest (tOp (rNeD K) (tCB (rLenX K) (tCons te tNil)) (tC (.int (n : Int)))))) σ H fun x => x = !isLen d (n : Int) := by
  cases d with
  | tuple ds =>
    refine EvT.imp (et_orK (et_notK (et_k (ev_isi h (kit_tuple _)))) fun _ => et_c (ev_neD (ev_len h rfl) ev_int rfl rfl)) fun x e => e.trans ?_
    simp [isT, isLen, PyData.eqv, items]
    rfl
  | _ => exact EvT.imp (et_orK (l := false) (et_notK (et_k (ev_isi h (kit_tuple _)))) fun e => by cases e) fun x e => e.trans rfl
/-- [e for x in xs], e a function of x -/
theorem cmp_map {g : PyData → PyData} {zs : List PyData} (c : Cmp (fun _ k => k = true) (fun d z => z = g d) ds zs) : zs = ds.map g := by
  induction c with
  | nil => rfl
  | skip _ h => cases h
  | take _ _ e ih => rw [ih, e, List.map_append]; rfl
theorem ev_lcTK {tl : TE} {vs : List Nat} {j : Nat} {g : PyData → PyData} (h : Ev b p S tl σ H fun z => z = .tuple ds) (hz : ds.length ≤ 100000) (hw : ∀ x, wipe ((wipe σ vs).set j (some x)) vs = wipe σ vs)
    (he : ∀ A H0, Rl b p H H0 → Pen p S H0 → H0 A = none → ∀ (d : PyData) (v : V) (H' : Hp), d ∈ ds → Rl b p H0 H' → Pen p (A :: S) H' → At (A :: S) H' v d → Ev b p (A :: S) te ((wipe σ vs).set j (some v)) H' fun z => z = g d) :
    Ev b p S (tLc (iTup K tl) (gName j) tYes te vs) σ H fun z => z = .list (ds.map g) :=
  (ev_lcT (Z := fun _ k => k = true) (E := fun d z => z = g d) h hz hw (fun A H0 e P hA i d v H' hd e2 P2 a2 H3 e3 P3 Q q => q true H3 Rl.refl P3 rfl)
    fun A H0 e P hA i d v H' hd e2 P2 a2 _ => he A H0 e P hA d v H' (List.mem_of_getElem? hd) e2 P2 a2).imp fun z ⟨zs, e, c⟩ => by rw [e, cmp_map c]
theorem ev_lcLK {tl : TE} {vs : List Nat} {j : Nat} {g : PyData → PyData} (h : Ev b p S tl σ H fun z => z = .list ds) (hz : ds.length ≤ 100000) (hw : ∀ x, wipe ((wipe σ vs).set j (some x)) vs = wipe σ vs)
    (he : ∀ A H0, Rl b p H H0 → Pen p S H0 → H0 A = none → ∀ (d : PyData) (v : V) (H' : Hp), d ∈ ds → Rl b p H0 H' → Pen p (A :: S) H' → At (A :: S) H' v d → Ev b p (A :: S) te ((wipe σ vs).set j (some v)) H' fun z => z = g d) :
    Ev b p S (tLc (iList K tl) (gName j) tYes te vs) σ H fun z => z = .list (ds.map g) :=
  (ev_lcL (Z := fun _ k => k = true) (E := fun d z => z = g d) h hz hw (fun A H0 e P hA i d v H' hd e2 P2 a2 H3 e3 P3 Q q => q true H3 Rl.refl P3 rfl)
    fun A H0 e P hA i d v H' hd e2 P2 a2 _ => he A H0 e P hA d v H' (List.mem_of_getElem? hd) e2 P2 a2).imp fun z ⟨zs, e, c⟩ => by rw [e, cmp_map c]
theorem ev_allK {tl : TE} {g : PyData → Bool} (h : Ev b p S tl σ H fun z => z = .list (ds.map fun d => PyData.bool (g d))) : Ev b p S (tCB (rAll K) (tCons tl tNil)) σ H fun z => z = .bool (ds.all g) := by
  have e : (ds.map fun d => PyData.bool (g d)) = (ds.map g).map PyData.bool := by rw [List.map_map]; rfl
  rw [e] at h
  exact (ev_all h).imp fun z e => e.trans (by rw [List.all_map]; rfl)
end
theorem sm_tup {ds : List PyData} (h : sm (.tuple ds) = true) : ds.length ≤ 60 ∧ ∀ d ∈ ds, sm d = true := by
  rw [sm, Bool.and_eq_true] at h
  exact ⟨of_decide_eq_true h.1, fun d => smAll_mem h.2⟩
end Mv
/-! # Dicts whose keys are tuples of any depth -/
namespace Mv
open PySem PySem.Spec PyProof.Rows L2 He
mutual
def keyN : PyData → NestedKey
  | .int i => .num i
  | .bool k => .num (if k = true then 1 else 0)
  | .str x => .text x
  | .tuple ds => .tup (keyNs ds)
  | _ => .none
def keyNs : List PyData → List NestedKey
  | [] => []
  | d :: ds => keyN d :: keyNs ds
end
mutual
/-- what may be a key: numbers, texts, tuples of such -/
def keyOkD : PyData → Bool
  | .int _ => true
  | .str _ => true
  | .tuple ds => keyOkDs ds
  | _ => false
def keyOkDs : List PyData → Bool
  | [] => true
  | d :: ds => keyOkD d && keyOkDs ds
end
mutual
theorem keyN_inj : ∀ {d e : PyData}, keyOkD d = true → keyOkD e = true → keyN d = keyN e → d = e
  | .int i, .int j, _, _, h => by rw [keyN, keyN] at h; rw [NestedKey.num.inj h]
  | .str i, .str j, _, _, h => by rw [keyN, keyN] at h; rw [NestedKey.text.inj h]
  | .tuple ds, .tuple es, h1, h2, h => by
    rw [keyN, keyN] at h
    rw [keyNs_inj h1 h2 (NestedKey.tup.inj h)]
  | .int _, .str _, _, _, h => by rw [keyN, keyN] at h; cases h
  | .int _, .tuple _, _, _, h => by rw [keyN, keyN] at h; cases h
  | .str _, .int _, _, _, h => by rw [keyN, keyN] at h; cases h
  | .str _, .tuple _, _, _, h => by rw [keyN, keyN] at h; cases h
  | .tuple _, .int _, _, _, h => by rw [keyN, keyN] at h; cases h
  | .tuple _, .str _, _, _, h => by rw [keyN, keyN] at h; cases h
  | .none, _, h, _, _ => by cases h
  | .bool _, _, h, _, _ => by cases h
  | .list _, _, h, _, _ => by cases h
  | .dict _, _, h, _, _ => by cases h
  | .int _, .none, _, h, _ => by cases h
  | .int _, .bool _, _, h, _ => by cases h
  | .int _, .list _, _, h, _ => by cases h
  | .int _, .dict _, _, h, _ => by cases h
  | .str _, .none, _, h, _ => by cases h
  | .str _, .bool _, _, h, _ => by cases h
  | .str _, .list _, _, h, _ => by cases h
  | .str _, .dict _, _, h, _ => by cases h
  | .tuple _, .none, _, h, _ => by cases h
  | .tuple _, .bool _, _, h, _ => by cases h
  | .tuple _, .list _, _, h, _ => by cases h
  | .tuple _, .dict _, _, h, _ => by cases h
theorem keyNs_inj : ∀ {ds es : List PyData}, keyOkDs ds = true → keyOkDs es = true → keyNs ds = keyNs es → ds = es
  | [], [], _, _, _ => rfl
  | d :: ds, e :: es, h1, h2, h => by
    rw [keyOkDs, Bool.and_eq_true] at h1 h2
    rw [keyNs, keyNs] at h
    have := List.cons.inj h
    rw [keyN_inj h1.1 h2.1 this.1, keyNs_inj h1.2 h2.2 this.2]
  | [], _ :: _, _, _, h => by rw [keyNs, keyNs] at h; cases h
  | _ :: _, [], _, _, h => by rw [keyNs, keyNs] at h; cases h
end
section
variable {X : Cx} {pins : List (Addr × Obj)} {σ : L2.St} {H : Hp} {s : Shared} {S : List Addr}
mutual
theorem At.nested (I : Inv X pins σ H s) : ∀ {d : PyData} {v : V} {u : Value}, At S H v d → keyOkD d = true → RelV v u → NestedIs s.heap (keyN d) u
  | .int i, _, _, h, _, r => by
    cases h
    obtain ⟨t, rfl⟩ := r
    exact .int i t
  | .str x, _, _, h, _, r => by
    cases h
    obtain ⟨t, rfl⟩ := r
    exact .text x t
  | .tuple ds, _, _, h, k, r => by
    cases h with
    | tup n ha ra =>
      cases r
      obtain ⟨its, rv, ⟨o, ho, hc, m, hd⟩, hz⟩ := I.tuple (SqT.of (K := X.K) ha)
      rw [keyN]
      exact .tup ho hc hd (Ats.nested I ra k rv)
  | .none, _, _, _, k, _ => by cases k
  | .bool _, _, _, _, k, _ => by cases k
  | .list _, _, _, _, k, _ => by cases k
  | .dict _, _, _, _, k, _ => by cases k
theorem Ats.nested (I : Inv X pins σ H s) : ∀ {ds : List PyData} {vs : List V} {us : List Value}, Ats S H vs ds → keyOkDs ds = true → Vals vs us → NestedAll s.heap (keyNs ds) us
  | [], _, _, h, _, r => by
    cases h
    cases r
    exact .nil
  | d :: ds, _, _, h, k, r => by
    cases h with
    | cons h hr =>
      cases r with
      | cons r rr =>
        rw [keyOkDs, Bool.and_eq_true] at k
        rw [keyNs]
        exact .cons (At.nested I h k.1 r) (Ats.nested I hr k.2 rr)
end
end
/-! ### the dict's object -/
abbrev KEnt := NestedKey × Addr × V
def RelE (x : KEnt) (y : NestedKey × Addr × Value) : Prop := x.1 = y.1 ∧ x.2.1 = y.2.1 ∧ RelV x.2.2 y.2.2
def DNt (P : Program) (w : World) (d : Addr) (xs : List KEnt) (h : Heap) : Prop := xs.length ≤ sizeLine ∧ (d == sysModules) = false ∧ ∃ ys : List (NestedKey × Addr × Value), Paired RelE xs ys ∧
  ∃ o es ep, h.get? d = some o ∧ o.ExactDict ∧ o.data = .dict es ep ∧ es.toList = ys.map (entryOfKey (nestedKind P w)) ∧ (ys.map (·.1)).Nodup
def DN (P : Program) (w : World) (d : Addr) (xs : List KEnt) : HO := .ext (DNt P w d xs)
theorem DN.okk {P : Program} {w : World} {H : Hp} {h : Heap} {d : Addr} {xs : List KEnt} (x : DNt P w d xs h) : ObjOk P w H h d (DN P w d xs) :=
  ⟨x, let ⟨_, _, _, _, o, _, _, e, _⟩ := x; ⟨o, e⟩, fun h1 h2 ⟨z, m, ys, r, o, es, ep, e, c⟩ k => ⟨z, m, ys, r, o, es, ep, k o e, c⟩⟩
def atE (xs : List KEnt) (k : NestedKey) : Option (Addr × V) := (xs.find? fun x => decide (x.1 = k)).map (·.2)
def putE (xs : List KEnt) (k : NestedKey) (a : Addr) (v : V) : List KEnt := if (atE xs k).isSome then xs.map (fun x => if x.1 = k then (x.1, x.2.1, v) else x) else xs ++ [(k, a, v)]
theorem rel_at {xs : List KEnt} {ys : List (NestedKey × Addr × Value)} (r : Paired RelE xs ys) (k : NestedKey) : (atE xs k = none ∧ atKey ys k = none) ∨ ∃ a v u, atE xs k = some (a, v) ∧ atKey ys k = some (a, u) ∧ RelV v u := by
  induction r with
  | nil => exact .inl ⟨rfl, rfl⟩
  | @cons x y xs ys h t ih =>
    obtain ⟨h1, h2, h3⟩ := h
    unfold atE atKey at ih ⊢
    by_cases e : x.1 = k
    · refine .inr ⟨x.2.1, x.2.2, y.2.2, ?_, ?_, h3⟩
      · rw [List.find?_cons, decide_eq_true e]; rfl
      · rw [List.find?_cons, decide_eq_true (h1 ▸ e), h2]; rfl
    · rw [List.find?_cons, List.find?_cons, decide_eq_false e, decide_eq_false (h1 ▸ e)]
      exact ih
theorem rel_put {xs : List KEnt} {ys : List (NestedKey × Addr × Value)} (r : Paired RelE xs ys) (k : NestedKey) (a : Addr) {v : V} {u : Value} (rv : RelV v u) : Paired RelE (putE xs k a v) (storedH ys k a u) := by
  have hm : ∀ {xs : List KEnt} {ys : List (NestedKey × Addr × Value)}, Paired RelE xs ys → Paired RelE (xs.map (fun x => if x.1 = k then (x.1, x.2.1, v) else x)) (ys.map (putAt k u)) := fun r => by
    induction r with
    | nil => exact .nil
    | @cons x y xs ys h t ih =>
      refine .cons ?_ ih
      obtain ⟨h1, h2, h3⟩ := h
      unfold putAt
      show RelE (if x.1 = k then (x.1, x.2.1, v) else x) _
      by_cases e : x.1 = k
      · rw [if_pos e, if_pos (h1 ▸ e)]
        exact ⟨h1, h2, rv⟩
      · rw [if_neg e, if_neg (h1 ▸ e)]
        exact ⟨h1, h2, h3⟩
  have ha : ∀ {xs : List KEnt} {ys : List (NestedKey × Addr × Value)}, Paired RelE xs ys → Paired RelE (xs ++ [(k, a, v)]) (ys ++ [(k, a, u)]) := fun r => by
    induction r with
    | nil => exact .cons ⟨rfl, rfl, rv⟩ .nil
    | cons h t ih => exact .cons h ih
  unfold putE storedH
  rcases rel_at r k with ⟨e1, e2⟩ | ⟨a', v', u', e1, e2, _⟩
  · rw [e1, e2]
    exact ha r
  · rw [e1, e2]
    exact hm r
/-- the keys of xs stand in H -/
def KeysAt (S : List Addr) (H : Hp) (xs : List KEnt) : Prop := ∀ x ∈ xs, ∃ kd, At S H (.ref x.2.1) kd ∧ keyN kd = x.1 ∧ keyOkD kd = true ∧ x.1.depth ≤ 8
section
variable {X : Cx} {pins : List (Addr × Obj)} {σ : L2.St} {H : Hp} {s : Shared} {S : List Addr} {d : Addr} {xs : List KEnt}
theorem paired_mem {α β : Type} {F : α → β → Prop} : ∀ {l : List α} {m : List β} {y : β}, Paired F l m → y ∈ m → ∃ x ∈ l, F x y
  | _, _, _, .nil, h => by cases h
  | _, _, _, .cons r t, h => by
    rcases List.mem_cons.mp h with rfl | h
    · exact ⟨_, List.mem_cons_self, r⟩
    · obtain ⟨x, hx, q⟩ := paired_mem t h
      exact ⟨x, List.mem_cons_of_mem _ hx, q⟩
theorem dn_at (I : Inv X pins σ H s) (hd : H d = some (DN X.prog X.w d xs)) (hk : KeysAt S H xs) : xs.length ≤ sizeLine ∧ (d == sysModules) = false ∧ ∃ ys, Paired RelE xs ys ∧ s.heap.DictOfH (nestedKind X.prog X.w) d ys := by
  obtain ⟨⟨z, m, ys, r, o, es, ep, e1, e2, e3, e4, e5⟩, _⟩ := I.hok d _ hd
  refine ⟨z, m, ys, r, o, es, ep, e1, e2, e3, e4, fun y hy => ?_, e5⟩
  obtain ⟨x, hx, h1, h2, _⟩ := paired_mem r hy
  obtain ⟨kd, ha, hn, ok, dp⟩ := hk x hx
  have := At.nested I ha ok (show RelV (.ref x.2.1) (.ref x.2.1) from rfl)
  rw [hn, h1, h2] at this
  exact ⟨this, h1 ▸ dp⟩
/-! ### k in d, d[k], d[k] = v -/
def rNIn (P : Program) (w : World) (f : Bool → Bool) : L2.R2 := fun x y H Q => ∃ (S : List Addr) (key : PyData) (d : Addr) (xs : List KEnt), y = .ref d ∧ H d = some (DN P w d xs) ∧ KeysAt S H xs ∧ At S H x key ∧ keyOkD key = true ∧ isT key = true ∧ (keyN key).depth ≤ 8 ∧ Q (.bl (f (atE xs (keyN key)).isSome)) H
theorem at_ref {x : V} {key : PyData} (a : At S H x key) (t : isT key = true) : ∃ c, x = .ref c := by
  cases a <;> first | (cases t; done) | exact ⟨_, rfl⟩
theorem op_nin (hu : X.A.units + 64 < cLine) : OpR X (compareOp .In) (rNIn X.prog X.w fun k => k) := by
  intro pins s σ H x y v u Q I rx ry h
  obtain ⟨S, key, d, xs, rfl, hd, hk, ha, ok, ht, dp, q⟩ := h
  obtain ⟨z, m, ys, r, D⟩ := dn_at I hd hk
  obtain ⟨c, rfl⟩ := at_ref ha ht
  have hn := At.nested I ha ok rx
  cases rx
  cases ry
  refine wpAny_in_heap (knd := nestedKind X.prog X.w) (show X.A.in1.units + 8 < cLine by show X.A.units + 1 + 8 < cLine; omega) ⟨hn, dp⟩ m D ⟨.bl _, H, I.tok _, rfl, ?_⟩
  rcases rel_at r (keyN key) with ⟨e1, e2⟩ | ⟨a', v', u', e1, e2, _⟩
  · rw [e1] at q; rw [e2]; exact q
  · rw [e1] at q; rw [e2]; exact q
theorem op_nnin (hu : X.A.units + 64 < cLine) : OpR X (compareOp .NotIn) (rNIn X.prog X.w fun k => !k) := by
  intro pins s σ H x y v u Q I rx ry h
  obtain ⟨S, key, d, xs, rfl, hd, hk, ha, ok, ht, dp, q⟩ := h
  obtain ⟨z, m, ys, r, D⟩ := dn_at I hd hk
  obtain ⟨c, rfl⟩ := at_ref ha ht
  have hn := At.nested I ha ok rx
  cases rx
  cases ry
  show wpAny _ _ (do return Value.bool (!(← contains (.ref d) (.ref c)))) _ _ s
  refine wpAny_bind (wpAny_contains_heap (knd := nestedKind X.prog X.w) (show X.A.in1.units + 8 < cLine by show X.A.units + 1 + 8 < cLine; omega) ⟨hn, dp⟩ m D (wpAny_pure ⟨.bl _, H, I.tok _, rfl, ?_⟩))
  rcases rel_at r (keyN key) with ⟨e1, e2⟩ | ⟨a', v', u', e1, e2, _⟩
  · rw [e1] at q; rw [e2]; exact q
  · rw [e1] at q; rw [e2]; exact q
def rNGet (P : Program) (w : World) : V → V → Hp → VK → Prop := fun y x H Q => ∃ (S : List Addr) (key : PyData) (d : Addr) (xs : List KEnt) (a : Addr) (v : V), y = .ref d ∧ H d = some (DN P w d xs) ∧ KeysAt S H xs ∧ At S H x key ∧ keyOkD key = true ∧ isT key = true ∧ (keyN key).depth ≤ 8 ∧ atE xs (keyN key) = some (a, v) ∧ Q v H
def tNGet (P : Program) (w : World) (td ty : TE) : TE := fun σ H Q => td σ H fun x H1 => ty σ H1 fun y H2 => rNGet P w x y H2 Q
theorem pe_nget {o i : Expr} {pos : Pos} {td ty : TE} (hu : X.A.units + 64 < cLine) (ho : PE X o td) (hi : PE X i ty) (hs : NoSl i) : PE X (.Subscript o i pos) (tNGet X.prog X.w td ty) := by
  refine ⟨fun pins s σ H Q I h => ?_⟩
  refine subD_of PySem.F.slot_dict_getitem.lookup hs (thn (ho.run pins s σ H _ I h) fun u s1 ⟨x, H1, I1, rx, q1⟩ => thn (hi.run pins s1 σ H1 _ I1 q1) fun iv s2 ⟨y, H2, I2, ry, S, key, d, xs, a, v, ex, hd, hk, ha, ok, ht, dp, e, q⟩ => ?_)
  subst ex
  obtain ⟨z, m, ys, r, D⟩ := dn_at I2 hd hk
  obtain ⟨c, rfl⟩ := at_ref ha ht
  have hn := At.nested I2 ha ok ry
  cases rx
  cases ry
  rcases rel_at r (keyN key) with ⟨e1, e2⟩ | ⟨a', v', u', e1, e2, rv⟩
  · rw [e1] at e; cases e
  · rw [e1] at e
    cases e
    exact ⟨D.typeIs, wpAny_getItem_heap (knd := nestedKind X.prog X.w) (show X.A.in1.units + 8 < cLine by show X.A.units + 1 + 8 < cLine; omega) ⟨hn, dp⟩ D e2 ⟨v, H2, I2.tok _, rv, q⟩⟩
def rNSet (P : Program) (w : World) : TSet := fun y x v H Q => ∃ (S : List Addr) (key : PyData) (d c : Addr) (xs : List KEnt), y = .ref d ∧ x = .ref c ∧ H d = some (DN P w d xs) ∧ KeysAt S H xs ∧ At S H x key ∧ keyOkD key = true ∧ (keyN key).depth ≤ 8 ∧ xs.length < sizeLine ∧ Q (upd H d (DN P w d (putE xs (keyN key) c v)))
theorem set_nest (hu : X.A.units + 64 < cLine) : PSet X (rNSet X.prog X.w) := by
  intro pins s σ H o i v ov iv u Q I ro ri rv h
  obtain ⟨S, key, d, c, xs, rfl, rfl, hd, hk, ha, ok, dp, hl, q⟩ := h
  obtain ⟨z, m, ys, r, D⟩ := dn_at I hd hk
  have hn := At.nested I ha ok ri
  cases ro
  cases ri
  have hz : ys.length ≤ sizeLine := by rw [← Paired.length r]; exact z
  refine wpAny_setItem_heap (knd := nestedKind X.prog X.w) (hsz := hz) (show X.A.in1.units + 8 < cLine by show X.A.units + 1 + 8 < cLine; omega) ⟨hn, dp⟩ D fun h' D' hs => ?_
  obtain ⟨o', es, ep, e1, e2, e3, e4, _, e5⟩ := D'
  have rp := rel_put r (keyN key) c rv
  have hl' : (putE xs (keyN key) c v).length ≤ sizeLine := by
    unfold putE
    split
    · rw [List.length_map]; exact z
    · rw [List.length_append]; exact hl
  exact ⟨_, d_write I (by rw [hd]; exact True.intro) hs ⟨o', e1⟩ (DN.okk ⟨hl', m, _, rp, o', es, ep, e1, e2, e3, e4, e5⟩), q⟩
/-- dict([]) -/
def rDict0 (K : PySem.W.Frag) (P : Program) (w : World) : List V → Hp → VK → Prop := fun xs H Q => ∃ a, xs = [.ref a] ∧ SqL K H a [] ∧ ∀ d, H d = none → Q (.ref d) (upd H d (DN P w d []))
theorem cr_dict0 (hc : X.calm = true) : CallR X (.type "dict") (rDict0 X.K X.prog X.w) := by
  intro pins s σ H xs us Q I r q
  obtain ⟨a, rfl, hq, q⟩ := q
  refine wpAny_mono (call_dictP hc pins s σ H [.ref a] us (fun v H' => ∃ d, v = .ref d ∧ H d = none ∧ H' = upd H d (.dK [])) I r ⟨a, [], [], rfl, hq, .nil, fun p hp => ⟨p, rfl, hp, rfl⟩⟩) (fun u s' ⟨v, H', I', rv, d, ev, hn, eH⟩ => ?_) fun _ _ e => e
  subst ev eH
  obtain ⟨z, m, vs, rel, o, es, ep, e1, e2, e3, e4⟩ := I'.hok d _ upd_same
  cases rel
  have e0 : es = #[] := by
    have := e4.2.1.length
    exact Array.eq_empty_of_size_eq_zero (by rw [← Array.length_toList, this]; rfl)
  have nw : DNt X.prog X.w d [] s'.heap := ⟨Nat.zero_le _, m, [], .nil, o, es, ep, e1, e2, e3, by rw [e0]; rfl, List.nodup_nil⟩
  have I2 := d_write (H := upd H d (.dK [])) (a := d) (ob := DN X.prog X.w d []) (t' := s'.toks) I' (by rw [upd_same]; exact True.intro) ⟨rfl, fun b _ => rfl⟩ ⟨o, e1⟩ (DN.okk nw)
  rw [upd_upd] at I2
  exact ⟨.ref d, _, I2, rv, q d hn⟩
end
end Mv
/-! # Sets whose elements are tuples of whole numbers, or tuples of such, to any depth -/
namespace Mv
open PySem PySem.Spec PyProof.Rows L2 He
mutual
/-- numbers only at the leaves -/
def numK : NestedKey → Bool
  | .num _ => true
  | .tup ks => numKs ks
  | _ => false
def numKs : List NestedKey → Bool
  | [] => true
  | k :: ks => numK k && numKs ks
end
section
variable {P : Program} {w : World}
/-- the question "is its class from a statement" answers no -/
def PlainCls (P : Program) (w : World) (n : Nat) (s : Shared) (v : Value) : Prop := ∀ (A : Around) (E : Value → Shared → Prop) (Q : Bool → Shared → Prop), Q false s → wpAny (model P w) A (ofAClassStatement n v) Q E s
/-- the question "does its hash tell its value" answers yes -/
def HashVal (P : Program) (w : World) (n : Nat) (s : Shared) (v : Value) : Prop := ∀ (A : Around) (E : Value → Shared → Prop) (Q : Bool → Shared → Prop), Q true s → wpAny (model P w) A (hashByValue n v) Q E s
theorem PlainCls.lit {n : Nat} {s : Shared} {v : Value} (h : ofAClassStatement n v = pure false) : PlainCls P w n s v := fun A E Q q => by
  rw [h]; exact wpAny_pure q
theorem HashVal.lit {n : Nat} {s : Shared} {v : Value} (h : hashByValue n v = pure true) : HashVal P w n s v := fun A E Q q => by
  rw [h]; exact wpAny_pure q
theorem PlainCls.tup {n : Nat} {s : Shared} {c : Addr} {o : Obj} {its : Array Value} {m : Nat} (ho : s.heap.get? c = some o) (hc : o.cls = .type "tuple") (hd : o.data = .seq its m) (all : ∀ v ∈ its.toList, PlainCls P w n s v) : PlainCls P w (n + 1) s (.ref c) := fun A E Q q => by
  unfold ofAClassStatement
  refine wpAny_bind (wpAny_typeOf ⟨o, ho, hc⟩ ?_)
  dsimp only
  have tt : (("tuple" : String) == "tuple") = true := by decide
  simp only [tt, if_true, Bool.not_true, Bool.false_eq_true, if_false]
  try refine wpAny_bind (wpAny_pure ?_)
  try simp only [Bool.not_true, Bool.false_eq_true, if_false]
  show wpAny _ _ (seqItems? (.ref c) >>= _) _ _ s
  refine wpAny_bind (wpAny_seqItems ho hd ?_)
  dsimp only
  refine wpAny_bind ?_
  show wpAny _ _ (forIn its _ _) _ _ s
  rw [← Array.forIn_toList]
  refine wpAny_forIn_list _ (fun l z s' => z.1 = none ∧ s' = s ∧ ∀ v ∈ l, PlainCls P w n s v) _ ?_ ?_ _ _ ⟨rfl, rfl, all⟩
  · rintro v l z s' ⟨_, rfl, al⟩
    refine wpAny_bind (al v List.mem_cons_self _ _ _ ?_)
    simp only [Bool.false_eq_true, if_false]
    exact wpAny_pure ⟨rfl, rfl, fun x hx => al x (List.mem_cons_of_mem _ hx)⟩
  · rintro ⟨z1, z2⟩ s' ⟨hz, rfl, _⟩
    cases (show z1 = none from hz)
    exact wpAny_pure q
theorem HashVal.tup {n : Nat} {s : Shared} {c : Addr} {o : Obj} {its : Array Value} {m : Nat} (ho : s.heap.get? c = some o) (hc : o.cls = .type "tuple") (hd : o.data = .seq its m) (all : ∀ v ∈ its.toList, HashVal P w n s v) : HashVal P w (n + 1) s (.ref c) := fun A E Q q => by
  unfold hashByValue
  refine wpAny_bind (wpAny_specialOf (T := "tuple") ⟨o, ho, hc⟩ F.slot_tuple_hash.lookup ?_)
  show wpAny _ _ (seqItems? (.ref c) >>= _) _ _ s
  refine wpAny_bind (wpAny_seqItems ho hd ?_)
  refine wpAny_bind ?_
  show wpAny _ _ (forIn its _ _) _ _ s
  rw [← Array.forIn_toList]
  refine wpAny_forIn_list _ (fun l z s' => z.1 = none ∧ s' = s ∧ ∀ v ∈ l, HashVal P w n s v) _ ?_ ?_ _ _ ⟨rfl, rfl, all⟩
  · rintro v l z s' ⟨_, rfl, al⟩
    refine wpAny_bind (al v List.mem_cons_self _ _ _ ?_)
    simp only [Bool.not_true, Bool.false_eq_true, if_false]
    exact wpAny_pure ⟨rfl, rfl, fun x hx => al x (List.mem_cons_of_mem _ hx)⟩
  · rintro ⟨z1, z2⟩ s' ⟨hz, rfl, _⟩
    cases (show z1 = none from hz)
    exact wpAny_pure q
theorem ofA_lit (n : Nat) {v : Value} (h : ∀ c, v ≠ .ref c) : ofAClassStatement n v = pure false := by
  cases v <;> first | (cases n <;> rfl) | exact absurd rfl (h _)
theorem hv_int (n : Nat) (i : Int) (t : Tok) : hashByValue n (.int i t) = pure true := by cases n <;> rfl
theorem hv_bool (n : Nat) (b : Bool) : hashByValue n (.bool b) = pure true := by cases n <;> rfl
mutual
theorem plainCls_key : ∀ (k : NestedKey) (v : Value) (n : Nat) (s : Shared), NestedIs s.heap k v → k.depth ≤ n → PlainCls P w n s v
  | .none, _, n, s, x, _ => by cases x; exact .lit (ofA_lit n (fun c e => nomatch e))
  | .num i, _, n, s, x, _ => by cases x <;> exact .lit (ofA_lit n (fun c e => nomatch e))
  | .text y, _, n, s, x, _ => by cases x; exact .lit (ofA_lit n (fun c e => nomatch e))
  | .tup ks, _, n, s, x, hn => by
    cases x with
    | tup g1 g2 g3 g4 =>
      rw [NestedKey.depth] at hn
      match n, hn with
      | n + 1, hn => exact .tup g1 g2 g3 (plainCls_keys ks _ n s g4 (Nat.le_of_succ_le_succ hn))
theorem plainCls_keys : ∀ (ks : List NestedKey) (vs : List Value) (n : Nat) (s : Shared), NestedAll s.heap ks vs → NestedKey.depthAll ks ≤ n → ∀ v ∈ vs, PlainCls P w n s v
  | [], _, _, _, x, _, v, hv => by cases x; cases hv
  | k :: ks, _, n, s, x, hn, v, hv => by
    cases x with
    | cons x1 x2 =>
      rw [NestedKey.depthAll] at hn
      rcases List.mem_cons.mp hv with e | hv
      · subst e; exact plainCls_key k _ n s x1 (Nat.le_trans (Nat.le_max_left ..) hn)
      · exact plainCls_keys ks _ n s x2 (Nat.le_trans (Nat.le_max_right ..) hn) v hv
end
mutual
theorem hashVal_key : ∀ (k : NestedKey) (v : Value) (n : Nat) (s : Shared), NestedIs s.heap k v → k.depth ≤ n → numK k = true → HashVal P w n s v
  | .none, _, _, _, _, _, h => by cases h
  | .num i, _, n, s, x, _, _ => by
    cases x with
    | int _ t => exact .lit (hv_int n i t)
    | bool e => exact .lit (hv_bool n _)
  | .text y, _, _, _, _, _, h => by cases h
  | .tup ks, _, n, s, x, hn, h => by
    cases x with
    | tup g1 g2 g3 g4 =>
      rw [NestedKey.depth] at hn
      match n, hn with
      | n + 1, hn => exact .tup g1 g2 g3 (hashVal_keys ks _ n s g4 (Nat.le_of_succ_le_succ hn) h)
theorem hashVal_keys : ∀ (ks : List NestedKey) (vs : List Value) (n : Nat) (s : Shared), NestedAll s.heap ks vs → NestedKey.depthAll ks ≤ n → numKs ks = true → ∀ v ∈ vs, HashVal P w n s v
  | [], _, _, _, x, _, _, v, hv => by cases x; cases hv
  | k :: ks, _, n, s, x, hn, h, v, hv => by
    cases x with
    | cons x1 x2 =>
      rw [NestedKey.depthAll] at hn
      rw [numKs, Bool.and_eq_true] at h
      rcases List.mem_cons.mp hv with e | hv
      · subst e; exact hashVal_key k _ n s x1 (Nat.le_trans (Nat.le_max_left ..) hn) h.1
      · exact hashVal_keys ks _ n s x2 (Nat.le_trans (Nat.le_max_right ..) hn) h.2 v hv
end
/-- an element: a tuple that is the key k -/
structure IsK (h : Heap) (k : NestedKey) (c : Addr) : Prop where
  is : NestedIs h k (.ref c)
  deep : k.depth ≤ 8
  num : numK k = true
theorem IsK.stays {h h' : Heap} {k : NestedKey} {c : Addr} (x : IsK h k c) (keep : ∀ b o vs n, h.get? b = some o → o.data = .seq vs n → h'.get? b = some o) : IsK h' k c := ⟨NestedIs.at keep _ _ x.is, x.deep, x.num⟩
theorem IsK.ext {h h' : Heap} {k : NestedKey} {c : Addr} (x : IsK h k c) (keep : ∀ b o, h.get? b = some o → h'.get? b = some o) : IsK h' k c := x.stays fun b o _ _ e _ => keep b o e
theorem IsK.put {h h' : Heap} {k : NestedKey} {a c : Addr} {o : Obj} {es : Array (Int × Value)} {ep : Nat} {t : SetTable} (x : IsK h k c) (ho : h.get? a = some o) (hd : o.data = .set es ep t) (sb : Heap.SameBut a h h') : IsK h' k c :=
  x.stays fun b o' vs n e e2 => (sb.2 b fun z => by
    subst z
    cases ho.symm.trans e
    rw [hd] at e2
    exact nomatch e2).trans e
variable {A : Around} {E : Value → Shared → Prop} {s : Shared}
/-- a search among elements shows nothing -/
theorem seen_key {k : NestedKey} {c : Addr} {Q : Bool → Shared → Prop} (x : IsK s.heap k c) {ys : List Value} (hy : ∀ y ∈ ys, ∃ k' c', y = Value.ref c' ∧ IsK s.heap k' c') (q : Q false s) : wpAny (model P w) A (searchCouldBeSeen (.ref c) ys) Q E s := by
  unfold searchCouldBeSeen
  refine wpAny_bind ?_
  refine wpAny_forIn_list _ (fun l z s' => z.1 = none ∧ s' = s ∧ ∀ y ∈ l, ∃ k' c', y = Value.ref c' ∧ IsK s.heap k' c') _ ?_ ?_ _ _ ⟨rfl, rfl, hy⟩
  · rintro v l z s' ⟨_, rfl, al⟩
    obtain ⟨k', c', rfl, x'⟩ := al v List.mem_cons_self
    have al' : ∀ y ∈ l, ∃ k' c', y = Value.ref c' ∧ IsK s'.heap k' c' := fun y hy => al y (List.mem_cons_of_mem _ hy)
    dsimp only
    by_cases very : (c == c' || (carriedByValue (.ref c) && carriedByValue (.ref c'))) = true
    · exact wp_if_pos very (wpAny_pure ⟨rfl, rfl, al'⟩)
    · refine wp_if_neg very ?_
      refine wpAny_bind (quiet_key k _ 8 _ x.is x.deep _ _ _ ?_)
      simp only [Bool.not_true, Bool.false_eq_true, if_false]
      refine wpAny_bind (quiet_key k' _ 8 _ x'.is x'.deep _ _ _ ?_)
      simp only [Bool.not_true, Bool.false_eq_true, if_false]
      refine wpAny_bind (plainCls_key k _ 8 _ x.is x.deep _ _ _ ?_)
      simp only [Bool.false_eq_true, if_false]
      refine wpAny_bind (plainCls_key k' _ 8 _ x'.is x'.deep _ _ _ ?_)
      simp only [Bool.false_eq_true, if_false]
      exact wpAny_pure ⟨rfl, rfl, al'⟩
  · rintro ⟨z1, z2⟩ s' ⟨hz, rfl, _⟩
    cases (show z1 = none from hz)
    exact wpAny_pure q
end
end Mv
/-! # The search in a set's table, and adding -/
namespace Mv
open PySem PySem.Spec PyProof.Rows L2 He
/-- an element of a set: where it stands, and what it is -/
abbrev El := Addr × NestedKey
def rowE (w : World) (p : El) : Int × Value := (p.2.hash w, .ref p.1)
def hashE (w : World) (p : El) : Int := p.2.hash w
structure SetK (P : Program) (w : World) (h : Heap) (a : Addr) (L : List El) (es : Array (Int × Value)) (ep : Nat) (t : SetTable) : Prop where
  obj : ∃ o, h.get? a = some o ∧ o.ExactSet ∧ o.data = .set es ep t
  rows : es.toList = L.map (rowE w)
  tab : TabOk t (L.map (hashE w))
  once : (L.map (·.2)).Nodup
  elts : ∀ p ∈ L, IsK h p.2 p.1
  plain : t.plain = true
  led : w.params.followText "set-order" = true ∨ t.led = true
  room : L.length * 5 < t.mask * 3
  few : L.length < 64
section
variable {P : Program} {w : World} {A : Around} {E : Value → Shared → Prop} {s : Shared} {a : Addr} {L : List El} {es : Array (Int × Value)} {ep : Nat} {t : SetTable}
theorem rows_size (h : es.toList = L.map (rowE w)) : es.size = L.length := by
  rw [← Array.length_toList, h, List.length_map]
theorem SetK.size (R : SetK P w s.heap a L es ep t) : es.size = L.length := rows_size R.rows
theorem SetK.psz (R : SetK P w s.heap a L es ep t) : t.place.size = L.length := by
  rw [R.tab.sz, List.length_map]
theorem SetK.fits (R : SetK P w s.heap a L es ep t) : t.fits es.size = true := by
  have h1 := R.psz
  have h2 := R.size
  have h3 := R.room
  unfold SetTable.fits SetTable.fill
  rw [R.tab.dm, Bool.and_eq_true, beq_iff_eq, decide_eq_true_eq, h1, h2]
  refine ⟨rfl, ?_⟩
  show L.length + 0 ≤ _
  omega
theorem rows_at (h : es.toList = L.map (rowE w)) {i : Nat} {p : El} (hp : L[i]? = some p) : es[i]? = some (rowE w p) := by
  rw [← Array.getElem?_toList, h, List.getElem?_map, hp]; rfl
theorem SetK.notGone (R : SetK P w s.heap a L es ep t) : ¬ t.gaveWay = true := by
  unfold SetTable.gaveWay
  rw [mask_odd R.tab.mok]
  decide
/-- where the way of the hash h goes in the table t -/
abbrev wayP (t : SetTable) (h : Int) (c : Nat) : SetTable.Probe := L2.nth t.mask (L2.runAt t.mask (SetTable.bits h % (t.mask + 1)) (SetTable.bits h)) c
theorem wayP_dummy (m : Nat) : ∀ (n : Nat) (p : SetTable.Probe), p.dummy = none → (L2.nth m p n).dummy = none
  | 0, _, e => e
  | n + 1, p, e => wayP_dummy m n (L2.adv m p) (by unfold L2.adv; split <;> exact e)
/-- the search from the c-th step of the way on; K is the first empty place -/
theorem seekK (R : SetK P w s.heap a L es ep t) {x : Addr} {k : NestedKey} (hx : IsK s.heap k x) (hu : A.units + 8 < cLine) {K : Nat} (hf : K < 10 * SetTable.turns t.mask) (hno : way t.mask (k.hash w) K ∉ t.place.toList)
    (hyes : ∀ c, c < K → way t.mask (k.hash w) c ∈ t.place.toList) {Q : SetFound → Shared → Prop} (q1 : k ∈ L.map (·.2) → Q (.there none) s) (q2 : k ∉ L.map (·.2) → Q (.free (way t.mask (k.hash w) K) false) s) :
    ∀ (f c : Nat) (stand : Option SetTable.Probe), stand.getD (t.probeStart (k.hash w)) = wayP t (k.hash w) c → c ≤ K → K < f + c →
      (∀ (i : Nat) p, L[i]? = some p → p.2 = k → ∃ c', c ≤ c' ∧ c' < K ∧ t.place.toList[i]? = some (way t.mask (k.hash w) c')) →
      wpAny (model P w) A (setSearchFrom a (.ref x) (k.hash w) true f stand) Q E s := by
  intro f
  induction f with
  | zero => intro c _ _ h1 h2; omega
  | succ f ih =>
    intro c stand hst hc hlt hre
    obtain ⟨o, ho, hex, hd⟩ := R.obj
    rw [setSearchFrom_succ]
    refine wpAny_bind (wpAny_setState_of ho hd R.fits ?_)
    dsimp only
    refine wp_if_neg R.notGone ?_
    try refine wpAny_bind (wpAny_pure ?_)
    have off : ∀ n, L2.nth t.mask (wayP t (k.hash w) c) n = wayP t (k.hash w) (c + n) := fun n => (nth_add t.mask c _ n).symm
    have offj : ∀ n, (L2.nth t.mask (wayP t (k.hash w) c) n).j = way t.mask (k.hash w) (c + n) := fun n => congrArg SetTable.Probe.j (off n)
    have toK : c + (K - c) = K := by omega
    have gs := go_spec t R.tab.ris R.tab.dm (fun i => (es[i]?.map (·.1)).getD 0) (k.hash w) (10 * SetTable.turns t.mask) (K - c) (wayP t (k.hash w) c) (wayP_dummy _ _ _ rfl) (by omega)
      (fun n hn => by rw [offj]; exact hyes _ (by omega)) (by rw [offj, toK]; exact hno)
    have hashAt : ∀ (i : Nat) p, L[i]? = some p → (es[i]?.map (·.1)).getD 0 = p.2.hash w := fun i p hp => by
      rw [rows_at R.rows hp]; rfl
    rcases gs with ⟨n, i, hn, hi, hh, hbefore, hpr⟩ | ⟨hnone, hpr⟩
    · have hpr2 : t.probe (fun i => (es[i]?.map (·.1)).getD 0) (k.hash w) (stand.getD (t.probeStart (k.hash w))) = some (.candidate (way t.mask (k.hash w) (c + n)) i (wayP t (k.hash w) (c + (n + 1)))) := by
        rw [hst, ← offj, ← off]
        exact hpr
      rw [hpr2]
      dsimp only
      rw [offj] at hi
      have hil : i < L.length := by
        have := (List.getElem?_eq_some_iff.mp hi).1
        rw [Array.length_toList, R.psz] at this
        exact this
      obtain ⟨p, hp⟩ : ∃ p, L[i]? = some p := ⟨_, List.getElem?_eq_getElem hil⟩
      have hpL : p ∈ L := List.mem_of_getElem? hp
      have hpk := R.elts p hpL
      have after : wpAny (model P w) A (searchRest a (.ref x) (k.hash w) true f es t (way t.mask (k.hash w) (c + n)) i (wayP t (k.hash w) (c + (n + 1)))) Q E s := by
        unfold searchRest
        rw [rows_at R.rows hp]
        dsimp only [rowE]
        refine wpAny_bind (wpAny_holding ((nestedKind P w).eqBool (x := p.2) (y := k) (show A.units + 8 < cLine from hu) ⟨hpk.is, hpk.deep⟩ ⟨hx.is, hx.deep⟩ ?_))
        refine wpAny_bind (wpAny_setState_of ho hd R.fits ?_)
        dsimp only
        by_cases same : p.2 = k
        · refine wp_if_pos (by simp [same]) ?_
          exact wpAny_pure (q1 (List.mem_map.mpr ⟨p, hpL, same⟩))
        · refine wp_if_neg (by simp [same]) ?_
          try refine wpAny_bind (wpAny_pure ?_)
          rw [sameMem]
          dsimp only
          have live : t.slot (way t.mask (k.hash w) (c + n)) = .live i := slot_live R.tab.ris hi
          simp only [if_true, live, rows_at R.rows hp, rowE]
          refine wpAny_bind (wpAny_isSame_ref_self (wpAny_bind (wpAny_pure ?_)))
          simp only [if_true]
          refine wp_if_neg (by simp [same]) ?_
          refine ih (c + (n + 1)) _ rfl (by omega) (by omega) fun i0 p0 h0 hk0 => ?_
          obtain ⟨c', b1, b2, b3⟩ := hre i0 p0 h0 hk0
          refine ⟨c', ?_, b2, b3⟩
          rcases Nat.lt_trichotomy c' (c + n) with z | z | z
          · exact absurd ((hashAt i0 p0 h0).trans (by rw [hk0])) (hbefore (c' - c) i0 (by omega) (by rw [offj, show c + (c' - c) = c' by omega]; exact b3))
          · subst z
            have live2 := slot_live R.tab.ris b3
            rw [live] at live2
            injection live2 with e
            subst e
            cases hp.symm.trans h0
            exact absurd hk0 same
          · omega
      by_cases hl : t.led = true
      · refine wp_if_neg (by simp [hl]) ?_
        try refine wpAny_bind (wpAny_pure ?_)
        exact after
      · refine wp_if_pos (by simp [hl]) ?_
        refine wpAny_bind (seen_key hx (fun y hy => ?_) ?_)
        · obtain ⟨e, he, ey⟩ := List.mem_map.mp hy
          have he2 : e ∈ es.toList := by
            have := (show e ∈ es ∧ e.1 = k.hash w by simpa using he).1
            simpa using this
          rw [R.rows] at he2
          obtain ⟨p2, hp2, e2⟩ := List.mem_map.mp he2
          exact ⟨p2.2, p2.1, by rw [← ey, ← e2]; rfl, R.elts p2 hp2⟩
        · refine wp_if_neg (by decide) ?_
          try refine wpAny_bind (wpAny_pure ?_)
          exact after
    · have hpr2 : t.probe (fun i => (es[i]?.map (·.1)).getD 0) (k.hash w) (stand.getD (t.probeStart (k.hash w))) = some (.empty (way t.mask (k.hash w) K) none) := by
        have e2 : way t.mask (k.hash w) K = (L2.nth t.mask (wayP t (k.hash w) c) (K - c)).j := by rw [offj, toK]
        rw [hst, e2]
        exact hpr
      rw [hpr2]
      dsimp only
      refine wpAny_pure (q2 fun hm => ?_)
      obtain ⟨p0, h0, hk0⟩ := List.mem_map.mp hm
      obtain ⟨i0, hi0⟩ := List.getElem?_of_mem h0
      obtain ⟨c', b1, b2, b3⟩ := hre i0 p0 hi0 hk0
      exact hnone (c' - c) i0 (by omega) (by rw [offj, show c + (c' - c) = c' by omega]; exact b3) ((hashAt i0 p0 hi0).trans (by rw [hk0]))
/-- the search that adding asks for -/
theorem searchK (R : SetK P w s.heap a L es ep t) {x : Addr} {k : NestedKey} (hx : IsK s.heap k x) (hu : A.units + 8 < cLine) {Q : SetFound → Shared → Prop} (q1 : k ∈ L.map (·.2) → Q (.there none) s)
    (q2 : ∀ K, k ∉ L.map (·.2) → way t.mask (k.hash w) K ∉ t.place.toList → (∀ c, c < K → way t.mask (k.hash w) c ∈ t.place.toList) → Q (.free (way t.mask (k.hash w) K) false) s) : wpAny (model P w) A (setSearch a (.ref x) (k.hash w) true) Q E s := by
  have hr := R.room
  obtain ⟨K, b1, b2, b3⟩ := R.tab.first (by rw [List.length_map]; omega) (k.hash w)
  have big : 10 * SetTable.turns t.mask ≤ 1420 := by
    unfold SetTable.turns
    rcases R.tab.mok with e | e | e <;> omega
  unfold setSearch
  refine seekK R hx hu b1 b2 b3 q1 (fun hn => q2 K hn b2 b3) 100000 0 none rfl (Nat.zero_le _) (by omega) fun i p hp hk => ?_
  have hi : (L.map (hashE w))[i]? = some (k.hash w) := by rw [List.getElem?_map, hp, ← hk]; rfl
  have hil : i < t.place.toList.length := by
    rw [Array.length_toList, R.psz]
    exact (List.getElem?_eq_some_iff.mp hp).1
  obtain ⟨c, hc, e⟩ := R.tab.before b2 hi (List.getElem?_eq_getElem hil)
  exact ⟨c, Nat.zero_le _, hc, by rw [List.getElem?_eq_getElem hil, e]⟩
end
end Mv
/-! # Adding to a set; set(xs) -/
namespace Mv
open PySem PySem.Spec PyProof.Rows L2 He
theorem range_all {α : Type} (L : List α) : (List.range L.length).filterMap (fun i => L[i]?) = L := by
  have go : ∀ (l pre : List α), (List.range' pre.length l.length).filterMap (fun i => (pre ++ l)[i]?) = l := by
    intro l
    induction l with
    | nil => intro pre; rfl
    | cons x l ih =>
      intro pre
      rw [List.length_cons, List.range'_succ, List.filterMap_cons_some (b := x) (by rw [List.getElem?_append_right (Nat.le_refl _), Nat.sub_self]; rfl)]
      have := ih (pre ++ [x])
      rw [List.append_assoc, List.length_append] at this
      exact congrArg (x :: ·) this
  have := go L []
  rw [List.range_eq_range']
  exact this
theorem rows_order {w : World} {L : List El} {es : Array (Int × Value)} (hr : es.toList = L.map (rowE w)) {order : Array Nat} (hp : order.toList.Perm (List.range L.length)) :
    ∃ L2 : List El, (order.filterMap (es[·]?)).toList = L2.map (rowE w) ∧ L2.Perm L ∧ L2.map (hashE w) = order.toList.map fun i => (es.map (·.1)).getD i 0 := by
  have at_ : ∀ i, es[i]? = L[i]?.map (rowE w) := fun i => by rw [← Array.getElem?_toList, hr, List.getElem?_map]
  refine ⟨order.toList.filterMap fun i => L[i]?, ?_, ?_, ?_⟩
  · rw [Array.toList_filterMap, List.map_filterMap]
    exact congrArg (fun f => order.toList.filterMap f) (funext at_)
  · have := hp.filterMap fun i => L[i]?
    rw [range_all] at this
    exact this
  · have go : ∀ l : List Nat, (∀ i ∈ l, i < L.length) → (l.filterMap fun i => L[i]?).map (hashE w) = l.map fun i => (es.map (·.1)).getD i 0 := by
      intro l
      induction l with
      | nil => intro _; rfl
      | cons i l ih =>
        intro hl
        have hi := hl i List.mem_cons_self
        have e : L[i]? = some L[i] := List.getElem?_eq_getElem hi
        rw [List.filterMap_cons_some e, List.map_cons, List.map_cons, ih fun j hj => hl j (List.mem_cons_of_mem _ hj)]
        have e5 : (es.map (·.1))[i]? = some (hashE w L[i]) := by rw [Array.getElem?_map, at_ i, e]; rfl
        rw [Array.getD_eq_getD_getElem?, e5]; rfl
    exact go _ fun i hi => List.mem_range.mp (hp.mem_iff.mp hi)
section
variable {P : Program} {w : World} {A : Around} {E : Value → Shared → Prop} {s : Shared} {a : Addr} {L : List El} {es : Array (Int × Value)} {ep : Nat} {t : SetTable}
/-- the table is laid again, larger -/
theorem relayK {o : Obj} (ho : s.heap.get? a = some o) (hex : o.ExactSet) (hd : o.data = .set es ep t) (hr : es.toList = L.map (rowE w)) (hps : t.place.size = L.length) (hdm : t.dummies = #[]) (hm : L.length ≤ t.mask)
    (once : (L.map (·.2)).Nodup) (elts : ∀ p ∈ L, IsK s.heap p.2 p.1) (pl : t.plain = true) (ld : w.params.followText "set-order" = true ∨ t.led = true) (few : L.length < 64) {wanted M : Nat}
    (hw : SetTable.sizeAbove wanted - 1 = M) (hM : MaskOk M) (hw2 : SetTable.sizeAbove wanted ≤ 128) (hn : L.length * 5 < M * 3) {Q : Unit → Shared → Prop}
    (q : ∀ h' L' es' ep' t', Heap.SameBut a s.heap h' → SetK P w h' a L' es' ep' t' → L'.Perm L → Q () { s with heap := h' }) : wpAny (model P w) A (setRelay a wanted) Q E s := by
  have esz := rows_size hr
  have fits : t.fits es.size = true := by
    unfold SetTable.fits SetTable.fill
    rw [hdm, Bool.and_eq_true, beq_iff_eq, decide_eq_true_eq, hps, esz]
    exact ⟨rfl, hm⟩
  obtain ⟨t', order, e, hp, T, em, el, epl, ed⟩ := relaid_ok t (hs := es.map (·.1)) (wanted := wanted) hw hM (by rw [Array.size_map, esz]; omega)
  rw [Array.size_map, esz] at hp
  obtain ⟨L2, r1, r2, r3⟩ := rows_order hr hp
  rw [← r3] at T
  have sz2 : (order.filterMap (es[·]?)).size = L.length := by rw [rows_size r1, r2.length_eq]
  rw [setRelay_eq]
  refine wpAny_bind (wpAny_setState_of ho hd fits ?_)
  dsimp only
  refine wp_if_neg (by rw [sizeLine_eq]; omega) ?_
  try refine wpAny_bind (wpAny_pure ?_)
  rw [e]
  dsimp only
  refine wpAny_bind ?_
  refine wp_if_neg (by rw [sz2, esz]; simp) ?_
  try refine wpAny_bind (wpAny_pure ?_)
  refine wpAny_pure ?_
  dsimp only
  refine wpAny_storeSet_of ho hd ?_ (by rw [sz2, sizeLine_eq]; omega)
  have sb : Heap.SameBut a s.heap (s.heap.update a (Obj.putSet (order.filterMap (es[·]?)) t')) := Heap.SameBut.update ..
  exact q _ L2 _ (ep + 1) t' sb ⟨⟨_, store_at ho hd, ⟨hex.1, hex.2.1, hex.2.2⟩, rfl⟩, r1, T, (r2.map (·.2)).nodup_iff.mpr once, fun p hp => (elts p (r2.mem_iff.mp hp)).put ho hd sb, epl.trans pl, by rw [el]; exact ld, by rw [r2.length_eq, em]; exact hn, by rw [r2.length_eq]; exact few⟩ r2
/-- s.add(x) -/
theorem addK (R : SetK P w s.heap a L es ep t) {x : Addr} {k : NestedKey} (hx : IsK s.heap k x) (hu : A.units + 8 < cLine) (hfew : L.length + 1 < 64) {Q : Bool → Shared → Prop}
    (q : ∀ b h' L' es' ep' t', Heap.SameBut a s.heap h' → SetK P w h' a L' es' ep' t' → (k ∈ L.map (·.2) → L' = L) → (k ∉ L.map (·.2) → L'.Perm ((x, k) :: L)) → Q b { s with heap := h' }) : wpAny (model P w) A (setAddHashed a (.ref x) (k.hash w)) Q E s := by
  obtain ⟨o, ho, hex, hd⟩ := R.obj
  have hroom := R.room
  unfold setAddHashed
  refine wpAny_holding ?_
  rw [show (100000 : Nat) = 99999 + 1 from rfl, setAddHashedIn_succ]
  refine wpAny_bind (wpAny_setState_of ho hd R.fits ?_)
  dsimp only
  refine wp_if_neg (by simp [byScan, Value.scannable]) ?_
  try refine wpAny_bind (wpAny_pure ?_)
  refine wpAny_bind (searchK R hx hu (fun hm => ?_) fun K hm hK hb => ?_)
  · dsimp only
    exact wpAny_pure (q false s.heap L es ep t (Heap.SameBut.refl a s.heap) R (fun _ => rfl) fun z => absurd hm z)
  dsimp only
  refine wpAny_bind (wpAny_setState_of ho hd R.fits ?_)
  dsimp only
  obtain ⟨c1, c2, c3, c4, c5, c6, c7, c8, c9⟩ := R.tab.put hK hb
  have plain1 : (t.put (way t.mask (k.hash w) K)).1.plain = true := c6.trans R.plain
  generalize t.put (way t.mask (k.hash w) K) = pt at c1 c3 c4 c5 c6 c7 c8 c9 plain1 ⊢
  obtain ⟨t1, i⟩ := pt
  dsimp only at c1 c3 c4 c5 c6 c7 c8 c9 plain1 ⊢
  subst c1
  first
    | (refine wpAny_bind ?_; refine wp_if_pos plain1 ?_; refine hashVal_key k _ 8 _ hx.is hx.deep hx.num _ _ _ ?_)
    | refine wp_if_pos plain1 (wpAny_bind (hashVal_key k _ 8 _ hx.is hx.deep hx.num _ _ _ ?_))
  simp only [if_true]
  generalize SetTable.below t.place (way t.mask (k.hash w) K) = i at c2 c3 ⊢
  have rows1 : (SetTable.insertAt es i (k.hash w, Value.ref x)).toList = (L.take i ++ (x, k) :: L.drop i).map (rowE w) := by
    rw [SetTable.toList_insertAt, R.rows, List.map_append, List.map_cons, List.map_take, List.map_drop]
    rfl
  have hash1 : (L.take i ++ (x, k) :: L.drop i).map (hashE w) = (L.map (hashE w)).take i ++ k.hash w :: (L.map (hashE w)).drop i := by
    rw [List.map_append, List.map_cons, List.map_take, List.map_drop]
    rfl
  rw [← hash1] at c3
  have perm := put_perm L i (x, k)
  generalize L.take i ++ (x, k) :: L.drop i = L1 at perm rows1 c3
  have len1 : L1.length = L.length + 1 := perm.length_eq
  have once1 : (L1.map (·.2)).Nodup := (perm.map (·.2)).nodup_iff.mpr (by rw [List.map_cons]; exact List.nodup_cons.mpr ⟨hm, R.once⟩)
  have esz1 := rows_size rows1
  generalize SetTable.insertAt es i (k.hash w, Value.ref x) = es1 at rows1 esz1 ⊢
  refine wpAny_bind (wpAny_storeSet_of ho hd ?_ (by rw [esz1, len1, sizeLine_eq]; omega))
  have sb : Heap.SameBut a s.heap (s.heap.update a (Obj.putSet es1 t1)) := Heap.SameBut.update ..
  have ho1 := store_at (es' := es1) (t' := t1) ho hd
  generalize s.heap.update a (Obj.putSet es1 t1) = h1 at sb ho1 ⊢
  have elts1 : ∀ p ∈ L1, IsK h1 p.2 p.1 := fun p hp => by
    rcases List.mem_cons.mp (perm.mem_iff.mp hp) with e | hp
    · subst e; exact hx.put ho hd sb
    · exact (R.elts p hp).put ho hd sb
  have led1 : w.params.followText "set-order" = true ∨ t1.led = true := by rw [c5]; exact R.led
  by_cases hf : t1.tooFull = true
  · first
      | (refine wpAny_bind ?_; refine wp_if_pos (by simp [hf]) ?_)
      | (refine wp_if_pos (by simp [hf]) ?_; refine wpAny_bind ?_)
    have full : (L.length + 1) * 5 ≥ t.mask * 3 := by
      have z := hf
      unfold SetTable.tooFull at z
      rw [decide_eq_true_eq, c9, List.length_map, c4] at z
      exact z
    rw [R.size]
    have psz1 : t1.place.size = L1.length := by rw [c3.sz, List.length_map]
    have two : (t.mask = 7 ∧ L.length = 4) ∨ (t.mask = 31 ∧ L.length = 18) := by
      rcases R.tab.mok with e | e | e
      · left; rw [e] at full hroom; exact ⟨e, by omega⟩
      · right; rw [e] at full hroom; exact ⟨e, by omega⟩
      · exfalso; rw [e] at full; omega
    have go : ∀ M, SetTable.sizeAbove (SetTable.grown (L.length + 1)) - 1 = M → MaskOk M → SetTable.sizeAbove (SetTable.grown (L.length + 1)) ≤ 128 → (L.length + 1) * 5 < M * 3 →
        wpAny (model P w) A (setRelay a (SetTable.grown (L.length + 1))) (fun _ s' => wpAny (model P w) A (pure true) Q E s') E { s with heap := h1 } := fun M m1 m2 m3 m4 =>
      relayK (s := { s with heap := h1 }) ho1 ⟨hex.1, hex.2.1, hex.2.2⟩ rfl rows1 psz1 c3.dm (by rw [len1, c4]; rcases two with ⟨e, e2⟩ | ⟨e, e2⟩ <;> omega) once1 elts1 plain1 led1 (by rw [len1]; exact hfew) m1 m2 m3 (by rw [len1]; exact m4)
        fun h2 L2 es2 ep2 t2 sb2 R2 pm2 => wpAny_pure (q true h2 L2 es2 ep2 t2 (sb.trans sb2) R2 (fun z => absurd z hm) fun _ => pm2.trans perm)
    rcases two with ⟨_, e2⟩ | ⟨_, e2⟩
    · exact go 31 (by rw [e2, size_20]) (.inr (.inl rfl)) (by rw [e2, size_20]; decide) (by omega)
    · exact go 127 (by rw [e2, size_76]) (.inr (.inr rfl)) (by rw [e2, size_76]; decide) (by omega)
  · first
      | refine wp_if_neg (by simp [hf]) ?_
      | (refine wpAny_bind ?_; refine wp_if_neg (by simp [hf]) ?_; refine wpAny_pure ?_)
    refine wpAny_pure (q true h1 L1 es1 (ep + 1) t1 sb ⟨⟨_, ho1, ⟨hex.1, hex.2.1, hex.2.2⟩, rfl⟩, rows1, c3, once1, elts1, plain1, led1, ?_, by rw [len1]; exact hfew⟩ (fun z => absurd z hm) fun _ => perm)
    have z := hf
    unfold SetTable.tooFull at z
    rw [decide_eq_true_eq, c9, List.length_map] at z
    rw [len1]
    omega
/-- what the first i items have given the set -/
structure GotK (ks : List El) (i : Nat) (L : List El) : Prop where
  sub : ∀ p ∈ L, p ∈ ks.take i
  all : ∀ p ∈ ks.take i, p.2 ∈ L.map (·.2)
  len : L.length ≤ i
theorem GotK.none (ks : List El) : GotK ks 0 [] := ⟨fun p h => (nomatch h), fun p h => (by rw [List.take_zero] at h; exact nomatch h), Nat.le_refl _⟩
theorem GotK.next {ks L L' : List El} {i : Nat} {x : El} (g : GotK ks i L) (h : ks[i]? = some x) (c1 : x.2 ∈ L.map (·.2) → L' = L) (c2 : x.2 ∉ L.map (·.2) → L'.Perm (x :: L)) : GotK ks (i + 1) L' := by
  have tk := take_next h
  by_cases m : x.2 ∈ L.map (·.2)
  · rw [c1 m]
    refine ⟨fun p hp => ?_, fun p hp => ?_, Nat.le_succ_of_le g.len⟩
    · rw [tk]; exact List.mem_append_left _ (g.sub p hp)
    · rw [tk, List.mem_append, List.mem_singleton] at hp
      rcases hp with z | rfl
      · exact g.all p z
      · exact m
  · have pm := c2 m
    refine ⟨fun p hp => ?_, fun p hp => ?_, by rw [pm.length_eq]; exact Nat.succ_le_succ g.len⟩
    · rw [tk, List.mem_append, List.mem_singleton]
      rcases List.mem_cons.mp (pm.mem_iff.mp hp) with e | z
      · exact .inr e
      · exact .inl (g.sub p z)
    · rw [(pm.map (·.2)).mem_iff, List.map_cons, List.mem_cons]
      rw [tk, List.mem_append, List.mem_singleton] at hp
      rcases hp with z | rfl
      · exact .inr (g.all p z)
      · exact .inl rfl
end
end Mv
/-! # set(t), t a tuple of elements -/
namespace Mv
open PySem PySem.Spec PyProof.Rows L2 He
section
variable {P : Program} {w : World} {A : Around} {E : Value → Shared → Prop} {s : Shared}
theorem SetK.keep {h h' : Heap} {a : Addr} {L : List El} {es : Array (Int × Value)} {ep : Nat} {t : SetTable} (R : SetK P w h a L es ep t) (ha : ∀ o, h.get? a = some o → h'.get? a = some o) (he : ∀ p ∈ L, IsK h' p.2 p.1) : SetK P w h' a L es ep t :=
  ⟨let ⟨o, ho, r⟩ := R.obj; ⟨o, ha o ho, r⟩, R.rows, R.tab, R.once, he, R.plain, R.led, R.room, R.few⟩
/-- the object of a new set -/
abbrev set0 (w : World) : Obj := { cls := .type "set", dict := none, data := .set #[] 0 (.fresh 0 0 (!w.params.followText "set-order")) }
theorem setK_new {h : Heap} {a : Addr} (ho : h.get? a = some (set0 w)) : SetK P w h a [] #[] 0 (.fresh 0 0 (!w.params.followText "set-order")) where
  obj := ⟨_, ho, ⟨rfl, rfl, rfl⟩, rfl⟩
  rows := rfl
  tab := ⟨List.Pairwise.nil, rfl, rfl, .inl rfl, fun x hx => (by cases hx), fun i h j hi => (by simp at hi)⟩
  once := List.nodup_nil
  elts := fun p hp => nomatch hp
  plain := rfl
  led := by
    show _ ∨ (!w.params.followText "set-order") = true
    cases w.params.followText "set-order" <;> simp
  room := by show 0 * 5 < 7 * 3; decide
  few := by show 0 < 64; decide
/-- the loop of set.update -/
theorem updateK {I : Addr} {fp wr : List Addr} {G : Array GenState → Array GenState → Prop} {n : Nat} {Pv : Nat → Value → Prop} {St : Nat → Shared → Prop} {R : Result → Shared → Prop}
    (W : WalksS P w A.in1 I fp wr G n Pv St) (S : Addr) (hS : S ∉ fp) (ks : List El) (hn : n = ks.length) (few : ks.length < 64) (hv : ∀ i v, Pv i v → ∃ p, ks[i]? = some p ∧ v = .ref p.1)
    (h0 : Heap) (he : ∀ p ∈ ks, IsK h0 p.2 p.1) (hS0 : h0.get? S = none) (hw0 : ∀ b ∈ wr, h0.get? b = none) (hu : A.in1.units + 8 < cLine) (m : Nat) :
    ∀ (i : Nat) (s : Shared), i + m = n → St i s → (∀ b o, h0.get? b = some o → s.heap.get? b = some o) → (∃ L es ep t, SetK P w s.heap S L es ep t ∧ GotK ks i L) →
      (∀ s' L es ep t, Moved (S :: wr) G s s' → SetK P w s'.heap S L es ep t → GotK ks n L → (∀ b o, h0.get? b = some o → s'.heap.get? b = some o) → R (.ok (.ret .none)) s') →
      codeAny (model P w) A (.builtin "set.update.loop" ⟨[.ref S, .ref I], []⟩) R s := by
  have more : ∀ b ∈ wr, b ∈ S :: wr := fun b hb => List.mem_cons_of_mem _ hb
  have old : ∀ {s s' : Shared}, Moved wr G s s' → (∀ b o, h0.get? b = some o → s.heap.get? b = some o) → ∀ b o, h0.get? b = some o → s'.heap.get? b = some o := fun mv kp b o e =>
    mv.heap b o (fun hb => by cases (hw0 b hb).symm.trans e) (kp b o e)
  have sofar : ∀ {i : Nat} {L : List El}, GotK ks i L → ∀ p ∈ L, p ∈ ks := fun g p hp => List.mem_of_mem_take (g.sub p hp)
  have notW : S ∉ wr := fun h => hS (W.sub _ h)
  induction m with
  | zero =>
    rintro i s rfl hst kp ⟨L, es, ep, t, hK, g⟩ hR
    refine codeAny_builtin F.entry_set_update_loop ?_
    rw [Around.under_plainId F.plain_set_update_loop _]
    show wpAny _ A.in1 (pyNext (.ref I) >>= _) _ _ s
    refine wpAny_bind (W.done s _ _ hst fun s' mv => ?_)
    show wpAny _ A.in1 (ret Value.none) _ _ s'
    have kp' := old mv kp
    exact wpAny_pure (hR s' L es ep t (mv.mono more) (hK.keep (fun o e => mv.heap S o notW e) fun p hp => (he p (sofar g p hp)).ext kp') g kp')
  | succ m ih =>
    intro i s hi hst kp ⟨L, es, ep, t, hK, g⟩ hR
    refine codeAny_builtin F.entry_set_update_loop ?_
    rw [Around.under_plainId F.plain_set_update_loop _]
    show wpAny _ A.in1 (pyNext (.ref I) >>= _) _ _ s
    refine wpAny_bind (W.item i s _ _ (by omega) hst fun v s' hP hst' mv => ?_)
    obtain ⟨p, hp, rfl⟩ := hv i v hP
    have kp' := old mv kp
    have hK' : SetK P w s'.heap S L es ep t := hK.keep (fun o e => mv.heap S o notW e) fun q hq => (he q (sofar g q hq)).ext kp'
    have hx : IsK s'.heap p.2 p.1 := (he p (List.mem_of_getElem? hp)).ext kp'
    show wpAny _ A.in1 (holding [Value.ref p.1] (setAdd S (.ref p.1)) >>= _) _ _ s'
    refine wpAny_bind (wpAny_holding ?_)
    unfold setAdd
    refine wpAny_holding ?_
    refine wpAny_bind (pyHash_key p.2 _ _ _ _ hx.is (by have := hx.deep; omega) ?_)
    refine addK (s := { s' with toks := s'.toks + p.2.draws }) hK' hx hu (by have := g.len; have := (List.getElem?_eq_some_iff.mp hp).1; omega) fun b h' L' es' ep' t' sb hK2 c1 c2 => ?_
    have kp2 : ∀ b o, h0.get? b = some o → h'.get? b = some o := fun b o e => (sb.2 b (fun z => by subst z; cases hS0.symm.trans e)).trans (kp' b o e)
    refine wpAny_pure ⟨plainId_quiet F.plain_set_update_loop _, ih (i + 1) _ (by omega) (W.frame _ s' _ _ hst' (Nat.le_add_right _ _) fun b hb o e => ?_) kp2 ⟨L', es', ep', t', hK2, g.next hp c1 c2⟩ fun s'' L2 es2 ep2 t2 mv2 hK3 g3 kp3 => ?_⟩
    · exact (sb.2 b fun z => hS (by rw [← z]; exact hb)).trans e
    · refine hR s'' L2 es2 ep2 t2 (Moved.trans W.gtrans ((mv.mono more).then_heap (Nat.le_add_right _ _) fun b o hb e => ?_) mv2) hK3 g3 kp3
      exact (sb.2 b fun z => hb (by rw [z]; exact List.mem_cons_self)).trans e
/-- set(t) -/
theorem call_setK {c : Addr} {items : Array Value} (ks : List El) {Q : Value → Shared → Prop} (hh : A.handled = none) (hl : s.heap.IsTuple c items) (hit : items.toList = ks.map fun p => Value.ref p.1)
    (he : ∀ p ∈ ks, IsK s.heap p.2 p.1) (few : ks.length < 64) (hu : A.units + 16 < cLine)
    (q : ∀ (h' : Heap) (tk : Nat) L es ep t, SetK P w h' s.heap.objs.size L es ep t → GotK ks ks.length L → (∀ b o, s.heap.get? b = some o → h'.get? b = some o) → Q (.ref s.heap.objs.size) { s with heap := h', toks := tk }) :
    wpAny (model P w) A (call (.type "set") [.ref c]) Q E s := by
  have isz : items.size = ks.length := by rw [← Array.length_toList, hit, List.length_map]
  obtain ⟨mc, mt, hmro⟩ := F.called_set.mro
  have f1 := F.called_set.made
  have f2 := F.called_set.sub
  refine wpAny_call (codeAny_of_tree ?_)
  show wpAny _ _ (callAny (.type "set") _) _ _ _
  refine wpAny_pure ⟨Code.quiet_builtin _ (by decide +kernel), codeAny_builtin F.entry_type_call ?_⟩
  rw [Around.under_plain (weight_type_call_type "set" [.ref c] []) rfl]
  have f3 := F.called_set.notType
  have f4 := F.called_set.canCreate
  have f5 := F.typeCall_set_1 (.ref c)
  repeat (any_goals (first | assumption | wp_step))
  refine codeAny_mono (code_set_led1 (.ref c) (E := E) (Q₁ := fun o s₁ => o = .ref s.heap.objs.size ∧ s₁ = { s with heap := s.heap.push (set0 w) }) ⟨rfl, rfl⟩) fun r s₁ hr => ?_
  cases r with
  | error e => exact hr
  | ok fl =>
    cases fl with
    | ret ob =>
      obtain ⟨rfl, rfl⟩ := hr
      have at0 : (s.heap.push (set0 w)).get? s.heap.objs.size = some (set0 w) := Heap.get?_push_size _ rfl
      have ty0 : Shared.TypeIs { s with heap := s.heap.push (set0 w) } (.ref s.heap.objs.size) "set" := ⟨_, at0, rfl⟩
      have g1 := F.called_set.init.lookup
      have g2 := F.called_set.init.bind (.ref s.heap.objs.size)
      repeat (any_goals (first | assumption | wp_step))
      refine codeAny_mono (codeAny_call_builtin (R := wants (fun r s₂ => r = .none ∧ ∃ h' tk L es ep t, s₂ = { s with heap := h', toks := tk } ∧ SetK P w h' s.heap.objs.size L es ep t ∧ GotK ks ks.length L ∧
          (∀ b o, s.heap.get? b = some o → h'.get? b = some o)) E) F.called_set.init.plain F.entry_set_init (check_set_init_1 ty0 ?_)) fun r₂ s₂ hr₂ => ?_
      · have hl1 : (s.heap.push (set0 w)).IsTuple c items := hl.push _
        have ty1 : Shared.TypeIs { s with heap := s.heap.push (set0 w) } (.ref c) "tuple" := hl1.typeIs
        obtain ⟨oc, hoc, hcl, nc, hdc⟩ := id hl1
        obtain ⟨ocls, odict, odata, oslots⟩ := oc
        simp only at hcl hdc
        subst hcl; subst hdc
        have k1 := F.sub_tuple_set
        have k2 := F.sub_tuple_frozenset
        have k3 : (Value.type "tuple" == Value.type "dict") = false := by decide
        unfold Builtin.«set.__init__» noKeywords Builtin.Frozenset.updateFrom
        generalize hIter : pyIter = It
        wp_walk
        subst hIter
        refine wpAny_pyIter_tuple hl1 ?_
        refine wpAny_bind (wpAny_runValue ?_)
        have cS : c < s.heap.objs.size := let ⟨_, e, _⟩ := hl; Heap.lt_size e
        have quiet3 : A.in1.in1.in1.handled = none := by simp [hh]
        have psz : (s.heap.push (set0 w)).objs.size = s.heap.objs.size + 1 := Heap.size_push ..
        have gone : ∀ b, s.heap.objs.size ≤ b → s.heap.get? b = none := fun b hb => by
          cases z : s.heap.get? b with
          | none => rfl
          | some o => exact absurd (Heap.lt_size z) (Nat.not_lt.mpr hb)
        have vals : ∀ (i : Nat) (v : Value), items[i]? = some v → ∃ p, ks[i]? = some p ∧ v = .ref p.1 := fun i v hv => by
          rw [← Array.getElem?_toList, hit, List.getElem?_map] at hv
          match z : ks[i]? with
          | none => rw [z] at hv; cases hv
          | some p => rw [z] at hv; exact ⟨p, rfl, (Option.some.inj hv).symm⟩
        refine updateK ((Walks.tuple quiet3 _ c (by rw [psz]; exact Nat.ne_of_lt (Nat.lt_succ_of_lt cS)) items).toS) s.heap.objs.size (by
            rw [psz]; simp only [List.mem_cons, List.not_mem_nil, or_false, not_or]; exact ⟨Nat.ne_of_lt (Nat.lt_succ_self _), Nat.ne_of_gt cS⟩) ks isz few vals s.heap he (gone _ (Nat.le_refl _))
          (fun b hb => gone b (by rw [List.mem_singleton.mp hb, psz]; exact Nat.le_succ _)) (by simp only [Around.in1_units]; omega) items.size 0 _ (Nat.zero_add _)
          ⟨⟨_, Heap.get?_push_size _ rfl, rfl, rfl⟩, hl1.push _⟩ (fun b o e => Heap.get?_push_of_some _ (Heap.get?_push_of_some _ e)) ⟨[], #[], 0, _, setK_new (Heap.get?_push_of_some _ at0), GotK.none ks⟩ ?_
        intro s' L es ep t mv hK g kp
        obtain ⟨h', g2, d', tk', os'⟩ := s'
        cases (mv.gens : g2 = _)
        cases (mv.drawn : d' = _)
        cases (mv.os : os' = _)
        show wpAny _ _ _ _ _ _
        refine wpAny_pure ?_
        show wpAny _ _ (ret Value.none) _ _ _
        rw [isz] at g
        exact wpAny_pure ⟨rfl, h', tk', L, es, ep, t, rfl, hK, g, kp⟩
      · cases r₂ with
        | error e => exact hr₂
        | ok fl₂ =>
          cases fl₂ with
          | ret r =>
            obtain ⟨rfl, h', tk, L, es, ep, t, rfl, hK, g, kp⟩ := hr₂
            repeat (any_goals (first | assumption | wp_step))
            exact q _ _ _ _ _ _ hK g kp
          | _ => exact hr₂.elim
    | _ => exact hr.elim
end
end Mv
/-! # sorted(s), s a set of nested tuples -/
namespace Mv
open PySem PySem.Spec PyProof.Rows L2 He
abbrev refE (p : El) : Value := .ref p.1
abbrev dataE (p : El) : PyData := p.2.data
theorem perm_lift {α β : Type} (f : α → β) {vs ws : List β} (h : vs.Perm ws) : ∀ {L : List α}, ws = L.map f → ∃ L1 : List α, L1.Perm L ∧ vs = L1.map f := by
  induction h with
  | nil => intro L e; exact ⟨[], by rw [List.map_eq_nil_iff.mp e.symm], rfl⟩
  | cons x h ih =>
    intro L e
    match L, e with
    | y :: L, e =>
      rw [List.map_cons] at e
      obtain ⟨e1, e2⟩ := List.cons.inj e
      obtain ⟨L1, p, q⟩ := ih e2
      exact ⟨y :: L1, p.cons y, by rw [List.map_cons, e1, q]⟩
  | swap x y l =>
    intro L e
    match L, e with
    | a :: b :: L, e =>
      rw [List.map_cons, List.map_cons] at e
      obtain ⟨e1, e2⟩ := List.cons.inj e
      obtain ⟨e2, e3⟩ := List.cons.inj e2
      exact ⟨b :: a :: L, List.Perm.swap .., by rw [List.map_cons, List.map_cons, e1, e2, e3]⟩
  | trans h1 h2 ih1 ih2 =>
    intro L e
    obtain ⟨L2, p2, e2⟩ := ih2 e
    obtain ⟨L1, p1, e1⟩ := ih1 e2
    exact ⟨L1, p1.trans p2, e1⟩
theorem each_refs : ∀ {out : List Value} {L : List El}, W.EachIs (fun v p => v = refE p) out L → out = L.map refE
  | _, _, .nil => rfl
  | _, _, .cons e t => by rw [List.map_cons, ← e, ← each_refs t]
theorem refs_each : ∀ (L : List El), W.EachIs (fun v p => v = refE p) (L.map refE) L
  | [] => .nil
  | p :: L => .cons rfl (refs_each L)
theorem each_el {R : Value → El → Prop} : ∀ (L : List El), (∀ p ∈ L, R (refE p) p) → W.EachIs R (L.map refE) L
  | [], _ => .nil
  | p :: L, h => .cons (h p List.mem_cons_self) (each_el L fun q hq => h q (List.mem_cons_of_mem _ hq))
section
variable {P : Program} {w : World} {A : Around} {E : Value → Shared → Prop} {s : Shared} {a : Addr} {L : List El} {es : Array (Int × Value)} {ep : Nat} {t : SetTable}
/-- the elements in order -/
structure Sorted (L L' : List El) : Prop where
  perm : L'.Perm L
  ord : L'.Pairwise fun p q => W.dataLe false dataE p q = true
/-- the sort of a new list of the elements -/
theorem sort_els (hr : ∀ p ∈ L, ∃ as, Reads s.heap (refE p) (dataE p) as) (hal : W.AllAlike (L.map dataE)) (hk : W.Sortable (L.map dataE)) (hL : L.length ≤ sizeLine) (hu : ∀ p ∈ L, A.units + 1 + (dataE p).depth < cLine) {Q : Value → Shared → Prop}
    (q : ∀ (out : Array Value) (c : Nat) (L' : List El) (h' : Heap), (∀ b o, s.heap.get? b = some o → h'.get? b = some o) → h'.get? s.heap.objs.size = some (seqObj "list" out c) → out.toList = L'.map refE → Sorted L L' → Q .none { s with heap := h' }) :
    wpAny (model P w) A (call (.builtin "list.sort") [.ref s.heap.objs.size]) Q E { s with heap := s.heap.push (seqObj "list" (L.map refE).toArray 0) } := by
  have at0 : (s.heap.push (seqObj "list" (L.map refE).toArray 0)).get? s.heap.objs.size = some (seqObj "list" (L.map refE).toArray 0) := Heap.get?_push_size _ rfl
  have keep : ∀ b o, s.heap.get? b = some o → (W.sortingHeap (s.heap.push (seqObj "list" (L.map refE).toArray 0)) s.heap.objs.size (L.map refE)).get? b = some o := fun b o e => W.sortingHeap_old (Nat.ne_of_lt (Heap.lt_size e)) (Heap.get?_push_of_some _ e)
  have er : W.EachIs (fun v p => ∃ as, Reads (W.sortingHeap (s.heap.push (seqObj "list" (L.map refE).toArray 0)) s.heap.objs.size (L.map refE)) v (dataE p) as) (L.map refE) L := each_el L fun p hp => (hr p hp).elim fun as r => ⟨as, PyProof.Rows.Reads.keeps keep r⟩
  refine wpAny_call_entry slot_list_sort ⟨_, at0, rfl⟩ entry_list_sort (W.list_sort_vals (κ := W.dataKind (W.sortingHeap (s.heap.push (seqObj "list" (L.map refE).toArray 0)) s.heap.objs.size (L.map refE)) (L.map dataE)) at0
    (W.SortsAt.data (s := { s with heap := W.sortingHeap (s.heap.push (seqObj "list" (L.map refE).toArray 0)) s.heap.objs.size (L.map refE) }) (W.each_map (R := fun v d => ∃ as, Reads (W.sortingHeap (s.heap.push (seqObj "list" (L.map refE).toArray 0)) s.heap.objs.size (L.map refE)) v d as) dataE er) hal hk (W.bound_map hu))
    (by rw [List.length_map]; exact hL) ⟨.none, rfl, ?_⟩) (args_list_sort _)
  obtain ⟨c, hc⟩ := sortedHeap_at (vs := L.map refE) (out := (W.sortVals (W.dataKind (W.sortingHeap (s.heap.push (seqObj "list" (L.map refE).toArray 0)) s.heap.objs.size (L.map refE)) (L.map dataE)) false (L.map refE) (L.map refE)).toArray) at0
  have eo := each_refs (W.sortVals_data false (refs_each L) er hal)
  refine q _ c (L.mergeSort (W.dataLe false dataE)) _ (fun b o e => ?_) hc eo ⟨List.mergeSort_perm .., W.sort_pairwise (W.sortLe_total _ false _) L⟩
  have lt := Heap.lt_size e
  rw [sortedHeap_old (Nat.ne_of_lt lt) (by rw [size_push']; exact Nat.lt_succ_of_lt lt)]
  exact Heap.get?_push_of_some _ e
/-- sorted(s) -/
theorem sorted_setK (R : SetK P w s.heap a L es ep t) (hh : A.handled = none) (hr : ∀ p ∈ L, ∃ as, Reads s.heap (refE p) (dataE p) as) (hal : W.AllAlike (L.map dataE)) (hk : W.Sortable (L.map dataE)) (hu : ∀ p ∈ L, A.units + 4 + (dataE p).depth < cLine) {Q : Value → Shared → Prop}
    (q : ∀ s' p (out : Array Value) (c : Nat) (L' : List El), (∀ b o, s.heap.get? b = some o → s'.heap.get? b = some o) → s'.gens = s.gens → s'.os = s.os → s.heap.objs.size ≤ p → s'.heap.get? p = some (seqObj "list" out c) → out.toList = L'.map refE → Sorted L L' → Q (.ref p) s') :
    wpAny (model P w) A (call (.builtin "sorted") [.ref a]) Q E s := by
  obtain ⟨o, ho, hex, hd⟩ := R.obj
  have esz := R.size
  have few := R.few
  refine Calls.call_function_entry kind_sorted plain_sorted entry_sorted (args_sorted1 _) ?_
  unfold Builtin.«sorted»
  refine wpAny_bind (m := checkCount "sorted" 1 1 _) (wpAny_pure ?_)
  refine wpAny_bind (collect_set (A := A.in1) hh ⟨o, ho, hex.1, hd⟩ R.fits (by unfold scanBound; omega) R.tab.ris R.led fun s1 vs keep hz g1 o1 pm => ?_)
  have e1 : es.toList.map (·.2) = L.map refE := by rw [R.rows, List.map_map]; rfl
  obtain ⟨L1, p1, rfl⟩ := perm_lift refE pm e1
  have m1 : (L1.map dataE).Perm (L.map dataE) := p1.map _
  refine wpAny_bind (wpAny_newList ?_ (by rw [List.length_map, p1.length_eq, sizeLine_eq]; omega))
  refine wpAny_bind (wpAny_holding (sort_els (s := s1) (L := L1) (fun p hp => (hr p (p1.mem_iff.mp hp)).elim fun as r => ⟨as, PyProof.Rows.Reads.keeps keep r⟩) (fun d hd d' hd' => hal d (m1.mem_iff.mp hd) d' (m1.mem_iff.mp hd'))
    (hk.elim (fun h => .inl fun d hd => h d (m1.mem_iff.mp hd)) fun h => .inr fun d hd => h d (m1.mem_iff.mp hd)) (by rw [p1.length_eq, sizeLine_eq]; omega) (fun p hp => by have := hu p (p1.mem_iff.mp hp); simp only [Around.in1_units]; omega) fun out c L' h' k2 hc e so => ?_))
  exact wpAny_pure ⟨_, rfl, q _ _ out c L' (fun b u e => k2 b u (keep b u e)) g1 o1 hz hc e ⟨so.perm.trans p1, so.ord⟩⟩
end
end Mv
/-! # sorted(set(t)) of data -/
namespace Mv
open PySem PySem.Spec PyProof.Rows L2 He
section
variable {X : Cx} {pins : List (Addr × Obj)} {σ : L2.St} {H : Hp} {s : Shared} {S : List Addr}
mutual
theorem At.reads (I : Inv X pins σ H s) : ∀ {v : V} {d : PyData} {u : Value}, At S H v d → RelV v u → ∃ as, Reads s.heap u d as ∧ ∀ a ∈ as, ∃ o, H a = some o
  | _, _, _, .non, r => by
    cases r
    exact ⟨[], .none, fun a h => nomatch h⟩
  | _, _, _, .bl k, r => by
    cases r
    exact ⟨[], .bool k, fun a h => nomatch h⟩
  | _, _, _, .int i, r => by
    obtain ⟨t, rfl⟩ := r
    exact ⟨[], .int i t, fun a h => nomatch h⟩
  | _, _, _, .str x, r => by
    obtain ⟨t, rfl⟩ := r
    exact ⟨[], .str x t, fun a h => nomatch h⟩
  | _, _, _, .lst n ha ra, r => by
    cases r
    obtain ⟨its, rv, pl, hz⟩ := I.list (SqL.of (K := X.K) ha)
    obtain ⟨o, ho, hc, m, hdat⟩ := pl.isList
    obtain ⟨as, h1, h2⟩ := Ats.reads I ra rv
    refine ⟨_, .list ho hc hdat h1, fun a h => ?_⟩
    rcases List.mem_cons.mp h with rfl | h
    · exact ⟨_, ha⟩
    · exact h2 a h
  | _, _, _, .tup n ha ra, r => by
    cases r
    obtain ⟨its, rv, ⟨o, ho, hc, m, hd⟩, hz⟩ := I.tuple (SqT.of (K := X.K) ha)
    obtain ⟨as, h1, h2⟩ := Ats.reads I ra rv
    exact ⟨as, .tuple ho hc hd h1, h2⟩
  | _, _, _, .emp n ha, r => by
    cases r
    obtain ⟨z, m, vs, rel, o, es, ep, e1, e2, e3, e4⟩ := I.hok _ _ ha
    cases rel
    have e0 : es = #[] := by
      have := e4.2.1.length
      exact Array.eq_empty_of_size_eq_zero (by rw [← Array.length_toList, this]; rfl)
    subst e0
    refine ⟨_, .dict e1 e2.1 e3 .nil .nil, fun a h => ?_⟩
    rcases List.mem_cons.mp h with rfl | h
    · exact ⟨_, ha⟩
    · cases h
theorem Ats.reads (I : Inv X pins σ H s) : ∀ {vs : List V} {ds : List PyData} {us : List Value}, Ats S H vs ds → Vals vs us → ∃ as, ReadsAll s.heap us ds as ∧ ∀ a ∈ as, ∃ o, H a = some o
  | _, _, _, .nil, r => by
    cases r
    exact ⟨[], .nil, fun a h => nomatch h⟩
  | _, _, _, .cons h t, r => by
    cases r with
    | cons r rr =>
      obtain ⟨as, h1, h2⟩ := At.reads I h r
      obtain ⟨bs, h3, h4⟩ := Ats.reads I t rr
      exact ⟨_, .cons h1 h3, fun a hm => (List.mem_append.mp hm).elim (h2 a) (h4 a)⟩
end
end
mutual
theorem keyN_data : ∀ {d : PyData}, keyOkD d = true → (keyN d).data = d
  | .int i, _ => rfl
  | .str x, _ => rfl
  | .tuple ds, h => by rw [keyN, NestedKey.data, keyNs_data h]
  | .none, h | .bool _, h | .list _, h | .dict _, h => by cases h
theorem keyNs_data : ∀ {ds : List PyData}, keyOkDs ds = true → NestedKey.datas (keyNs ds) = ds
  | [], _ => rfl
  | d :: ds, h => by
    rw [keyOkDs, Bool.and_eq_true] at h
    rw [keyNs, NestedKey.datas, keyN_data h.1, keyNs_data h.2]
end
/-- may be an element: a tuple of numbers, or of such, not too deep -/
structure EltOk (d : PyData) : Prop where
  key : keyOkD d = true
  tup : isT d = true
  num : numK (keyN d) = true
  deep : (keyN d).depth ≤ 8
/-- the set at a, without its elements -/
structure SetT (P : Program) (w : World) (h : Heap) (a : Addr) (L : List El) : Prop where
  ex : ∃ (es : Array (Int × Value)) (ep : Nat) (t : SetTable), (∃ o, h.get? a = some o ∧ o.ExactSet ∧ o.data = .set es ep t) ∧ es.toList = L.map (rowE w) ∧ TabOk t (L.map (hashE w)) ∧ (L.map (·.2)).Nodup ∧ t.plain = true ∧
    (w.params.followText "set-order" = true ∨ t.led = true) ∧ L.length * 5 < t.mask * 3 ∧ L.length < 64
def SetH (P : Program) (w : World) (a : Addr) (L : List El) : HO := .ext fun h => SetT P w h a L
theorem SetK.bare {P : Program} {w : World} {h : Heap} {a : Addr} {L : List El} {es : Array (Int × Value)} {ep : Nat} {t : SetTable} (R : SetK P w h a L es ep t) : SetT P w h a L := ⟨es, ep, t, R.obj, R.rows, R.tab, R.once, R.plain, R.led, R.room, R.few⟩
theorem SetT.full {P : Program} {w : World} {h : Heap} {a : Addr} {L : List El} (R : SetT P w h a L) (he : ∀ p ∈ L, IsK h p.2 p.1) : ∃ es ep t, SetK P w h a L es ep t :=
  let ⟨es, ep, t, h1, h2, h3, h4, h5, h6, h7, h8⟩ := R.ex
  ⟨es, ep, t, h1, h2, h3, h4, he, h5, h6, h7, h8⟩
theorem setH_ok {P : Program} {w : World} {H : Hp} {h : Heap} {a : Addr} {L : List El} (R : SetT P w h a L) : ObjOk P w H h a (SetH P w a L) := by
  refine ⟨R, let ⟨_, _, _, ⟨o, ho, _⟩, _⟩ := R.ex; ⟨o, ho⟩, fun h1 h2 p k => ?_⟩
  obtain ⟨es, ep, t, ⟨o, ho, r⟩, q⟩ := SetT.ex p
  exact ⟨es, ep, t, ⟨o, k o ho, r⟩, q⟩
/-- L: the elements of a set made of ds -/
structure OfSet (S : List Addr) (H : Hp) (ds : List PyData) (L : List El) : Prop where
  sub : ∀ p ∈ L, ∃ d ∈ ds, At S H (.ref p.1) d ∧ keyN d = p.2
  all : ∀ d ∈ ds, keyN d ∈ L.map (·.2)
  once : (L.map (·.2)).Nodup
/-- ds': the sorted list of a set of ds -/
structure SortOf (ds ds' : List PyData) : Prop where
  mem : ∀ d, d ∈ ds' ↔ d ∈ ds
  once : ds'.Nodup
  ord : ds'.Pairwise fun d e => W.dataLt e d = false
def rSetOf (P : Program) (w : World) : List V → Hp → VK → Prop := fun xs H Q => ∃ (S : List Addr) (c : Addr) (ds : List PyData), xs = [.ref c] ∧ At S H (.ref c) (.tuple ds) ∧ (∀ d ∈ ds, EltOk d) ∧ ds.length < 64 ∧ ∀ a L, H a = none → OfSet S H ds L → Q (.ref a) (upd H a (SetH P w a L))
section
variable {X : Cx}
theorem paired_of : ∀ {S : List Addr} {H : Hp} {vs : List V} {ds : List PyData} {us : List Value}, Ats S H vs ds → Vals vs us → (∀ d ∈ ds, EltOk d) → ∃ ks : List El, us = ks.map refE ∧ ks.map (·.2) = ds.map keyN ∧ ∀ p ∈ ks, ∃ d ∈ ds, At S H (.ref p.1) d ∧ keyN d = p.2
  | _, _, _, _, _, .nil, .nil, _ => ⟨[], rfl, rfl, fun p hp => nomatch hp⟩
  | S, H, _, _, _, .cons (d := d) h t, .cons r rr, ok => by
    obtain ⟨ks, e1, e2, e3⟩ := paired_of t rr fun d hd => ok d (List.mem_cons_of_mem _ hd)
    obtain ⟨c, rfl⟩ := at_ref h (ok d List.mem_cons_self).tup
    cases r
    refine ⟨(c, keyN d) :: ks, by rw [e1]; rfl, by rw [List.map_cons, List.map_cons, e2], fun p hp => ?_⟩
    rcases List.mem_cons.mp hp with rfl | hp
    · exact ⟨d, List.mem_cons_self, h, rfl⟩
    · obtain ⟨d', m, q⟩ := e3 p hp
      exact ⟨d', List.mem_cons_of_mem _ m, q⟩
theorem cr_setOf (hc : X.calm = true) (hu : X.A.units + 64 < cLine) : CallR X (.type "set") (rSetOf X.prog X.w) := by
  intro pins s σ H xs us Q I r h
  obtain ⟨S, c, ds, rfl, ha, ok, few, q⟩ := h
  rw [Vals.ref1 r]
  obtain ⟨c', vs, e, _, hc', hds⟩ := ha.tup_inv
  cases e
  obtain ⟨its, rv, pl, hz⟩ := I.tuple (SqT.of (K := X.K) hc')
  obtain ⟨ks, e1, e2, e3⟩ := paired_of hds rv ok
  have len : ks.length = ds.length := by rw [← List.length_map (f := (·.2)), e2, List.length_map]
  have isk : ∀ p ∈ ks, IsK s.heap p.2 p.1 := fun p hp => by
    obtain ⟨d, m, a, e⟩ := e3 p hp
    rw [← e]
    exact ⟨a.nested I (ok d m).key rfl, (ok d m).deep, (ok d m).num⟩
  have fresh : H s.heap.objs.size = none := I.hok.fresh (Nat.le_refl _)
  refine call_setK (P := X.prog) (w := X.w) ks (I.ok.hd hc) pl (by simpa using e1) isk (by omega) (by omega) fun h' tk L es ep t R g k => ?_
  refine ⟨.ref s.heap.objs.size, upd H s.heap.objs.size (SetH X.prog X.w s.heap.objs.size L), I.laid (t' := tk) k (Nat.le_refl _) (setH_ok R.bare), rfl, q _ L fresh ⟨fun p hp => e3 p (List.mem_of_mem_take (g.sub p hp)), fun d hd => ?_, R.once⟩⟩
  have m : keyN d ∈ ks.map (·.2) := by rw [e2]; exact List.mem_map.mpr ⟨d, hd, rfl⟩
  obtain ⟨p, hp, e⟩ := List.mem_map.mp m
  rw [← e]
  exact g.all p (by rw [List.take_length]; exact hp)
end
end Mv
namespace Mv
open PySem PySem.Spec PyProof.Rows L2 He
def rSortOf (P : Program) (w : World) : List V → Hp → VK → Prop := fun xs H Q => ∃ (S : List Addr) (a : Addr) (ds : List PyData) (L : List El), xs = [.ref a] ∧ H a = some (SetH P w a L) ∧ OfSet S H ds L ∧ (∀ d ∈ ds, EltOk d) ∧ W.AllAlike ds ∧ W.Sortable ds ∧
  ∀ p vs ds', H p = none → Ats S H vs ds' → SortOf ds ds' → Q (.ref p) (upd H p (.lst vs))
section
variable {X : Cx} {pins : List (Addr × Obj)} {σ : L2.St} {H : Hp} {s : Shared} {S : List Addr}
mutual
theorem data_depth : ∀ k : NestedKey, k.data.depth ≤ k.depth
  | .none => Nat.le_refl _
  | .num _ => Nat.le_refl _
  | .text _ => Nat.le_refl _
  | .tup ks => by
    rw [NestedKey.data, PyData.depth, NestedKey.depth]
    have := datas_depth ks
    omega
theorem datas_depth : ∀ ks : List NestedKey, PyData.depthAll (NestedKey.datas ks) ≤ NestedKey.depthAll ks
  | [] => by rw [NestedKey.datas, PyData.depthAll]; exact Nat.zero_le _
  | k :: ks => by
    rw [NestedKey.datas, PyData.depthAll, NestedKey.depthAll]
    have h1 := data_depth k
    have h2 := datas_depth ks
    omega
end
theorem els_ats {ds : List PyData} (ok : ∀ d ∈ ds, EltOk d) : ∀ (L : List El), (∀ p ∈ L, ∃ d ∈ ds, At S H (.ref p.1) d ∧ keyN d = p.2) → Ats S H (L.map fun p => V.ref p.1) (L.map dataE)
  | [], _ => .nil
  | p :: L, h => by
    obtain ⟨d, m, a, e⟩ := h p List.mem_cons_self
    refine .cons ?_ (els_ats ok L fun q hq => h q (List.mem_cons_of_mem _ hq))
    show At S H (.ref p.1) p.2.data
    rw [← e, keyN_data (ok d m).key]
    exact a
theorem els_vals : ∀ L : List El, Vals (L.map fun p => V.ref p.1) (L.map refE)
  | [] => .nil
  | p :: L => .cons rfl (els_vals L)
theorem cr_sortOf (hc : X.calm = true) (hu : X.A.units + 64 < cLine) : CallR X (.builtin "sorted") (rSortOf X.prog X.w) := by
  intro pins s σ H xs us Q I r h
  obtain ⟨S, a, ds, L, rfl, ha, of, ok, al, so, q⟩ := h
  rw [Vals.ref1 r]
  have keyd : ∀ p ∈ L, ∃ d ∈ ds, At S H (.ref p.1) d ∧ dataE p = d := fun p hp => by
    obtain ⟨d, m, x, e⟩ := of.sub p hp
    exact ⟨d, m, x, by show p.2.data = d; rw [← e, keyN_data (ok d m).key]⟩
  have isk : ∀ p ∈ L, IsK s.heap p.2 p.1 := fun p hp => by
    obtain ⟨d, m, x, e⟩ := of.sub p hp
    rw [← e]
    exact ⟨x.nested I (ok d m).key rfl, (ok d m).deep, (ok d m).num⟩
  have sub : ∀ d ∈ L.map dataE, d ∈ ds := fun d hd => by
    obtain ⟨p, hp, rfl⟩ := List.mem_map.mp hd
    obtain ⟨d, m, _, e⟩ := keyd p hp
    rw [e]; exact m
  obtain ⟨es, ep, t, R⟩ := ((I.hok a _ ha).1 : SetT X.prog X.w s.heap a L).full isk
  refine sorted_setK R (I.ok.hd hc) (fun p hp => ?_) (fun d hd d' hd' => al d (sub d hd) d' (sub d' hd')) (so.elim (fun h => .inl fun d hd => h d (sub d hd)) fun h => .inr fun d hd => h d (sub d hd)) (fun p hp => ?_) fun s' b out c L' k g o hb hg hout st => ?_
  · obtain ⟨d, m, x, e⟩ := keyd p hp
    rw [e]
    obtain ⟨as, r, _⟩ := x.reads I (show RelV (.ref p.1) (.ref p.1) from rfl)
    exact ⟨as, r⟩
  · have h1 := data_depth p.2
    have h2 := (isk p hp).deep
    show X.A.units + 4 + p.2.data.depth < cLine
    omega
  · have few : L'.length < 64 := by rw [st.perm.length_eq]; exact R.few
    have hn : H b = none := I.hok.fresh hb
    have hv : Vals (L'.map fun p => V.ref p.1) out.toList := by rw [hout]; exact els_vals L'
    have J : Inv X pins σ (upd H b (.lst (L'.map fun p => V.ref p.1))) { s with heap := s'.heap, gens := s'.gens, drawn := s'.drawn, toks := s'.toks } :=
      I.call (ch := []) (Un.laid k hb hn) (I.hok.laid k hb ⟨by rw [List.length_map, sizeLine_eq]; omega, out.toList, c, hv, hg⟩) (by rw [g]; exact I.bare) (fun _ z => nomatch z)
    have e : s' = { s with heap := s'.heap, gens := s'.gens, drawn := s'.drawn, toks := s'.toks } := by
      cases s'
      cases s
      cases o
      rfl
    rw [e]
    refine ⟨.ref b, _, J, rfl, q b _ (L'.map dataE) hn (els_ats ok L' fun p hp => of.sub p (st.perm.mem_iff.mp hp)) ⟨fun d => ?_, ?_, ?_⟩⟩
    · rw [(st.perm.map dataE).mem_iff]
      refine ⟨sub d, fun hd => ?_⟩
      obtain ⟨p, hp, e⟩ := List.mem_map.mp (of.all d hd)
      exact List.mem_map.mpr ⟨p, hp, by show p.2.data = d; rw [e, keyN_data (ok d hd).key]⟩
    · refine (st.perm.map dataE).nodup_iff.mpr (List.pairwise_map.mpr (List.Pairwise.imp_of_mem (fun {p q} hp hq ne e => ?_) (List.pairwise_map.mp of.once)))
      obtain ⟨d, m, _, e1⟩ := of.sub p hp
      obtain ⟨d', m', _, e2⟩ := of.sub q hq
      refine ne ?_
      have e' : p.2.data = q.2.data := e
      rw [← e1, ← e2, keyN_data (ok d m).key, keyN_data (ok d' m').key] at e'
      rw [← e1, ← e2, e']
    · refine List.pairwise_map.mpr (st.ord.imp fun {p q} h => ?_)
      rw [W.dataLe_eq] at h
      simpa using h
end
/-- sorted(set(x)), x a tuple -/
theorem ev_sortSet {P : Program} {w : World} {b : Bool} {p : Addr × Addr} {S : List Addr} {σ : L2.St} {H : Hp} {te : TE} {ds : List PyData} (h : Ev b p S te σ H fun z => z = .tuple ds) (ok : ∀ d ∈ ds, EltOk d) (few : ds.length < 64) (al : W.AllAlike ds) (so : W.Sortable ds) :
    Ev b p S (tCB (rSortOf P w) (tCons (tCB (rSetOf P w) (tCons te tNil)) tNil)) σ H fun z => ∃ ds', z = .list ds' ∧ SortOf ds ds' := fun H1 e Pn Q q =>
  h H1 e Pn _ fun v H2 z e2 P2 a2 r => by
    subst r
    obtain ⟨c, xs, rfl, na, hc, ra⟩ := a2.tup_inv
    refine ⟨S, c, ds, rfl, a2, ok, few, fun a L hn of => ?_⟩
    have P3 : Pen p S (upd H2 a (SetH P w a L)) := P2.new hn
    have e3 : Rl false p H2 (upd H2 a (SetH P w a L)) := Rl.new hn
    refine ⟨S, a, ds, L, rfl, upd_same, ⟨fun x hx => ?_, of.all, of.once⟩, ok, al, so, fun l vs ds' hl at' st => ?_⟩
    · obtain ⟨d, m, y, k⟩ := of.sub x hx
      exact ⟨d, m, y.mono e3 P2.mem, k⟩
    · exact q _ _ _ ((e2.trans (Rl.new hn)).trans (Rl.new hl)) (P3.new hl) (at_new_lst P3 hl at') ⟨ds', rfl, st⟩
end Mv
/-! # Rising tuples of whole numbers are the sorted list of their set -/
namespace Mv
open PySem PySem.Spec PyProof.Rows L2 He
def tupI (is : List Int) : PyData := .tuple (is.map .int)
theorem ltI (is js : List Int) : W.dataLt (tupI is) (tupI js) = decide (is < js) := by
  unfold tupI
  rw [W.dataLt_tuple]
  exact W.dataLt_ints is js
theorem map_int_inj : ∀ {is js : List Int}, is.map PyData.int = js.map PyData.int → is = js
  | [], [], _ => rfl
  | i :: is, j :: js, h => by
    rw [List.map_cons, List.map_cons] at h
    obtain ⟨h1, h2⟩ := List.cons.inj h
    rw [PyData.int.inj h1, map_int_inj h2]
  | [], _ :: _, h => by cases h
  | _ :: _, [], h => by cases h
theorem tupI_inj {is js : List Int} (h : tupI is = tupI js) : is = js := map_int_inj (PyData.tuple.inj h)
theorem eqv_ints : ∀ is js : List Int, PyData.eqvAll (is.map .int) (js.map .int) = decide (is = js)
  | [], [] => by simp [PyData.eqvAll]
  | [], _ :: _ => by simp [PyData.eqvAll]
  | _ :: _, [] => by simp [PyData.eqvAll]
  | i :: is, j :: js => by
    rw [List.map_cons, List.map_cons, PyData.eqvAll, eqv_ints is js, PyData.eqv]
    by_cases h1 : i = j <;> by_cases h2 : is = js <;> simp [h1, h2]
theorem eqv_tups : ∀ xs ys : List (List Int), PyData.eqvAll (xs.map tupI) (ys.map tupI) = decide (xs = ys)
  | [], [] => by simp [PyData.eqvAll]
  | [], _ :: _ => by simp [PyData.eqvAll]
  | _ :: _, [] => by simp [PyData.eqvAll]
  | x :: xs, y :: ys => by
    rw [List.map_cons, List.map_cons, PyData.eqvAll, eqv_tups xs ys]
    show (PyData.eqv (.tuple (x.map .int)) (.tuple (y.map .int)) && _) = _
    rw [PyData.eqv, eqv_ints]
    by_cases h1 : x = y <;> by_cases h2 : xs = ys <;> simp [h1, h2]
theorem rises_pair : ∀ xs : List (List Int), rises (xs.map tupI) = true ↔ xs.Pairwise (· < ·)
  | [] => by simp [rises]
  | [x] => by simp [rises]
  | x :: y :: r => by
    have ih := rises_pair (y :: r)
    show (W.dataLt (tupI x) (tupI y) && rises ((y :: r).map tupI)) = true ↔ _
    rw [Bool.and_eq_true, ih, ltI, decide_eq_true_eq, List.pairwise_cons (a := x)]
    refine ⟨fun ⟨h1, h2⟩ => ⟨fun z hz => ?_, h2⟩, fun ⟨h1, h2⟩ => ⟨h1 y List.mem_cons_self, h2⟩⟩
    rcases List.mem_cons.mp hz with rfl | hz
    · exact h1
    · exact List.lt_trans h1 ((List.pairwise_cons.mp h2).1 z hz)
theorem pair_unique {xs ys : List (List Int)} (hx : xs.Pairwise (· < ·)) (hy : ys.Pairwise (· < ·)) (m : ∀ a, a ∈ xs ↔ a ∈ ys) : xs = ys := by
  induction xs generalizing ys with
  | nil =>
    cases ys with
    | nil => rfl
    | cons y ys => exact absurd ((m y).mpr List.mem_cons_self) (by simp)
  | cons x xs ih =>
    cases ys with
    | nil => exact absurd ((m x).mp List.mem_cons_self) (by simp)
    | cons y ys =>
      obtain ⟨x1, x2⟩ := List.pairwise_cons.mp hx
      obtain ⟨y1, y2⟩ := List.pairwise_cons.mp hy
      have e : x = y := by
        rcases List.mem_cons.mp ((m x).mp List.mem_cons_self) with e | h1
        · exact e
        rcases List.mem_cons.mp ((m y).mpr List.mem_cons_self) with e | h2
        · exact e.symm
        exact absurd (List.lt_trans (y1 x h1) (x1 y h2)) (List.lt_irrefl _)
      subst e
      rw [ih x2 y2 fun a => ?_]
      refine ⟨fun h => ?_, fun h => ?_⟩
      · rcases List.mem_cons.mp ((m a).mp (List.mem_cons_of_mem _ h)) with e | h'
        · subst e; exact absurd (x1 a h) (List.lt_irrefl _)
        · exact h'
      · rcases List.mem_cons.mp ((m a).mpr (List.mem_cons_of_mem _ h)) with e | h'
        · subst e; exact absurd (y1 a h) (List.lt_irrefl _)
        · exact h'
theorem tups_of : ∀ {ds : List PyData} {xs : List (List Int)}, (∀ d ∈ ds, d ∈ xs.map tupI) → ∃ ys : List (List Int), ds = ys.map tupI
  | [], _, _ => ⟨[], rfl⟩
  | d :: ds, xs, h => by
    obtain ⟨y, _, e⟩ := List.mem_map.mp (h d List.mem_cons_self)
    obtain ⟨ys, e2⟩ := tups_of fun x hx => h x (List.mem_cons_of_mem _ hx)
    exact ⟨y :: ys, by rw [e2, ← e]; rfl⟩
/-- list(t) == sorted(set(t)) -/
theorem sort_rises {xs : List (List Int)} {ds' : List PyData} (h : SortOf (xs.map tupI) ds') : PyData.eqv (.list (xs.map tupI)) (.list ds') = rises (xs.map tupI) := by
  obtain ⟨ys, rfl⟩ := tups_of fun d hd => (h.mem d).mp hd
  rw [PyData.eqv, eqv_tups]
  have once : ys.Nodup := List.Pairwise.of_map tupI (fun _ _ ne e => ne (congrArg tupI e)) h.once
  have py : ys.Pairwise (· < ·) := by
    refine (once.and (List.pairwise_map.mp h.ord)).imp fun {a c} ⟨ne, q⟩ => ?_
    rw [ltI, decide_eq_false_iff_not, List.not_lt] at q
    exact Classical.byContradiction fun n => ne (List.le_antisymm q (List.not_lt.mp n))
  have m : ∀ a, a ∈ xs ↔ a ∈ ys := fun a => by
    have := h.mem (tupI a)
    have f : ∀ zs : List (List Int), tupI a ∈ zs.map tupI ↔ a ∈ zs := fun zs => ⟨fun q => by
      obtain ⟨z, hz, e⟩ := List.mem_map.mp q
      rw [← tupI_inj e]; exact hz, fun q => List.mem_map.mpr ⟨a, q, rfl⟩⟩
    rw [f, f] at this
    exact this.symm
  cases hr : rises (xs.map tupI) with
  | true => exact decide_eq_true (pair_unique ((rises_pair xs).mp hr) py m)
  | false =>
    refine decide_eq_false fun e => ?_
    rw [(rises_pair xs).mpr (e ▸ py)] at hr
    cases hr
section
variable {K : PySem.W.Frag} {b : Bool} {p : Addr × Addr} {S : List Addr} {σ : L2.St} {H H' : Hp} {ta tb tc te tl : TE}
/-- for x in xs: every item passes f, or the block is left -/
theorem s_forAll {g : TG} {f : PyData → Bool} (h : Ev b p S tl σ H fun z => z = .tuple ds) (P : Pen p S H) (J : L2.St → Prop) (h0 : J σ)
    (hs : ∀ H0, Rl b p H H0 → Pen p S H0 → ∀ (d : PyData) (v : V) (σ' : L2.St) (H' : Hp) (I' : L2.St → Prop), d ∈ ds → J σ' → Rl b p H0 H' → Pen p S H' → At S H' v d → (∀ σ2, J σ2 → f d = true → I' σ2) → g v σ' H' fun σ2 H2 => body (Nxt b p S D I' H0) σ2 H2)
    (hd : ∀ σ' H', J σ' → ds.all f = true → Rl b p H H' → Pen p S H' → D.nx σ' H') : tFor (iTup K tl) g body D σ H :=
  s_forT h P (fun i σ => J σ ∧ ∀ (k : Nat) (d : PyData), k < i → ds[k]? = some d → f d = true) ⟨h0, fun _ _ h => absurd h (Nat.not_lt_zero _)⟩
    (fun H0 e P0 i d v σ' H' hd hI e2 P2 a => hs H0 e P0 d v σ' H' _ (List.mem_of_getElem? hd) hI.1 e2 P2 a fun σ2 j2 k2 => ⟨j2, fun k d' hk hd' => by
      rcases Nat.lt_succ_iff_lt_or_eq.mp hk with hk | rfl
      · exact hI.2 k d' hk hd'
      · rw [hd] at hd'
        cases hd'
        exact k2⟩)
    fun σ' H' hI e2 P2 => hd σ' H' hI.1 (List.all_eq_true.mpr fun d hd => by
      obtain ⟨k, hk⟩ := List.getElem?_of_mem hd
      exact hI.2 k d (List.getElem?_eq_some_iff.mp hk).1 hk) e2 P2
end
end Mv
namespace Mv
open PySem PySem.Spec PyProof.Rows L2 He
section
variable {P : Program} {w : World} {K : PySem.W.Frag} {mg : Str → Option Value} {base : Heap}
/-! ### is_number -/
abbrev N_is_number : List Str := ["value", "below"]
theorem sc_is_number : FnScope N_is_number ["value", "below"] (defScope (top 3)) := ⟨rfl, rfl, rfl, by decide +kernel, rfl, by decide +kernel, by decide +kernel⟩
def f_is_number : List PyData → PyData
  | [d, .int n] => .bool (isNum d n)
  | _ => .none
theorem D_is_number (T : Top K mg) : Dn P w K mg base "is_number" 1 ["value", "below"] (spF false 2 f_is_number fun ds => ∃ d n, ds = [d, .int n]) := by
  refine T.dn 0 rfl rfl sc_is_number (fun _ _ _ _ _ _ us h => match us, h with | [_, _], _ => rfl) rfl fun f cdv A outer s p S H ds vs Q hr a l Pn pr q => ?_
  refine ⟨_, pss_cons (ps_if (PW.pt (pw_or (pt_val (pe_isi (by rfl) T.f_isinstance (pv 0) (by rfl) T.f_bool bb_bool)) (pw_or1 (pt_not (pt_val (pe_isi (by rfl) T.f_isinstance (pv 0) (by rfl) T.f_int bb_int))))))
      (pss_one (ps_ret pe_bl))
      (pss_nil))
    (pss_one (ps_ret (pe_chain op_le op_lt pe_int (pv 0) (pv 1)))), ?_⟩
  obtain ⟨d, n, rfl⟩ := pr
  obtain ⟨v, u, rfl, a1, a2⟩ := a.two
  cases a2
  refine s_ifK (b := false) (et_orK (et_k (ev_isi (ev_var rfl a1) (kit_bool d))) fun _ => et_notK (et_k (ev_isi (ev_var rfl a1) (kit_int d)))) Pn (fun h H1 e P1 => ?_) (fun h H1 e P1 => ?_)
  · refine s_retK (b := false) ev_bl P1 fun v H2 e2 P2 a2 => q v H2 _ (e.trans e2) P2 a2 ?_
    cases d <;> first | rfl | (cases h)
  · cases d with
    | int i =>
      cases a1
      exact s_retK (b := false) (ev_chain ev_int (ev_var rfl (.int i)) (ev_var rfl (.int n))) P1 fun v H2 e2 P2 a2 => q v H2 _ (e.trans e2) P2 a2 rfl
    | _ => cases h
/-! ### are_values -/
abbrev N_are_values : List Str := ["value", "sizes", "part", "size"]
theorem sc_are_values : FnScope N_are_values ["value", "sizes"] (defScope (top 4)) := ⟨rfl, rfl, rfl, by decide +kernel, rfl, by decide +kernel, by decide +kernel⟩
def f_are_values : List PyData → PyData
  | [d, .tuple zs] => .bool (isCont (List.map unInt zs) d)
  | _ => .none
theorem D_are_values (T : Top K mg) : Dn P w K mg base "are_values" 2 ["value", "sizes"] (spF false 2 f_are_values fun ds => ∃ (d : PyData) (zs : List Int), ds = [d, .tuple (zs.map PyData.int)] ∧ zs.length ≤ 60) := by
  refine T.dn 1 rfl rfl sc_are_values (fun _ _ _ _ _ _ us h => match us, h with | [_, _], _ => rfl) rfl fun f cdv A outer s p S H ds vs Q hr a l Pn pr q => ?_
  refine ⟨_, pss_cons (ps_if (PW.pt (pw_or (pt_not (pt_val (pe_isi (by rfl) T.f_isinstance (pv 0) (by rfl) T.f_tuple bb_tuple))) (pw_or1 (pt_cmpR (op_neD (hu_64 hr)) (pe_len (by rfl) T.f_len (pv 0)) (pe_len (by rfl) T.f_len (pv 1)) (nomark _)))))
      (pss_one (ps_ret pe_bl))
      (pss_nil))
    (pss_cons (ps_for PassesOwn.never rfl (pi_zs (by rfl) T.f_zip (pa_cons (pv 0) (pa_cons (pv 1) pa_nil)) (pk_cons pe_bl pk_nil)) (pg_tup rfl (pgs_cons (pg_name (i := 2) sc_are_values.nd rfl (Or.inl rfl)) (pgs_cons (pg_name (i := 3) sc_are_values.nd rfl (Or.inl rfl)) pgs_nil)))
      (pss_one (ps_if (pt_not (pt_val (pe_dn ((D_is_number T).up (by decide)) hr (by rfl) (pa_cons (pv 2) (pa_cons (pv 3) pa_nil)))))
        (pss_one (ps_ret pe_bl))
        (pss_nil))))
    (pss_one (ps_ret pe_bl))), ?_⟩
  obtain ⟨d, zs, rfl, hz⟩ := pr
  obtain ⟨v, u, rfl, a1, a2⟩ := a.two
  have fd : ∀ k, k = isCont zs d → f_are_values [d, .tuple (zs.map PyData.int)] = .bool k := fun k e => by
    show PyData.bool (isCont _ d) = _
    rw [unInts, e]
  refine s_ifK (b := false) (et_orK (et_notK (et_k (ev_isi (ev_var rfl a1) (kit_tuple d)))) fun h => et_c (ev_neD (ev_len (ev_var rfl a1) ?_) (ev_len (ev_var rfl a2) rfl) rfl rfl)) Pn (fun h H1 e P1 => ?_) (fun h H1 e P1 => ?_)
  · cases d <;> first | rfl | (cases h)
  · refine s_retK (b := false) ev_bl P1 fun v H2 e2 P2 a2 => q v H2 _ (e.trans e2) P2 a2 (fd _ ?_).symm
    cases d with
    | tuple es =>
      show false = allNum es zs
      cases hn : allNum es zs with
      | false => rfl
      | true =>
        have := allNum_len hn
        simp [isT, items, PyData.eqv, this] at h
    | _ => rfl
  · cases d with
    | tuple es =>
      have hl : es.length = zs.length := by
        simp [isT, items, PyData.eqv] at h
        omega
      refine s_forZ (b := false) (ea_two ((ev_var rfl a1).mono e) ((ev_var rfl a2).mono e)) (fun H1 Q q => q) (by rw [List.length_map]; exact hl) P1
        (fun i σ => (∃ x y, σ = [some v, some u, x, y]) ∧ ∀ (j : Nat) (d : PyData) (n : Int), j < i → es[j]? = some d → zs[j]? = some n → isNum d n = true) ⟨⟨_, _, rfl⟩, fun j _ _ h => absurd h (Nat.not_lt_zero _)⟩ (fun H0 e0 P0 i d d' v v' σ' H' hd hd' hI e1 P2 b1 b2 => ?_) fun σ' H' hI e2 P2 => ?_
      · obtain ⟨⟨x, y, rfl⟩, hI⟩ := hI
        rw [List.getElem?_map] at hd'
        cases hzi : zs[i]? with
        | none => rw [hzi] at hd'; cases hd'
        | some n =>
          rw [hzi] at hd'
          cases hd'
          cases b2
          refine s_ifK (b := false) (et_notK (et_k (ev_f (z := .bool (isNum d n)) (ea_two (ev_var rfl b1) (ev_var rfl (.int n))) rfl ⟨d, n, rfl⟩ rfl))) P2 (fun h H2 e2 P3 => ?_) (fun h H2 e2 P3 => ?_)
          · refine s_retK (b := false) ev_bl P3 fun v H3 e3 P4 a4 => q v H3 _ ((((e.trans e0).trans e1).trans e2).trans e3) P4 a4 (fd _ ?_).symm
            show false = allNum es zs
            cases hn : allNum es zs with
            | false => rfl
            | true =>
              have := (allNum_iff hl).mp hn i d n hd hzi
              rw [this] at h
              cases h
          · refine ⟨⟨⟨_, _, rfl⟩, fun j d1 n1 hj h1 h2 => ?_⟩, e1.trans e2, P3⟩
            rcases Nat.lt_succ_iff_lt_or_eq.mp hj with hj | rfl
            · exact hI j d1 n1 hj h1 h2
            · rw [hd] at h1
              rw [hzi] at h2
              cases h1
              cases h2
              cases hh : isNum d n with
              | true => rfl
              | false => rw [hh] at h; cases h
      · dsimp only
        refine s_retK (b := false) ev_bl P2 fun v H3 e3 P4 a4 => q v H3 _ ((e.trans e2).trans e3) P4 a4 (fd _ ?_).symm
        exact ((allNum_iff hl).mpr fun j d n h1 h2 => hI.2 j d n ((List.getElem?_eq_some_iff.mp h1).1) h1 h2).symm
    | _ => cases h
/-! ### is_content, is_item, is_parts -/
abbrev N_is_content : List Str := ["house", "value"]
theorem sc_is_content : FnScope N_is_content ["house", "value"] (defScope (top 5)) := ⟨rfl, rfl, rfl, by decide +kernel, rfl, by decide +kernel, by decide +kernel⟩
def f_is_content : List PyData → PyData
  | [h, d] => .bool (isCont (hou h).zs d)
  | _ => .none
/-- a house, a thing -/
def PreH (ds : List PyData) : Prop := ∃ h d, ds = [Hou.d h, d] ∧ h.Ok
theorem D_is_content (T : Top K mg) : Dn P w K mg base "is_content" 3 ["house", "value"] (spF false 2 f_is_content PreH) := by
  refine T.dn 2 rfl rfl sc_is_content (fun _ _ _ _ _ _ us h => match us, h with | [_, _], _ => rfl) rfl fun f cdv A outer s p S H ds vs Q hr a l Pn pr q => ?_
  refine ⟨_, pss_one (ps_ret (pe_dn ((D_are_values T).up (by decide)) hr (by rfl) (pa_cons (pv 1) (pa_cons (pe_ix ix_seq (pv 0) pe_int (fun _ _ => rfl)) pa_nil)))), ?_⟩
  obtain ⟨h, d, rfl, ok⟩ := pr
  obtain ⟨v, u, rfl, a1, a2⟩ := a.two
  refine s_retK (b := false) (ev_f (ea_two (ev_var rfl a2) (ev_ixN (j := 0) (ev_var rfl a1) ev_int rfl rfl)) rfl ⟨_, h.zs, rfl, ok.zs⟩ rfl) Pn fun v H2 e2 P2 a2 => q v H2 _ e2 P2 a2 ?_
  show PyData.bool (isCont (List.map unInt (h.zs.map PyData.int)) d) = .bool (isCont (hou h.d).zs d)
  rw [unInts, hou_d]
abbrev N_is_item : List Str := ["house", "value"]
theorem sc_is_item : FnScope N_is_item ["house", "value"] (defScope (top 6)) := ⟨rfl, rfl, rfl, by decide +kernel, rfl, by decide +kernel, by decide +kernel⟩
def f_is_item : List PyData → PyData
  | [h, d] => .bool (isNum d ((hou h).ks.length + 1))
  | _ => .none
theorem D_is_item (T : Top K mg) : Dn P w K mg base "is_item" 2 ["house", "value"] (spF false 2 f_is_item PreH) := by
  refine T.dn 3 rfl rfl sc_is_item (fun _ _ _ _ _ _ us h => match us, h with | [_, _], _ => rfl) rfl fun f cdv A outer s p S H ds vs Q hr a l Pn pr q => ?_
  refine ⟨_, pss_one (ps_ret (pe_dn ((D_is_number T).up (by decide)) hr (by rfl) (pa_cons (pv 1) (pa_cons (pe_op op_add (pe_len (by rfl) T.f_len (pe_ix ix_seq (pv 0) pe_int (fun _ _ => rfl))) pe_int) pa_nil)))), ?_⟩
  obtain ⟨h, d, rfl, ok⟩ := pr
  obtain ⟨v, u, rfl, a1, a2⟩ := a.two
  refine s_retK (b := false) (ev_f (z := .bool (isNum d (h.ks.length + 1))) (ea_two (ev_var rfl a2) (ev_I0 (z := .int (h.ks.length + 1)) (ev_len (ev_ixN (j := 2) (z := .tuple h.ks) (ev_var rfl a1) ev_int rfl rfl) rfl) ev_int fun H => .int _)) rfl ⟨_, _, rfl⟩ rfl) Pn fun v H2 e2 P2 a2 => q v H2 _ e2 P2 a2 ?_
  show _ = PyData.bool (isNum d ((hou h.d).ks.length + 1))
  rw [hou_d]
abbrev N_is_parts : List Str := ["value", "many"]
theorem sc_is_parts : FnScope N_is_parts ["value", "many"] (defScope (top 14)) := ⟨rfl, rfl, rfl, by decide +kernel, rfl, by decide +kernel, by decide +kernel⟩
def f_is_parts : List PyData → PyData
  | [d, .int n] => .bool (isLen d n)
  | _ => .none
theorem D_is_parts (T : Top K mg) : Dn P w K mg base "is_parts" 1 ["value", "many"] (spF false 2 f_is_parts fun ds => ∃ d n, ds = [d, .int n]) := by
  refine T.dn 5 rfl rfl sc_is_parts (fun _ _ _ _ _ _ us h => match us, h with | [_, _], _ => rfl) rfl fun f cdv A outer s p S H ds vs Q hr a l Pn pr q => ?_
  refine ⟨_, pss_one (ps_ret (pe_and (pe_isi (by rfl) T.f_isinstance (pv 0) (by rfl) T.f_tuple bb_tuple) (pe_one (pe_cmpR (op_eqD (hu_64 hr)) (pe_len (by rfl) T.f_len (pv 0)) (pv 1) (nomark _))))), ?_⟩
  obtain ⟨d, n, rfl⟩ := pr
  obtain ⟨v, u, rfl, a1, a2⟩ := a.two
  refine s_retK (b := false) (ev_andK (ev_isi (ev_var rfl a1) (kit_tuple d)) fun h => ev_eqD (ev_len (ev_var rfl a1) ?_) (ev_var rfl a2) rfl rfl) Pn fun v H2 e2 P2 a2 => q v H2 _ e2 P2 a2 ?_
  · cases d <;> first | rfl | (cases h)
  · cases d with
    | tuple es => 
      show PyData.bool (true && _) = .bool (decide ((es.length : Int) = n))
      simp only [PyData.eqv, items, Bool.true_and]
      rfl
    | _ => rfl
end
end Mv
namespace Mv
open PySem PySem.Spec PyProof.Rows L2 He
/-! ### what contents and pairs are -/
theorem allNum_ints : ∀ {ds : List PyData} {ns : List Int}, allNum ds ns = true → ∃ is : List Int, ds = is.map PyData.int
  | [], [], _ => ⟨[], rfl⟩
  | d :: ds, n :: ns, h => by
    rw [allNum, Bool.and_eq_true] at h
    obtain ⟨is, e⟩ := allNum_ints h.2
    cases d with
    | int i => exact ⟨i :: is, by rw [e]; rfl⟩
    | _ => cases h.1
  | [], _ :: _, h => by simp [allNum] at h
  | _ :: _, [], h => by simp [allNum] at h
theorem isCont_ints {zs : List Int} {d : PyData} (h : isCont zs d = true) : ∃ is : List Int, d = .tuple (is.map PyData.int) ∧ is.length = zs.length := by
  cases d with
  | tuple ds =>
    obtain ⟨is, rfl⟩ := allNum_ints h
    exact ⟨is, rfl, by simpa using allNum_len h⟩
  | _ => cases h
theorem lay_ints : ∀ is : List Int, PyData.canLayAll0 (is.map PyData.int) = true
  | [] => rfl
  | _ :: is => by simp [PyData.canLayAll0, PyData.canLay0, lay_ints is]
theorem dep_ints : ∀ is : List Int, PyData.depthAll (is.map PyData.int) = 0
  | [] => rfl
  | _ :: is => by simp [PyData.depthAll, PyData.depth, dep_ints is]
theorem layAll_of : ∀ {ds : List PyData}, (∀ d ∈ ds, d.canLay0 = true) → PyData.canLayAll0 ds = true
  | [], _ => rfl
  | d :: ds, h => by
    rw [PyData.canLayAll0, h d List.mem_cons_self, layAll_of fun x hx => h x (List.mem_cons_of_mem _ hx)]
    rfl
theorem depAll_of {n : Nat} : ∀ {ds : List PyData}, (∀ d ∈ ds, d.depth ≤ n) → PyData.depthAll ds ≤ n
  | [], _ => Nat.zero_le _
  | d :: ds, h => by
    rw [PyData.depthAll]
    exact Nat.max_le.mpr ⟨h d List.mem_cons_self, depAll_of fun x hx => h x (List.mem_cons_of_mem _ hx)⟩
/-- laid, not deep -/
def Flat (n : Nat) (d : PyData) : Prop := d.canLay0 = true ∧ d.depth ≤ n
theorem Flat.tup {n : Nat} {ds : List PyData} (h : ∀ d ∈ ds, Flat n d) : Flat (n + 1) (.tuple ds) :=
  ⟨by rw [PyData.canLay0]; exact layAll_of fun d hd => (h d hd).1, by rw [PyData.depth]; exact Nat.add_le_add_right (depAll_of fun d hd => (h d hd).2) 1⟩
theorem Flat.lst {n : Nat} {ds : List PyData} (h : ∀ d ∈ ds, Flat n d) : Flat (n + 1) (.list ds) :=
  ⟨by rw [PyData.canLay0]; exact layAll_of fun d hd => (h d hd).1, by rw [PyData.depth]; exact Nat.add_le_add_right (depAll_of fun d hd => (h d hd).2) 1⟩
theorem Flat.up {n m : Nat} {d : PyData} (h : Flat n d) (k : n ≤ m) : Flat m d := ⟨h.1, Nat.le_trans h.2 k⟩
theorem Flat.shaped {n : Nat} {d : PyData} (h : Flat n d) (k : n ≤ 64) : SeqAt.shaped d = true := by
  unfold SeqAt.shaped
  rw [h.1, decide_eq_true (Nat.le_trans h.2 k)]
  rfl
theorem flat_int (n : Nat) (i : Int) : Flat n (.int i) := ⟨rfl, Nat.zero_le _⟩
theorem isCont_flat {zs : List Int} {d : PyData} (h : isCont zs d = true) : Flat 1 d := by
  obtain ⟨is, rfl, _⟩ := isCont_ints h
  exact Flat.tup fun d hd => by
    obtain ⟨i, _, rfl⟩ := List.mem_map.mp hd
    exact flat_int 0 i
theorem isCont_alike {zs : List Int} {d e : PyData} (h : isCont zs d = true) (k : isCont zs e = true) : W.alike d e = true := by
  obtain ⟨is, rfl, _⟩ := isCont_ints h
  obtain ⟨js, rfl, _⟩ := isCont_ints k
  rw [W.alike]
  exact W.alike_ints is js
theorem isPair_two {h : Hou} {d : PyData} (k : isPair h d = true) : ∃ a c, d = .tuple [a, c] ∧ isCont h.zs a = true ∧ isCont h.zs c = true := by
  unfold isPair at k
  rw [Bool.and_eq_true, Bool.and_eq_true] at k
  obtain ⟨ds, rfl, hl⟩ := (isLen_iff (n := 2)).mp k.1
  match ds, hl with
  | [a, c], _ => exact ⟨a, c, rfl, k.2.1, k.2.2⟩
theorem isPair_flat {h : Hou} {d : PyData} (k : isPair h d = true) : Flat 2 d := by
  obtain ⟨a, c, rfl, ka, kc⟩ := isPair_two k
  exact Flat.tup fun d hd => by
    rcases List.mem_cons.mp hd with rfl | hd
    · exact isCont_flat ka
    · rw [List.mem_singleton] at hd
      subst hd
      exact isCont_flat kc
theorem isPair_alike {h : Hou} {d e : PyData} (k : isPair h d = true) (l : isPair h e = true) : W.alike d e = true := by
  obtain ⟨a, c, rfl, ka, kc⟩ := isPair_two k
  obtain ⟨a', c', rfl, la, lc⟩ := isPair_two l
  simp [W.alike, W.alikeAll, isCont_alike ka la, isCont_alike kc lc]
/-! ### rising rows: what the zip of the row and its rest says -/
def zipLt : List PyData → List PyData → Bool
  | d :: ds, e :: es => W.dataLt d e && zipLt ds es
  | _, _ => true
theorem cut_init (ds : List PyData) : cutD ds none (some (-1)) = ds.take (ds.length - 1) := by
  unfold cutD HT.sIx
  simp only [List.drop_zero, Nat.sub_zero]
  congr 1
  simp only [show ((-1 : Int) < 0) = True from eq_true (by decide), if_true]
  omega
theorem cut_tail (ds : List PyData) : cutD ds (some 1) none = ds.drop 1 := by
  unfold cutD HT.sIx
  simp only [show ((1 : Int) < 0) = False from eq_false (by decide), if_false, show (1 : Int).toNat = 1 from rfl]
  rw [List.take_of_length_le (by rw [List.length_drop]; omega)]
  rcases ds with _ | ⟨d, ds⟩
  · rfl
  · rw [Nat.min_eq_left (by simp)]
theorem rises_zip : ∀ ds : List PyData, rises ds = zipLt (ds.take (ds.length - 1)) (ds.drop 1)
  | [] => rfl
  | [d] => rfl
  | d :: e :: r => by
    have := rises_zip (e :: r)
    rw [rises, this]
    rfl
theorem zip_all : ∀ (ds es : List PyData), ((zipD ds es).map fun z => W.dataLt (nth z 0) (nth z 1)).all id = zipLt ds es
  | [], _ => by cases ‹List PyData› <;> rfl
  | _ :: _, [] => rfl
  | d :: ds, e :: es => by
    show (W.dataLt d e && ((zipD ds es).map fun z => W.dataLt (nth z 0) (nth z 1)).all id) = _
    rw [zip_all ds es]
    rfl
section
variable {P : Program} {w : World} {K : PySem.W.Frag} {mg : Str → Option Value} {base : Heap}

theorem conts_tups {zs : List Int} : ∀ {ds : List PyData}, (∀ d ∈ ds, isCont zs d = true) → ∃ xs : List (List Int), ds = xs.map tupI ∧ True
  | [], _ => ⟨[], rfl, trivial⟩
  | d :: ds, h => by
    obtain ⟨is, rfl, _⟩ := isCont_ints (h d List.mem_cons_self)
    obtain ⟨xs, rfl, _⟩ := conts_tups fun x hx => h x (List.mem_cons_of_mem _ hx)
    exact ⟨is :: xs, rfl, trivial⟩
theorem ints_key : ∀ is : List Int, keyOkDs (is.map PyData.int) = true ∧ numKs (keyNs (is.map PyData.int)) = true ∧ NestedKey.depthAll (keyNs (is.map PyData.int)) = 0
  | [] => ⟨rfl, rfl, rfl⟩
  | i :: is => by
    obtain ⟨h1, h2, h3⟩ := ints_key is
    exact ⟨h1, h2, by show max 0 (NestedKey.depthAll (keyNs (is.map PyData.int))) = 0; rw [h3]; rfl⟩
theorem cont_elt {zs : List Int} {d : PyData} (h : isCont zs d = true) : EltOk d := by
  obtain ⟨is, rfl, _⟩ := isCont_ints h
  obtain ⟨h1, h2, h3⟩ := ints_key is
  refine ⟨h1, rfl, h2, ?_⟩
  show NestedKey.depthAll (keyNs (is.map PyData.int)) + 1 ≤ 8
  rw [h3]
  decide
theorem cont_cons {zs : List Int} {d : PyData} (nz : zs ≠ []) (h : isCont zs d = true) : ∃ x r, d = .tuple (x :: r) := by
  obtain ⟨is, rfl, e⟩ := isCont_ints h
  cases is with
  | nil => exact absurd (List.length_eq_zero_iff.mp e.symm) nz
  | cons i is => exact ⟨_, _, rfl⟩
theorem ev_sortEq {K : PySem.W.Frag} {b : Bool} {p : Addr × Addr} {S : List Addr} {σ : L2.St} {H : Hp} {ta tb : TE} {xs : List (List Int)} (ha : Ev b p S ta σ H fun z => z = .list (xs.map tupI)) (hb : Ev b p S tb σ H fun z => ∃ ds', z = .list ds' ∧ SortOf (xs.map tupI) ds')
    (fl : ∀ d ∈ xs.map tupI, Flat 1 d) : Ev b p S (tOp (rEqD K) ta tb) σ H fun z => z = .bool (rises (xs.map tupI)) :=
  ev_op ha hb fun d1 e1 h1 h2 x y H1 P a1 a2 Q q => by
    subst h1
    obtain ⟨ds', rfl, st⟩ := h2
    have sd : SeqAt.shaped (.list (xs.map tupI)) = true := (Flat.lst fl).shaped (by decide)
    have se : SeqAt.shaped (.list ds') = true := (Flat.lst fun d hd => fl d ((st.mem d).mp hd)).shaped (by decide)
    exact ⟨_, _, a1.dp (SeqAt.canLay_of_shaped sd), a2.dp (SeqAt.canLay_of_shaped se), sd, se, q _ H1 _ Rl.refl P (.bl _) (by rw [sort_rises st])⟩
/-! ### are_contents: see MvSets -/
def f_are_contents : List PyData → PyData
  | [h, d] => .bool (areConts (hou h).zs d)
  | _ => .none
/-- a house, a thing of small rows -/
def PreS (ds : List PyData) : Prop := ∃ h d, ds = [Hou.d h, d] ∧ h.Ok ∧ sm d = true

/-! ### are_contents -/
abbrev N_are_contents : List Str := ["house", "value", "content"]
theorem sc_are_contents : FnScope N_are_contents ["house", "value"] (defScope (top 7)) := ⟨rfl, rfl, rfl, by decide +kernel, rfl, by decide +kernel, by decide +kernel⟩
theorem D_are_contents (T : Top K mg) : Dn P w K mg base "are_contents" 4 ["house", "value"] (spF false 2 f_are_contents PreS) := by
  refine T.dn 4 rfl rfl sc_are_contents (fun _ _ _ _ _ _ us h => match us, h with | [_, _], _ => rfl) rfl fun f cdv A outer s p S H ds vs Q hr a l Pn pr q => ?_
  refine ⟨_, pss_cons (ps_if (PW.pt (pw_or (pt_not (pt_val (pe_isi (by rfl) T.f_isinstance (pv 1) (by rfl) T.f_tuple bb_tuple))) (pw_or1 (pt_cmpR (op_eqE (hu_lt hr)) (pv 1) (pe_tup pa_nil) (nomark _)))))
      (pss_one (ps_ret pe_bl))
      (pss_nil))
    (pss_cons (ps_for PassesOwn.never rfl (pi_tup (pv 1)) (pg_name (i := 2) sc_are_contents.nd rfl (Or.inl rfl))
      (pss_one (ps_if (pt_not (pt_val (pe_dn ((D_is_content T).up (by decide)) hr (by rfl) (pa_cons (pv 0) (pa_cons (pv 2) pa_nil)))))
        (pss_one (ps_ret pe_bl))
        (pss_nil))))
    (pss_one (ps_ret (pe_cmpR (op_eqD (hu_64 hr)) (pe_callTy cr_listOf (by rfl) T.f_list bb_list (pa_cons (pv 1) pa_nil)) (pe_callB (cr_sortOf rfl (hu_64 hr)) (by rfl) T.f_sorted bb_sorted (pa_cons (pe_callTy (cr_setOf rfl (hu_64 hr)) (by rfl) T.f_set bb_set (pa_cons (pv 1) pa_nil)) pa_nil)) (nomark _))))), ?_⟩
  obtain ⟨h, d, rfl, ok, sd⟩ := pr
  obtain ⟨v, u, rfl, a1, a2⟩ := a.two
  have Hh : Ev false p S (tVar 0) (start N_are_contents [v, u]) H fun z => z = h.d := ev_var rfl a1
  have Hv : Ev false p S (tVar 1) (start N_are_contents [v, u]) H fun z => z = d := ev_var rfl a2
  have fin : ∀ {v : V} {H' : Hp} {k : Bool}, Rl false p H H' → Pen p S H' → At S H' v (.bool k) → k = areConts h.zs d → Q v H' := fun e' P' a' e => q _ _ _ e' P' a' (by rw [f_are_contents, hou_d, e])
  cases d with
  | tuple ds =>
    refine s_ifK (b := false) (et_orK (et_notK (et_k (ev_isi Hv (kit_tuple _)))) fun _ => et_c (ev_eqE Hv (ev_tupK ea_nil))) Pn (fun k H1 e P1 => ?_) (fun k H1 e P1 => ?_)
    · refine s_retK (b := false) ev_bl P1 fun v H2 e2 P2 a2 => fin (e.trans e2) P2 a2 ?_
      cases ds with
      | nil => rfl
      | cons _ _ => cases k
    · have sm := (sm_tup sd).1
      refine s_forAll (b := false) (f := isCont h.zs) (Hv.mono e) P1 (fun σ => ∃ x, σ = [some v, some u, x]) ⟨_, rfl⟩ (fun H0 e0 P0 d v' σ' H' I' hd hJ e1 P2 b1 step => ?_) fun σ' H' hJ ha e2 P2 => ?_
      · obtain ⟨x, rfl⟩ := hJ
        have e0' := (e.trans e0).trans e1
        have w1 : At S H' v h.d := a1.mono e0' Pn.mem
        have Hh' : Ev false p S (tVar 0) [some v, some u, some v'] H' fun z => z = h.d := ev_var rfl w1
        have Hr : Ev false p S (tVar 2) [some v, some u, some v'] H' fun z => z = d := ev_var rfl b1
        refine s_ifK (b := false) (k := !isCont h.zs d) (et_notK (et_k (ev_f (ea_two Hh' Hr) rfl ⟨h, d, rfl, ok⟩ (by rw [f_is_content, hou_d])))) P2 (fun k H2 e2 P3 => ?_) (fun k H2 e2 P3 => ?_)
        · refine s_retK (b := false) ev_bl P3 fun v H3 e3 P4 a4 => fin ((e0'.trans e2).trans e3) P4 a4 ?_
          show _ = (!ds.isEmpty && (ds.all (isCont h.zs) && rises ds))
          rw [List.all_eq_false.mpr ⟨d, hd, by rw [show isCont h.zs d = false by simpa using k]; exact Bool.false_ne_true⟩, Bool.false_and, Bool.and_false]
        · exact ⟨step _ ⟨_, rfl⟩ (by simpa using k), e1.trans e2, P3⟩
      · obtain ⟨x, rfl⟩ := hJ
        have kc : ∀ d ∈ ds, isCont h.zs d = true := List.all_eq_true.mp ha
        have Hw : Ev false p S (tVar 1) [some v, some u, x] H' fun z => z = .tuple ds := ev_var rfl (a2.mono (e.trans e2) Pn.mem)
        obtain ⟨xs, rfl, _⟩ := conts_tups kc
        refine s_ret (b := false) (R := fun z => z = .bool (rises (xs.map tupI))) (ev_sortEq (ev_listOf Hw rfl) (ev_sortSet Hw (fun d hd => cont_elt (kc d hd)) (by omega) (fun d hd d' hd' => isCont_alike (kc d hd) (kc d' hd')) (.inl fun d hd => cont_cons ok.ne (kc d hd))) fun d hd => (isCont_flat (kc d hd))) P2 fun v H3 z e3 P3 a3 r => ?_
        subst r
        refine fin ((e.trans e2).trans e3) P3 a3 ?_
        show _ = (!(xs.map tupI).isEmpty && ((xs.map tupI).all (isCont h.zs) && rises (xs.map tupI)))
        rw [ha, show (xs.map tupI).isEmpty = false from (by have k2 := k; simp at k2; simp [k2.2])]
        rfl
  | _ =>
    refine s_ifK (b := false) (k := true) (EvT.imp (et_orK (l := false) (et_notK (et_k (ev_isi Hv (kit_tuple _)))) fun e => by cases e) fun x e => e.trans rfl) Pn (fun k H1 e P1 => ?_) (fun k H1 e P1 => by cases k)
    exact s_retK (b := false) ev_bl P1 fun v H2 e2 P2 a2 => fin (e.trans e2) P2 a2 rfl

theorem sm_nth {d : PyData} (h : sm d = true) (i : Nat) : sm (nth d i) = true := by
  unfold nth
  by_cases hi : i < (items d).length
  · rw [List.getD_eq_getElem?_getD, List.getElem?_eq_getElem hi]
    have hm : (items d)[i] ∈ items d := List.getElem_mem hi
    revert hm
    generalize (items d)[i] = x
    intro hm
    cases d with
    | tuple ds => exact (sm_tup h).2 _ hm
    | list ds =>
      rw [sm, Bool.and_eq_true] at h
      exact smAll_mem h.2 hm
    | _ => cases hm
  · rw [List.getD_eq_getElem?_getD, List.getElem?_eq_none (by omega)]
    rfl

/-! ### is_rising -/
abbrev N_is_rising : List Str := ["rows", "one", "two"]
theorem sc_is_rising : FnScope N_is_rising ["rows"] (defScope (top 16)) := ⟨rfl, rfl, rfl, by decide +kernel, rfl, by decide +kernel, by decide +kernel⟩
def f_is_rising : List PyData → PyData
  | [.tuple ds] => .bool (rises ds)
  | _ => .none
def PreR (zs : List PyData) : Prop := ∃ ds, zs = [.tuple ds] ∧ W.AllAlike ds ∧ (∀ d ∈ ds, d ≠ .none ∧ SeqAt.shaped d = true) ∧ ds.length ≤ 60
theorem ev_neg {b : Bool} {p : Addr × Addr} {S : List Addr} {te : TE} {σ : L2.St} {H : Hp} {i : Int} (h : Ev b p S te σ H fun z => z = .int i) : Ev b p S (tUn (rU fun i => .int (-i)) te) σ H fun z => z = .int (-i) := fun H1 e P Q q =>
  h H1 e P _ fun v H2 z e2 P2 a2 r => by
    subst r
    cases a2
    exact ⟨i, rfl, q _ H2 _ e2 P2 (.int _) rfl⟩
theorem cmp_bls {ds zs : List PyData} {g : PyData → Bool} {Z : PyData → Bool → Prop} (c : Cmp Z (fun z y => y = .bool (g z)) ds zs) (hZ : ∀ d k, Z d k → k = true) : zs = ds.map fun d => PyData.bool (g d) := by
  induction c with
  | nil => rfl
  | skip _ h => exact absurd (hZ _ _ h) Bool.false_ne_true
  | take _ _ e ih => rw [ih, e, List.map_append]; rfl
theorem ev_allZ {b : Bool} {p : Addr × Addr} {S : List Addr} {tl : TE} {σ : L2.St} {H : Hp} {ds : List PyData} {g : PyData → Bool} {Z : PyData → Bool → Prop} (h : Ev b p S tl σ H fun z => ∃ zs, z = .list zs ∧ Cmp Z (fun z y => y = .bool (g z)) ds zs) (hZ : ∀ d k, Z d k → k = true) :
    Ev b p S (tCB (rAll K) (tCons tl tNil)) σ H fun z => z = .bool ((ds.map g).all id) := by
  have h2 : Ev b p S tl σ H fun z => z = .list ((ds.map g).map PyData.bool) := h.imp fun z ⟨zs, e, c⟩ => by
    rw [e, cmp_bls c hZ, List.map_map]
    rfl
  exact ev_all h2
theorem D_is_rising (T : Top K mg) : Dn P w K mg base "is_rising" 1 ["rows"] (spF false 1 f_is_rising PreR) := by
  refine T.dn 6 rfl rfl sc_is_rising (fun _ _ _ _ _ _ us h => match us, h with | [_], _ => rfl) rfl fun f cdv A outer s p S H ds vs Q hr a l Pn pr q => ?_
  refine ⟨_, pss_one (ps_ret (pe_callB (cr_all rfl) (by rfl) T.f_all bb_all (pa_cons (pe_lc (own := [("one", 1), ("two", 2)]) rfl sc_is_rising.nd (pi_zs (by rfl) T.f_zip (pa_cons (pe_slice sl_tupA (pv 0) po_none (po_some (pe_un un_neg pe_int))) (pa_cons (pe_slice sl_tupA (pv 0) (po_some pe_int) po_none) pa_nil)) (pk_cons pe_bl pk_nil)) (blkOk_by (N := N_is_rising) (sc := defScope (top 16)) (by decide +kernel)) (fun _ _ _ _ _ => (pg_tupk (K := K) (n := 2) rfl rfl (pgs_cons (pg_name (i := 1) sc_is_rising.nd rfl (Or.inl rfl)) (pgs_cons (pg_name (i := 2) sc_is_rising.nd rfl (Or.inl rfl)) pgs_nil)))) (fun _ _ _ _ _ => pts_nil) (fun _ _ _ _ _ => (pe_cmpR (op_ltDk (K := K) rfl (hu_64 hr)) (pv 1) (pv 2) (nomark _)))) pa_nil))), ?_⟩
  obtain ⟨es, rfl, al, ok, hl⟩ := pr
  obtain ⟨v, rfl, a1⟩ := a.one
  have Hv : Ev false p S (tVar 0) (start N_is_rising [v]) H fun z => z = .tuple es := ev_var rfl a1
  have c1 := ev_slT (K := K) Hv eo_none (eo_some (i := -1) (ev_neg ev_int))
  have c2 := ev_slT (K := K) Hv (eo_some (i := 1) ev_int) eo_none
  rw [cut_init] at c1
  rw [cut_tail] at c2
  refine s_retK (b := false) (d := .bool (rises es)) (ev_eq (ev_allZ (Z := fun _ k => k = true) (g := fun z => W.dataLt (nth z 0) (nth z 1)) (ev_lcZ (E := fun z y => y = .bool (W.dataLt (nth z 0) (nth z 1))) (ea_two c1 c2) (fun H1 Q q => q) (by rw [List.length_take, List.length_drop]; omega) (by rw [List.length_take]; omega) (fun _ _ => rfl)
    (fun A H0 e P hA i d d' v v' H' hd hd' e2 P2 b1 b2 H3 e3 P3 Q q => q true H3 Rl.refl P3 rfl)
    (fun A H0 e P hA i d d' v v' H' hd hd' e2 P2 b1 b2 _ => ?_)) (fun _ _ h => h)) ?_) Pn fun v H2 e2 P2 a2 => q v H2 _ e2 P2 a2 rfl
  · have m1 : d ∈ es := List.mem_of_mem_take (List.mem_of_getElem? hd)
    have m2 : d' ∈ es := List.mem_of_mem_drop (List.mem_of_getElem? hd')
    exact ev_ltD (ev_var rfl b1) (ev_var rfl b2) (al d m1 d' m2) (ok d m1).1 (ok d m1).2 (ok d' m2).2
  · rw [zip_all, ← rises_zip]

/-! ### is_pair -/
abbrev N_is_pair : List Str := ["house", "value"]
theorem sc_is_pair : FnScope N_is_pair ["house", "value"] (defScope (top 17)) := ⟨rfl, rfl, rfl, by decide +kernel, rfl, by decide +kernel, by decide +kernel⟩
def f_is_pair : List PyData → PyData
  | [h, d] => .bool (isPair (hou h) d)
  | _ => .none
theorem D_is_pair (T : Top K mg) : Dn P w K mg base "is_pair" 4 ["house", "value"] (spF false 2 f_is_pair PreH) := by
  refine T.dn 7 rfl rfl sc_is_pair (fun _ _ _ _ _ _ us h => match us, h with | [_, _], _ => rfl) rfl fun f cdv A outer s p S H ds vs Q hr a l Pn pr q => ?_
  refine ⟨_, pss_one (ps_ret (pe_and (pe_dn ((D_is_parts T).up (by decide)) hr (by rfl) (pa_cons (pv 1) (pa_cons pe_int pa_nil))) (pe_and (pe_dn ((D_is_content T).up (by decide)) hr (by rfl) (pa_cons (pv 0) (pa_cons (pe_ix ix_seq (pv 1) pe_int (fun _ _ => rfl)) pa_nil))) (pe_one (pe_dn ((D_is_content T).up (by decide)) hr (by rfl) (pa_cons (pv 0) (pa_cons (pe_ix ix_seq (pv 1) pe_int (fun _ _ => rfl)) pa_nil))))))), ?_⟩
  obtain ⟨h, d, rfl, ok⟩ := pr
  obtain ⟨v, u, rfl, a1, a2⟩ := a.two
  have Hh : Ev false p S (tVar 0) (start N_is_pair [v, u]) H fun z => z = h.d := ev_var rfl a1
  have Hv : Ev false p S (tVar 1) (start N_is_pair [v, u]) H fun z => z = d := ev_var rfl a2
  refine s_retK (b := false) (d := .bool (isPair h d)) (ev_andK (ev_f (ea_two Hv ev_int) rfl ⟨d, 2, rfl⟩ rfl) fun hl => ev_andK (ev_f (ea_two Hh (ev_nth Hv hl (by decide))) rfl ⟨h, _, rfl, ok⟩ (by rw [f_is_content, hou_d])) fun _ => ev_f (ea_two Hh (ev_nth Hv hl (by decide))) rfl ⟨h, _, rfl, ok⟩ (by rw [f_is_content, hou_d])) Pn fun v H2 e2 P2 a2 => q v H2 _ e2 P2 a2 (by rw [f_is_pair, hou_d])

/-! ### is_rule -/
abbrev N_is_rule : List Str := ["house", "value"]
theorem sc_is_rule : FnScope N_is_rule ["house", "value"] (defScope (top 46)) := ⟨rfl, rfl, rfl, by decide +kernel, rfl, by decide +kernel, by decide +kernel⟩
def f_is_rule : List PyData → PyData
  | [h, d] => .bool (isRule (hou h) d)
  | _ => .none
theorem D_is_rule (T : Top K mg) : Dn P w K mg base "is_rule" 5 ["house", "value"] (spF false 2 f_is_rule PreS) := by
  refine T.dn 8 rfl rfl sc_is_rule (fun _ _ _ _ _ _ us h => match us, h with | [_, _], _ => rfl) rfl fun f cdv A outer s p S H ds vs Q hr a l Pn pr q => ?_
  refine ⟨_, pss_cons (ps_if (PW.pt (pw_or (pt_not (pt_val (pe_isi (by rfl) T.f_isinstance (pv 1) (by rfl) T.f_tuple bb_tuple))) (pw_or (pt_cmpR (op_neD (hu_64 hr)) (pe_len (by rfl) T.f_len (pv 1)) pe_int (nomark _)) (pw_or1 (pt_not (pt_val (pe_dn ((D_is_item T).up (by decide)) hr (by rfl) (pa_cons (pv 0) (pa_cons (pe_ix ix_seq (pv 1) pe_int (fun _ _ => rfl)) pa_nil)))))))))
      (pss_one (ps_ret pe_bl))
      (pss_nil))
    (pss_one (ps_ret (pe_and (pe_dn ((D_are_contents T).up (by decide)) hr (by rfl) (pa_cons (pv 0) (pa_cons (pe_ix ix_seq (pv 1) pe_int (fun _ _ => rfl)) pa_nil))) (pe_one (pe_dn ((D_are_contents T).up (by decide)) hr (by rfl) (pa_cons (pv 0) (pa_cons (pe_ix ix_seq (pv 1) pe_int (fun _ _ => rfl)) pa_nil))))))), ?_⟩
  obtain ⟨h, d, rfl, ok, sd⟩ := pr
  obtain ⟨v, u, rfl, a1, a2⟩ := a.two
  have Hh : Ev false p S (tVar 0) (start N_is_rule [v, u]) H fun z => z = h.d := ev_var rfl a1
  have Hv : Ev false p S (tVar 1) (start N_is_rule [v, u]) H fun z => z = d := ev_var rfl a2
  refine s_ifK (b := false) (k := (!isLen d 3 || !isNum (nth d 0) (h.ks.length + 1))) (et_lenK (n := 3) Hv fun hl => et_notK (et_k (ev_f (z := .bool (isNum (nth d 0) (h.ks.length + 1))) (ea_two Hh (ev_nth (n := 3) (i := 0) Hv hl (by decide))) rfl ⟨h, _, rfl, ok⟩ (by rw [f_is_item, hou_d])))) Pn (fun k H1 e P1 => ?_) (fun k H1 e P1 => ?_)
  · refine s_retK (b := false) ev_bl P1 fun v H2 e2 P2 a2 => q v H2 _ (e.trans e2) P2 a2 ?_
    rw [f_is_rule, hou_d]
    unfold isRule
    revert k
    cases isLen d 3 <;> cases isNum (nth d 0) (h.ks.length + 1) <;> simp
  · have k' : isLen d 3 = true ∧ isNum (nth d 0) (h.ks.length + 1) = true := by simpa using k
    refine s_retK (b := false) (d := .bool (isRule h d)) (ev_eq (ev_andK (ev_f (ea_two (Hh.mono e) (ev_nth (n := 3) (i := 1) (Hv.mono e) k'.1 (by decide))) rfl ⟨h, _, rfl, ok, sm_nth sd _⟩ (by rw [f_are_contents, hou_d])) fun _ => ev_f (ea_two (Hh.mono e) (ev_nth (n := 3) (i := 2) (Hv.mono e) k'.1 (by decide))) rfl ⟨h, _, rfl, ok, sm_nth sd _⟩ (by rw [f_are_contents, hou_d])) ?_) P1 fun v H2 e2 P2 a2 => q v H2 _ (e.trans e2) P2 a2 (by rw [f_is_rule, hou_d])
    unfold isRule
    rw [k'.1, k'.2]
    rfl

/-! ### is_leak -/
abbrev N_is_leak : List Str := ["house", "value"]
theorem sc_is_leak : FnScope N_is_leak ["house", "value"] (defScope (top 63)) := ⟨rfl, rfl, rfl, by decide +kernel, rfl, by decide +kernel, by decide +kernel⟩
def f_is_leak : List PyData → PyData
  | [h, d] => .bool (isRule (hou h) d)
  | _ => .none
theorem D_is_leak (T : Top K mg) : Dn P w K mg base "is_leak" 5 ["house", "value"] (spF false 2 f_is_leak PreS) := by
  refine T.dn 10 rfl rfl sc_is_leak (fun _ _ _ _ _ _ us h => match us, h with | [_, _], _ => rfl) rfl fun f cdv A outer s p S H ds vs Q hr a l Pn pr q => ?_
  refine ⟨_, pss_cons (ps_if (PW.pt (pw_or (pt_not (pt_val (pe_dn ((D_is_parts T).up (by decide)) hr (by rfl) (pa_cons (pv 1) (pa_cons pe_int pa_nil))))) (pw_or1 (pt_not (pt_val (pe_dn ((D_is_item T).up (by decide)) hr (by rfl) (pa_cons (pv 0) (pa_cons (pe_ix ix_seq (pv 1) pe_int (fun _ _ => rfl)) pa_nil))))))))
      (pss_one (ps_ret pe_bl))
      (pss_nil))
    (pss_one (ps_ret (pe_and (pe_dn ((D_are_contents T).up (by decide)) hr (by rfl) (pa_cons (pv 0) (pa_cons (pe_ix ix_seq (pv 1) pe_int (fun _ _ => rfl)) pa_nil))) (pe_one (pe_dn ((D_are_contents T).up (by decide)) hr (by rfl) (pa_cons (pv 0) (pa_cons (pe_ix ix_seq (pv 1) pe_int (fun _ _ => rfl)) pa_nil))))))), ?_⟩
  obtain ⟨h, d, rfl, ok, sd⟩ := pr
  obtain ⟨v, u, rfl, a1, a2⟩ := a.two
  have Hh : Ev false p S (tVar 0) (start N_is_leak [v, u]) H fun z => z = h.d := ev_var rfl a1
  have Hv : Ev false p S (tVar 1) (start N_is_leak [v, u]) H fun z => z = d := ev_var rfl a2
  refine s_ifK (b := false) (k := (!isLen d 3 || !isNum (nth d 0) (h.ks.length + 1))) (et_orK (et_notK (et_k (ev_f (z := .bool (isLen d 3)) (ea_two Hv ev_int) rfl ⟨d, 3, rfl⟩ rfl))) fun hl => et_notK (et_k (ev_f (z := .bool (isNum (nth d 0) (h.ks.length + 1))) (ea_two Hh (ev_nth (n := 3) (i := 0) Hv (by simpa using hl) (by decide))) rfl ⟨h, _, rfl, ok⟩ (by rw [f_is_item, hou_d])))) Pn (fun k H1 e P1 => ?_) (fun k H1 e P1 => ?_)
  · refine s_retK (b := false) ev_bl P1 fun v H2 e2 P2 a2 => q v H2 _ (e.trans e2) P2 a2 ?_
    rw [f_is_leak, hou_d]
    unfold isRule
    revert k
    cases isLen d 3 <;> cases isNum (nth d 0) (h.ks.length + 1) <;> simp
  · have k' : isLen d 3 = true ∧ isNum (nth d 0) (h.ks.length + 1) = true := by simpa using k
    refine s_retK (b := false) (d := .bool (isRule h d)) (ev_eq (ev_andK (ev_f (ea_two (Hh.mono e) (ev_nth (n := 3) (i := 1) (Hv.mono e) k'.1 (by decide))) rfl ⟨h, _, rfl, ok, sm_nth sd _⟩ (by rw [f_are_contents, hou_d])) fun _ => ev_f (ea_two (Hh.mono e) (ev_nth (n := 3) (i := 2) (Hv.mono e) k'.1 (by decide))) rfl ⟨h, _, rfl, ok, sm_nth sd _⟩ (by rw [f_are_contents, hou_d])) ?_) P1 fun v H2 e2 P2 a2 => q v H2 _ (e.trans e2) P2 a2 (by rw [f_is_leak, hou_d])
    unfold isRule
    rw [k'.1, k'.2]
    rfl

/-! ### are_rules -/
abbrev N_are_rules : List Str := ["house", "value", "rule"]
theorem sc_are_rules : FnScope N_are_rules ["house", "value"] (defScope (top 47)) := ⟨rfl, rfl, rfl, by decide +kernel, rfl, by decide +kernel, by decide +kernel⟩
def f_are_rules : List PyData → PyData
  | [h, d] => .bool (areRules (hou h) d)
  | _ => .none
theorem D_are_rules (T : Top K mg) : Dn P w K mg base "are_rules" 6 ["house", "value"] (spF false 2 f_are_rules PreS) := by
  refine T.dn 9 rfl rfl sc_are_rules (fun _ _ _ _ _ _ us h => match us, h with | [_, _], _ => rfl) rfl fun f cdv A outer s p S H ds vs Q hr a l Pn pr q => ?_
  refine ⟨_, pss_cons (ps_if (PW.pt (pw_or (pt_not (pt_val (pe_isi (by rfl) T.f_isinstance (pv 1) (by rfl) T.f_tuple bb_tuple))) (pw_or1 (pt_cmpR op_gt (pe_len (by rfl) T.f_len (pv 1)) (pe_rules T (by rfl) rfl) (nomark _)))))
      (pss_one (ps_ret pe_bl))
      (pss_nil))
    (pss_one (ps_ret (pe_callB (cr_all rfl) (by rfl) T.f_all bb_all (pa_cons (pe_lc (own := [("rule", 2)]) rfl sc_are_rules.nd (pi_tup (pv 1)) (blkOk_by (N := N_are_rules) (sc := defScope (top 47)) (by decide +kernel)) (fun _ _ _ _ _ => (pg_name (i := 2) sc_are_rules.nd rfl (Or.inl rfl))) (fun _ _ _ _ _ => pts_nil) (fun _ _ _ _ _ => (pe_dn ((D_is_rule T).up (by decide)) hr (by rfl) (pa_cons (pv 0) (pa_cons (pv 2) pa_nil))))) pa_nil)))), ?_⟩
  obtain ⟨h, d, rfl, ok, sd⟩ := pr
  obtain ⟨v, u, rfl, a1, a2⟩ := a.two
  have Hh : Ev false p S (tVar 0) (start N_are_rules [v, u]) H fun z => z = h.d := ev_var rfl a1
  have Hv : Ev false p S (tVar 1) (start N_are_rules [v, u]) H fun z => z = d := ev_var rfl a2
  refine s_ifK (b := false) (k := !(isT d && decide ((items d).length ≤ 6))) (EvT.imp (et_orK (et_notK (et_k (ev_isi Hv (kit_tuple d)))) fun ht => et_c (ev_I0 (z := .bool (decide (((items d).length : Int) > 6))) (ev_len Hv (by cases d <;> first | rfl | cases ht)) ev_int fun H => .bl _)) ?_) Pn (fun k H1 e P1 => ?_) (fun k H1 e P1 => ?_)
  · intro x e
    rw [e]
    cases d with
    | tuple ds =>
      show (false || decide ((ds.length : Int) > 6)) = !(true && decide (ds.length ≤ 6))
      by_cases h6 : ds.length ≤ 6
      · simp [h6]; omega
      · simp [h6]; omega
    | _ => rfl
  · refine s_retK (b := false) ev_bl P1 fun v H2 e2 P2 a2 => q v H2 _ (e.trans e2) P2 a2 ?_
    rw [f_are_rules, hou_d]
    cases d with
    | tuple ds =>
      have k2 : (!(true && decide (ds.length ≤ 6))) = true := k
      have : decide (ds.length ≤ 6) = false := by
        revert k2
        cases decide (ds.length ≤ 6) <;> simp
      show _ = PyData.bool (decide (ds.length ≤ 6) && _)
      rw [this]
      rfl
    | _ => rfl
  · cases d with
    | tuple ds =>
      have k2 : (!(true && decide (ds.length ≤ 6))) = false := k
      have k' : decide (ds.length ≤ 6) = true := by
        revert k2
        cases decide (ds.length ≤ 6) <;> simp
      refine s_retK (b := false) (d := .bool (ds.all (isRule h))) (ev_allK (g := isRule h) (ev_lcTK (g := fun d => .bool (isRule h d)) (Hv.mono e) (by have := of_decide_eq_true k'; omega) (fun _ => rfl) fun A H0 e0 P0 hA d v H' hd e1 P2 b1 => ?_)) P1 fun v H2 e2 P2 a2 => q v H2 _ (e.trans e2) P2 a2 ?_
      · have w1 : At (A :: S) H' _ h.d := At.through a1 (e.trans e0) P0 hA e1
        exact ev_f (ea_two (ev_var rfl w1) (ev_var rfl b1)) rfl ⟨h, d, rfl, ok, (sm_tup sd).2 d hd⟩ (by rw [f_is_rule, hou_d])
      · rw [f_are_rules, hou_d]
        show _ = PyData.bool (decide (ds.length ≤ 6) && ds.all (isRule h))
        rw [k']
        rfl
    | _ => cases k

/-! ### are_pairs -/
abbrev N_are_pairs : List Str := ["house", "value", "pair"]
theorem sc_are_pairs : FnScope N_are_pairs ["house", "value"] (defScope (top 89)) := ⟨rfl, rfl, rfl, by decide +kernel, rfl, by decide +kernel, by decide +kernel⟩
def f_are_pairs : List PyData → PyData
  | [h, d] => .bool (arePairs (hou h) d)
  | _ => .none
theorem D_are_pairs (T : Top K mg) : Dn P w K mg base "are_pairs" 5 ["house", "value"] (spF false 2 f_are_pairs PreS) := by
  refine T.dn 11 rfl rfl sc_are_pairs (fun _ _ _ _ _ _ us h => match us, h with | [_, _], _ => rfl) rfl fun f cdv A outer s p S H ds vs Q hr a l Pn pr q => ?_
  refine ⟨_, pss_one (ps_ret (pe_and (pe_isi (by rfl) T.f_isinstance (pv 1) (by rfl) T.f_tuple bb_tuple) (pe_and (pe_callB (cr_all rfl) (by rfl) T.f_all bb_all (pa_cons (pe_lc (own := [("pair", 2)]) rfl sc_are_pairs.nd (pi_tup (pv 1)) (blkOk_by (N := N_are_pairs) (sc := defScope (top 89)) (by decide +kernel)) (fun _ _ _ _ _ => (pg_name (i := 2) sc_are_pairs.nd rfl (Or.inl rfl))) (fun _ _ _ _ _ => pts_nil) (fun _ _ _ _ _ => (pe_dn ((D_is_pair T).up (by decide)) hr (by rfl) (pa_cons (pv 0) (pa_cons (pv 2) pa_nil))))) pa_nil)) (pe_one (pe_dn ((D_is_rising T).up (by decide)) hr (by rfl) (pa_cons (pv 1) pa_nil)))))), ?_⟩
  obtain ⟨h, d, rfl, ok, sd⟩ := pr
  obtain ⟨v, u, rfl, a1, a2⟩ := a.two
  have Hh : Ev false p S (tVar 0) (start N_are_pairs [v, u]) H fun z => z = h.d := ev_var rfl a1
  have Hv : Ev false p S (tVar 1) (start N_are_pairs [v, u]) H fun z => z = d := ev_var rfl a2
  refine s_retK (b := false) (d := .bool (arePairs h d)) ?_ Pn fun v H2 e2 P2 a2 => q v H2 _ e2 P2 a2 (by rw [f_are_pairs, hou_d])
  cases d with
  | tuple ds =>
    refine ev_eq (ev_andK (ev_isi Hv (kit_tuple _)) fun _ => ev_andK (ev_allK (g := isPair h) (ev_lcTK (g := fun d => .bool (isPair h d)) Hv (by have := (sm_tup sd).1; omega) (fun _ => rfl) fun A H0 e0 P0 hA d v H' hd e1 P2 b1 => ?_)) fun ka => ev_f (ea_one Hv) rfl ⟨ds, rfl, ?_, ?_, (sm_tup sd).1⟩ rfl) rfl
    · have w1 : At (A :: S) H' _ h.d := At.through a1 e0 P0 hA e1
      exact ev_f (ea_two (ev_var rfl w1) (ev_var rfl b1)) rfl ⟨h, d, rfl, ok⟩ (by rw [f_is_pair, hou_d])
    · exact fun d hd d' hd' => isPair_alike (List.all_eq_true.mp ka d hd) (List.all_eq_true.mp ka d' hd')
    · intro d hd
      have kd := List.all_eq_true.mp ka d hd
      refine ⟨fun e => ?_, (isPair_flat kd).shaped (by decide)⟩
      subst e
      cases kd
  | _ => exact ev_eq (ev_andK (l := false) (ev_isi Hv (kit_tuple _)) fun k => by cases k) rfl

end
end Mv
/-! # dict([(text, number), ..])[text] -/
namespace Mv
open PySem PySem.Spec PyProof.Rows L2 He
def rDictP (K : PySem.W.Frag) : List V → Hp → VK → Prop := fun xs H Q => ∃ (a : Addr) (ps : List Addr) (kvs : List (Key × V)), xs = [.ref a] ∧ SqL K H a (ps.map V.ref) ∧ Paired (fun p kv => SqT K H p [kV kv.1, kv.2]) ps kvs ∧
    ∀ p, H p = none → Q (.ref p) (upd H p (.dK (mergeK [] kvs)))
theorem cr_dictP {X : Cx} (hc : X.calm = true) : CallR X (.type "dict") (rDictP X.K) := call_dictP hc
def strI (kvs : List (Str × Int)) : List PyData := kvs.map fun kv => .tuple [.str kv.1, .int kv.2]
def kvsV (kvs : List (Str × Int)) : List (Key × V) := kvs.map fun kv => (Sum.inr kv.1, V.int kv.2)
section
variable {X : Cx} {K : PySem.W.Frag} {b : Bool} {p : Addr × Addr} {S : List Addr} {σ : L2.St} {H H' : Hp} {ta tb tc te : TE} {tr : TA} {kvs : List (Str × Int)} {i : Int} {x : Str}
theorem dict_pairs {xs : List V} : ∀ {kvs : List (Str × Int)} {xs : List V}, Ats S H xs (strI kvs) → ∃ ps : List Addr, xs = ps.map V.ref ∧ Paired (fun p (kv : Key × V) => SqT K H p [kV kv.1, kv.2]) ps (kvsV kvs)
  | [], _, h => by
    cases h
    exact ⟨[], rfl, .nil⟩
  | (k, i) :: kvs, _, h => by
    cases h with
    | cons h r =>
      obtain ⟨ps, e, r2⟩ := dict_pairs (xs := []) r
      obtain ⟨a, ys, rfl, n, ha, ra⟩ := h.tup_inv
      obtain ⟨v, w, rfl, hv, hw⟩ := ra.two
      cases hv
      cases hw
      exact ⟨a :: ps, by rw [e]; rfl, .cons (SqT.of ha) r2⟩
theorem made (h : EvA b p S tr σ H fun zs => zs = [.list (strI kvs)]) : ∀ H1, Rl b p H H1 → Pen p S H1 → ∀ Q : VK, (∀ a H2, Rl b p H1 H2 → Pen p S H2 → (a ≠ p.1) → H2 a = some (.dK (mergeK [] (kvsV kvs))) → Q (.ref a) H2) → tCB (rDictP K) tr σ H1 Q := fun H1 e P Q q =>
  h H1 e P _ fun vs H2 ds e2 P2 a2 r => by
    subst r
    obtain ⟨v, rfl, av⟩ := a2.one
    obtain ⟨a, xs, rfl, n, ha, ra⟩ := av.lst_inv
    obtain ⟨ps, rfl, r2⟩ := dict_pairs (K := K) (xs := []) ra
    exact ⟨a, ps, kvsV kvs, rfl, SqL.of ha, r2, fun l hl => q l _ (e2.trans (Rl.new hl)) (P2.new hl) (P2.nep hl) upd_same⟩
theorem ev_dctget (h : EvA b p S tr σ H fun zs => zs = [.list (strI kvs)]) (hw : Ev b p S tb σ H fun z => z = .str x) (hv : valV (mergeK [] (kvsV kvs)) (Sum.inr x) = some (.int i)) : Ev b p S (tDGet (tCB (rDictP K) tr) tb) σ H fun z => z = .int i := fun H1 e P Q q =>
  made h H1 e P _ fun a H2 e2 P2 na ha => hw H2 (e.trans e2) P2 _ fun y H3 z e3 P3 a3 r => by
    subst r
    cases a3
    exact ⟨a, .int i, rfl, .inl ⟨_, Sum.inr x, .inl (e3 _ _ (fun _ => na) ha), rfl, hv.symm⟩, q _ H3 _ (e2.trans e3) P3 (.int i) rfl⟩
theorem ev_dctget2 {j : Int} (h : EvA b p S tr σ H fun zs => zs = [.list (strI kvs)]) (hw : Ev b p S tb σ H fun z => z = .str x) (hc : Ev b p S tc σ H fun z => z = .int j) (hv : (valV (mergeK [] (kvsV kvs)) (Sum.inr x)).getD (.int j) = .int i) : Ev b p S (tDGet2 (tCB (rDictP K) tr) tb tc) σ H fun z => z = .int i := fun H1 e P Q q =>
  made h H1 e P _ fun a H2 e2 P2 na ha => ⟨a, rfl, .inl ⟨_, .inl ha⟩, hw H2 (e.trans e2) P2 _ fun y H3 z e3 P3 a3 r => hc H3 ((e.trans e2).trans e3) P3 _ fun y2 H4 z2 e4 P4 a4 r4 => by
    subst r r4
    cases a3
    cases a4
    exact ⟨_, .inl ⟨_, Sum.inr x, .inl (e4 _ _ (fun _ => na) (e3 _ _ (fun _ => na) ha)), rfl, rfl⟩, by rw [hv]; exact q _ H4 _ ((e2.trans e3).trans e4) P4 (.int i) rfl⟩⟩
end
def partI : List (Str × Int) := [(Str.ofString "can", 5), (Str.ofString "least", 6), (Str.ofString "safe", 3), (Str.ofString "pairs", 4)]
theorem part_get (x : Str) : (valV (mergeK [] (kvsV partI)) (Sum.inr x)).getD (.int 0) = .int (parts x) := by
  have e : mergeK [] (kvsV partI) = kvsV partI := by decide +kernel
  rw [e]
  unfold parts valV kvsV partI
  simp only [List.map_cons, List.map_nil, List.find?_cons, List.find?_nil, Sum.inr.injEq]
  by_cases h1 : x = Str.ofString "can"
  · subst h1; rfl
  rw [decide_eq_false (fun h => h1 h.symm), if_neg h1]
  by_cases h2 : x = Str.ofString "least"
  · subst h2; rfl
  rw [decide_eq_false (fun h => h2 h.symm), if_neg h2]
  by_cases h3 : x = Str.ofString "safe"
  · subst h3; rfl
  rw [decide_eq_false (fun h => h3 h.symm), if_neg h3]
  by_cases h4 : x = Str.ofString "pairs"
  · subst h4; rfl
  rw [decide_eq_false (fun h => h4 h.symm), if_neg h4]
  rfl
theorem part_some {x : Str} (h : parts x ≠ 0) : valV (mergeK [] (kvsV partI)) (Sum.inr x) = some (.int (parts x)) := by
  have := part_get x
  cases e : valV (mergeK [] (kvsV partI)) (Sum.inr x) with
  | some v =>
    rw [e] at this
    exact congrArg some this
  | none =>
    rw [e] at this
    exact absurd (V.int.inj this).symm h
end Mv
namespace Mv
open PySem PySem.Spec PyProof.Rows L2 He
section
variable {P : Program} {w : World} {K : PySem.W.Frag} {mg : Str → Option Value} {base : Heap}
theorem ev_str0 {b : Bool} {p : Addr × Addr} {S : List Addr} {te : TE} {σ : L2.St} {H : Hp} {d : PyData} {x : Str} (h : Ev b p S te σ H fun z => z = d) (ht : isT d = true) (hx : nth d 0 = .str x) : Ev b p S (tOp (rIx K) te (tC (.int 0))) σ H fun z => z = .str x := by
  cases d with
  | tuple ds =>
    cases ds with
    | nil => cases hx
    | cons y r => exact ev_ixN (j := 0) h ev_int rfl (by rw [← hx]; rfl)
  | _ => cases ht
theorem ev_part {b : Bool} {p : Addr × Addr} {S : List Addr} {σ : L2.St} {H : Hp} : EvA b p S (tCons (tLst (tCons (tTup (tCons (tC (.str (Str.ofString "can"))) (tCons (tC (.int 5)) tNil))) (tCons (tTup (tCons (tC (.str (Str.ofString "least"))) (tCons (tC (.int 6)) tNil))) (tCons (tTup (tCons (tC (.str (Str.ofString "safe"))) (tCons (tC (.int 3)) tNil)))
    (tCons (tTup (tCons (tC (.str (Str.ofString "pairs"))) (tCons (tC (.int 4)) tNil))) tNil))))) tNil) σ H fun zs => zs = [.list (strI partI)] :=
  ea_one (ev_lstK (ea_more (ev_tupK (ea_two ev_str ev_int)) (ea_more (ev_tupK (ea_two ev_str ev_int)) (ea_more (ev_tupK (ea_two ev_str ev_int)) (ea_one (ev_tupK (ea_two ev_str ev_int)))))))
theorem ev_eqW {b : Bool} {p : Addr × Addr} {S : List Addr} {ta tb : TE} {σ : L2.St} {H : Hp} {x y : Str} (ha : Ev b p S ta σ H fun z => z = .str x) (hb : Ev b p S tb σ H fun z => z = .str y) (sx : PyData.strOk x = true) (sy : PyData.strOk y = true) : Ev b p S (tOp (rEqD K) ta tb) σ H fun z => z = .bool (decide (x = y)) :=
  ev_eq (ev_eqD ha hb (by unfold SeqAt.shaped; rw [PyData.canLay0, sx]; rfl) (by unfold SeqAt.shaped; rw [PyData.canLay0, sy]; rfl)) (by simp [PyData.eqv]; rfl)

/-! ### is_thing_claim -/
abbrev N_is_thing_claim : List Str := ["house", "claim", "word"]
theorem sc_is_thing_claim : FnScope N_is_thing_claim ["house", "claim"] (defScope (top 90)) := ⟨rfl, rfl, rfl, by decide +kernel, rfl, by decide +kernel, by decide +kernel⟩
def f_is_thing_claim : List PyData → PyData
  | [h, d] => .bool (isTail (hou h) (unStr (nth d 0)) d)
  | _ => .none
/-- a house, a row that begins with one of the four words -/
def PreT (ds : List PyData) : Prop := ∃ h d x, ds = [Hou.d h, d] ∧ h.Ok ∧ sm d = true ∧ nth d 0 = .str x ∧ isT d = true ∧ parts x ≠ 0 ∧ PyData.strOk x = true
theorem parts_nat {x : Str} (h : parts x ≠ 0) : ∃ n : Nat, parts x = (n : Int) ∧ 3 ≤ n ∧ (x ≠ Str.ofString "safe" → 4 ≤ n) ∧ (x ≠ Str.ofString "safe" → x ≠ Str.ofString "pairs" → 5 ≤ n) ∧ (x ≠ Str.ofString "safe" → x ≠ Str.ofString "pairs" → x ≠ Str.ofString "can" → 6 ≤ n) := by
  unfold parts at h ⊢
  by_cases h1 : x = Str.ofString "can"
  · rw [if_pos h1]; exact ⟨5, rfl, by decide, fun _ => by decide, fun _ _ => by decide, fun _ _ k => absurd h1 k⟩
  rw [if_neg h1] at h ⊢
  by_cases h2 : x = Str.ofString "least"
  · rw [if_pos h2]; exact ⟨6, rfl, by decide, fun _ => by decide, fun _ _ => by decide, fun _ _ _ => by decide⟩
  rw [if_neg h2] at h ⊢
  by_cases h3 : x = Str.ofString "safe"
  · rw [if_pos h3]; exact ⟨3, rfl, by decide, fun k => absurd h3 k, fun k => absurd h3 k, fun k => absurd h3 k⟩
  rw [if_neg h3] at h ⊢
  by_cases h4 : x = Str.ofString "pairs"
  · rw [if_pos h4]; exact ⟨4, rfl, by decide, fun _ => by decide, fun _ k => absurd h4 k, fun _ k => absurd h4 k⟩
  rw [if_neg h4] at h
  exact absurd rfl h
theorem D_is_thing_claim (T : Top K mg) : Dn P w K mg base "is_thing_claim" 7 ["house", "claim"] (spF false 2 f_is_thing_claim PreT) := by
  refine T.dn 12 rfl rfl sc_is_thing_claim (fun _ _ _ _ _ _ us h => match us, h with | [_, _], _ => rfl) rfl fun f cdv A outer s p S H ds vs Q hr a l Pn pr q => ?_
  refine ⟨_, pss_cons (ps_set (i := 2) sc_is_thing_claim.nd rfl (Or.inl rfl) (pe_ix ix_seq (pv 1) pe_int (fun _ _ => rfl)))
    (pss_cons (ps_if (pt_not (pt_val (pe_dn ((D_is_parts T).up (by decide)) hr (by rfl) (pa_cons (pv 1) (pa_cons (pe_dget (hu_1 hr) (pe_callTy (cr_dictP rfl) (by rfl) T.f_dict bb_dict (pa_cons (pe_lst (pa_cons (pe_tup (pa_cons pe_str (pa_cons pe_int pa_nil))) (pa_cons (pe_tup (pa_cons pe_str (pa_cons pe_int pa_nil))) (pa_cons (pe_tup (pa_cons pe_str (pa_cons pe_int pa_nil))) (pa_cons (pe_tup (pa_cons pe_str (pa_cons pe_int pa_nil))) pa_nil))))) pa_nil)) (pv 2) (fun _ _ => rfl)) pa_nil)))))
      (pss_one (ps_ret pe_bl))
      (pss_nil))
    (pss_cons (ps_if (pt_not (pt_val (pe_dn ((D_are_rules T).up (by decide)) hr (by rfl) (pa_cons (pv 0) (pa_cons (pe_ix ix_seq (pv 1) pe_int (fun _ _ => rfl)) pa_nil)))))
      (pss_one (ps_ret pe_bl))
      (pss_nil))
    (pss_cons (ps_if (pt_cmpR (op_eqD (hu_64 hr)) (pv 2) pe_str (nomark _))
      (pss_one (ps_ret (pe_dn ((D_is_leak T).up (by decide)) hr (by rfl) (pa_cons (pv 0) (pa_cons (pe_ix ix_seq (pv 1) pe_int (fun _ _ => rfl)) pa_nil)))))
      (pss_nil))
    (pss_cons (ps_if (pt_not (pt_val (pe_dn ((D_is_item T).up (by decide)) hr (by rfl) (pa_cons (pv 0) (pa_cons (pe_ix ix_seq (pv 1) pe_int (fun _ _ => rfl)) pa_nil)))))
      (pss_one (ps_ret pe_bl))
      (pss_nil))
    (pss_cons (ps_if (pt_cmpR (op_eqD (hu_64 hr)) (pv 2) pe_str (nomark _))
      (pss_one (ps_ret (pe_dn ((D_are_pairs T).up (by decide)) hr (by rfl) (pa_cons (pv 0) (pa_cons (pe_ix ix_seq (pv 1) pe_int (fun _ _ => rfl)) pa_nil)))))
      (pss_nil))
    (pss_cons (ps_if (PW.pt (pw_or (pt_not (pt_val (pe_dn ((D_is_content T).up (by decide)) hr (by rfl) (pa_cons (pv 0) (pa_cons (pe_ix ix_seq (pv 1) pe_int (fun _ _ => rfl)) pa_nil))))) (pw_or1 (pt_not (pt_val (pe_dn ((D_is_content T).up (by decide)) hr (by rfl) (pa_cons (pv 0) (pa_cons (pe_ix ix_seq (pv 1) pe_int (fun _ _ => rfl)) pa_nil))))))))
      (pss_one (ps_ret pe_bl))
      (pss_nil))
    (pss_one (ps_ret (pe_or (pe_cmpR (op_eqD (hu_64 hr)) (pv 2) pe_str (nomark _)) (pe_one (pe_dn ((D_is_number T).up (by decide)) hr (by rfl) (pa_cons (pe_ix ix_seq (pv 1) pe_int (fun _ _ => rfl)) (pa_cons (pe_op op_add (pe_cost T (by rfl) rfl) pe_int) pa_nil))))))))))))), ?_⟩
  obtain ⟨h, d, x, rfl, ok, sd, hx, ht, hp, hs⟩ := pr
  obtain ⟨v, u, rfl, a1, a2⟩ := a.two
  refine s_asgK (b := false) (ev_str0 (ev_var rfl a2) ht hx) Pn fun v0 H1 e1 P1 b0 => ?_
  cases b0
  have Hh : Ev false p S (tVar 0) [some v, some u, some (.str x)] H1 fun z => z = h.d := ev_var rfl (a1.mono e1 Pn.mem)
  have Hv : Ev false p S (tVar 1) [some v, some u, some (.str x)] H1 fun z => z = d := ev_var rfl (a2.mono e1 Pn.mem)
  have Hw : Ev false p S (tVar 2) [some v, some u, some (.str x)] H1 fun z => z = .str x := ev_var rfl (.str x)
  have fin : ∀ {v : V} {H' : Hp} {k : Bool}, Rl false p H1 H' → Pen p S H' → At S H' v (.bool k) → k = isTail h x d → Q v H' := fun e' P' a' e => q _ _ _ (e1.trans e') P' a' (by rw [f_is_thing_claim, hou_d, hx, e]; rfl)
  unfold isTail at fin
  refine s_ifK (b := false) (k := !isLen d (parts x)) (et_notK (et_k (ev_f (ea_two Hv (ev_dctget ev_part Hw (part_some hp))) rfl ⟨d, _, rfl⟩ rfl))) P1 (fun k H2 e2 P2 => ?_) (fun k H2 e2 P2 => ?_)
  · refine s_retK (b := false) ev_bl P2 fun v H3 e3 P3 a3 => fin (e2.trans e3) P3 a3 ?_
    rw [show isLen d (parts x) = false by simpa using k]
    rfl
  have kl : isLen d (parts x) = true := by simpa using k
  rw [kl] at fin
  obtain ⟨n, hn, n3, ns⟩ := parts_nat hp
  rw [hn] at kl
  refine s_ifK (b := false) (k := !areRules h (nth d 1)) (et_notK (et_k (ev_f (ea_two (Hh.mono e2) (ev_nth (i := 1) (Hv.mono e2) kl (by omega))) rfl ⟨h, _, rfl, ok, sm_nth sd _⟩ (by rw [f_are_rules, hou_d])))) P2 (fun k H3 e3 P3 => ?_) (fun k H3 e3 P3 => ?_)
  · refine s_retK (b := false) ev_bl P3 fun v H4 e4 P4 a4 => fin ((e2.trans e3).trans e4) P4 a4 ?_
    rw [show areRules h (nth d 1) = false by simpa using k]
    rfl
  rw [show areRules h (nth d 1) = true by simpa using k] at fin
  have e23 := e2.trans e3
  refine s_ifK (b := false) (et_c (ev_eqW (Hw.mono e23) ev_str hs (by decide +kernel))) P3 (fun k H4 e4 P4 => ?_) (fun k H4 e4 P4 => ?_)
  · have hsafe := of_decide_eq_true k
    rw [if_pos hsafe] at fin
    exact s_retK (b := false) (ev_f (z := .bool (isRule h (nth d 2))) (ea_two (Hh.mono (e23.trans e4)) (ev_nth (i := 2) (Hv.mono (e23.trans e4)) kl (by omega))) rfl ⟨h, _, rfl, ok, sm_nth sd _⟩ (by rw [f_is_leak, hou_d])) P4 fun v H5 e5 P5 a5 => fin ((e23.trans e4).trans e5) P5 a5 rfl
  have hsafe := of_decide_eq_false k
  rw [if_neg hsafe] at fin
  have e24 := e23.trans e4
  refine s_ifK (b := false) (k := !isNum (nth d 2) (h.ks.length + 1)) (et_notK (et_k (ev_f (ea_two (Hh.mono e24) (ev_nth (i := 2) (Hv.mono e24) kl (by omega))) rfl ⟨h, _, rfl, ok⟩ (by rw [f_is_item, hou_d])))) P4 (fun k H5 e5 P5 => ?_) (fun k H5 e5 P5 => ?_)
  · refine s_retK (b := false) ev_bl P5 fun v H6 e6 P6 a6 => fin ((e24.trans e5).trans e6) P6 a6 ?_
    rw [show isNum (nth d 2) (h.ks.length + 1) = false by simpa using k]
    rfl
  rw [show isNum (nth d 2) (h.ks.length + 1) = true by simpa using k] at fin
  have e25 := e24.trans e5
  have n4 : 4 ≤ n := ns.1 hsafe
  refine s_ifK (b := false) (et_c (ev_eqW (Hw.mono e25) ev_str hs (by decide +kernel))) P5 (fun k H6 e6 P6 => ?_) (fun k H6 e6 P6 => ?_)
  · have hpairs := of_decide_eq_true k
    rw [if_pos hpairs] at fin
    exact s_retK (b := false) (ev_f (z := .bool (arePairs h (nth d 3))) (ea_two (Hh.mono (e25.trans e6)) (ev_nth (i := 3) (Hv.mono (e25.trans e6)) kl (by omega))) rfl ⟨h, _, rfl, ok, sm_nth sd _⟩ (by rw [f_are_pairs, hou_d])) P6 fun v H7 e7 P7 a7 => fin ((e25.trans e6).trans e7) P7 a7 rfl
  have hpairs := of_decide_eq_false k
  rw [if_neg hpairs] at fin
  have e26 := e25.trans e6
  have n5 : 5 ≤ n := ns.2.1 hsafe hpairs
  refine s_ifK (b := false) (k := !isCont h.zs (nth d 3) || !isCont h.zs (nth d 4)) (et_orK (et_notK (et_k (ev_f (ea_two (Hh.mono e26) (ev_nth (i := 3) (Hv.mono e26) kl (by omega))) rfl ⟨h, _, rfl, ok⟩ (by rw [f_is_content, hou_d])))) fun _ => et_notK (et_k (ev_f (ea_two (Hh.mono e26) (ev_nth (i := 4) (Hv.mono e26) kl (by omega))) rfl ⟨h, _, rfl, ok⟩ (by rw [f_is_content, hou_d])))) P6 (fun k H7 e7 P7 => ?_) (fun k H7 e7 P7 => ?_)
  · refine s_retK (b := false) ev_bl P7 fun v H8 e8 P8 a8 => fin ((e26.trans e7).trans e8) P8 a8 ?_
    revert k
    cases isCont h.zs (nth d 3) <;> cases isCont h.zs (nth d 4) <;> simp
  have kk : isCont h.zs (nth d 3) = true ∧ isCont h.zs (nth d 4) = true := by
    revert k
    cases isCont h.zs (nth d 3) <;> cases isCont h.zs (nth d 4) <;> simp
  rw [kk.1, kk.2] at fin
  have e27 := e26.trans e7
  refine s_retK (b := false) (ev_orK (ev_eqW (Hw.mono e27) ev_str hs (by decide +kernel)) fun hc => ev_f (z := .bool (isNum (nth d 5) (10 ^ 70 + 1))) (ea_two (ev_nth (i := 5) (Hv.mono e27) kl ?_) (ev_I0 (z := .int (10 ^ 70 + 1)) ev_int ev_int fun H => .int _)) rfl ⟨_, _, rfl⟩ rfl) P7 fun v H8 e8 P8 a8 => fin (e27.trans e8) P8 a8 rfl
  have := ns.2.2 hsafe hpairs (of_decide_eq_false hc)
  omega

/-! ### is_claim -/
abbrev N_is_claim : List Str := ["house", "value"]
theorem sc_is_claim : FnScope N_is_claim ["house", "value"] (defScope (top 123)) := ⟨rfl, rfl, rfl, by decide +kernel, rfl, by decide +kernel, by decide +kernel⟩
def f_is_claim : List PyData → PyData
  | [h, d] => .bool (isClaim (hou h) d)
  | _ => .none
/-- the words that lead elsewhere do not come -/
def GoodW (d : PyData) : Prop := ∀ x, nth d 0 = .str x → PyData.strOk x = true ∧ x ≠ Str.ofString "comes" ∧ x ≠ Str.ofString "never" ∧ x ≠ Str.ofString "withdraw" ∧ x ≠ Str.ofString "lost"
def PreC (ds : List PyData) : Prop := ∃ h d, ds = [Hou.d h, d] ∧ h.Ok ∧ sm d = true ∧ GoodW d
theorem words4 (x : Str) : (([PyData.str (Str.ofString "can"), .str (Str.ofString "least"), .str (Str.ofString "safe"), .str (Str.ofString "pairs")] : List PyData).any fun z => PyData.eqv z (.str x)) = decide (parts x ≠ 0) := by
  unfold parts
  simp only [List.any_cons, List.any_nil, PyData.eqv]
  by_cases h1 : x = Str.ofString "can"
  · subst h1; rfl
  by_cases h2 : x = Str.ofString "least"
  · subst h2; rfl
  by_cases h3 : x = Str.ofString "safe"
  · subst h3; rfl
  by_cases h4 : x = Str.ofString "pairs"
  · subst h4; rfl
  rw [if_neg h1, if_neg h2, if_neg h3, if_neg h4, beq_false_of_ne (Ne.symm h1), beq_false_of_ne (Ne.symm h2), beq_false_of_ne (Ne.symm h3), beq_false_of_ne (Ne.symm h4)]
  rfl
theorem words2 {x a c : Str} (h1 : x ≠ a) (h2 : x ≠ c) : (([PyData.str a, .str c] : List PyData).any fun z => PyData.eqv z (.str x)) = false := by
  simp only [List.any_cons, List.any_nil, PyData.eqv]
  rw [beq_false_of_ne (Ne.symm h1), beq_false_of_ne (Ne.symm h2)]
  rfl
theorem D_is_claim (T : Top K mg) : Dn P w K mg base "is_claim" 8 ["house", "value"] (spF false 2 f_is_claim PreC) := by
  refine T.dn 13 rfl rfl sc_is_claim (fun _ _ _ _ _ _ us h => match us, h with | [_, _], _ => rfl) rfl fun f cdv A outer s p S H ds vs Q hr a l Pn pr q => ?_
  refine ⟨_, pss_cons (ps_if (PW.pt (pw_or (pt_not (pt_val (pe_isi (by rfl) T.f_isinstance (pv 1) (by rfl) T.f_tuple bb_tuple))) (pw_or (pt_cmpR (op_eqE (hu_lt hr)) (pv 1) (pe_tup pa_nil) (nomark _)) (pw_or1 (pt_not (pt_val (pe_isi (by rfl) T.f_isinstance (pe_ix ix_seq (pv 1) pe_int (fun _ _ => rfl)) (by rfl) T.f_str bb_str)))))))
      (pss_one (ps_ret pe_bl))
      (pss_nil))
    (pss_cons (ps_if (pt_cmpR (op_inS (hu_65 hr)) (pe_ix ix_seq (pv 1) pe_int (fun _ _ => rfl)) (pe_tup (pa_cons pe_str (pa_cons pe_str (pa_cons pe_str (pa_cons pe_str pa_nil))))) (by rfl))
      (pss_one (ps_ret (pe_dn ((D_is_thing_claim T).up (by decide)) hr (by rfl) (pa_cons (pv 0) (pa_cons (pv 1) pa_nil)))))
      (pss_nil))
    (pss_cons (ps_if (pt_cmpR (op_inS (hu_65 hr)) (pe_ix ix_seq (pv 1) pe_int (fun _ _ => rfl)) (pe_tup (pa_cons pe_str (pa_cons pe_str pa_nil))) (by rfl))
      (pss_one (ps_ret pe_nev))
      (pss_nil))
    (pss_one (ps_ret (pe_and (pe_cmpR (op_inS (hu_65 hr)) (pe_ix ix_seq (pv 1) pe_int (fun _ _ => rfl)) (pe_tup (pa_cons pe_str (pa_cons pe_str pa_nil))) (by rfl)) (pe_one pe_nev)))))), ?_⟩
  obtain ⟨h, d, rfl, ok, sd, gw⟩ := pr
  obtain ⟨v, u, rfl, a1, a2⟩ := a.two
  have Hh : Ev false p S (tVar 0) (start N_is_claim [v, u]) H fun z => z = h.d := ev_var rfl a1
  have Hv : Ev false p S (tVar 1) (start N_is_claim [v, u]) H fun z => z = d := ev_var rfl a2
  have fin : ∀ {v : V} {H' : Hp} {k : Bool}, Rl false p H H' → Pen p S H' → At S H' v (.bool k) → k = isClaim h d → Q v H' := fun e' P' a' e => q _ _ _ e' P' a' (by rw [f_is_claim, hou_d, e])
  have c1 : ∀ ds, d = .tuple ds → ds ≠ [] → (items d)[0]? = some (nth d 0) := fun ds e hne => by
    subst e
    exact nth_get (List.length_pos_iff.mpr hne)
  refine s_ifK (b := false) (k := !(isT d && isS (nth d 0))) ?_ Pn (fun k H1 e1 P1 => ?_) (fun k H1 e1 P1 => ?_)
  · cases d with
    | tuple ds =>
      refine EvT.imp (et_orK (et_notK (et_k (ev_isi Hv (kit_tuple _)))) fun _ => et_orK (l := !isS (nth (.tuple ds) 0)) (et_c (ev_eqE Hv (ev_tupK ea_nil))) fun hne => et_notK (et_k (ev_isi (ev_ixN (j := 0) Hv ev_int rfl (c1 ds rfl fun e => ?_)) (kit_str _)))) fun x e => e.trans ?_
      · subst e; cases hne
      · cases ds <;> rfl
    | _ => exact EvT.imp (et_orK (l := false) (et_notK (et_k (ev_isi Hv (kit_tuple _)))) fun e => by cases e) fun x e => e.trans rfl
  · refine s_retK (b := false) ev_bl P1 fun v H2 e2 P2 a2 => fin (e1.trans e2) P2 a2 ?_
    unfold isClaim
    revert k
    cases isT d && isS (nth d 0) <;> simp
  have kt : isT d = true ∧ isS (nth d 0) = true := by
    revert k
    cases isT d <;> cases isS (nth d 0) <;> simp
  obtain ⟨x, hx⟩ : ∃ x, nth d 0 = .str x := by
    revert kt
    cases nth d 0 with
    | str x => exact fun _ => ⟨x, rfl⟩
    | _ => exact fun k => by cases k.2
  obtain ⟨hs, g1, g2, g3, g4⟩ := gw x hx
  have fin2 : ∀ {v : V} {H' : Hp} {k : Bool}, Rl false p H H' → Pen p S H' → At S H' v (.bool k) → k = isTail h x d → Q v H' := fun e' P' a' e => fin e' P' a' (by
    unfold isClaim
    rw [kt.1, kt.2, hx, e]
    rfl)
  have Hx : Ev false p S (tOp (rIx K) (tVar 1) (tC (.int 0))) (start N_is_claim [v, u]) H fun z => z = .str x := ev_str0 Hv kt.1 hx
  have sh : SeqAt.shaped (.str x) = true := by
    unfold SeqAt.shaped
    rw [PyData.canLay0, hs]
    rfl
  refine s_ifK (b := false) (k := decide (parts x ≠ 0)) (EvT.imp (et_c (ev_inS (Hx.mono e1) (ev_tupK (ea_more ev_str (ea_more ev_str (ea_two ev_str ev_str)))) rfl sh (by decide +kernel))) fun y e => e.trans (words4 x)) P1 (fun k H2 e2 P2 => ?_) (fun k H2 e2 P2 => ?_)
  · exact s_retK (b := false) (ev_f (z := .bool (isTail h x d)) (ea_two (Hh.mono (e1.trans e2)) (Hv.mono (e1.trans e2))) rfl ⟨h, d, x, rfl, ok, sd, hx, kt.1, of_decide_eq_true k, hs⟩ (by rw [f_is_thing_claim, hou_d, hx]; rfl)) P2 fun v H3 e3 P3 a3 => fin2 ((e1.trans e2).trans e3) P3 a3 rfl
  have e12 := e1.trans e2
  have hp0 : parts x = 0 := Decidable.not_not.mp (of_decide_eq_false k)
  have it0 : isTail h x d = false := by
    unfold isTail
    rw [hp0]
    cases d with
    | tuple ds =>
      cases ds with
      | nil => cases hx
      | cons y r =>
        have : isLen (.tuple (y :: r)) 0 = false := by
          show decide (((y :: r).length : Int) = 0) = false
          exact decide_eq_false (by simp only [List.length_cons]; omega)
        rw [this]
        rfl
    | _ => rfl
  refine s_ifK (b := false) (k := false) (EvT.imp (et_c (ev_inS (Hx.mono e12) (ev_tupK (ea_two ev_str ev_str)) rfl sh (by decide +kernel))) fun y e => e.trans (words2 g1 g2)) P2 (fun k H3 e3 P3 => by cases k) (fun k H3 e3 P3 => ?_)
  dsimp only [tNext]
  refine s_retK (b := false) (d := .bool false) ?_ P3 fun v H4 e4 P4 a4 => fin2 ((e12.trans e3).trans e4) P4 a4 it0.symm
  refine ev_andK (k := false) (l := false) (Ev.imp (ev_inS (Hx.mono (e12.trans e3)) (ev_tupK (ea_two ev_str ev_str)) rfl sh (by decide +kernel)) fun z e => e.trans (congrArg PyData.bool (words2 g3 g4))) fun e => by cases e

end
end Mv
namespace Mv
open PySem PySem.Spec PyProof.Rows L2 He
section
variable {K : PySem.W.Frag} {b : Bool} {p : Addr × Addr} {S : List Addr} {σ : L2.St} {H H' : Hp} {ta tb tc te tl : TE} {D : Ends} {body : TS} {ds : List PyData}
/-- [1 for x in xs if t] == [] -/
theorem cmp_ones {f : PyData → Bool} {zs : List PyData} (c : Cmp (fun d k => k = f d) (fun _ z => z = .int 1) ds zs) : zs = (ds.filter f).map (fun _ => PyData.int 1) := c.fn (g := fun _ => .int 1)
theorem ones_eq (f : PyData → Bool) (ds : List PyData) : PyData.eqv (.list ((ds.filter f).map fun _ => PyData.int 1)) (.list []) = ds.all fun d => !f d := by
  induction ds with
  | nil => rfl
  | cons d ds ih =>
    cases h : f d with
    | true =>
      rw [List.filter_cons, if_pos h]
      simp [PyData.eqv, PyData.eqvAll, h]
    | false =>
      rw [List.filter_cons, if_neg (by rw [h]; exact Bool.false_ne_true), ih]
      simp [h]
theorem ev_none1 {f : PyData → Bool} (h : Ev b p S tl σ H fun z => ∃ zs, z = .list zs ∧ Cmp (fun d k => k = f d) (fun _ z => z = .int 1) ds zs) : Ev b p S (tOp (rEqD K) tl (tLst tNil)) σ H fun z => z = .bool (ds.all fun d => !f d) := by
  have h2 : Ev b p S tl σ H fun z => z = .list ((ds.filter f).map fun _ => PyData.int 1) := h.imp fun z ⟨zs, e, c⟩ => by rw [e, cmp_ones c]
  refine ev_eq (ev_eqD h2 (ev_lstK ea_nil) (Flat.shaped (n := 1) (Flat.lst fun d hd => ?_) (by decide)) rfl) (congrArg PyData.bool (ones_eq f ds))
  obtain ⟨_, _, rfl⟩ := List.mem_map.mp hd
  exact flat_int 0 1
theorem zip_num : ∀ {ds : List PyData} {zs : List Int}, ds.length = zs.length → ((zipD ds (zs.map PyData.int)).all fun z => !!isNum (nth z 0) (unInt (nth z 1))) = allNum ds zs
  | [], [], _ => rfl
  | d :: ds, z :: zs, h => by
    show (!!isNum d z && (zipD ds (zs.map PyData.int)).all fun z => !!isNum (nth z 0) (unInt (nth z 1))) = _
    rw [zip_num (by simpa using h), Bool.not_not]
    rfl
  | [], _ :: _, h => by cases h
  | _ :: _, [], h => by cases h
theorem zip_all2 : ∀ (ds es : List PyData), ((zipD ds es).all fun z => !!W.dataLt (nth z 0) (nth z 1)) = zipLt ds es
  | [], _ => by cases ‹List PyData› <;> rfl
  | _ :: _, [] => rfl
  | d :: ds, e :: es => by
    show (!!W.dataLt d e && (zipD ds es).all fun z => !!W.dataLt (nth z 0) (nth z 1)) = _
    rw [zip_all2 ds es, Bool.not_not]
    rfl
end
section
variable {P : Program} {w : World} {K : PySem.W.Frag} {mg : Str → Option Value} {base : Heap}

/-! ### _law_is_whole -/
abbrev N__law_is_whole : List Str := ["_law_item_here", "_law_below"]
theorem sc__law_is_whole : FnScope N__law_is_whole ["_law_item_here", "_law_below"] (defScope (top 197)) := ⟨rfl, rfl, rfl, by decide +kernel, rfl, by decide +kernel, by decide +kernel⟩
theorem D__law_is_whole (T : Top K mg) : Dn P w K mg base "_law_is_whole" 1 ["_law_item_here", "_law_below"] (spF false 2 f_is_number fun ds => ∃ d n, ds = [d, .int n]) := by
  refine T.dn 45 rfl rfl sc__law_is_whole (fun _ _ _ _ _ _ us h => match us, h with | [_, _], _ => rfl) rfl fun f cdv A outer s p S H ds vs Q hr a l Pn pr q => ?_
  refine ⟨_, pss_one (ps_ret (pe_and (pe_isi (by rfl) T.f_isinstance (pv 0) (by rfl) T.f_int bb_int) (pe_and (pe_not (pe_isi (by rfl) T.f_isinstance (pv 0) (by rfl) T.f_bool bb_bool)) (pe_one (pe_chain op_le op_lt pe_int (pv 0) (pv 1)))))), ?_⟩
  obtain ⟨d, n, rfl⟩ := pr
  obtain ⟨v, u, rfl, a1, a2⟩ := a.two
  cases a2
  refine s_retK (b := false) (d := .bool (isNum d n)) ?_ Pn fun v H2 e2 P2 a2 => q v H2 _ e2 P2 a2 rfl
  have Hv : Ev false p S (tVar 0) (start N__law_is_whole [v, .int n]) H fun z => z = d := ev_var rfl a1
  cases d with
  | int i =>
    cases a1
    exact ev_eq (ev_andK (ev_isi Hv (kit_int _)) fun _ => ev_andK (ev_notK (ev_isi Hv (kit_bool _))) fun _ => ev_chain ev_int (ev_var rfl (.int i)) (ev_var rfl (.int n))) rfl
  | bool c => exact ev_eq (ev_andK (l := false) (ev_isi Hv (kit_int _)) fun _ => ev_eq (ev_andK (l := false) (ev_notK (ev_isi Hv (kit_bool _))) fun e => by cases e) rfl) rfl
  | _ => exact ev_eq (ev_andK (l := false) (ev_isi Hv (kit_int _)) fun e => by cases e) rfl

/-! ### _law_is_content -/
abbrev N__law_is_content : List Str := ["_law_house", "_law_item_here", "_law_value", "_law_size"]
theorem sc__law_is_content : FnScope N__law_is_content ["_law_house", "_law_item_here"] (defScope (top 198)) := ⟨rfl, rfl, rfl, by decide +kernel, rfl, by decide +kernel, by decide +kernel⟩
theorem D__law_is_content (T : Top K mg) : Dn P w K mg base "_law_is_content" 2 ["_law_house", "_law_item_here"] (spF false 2 f_is_content PreH) := by
  refine T.dn 46 rfl rfl sc__law_is_content (fun _ _ _ _ _ _ us h => match us, h with | [_, _], _ => rfl) rfl fun f cdv A outer s p S H ds vs Q hr a l Pn pr q => ?_
  refine ⟨_, pss_cons (ps_if (PW.pt (pw_or (pt_not (pt_val (pe_isi (by rfl) T.f_isinstance (pv 1) (by rfl) T.f_tuple bb_tuple))) (pw_or1 (pt_cmpR (op_neD (hu_64 hr)) (pe_len (by rfl) T.f_len (pv 1)) (pe_len (by rfl) T.f_len (pe_ix ix_seq (pv 0) pe_int (fun _ _ => rfl))) (nomark _)))))
      (pss_one (ps_ret pe_bl))
      (pss_nil))
    (pss_one (ps_ret (pe_cmpR (op_eqD (hu_64 hr)) (pe_lc (own := [("_law_value", 2), ("_law_size", 3)]) rfl sc__law_is_content.nd (pi_zs (by rfl) T.f_zip (pa_cons (pv 1) (pa_cons (pe_ix ix_seq (pv 0) pe_int (fun _ _ => rfl)) pa_nil)) (pk_cons pe_bl pk_nil)) (blkOk_by (N := N__law_is_content) (sc := defScope (top 198)) (by decide +kernel)) (fun _ _ _ _ _ => (pg_tupk (K := K) (n := 2) rfl rfl (pgs_cons (pg_name (i := 2) sc__law_is_content.nd rfl (Or.inl rfl)) (pgs_cons (pg_name (i := 3) sc__law_is_content.nd rfl (Or.inl rfl)) pgs_nil)))) (fun _ _ _ _ _ => pts_one (pt_not (pt_val (pe_dn ((D__law_is_whole T).up (by decide)) hr (by rfl) (pa_cons (pv 2) (pa_cons (pv 3) pa_nil)))))) (fun _ _ _ _ _ => pe_int)) (pe_lst pa_nil) (nomark _)))), ?_⟩
  obtain ⟨h, d, rfl, ok⟩ := pr
  obtain ⟨v, u, rfl, a1, a2⟩ := a.two
  have Hh : Ev false p S (tVar 0) (start N__law_is_content [v, u]) H fun z => z = h.d := ev_var rfl a1
  have Hv : Ev false p S (tVar 1) (start N__law_is_content [v, u]) H fun z => z = d := ev_var rfl a2
  have Hz : Ev false p S (tOp (rIx K) (tVar 0) (tC (.int 0))) (start N__law_is_content [v, u]) H fun z => z = .tuple (h.zs.map PyData.int) := ev_ixN (j := 0) Hh ev_int rfl rfl
  have fin : ∀ {v : V} {H' : Hp} {k : Bool}, Rl false p H H' → Pen p S H' → At S H' v (.bool k) → k = isCont h.zs d → Q v H' := fun e' P' a' e => q _ _ _ e' P' a' (by rw [f_is_content, hou_d, e])
  refine s_ifK (b := false) (k := !isLen d h.zs.length) ?_ Pn (fun k H1 e P1 => ?_) (fun k H1 e P1 => ?_)
  · cases d with
    | tuple ds =>
      refine EvT.imp (et_orK (et_notK (et_k (ev_isi Hv (kit_tuple _)))) fun _ => et_c (ev_neD (ev_len Hv rfl) (ev_len Hz rfl) rfl rfl)) fun x e => e.trans ?_
      simp [isT, isLen, PyData.eqv, items]
      rfl
    | _ => exact EvT.imp (et_orK (l := false) (et_notK (et_k (ev_isi Hv (kit_tuple _)))) fun e => by cases e) fun x e => e.trans rfl
  · refine s_retK (b := false) ev_bl P1 fun v H2 e2 P2 a2 => fin (e.trans e2) P2 a2 ?_
    cases d with
    | tuple ds =>
      have k' : isLen (.tuple ds) h.zs.length = false := by simpa using k
      show false = allNum ds h.zs
      cases hn : allNum ds h.zs with
      | false => rfl
      | true =>
        have := isLen_iff.mpr ⟨ds, rfl, allNum_len hn⟩
        rw [k'] at this
        cases this
    | _ => rfl
  · have k' : isLen d h.zs.length = true := by simpa using k
    obtain ⟨ds, rfl, hl⟩ := isLen_iff.mp k'
    have hz := ok.zs
    refine s_retK (b := false) (ev_none1 (f := fun z => !isNum (nth z 0) (unInt (nth z 1))) (ev_lcZ (ea_two (Hv.mono e) (Hz.mono e)) (fun H1 Q q => q) (by rw [List.length_map]; exact hl) (by omega) (fun _ _ => rfl)
      (fun A H0 e P hA i d d' v v' H' hd hd' e2 P2 b1 b2 => ?_) (fun A H0 e P hA i d d' v v' H' hd hd' e2 P2 b1 b2 _ => ev_int))) P1 fun v H2 e2 P2 a2 => fin (e.trans e2) P2 a2 (zip_num hl)
    rw [List.getElem?_map] at hd'
    cases hzi : h.zs[i]? with
    | none => rw [hzi] at hd'; cases hd'
    | some n =>
      rw [hzi] at hd'
      cases hd'
      exact et_notK (et_k (ev_f (z := .bool (isNum d n)) (ea_two (ev_var rfl b1) (ev_var rfl b2)) rfl ⟨d, n, rfl⟩ rfl))

/-! ### _law_rises -/
abbrev N__law_rises : List Str := ["_law_rows", "_law_one", "_law_two"]
theorem sc__law_rises : FnScope N__law_rises ["_law_rows"] (defScope (top 199)) := ⟨rfl, rfl, rfl, by decide +kernel, rfl, by decide +kernel, by decide +kernel⟩
theorem D__law_rises (T : Top K mg) : Dn P w K mg base "_law_rises" 1 ["_law_rows"] (spF false 1 f_is_rising PreR) := by
  refine T.dn 47 rfl rfl sc__law_rises (fun _ _ _ _ _ _ us h => match us, h with | [_], _ => rfl) rfl fun f cdv A outer s p S H ds vs Q hr a l Pn pr q => ?_
  refine ⟨_, pss_one (ps_ret (pe_cmpR (op_eqD (hu_64 hr)) (pe_lc (own := [("_law_one", 1), ("_law_two", 2)]) rfl sc__law_rises.nd (pi_zs (by rfl) T.f_zip (pa_cons (pe_slice sl_tupA (pv 0) po_none (po_some (pe_un un_neg pe_int))) (pa_cons (pe_slice sl_tupA (pv 0) (po_some pe_int) po_none) pa_nil)) (pk_cons pe_bl pk_nil)) (blkOk_by (N := N__law_rises) (sc := defScope (top 199)) (by decide +kernel)) (fun _ _ _ _ _ => (pg_tupk (K := K) (n := 2) rfl rfl (pgs_cons (pg_name (i := 1) sc__law_rises.nd rfl (Or.inl rfl)) (pgs_cons (pg_name (i := 2) sc__law_rises.nd rfl (Or.inl rfl)) pgs_nil)))) (fun _ _ _ _ _ => pts_one (pt_not (pt_cmpR (op_ltDk (K := K) rfl (hu_64 hr)) (pv 1) (pv 2) (nomark _)))) (fun _ _ _ _ _ => pe_int)) (pe_lst pa_nil) (nomark _))), ?_⟩
  obtain ⟨es, rfl, al, ok, hl⟩ := pr
  obtain ⟨v, rfl, a1⟩ := a.one
  have Hv : Ev false p S (tVar 0) (start N__law_rises [v]) H fun z => z = .tuple es := ev_var rfl a1
  have c1 := ev_slT (K := K) Hv eo_none (eo_some (i := -1) (ev_neg ev_int))
  have c2 := ev_slT (K := K) Hv (eo_some (i := 1) ev_int) eo_none
  rw [cut_init] at c1
  rw [cut_tail] at c2
  refine s_retK (b := false) (ev_none1 (f := fun z => !W.dataLt (nth z 0) (nth z 1)) (ev_lcZ (ea_two c1 c2) (fun H1 Q q => q) (by rw [List.length_take, List.length_drop]; omega) (by rw [List.length_take]; omega) (fun _ _ => rfl)
    (fun A H0 e P hA i d d' v v' H' hd hd' e2 P2 b1 b2 => ?_) (fun A H0 e P hA i d d' v v' H' hd hd' e2 P2 b1 b2 _ => ev_int))) Pn fun v H2 e2 P2 a2 => q v H2 _ e2 P2 a2 ?_
  · have m1 : d ∈ es := List.mem_of_mem_take (List.mem_of_getElem? hd)
    have m2 : d' ∈ es := List.mem_of_mem_drop (List.mem_of_getElem? hd')
    exact et_notK (et_c (ev_ltD (ev_var rfl b1) (ev_var rfl b2) (al d m1 d' m2) (ok d m1).1 (ok d m1).2 (ok d' m2).2))
  · rw [zip_all2, ← rises_zip]
    rfl

/-! ### _law_are_contents -/
abbrev N__law_are_contents : List Str := ["_law_house", "_law_item_here", "_law_part"]
theorem sc__law_are_contents : FnScope N__law_are_contents ["_law_house", "_law_item_here"] (defScope (top 200)) := ⟨rfl, rfl, rfl, by decide +kernel, rfl, by decide +kernel, by decide +kernel⟩
theorem D__law_are_contents (T : Top K mg) : Dn P w K mg base "_law_are_contents" 3 ["_law_house", "_law_item_here"] (spF false 2 f_are_contents PreS) := by
  refine T.dn 48 rfl rfl sc__law_are_contents (fun _ _ _ _ _ _ us h => match us, h with | [_, _], _ => rfl) rfl fun f cdv A outer s p S H ds vs Q hr a l Pn pr q => ?_
  refine ⟨_, pss_cons (ps_if (PW.pt (pw_or (pt_not (pt_val (pe_isi (by rfl) T.f_isinstance (pv 1) (by rfl) T.f_tuple bb_tuple))) (pw_or1 (pt_cmpR (op_eqE (hu_lt hr)) (pv 1) (pe_tup pa_nil) (nomark _)))))
      (pss_one (ps_ret pe_bl))
      (pss_nil))
    (pss_one (ps_ret (pe_and (pe_cmpR (op_eqD (hu_64 hr)) (pe_lc (own := [("_law_part", 2)]) rfl sc__law_are_contents.nd (pi_tup (pv 1)) (blkOk_by (N := N__law_are_contents) (sc := defScope (top 200)) (by decide +kernel)) (fun _ _ _ _ _ => (pg_name (i := 2) sc__law_are_contents.nd rfl (Or.inl rfl))) (fun _ _ _ _ _ => pts_one (pt_not (pt_val (pe_dn ((D__law_is_content T).up (by decide)) hr (by rfl) (pa_cons (pv 0) (pa_cons (pv 2) pa_nil)))))) (fun _ _ _ _ _ => pe_int)) (pe_lst pa_nil) (nomark _)) (pe_one (pe_dn ((D__law_rises T).up (by decide)) hr (by rfl) (pa_cons (pv 1) pa_nil)))))), ?_⟩
  obtain ⟨h, d, rfl, ok, sd⟩ := pr
  obtain ⟨v, u, rfl, a1, a2⟩ := a.two
  have Hh : Ev false p S (tVar 0) (start N__law_are_contents [v, u]) H fun z => z = h.d := ev_var rfl a1
  have Hv : Ev false p S (tVar 1) (start N__law_are_contents [v, u]) H fun z => z = d := ev_var rfl a2
  have fin : ∀ {v : V} {H' : Hp} {k : Bool}, Rl false p H H' → Pen p S H' → At S H' v (.bool k) → k = areConts h.zs d → Q v H' := fun e' P' a' e => q _ _ _ e' P' a' (by rw [f_are_contents, hou_d, e])
  cases d with
  | tuple ds =>
    refine s_ifK (b := false) (et_orK (et_notK (et_k (ev_isi Hv (kit_tuple _)))) fun _ => et_c (ev_eqE Hv (ev_tupK ea_nil))) Pn (fun k H1 e P1 => ?_) (fun k H1 e P1 => ?_)
    · refine s_retK (b := false) ev_bl P1 fun v H2 e2 P2 a2 => fin (e.trans e2) P2 a2 ?_
      cases ds with
      | nil => rfl
      | cons _ _ => cases k
    · have sm := (sm_tup sd).1
      refine s_retK (b := false) (ev_andK (ev_none1 (f := fun z => !isCont h.zs z) (ev_lcT (Hv.mono e) (by omega) (fun _ => rfl) (fun A H0 e0 P0 hA i d v H' hd e1 P2 b1 => ?_) fun A H0 e0 P0 hA i d v H' hd e1 P2 b1 _ => ev_int)) fun ka => ev_f (ea_one (Hv.mono e)) rfl ⟨ds, rfl, ?_, ?_, sm⟩ rfl) P1 fun v H2 e2 P2 a2 => fin (e.trans e2) P2 a2 ?_
      · have w1 : At (A :: S) H' _ h.d := At.through a1 (e.trans e0) P0 hA e1
        exact et_notK (et_k (ev_f (ea_two (ev_var rfl w1) (ev_var rfl b1)) rfl ⟨h, d, rfl, ok⟩ (by rw [f_is_content, hou_d])))
      · cases ds with
        | nil => cases k
        | cons y r =>
          show _ = (!false && ((y :: r).all (isCont h.zs) && rises (y :: r)))
          simp
      · have ka' : ∀ d ∈ ds, isCont h.zs d = true := fun d hd => by simpa using List.all_eq_true.mp ka d hd
        exact fun d hd d' hd' => isCont_alike (ka' d hd) (ka' d' hd')
      · intro d hd
        have kd : isCont h.zs d = true := by simpa using List.all_eq_true.mp ka d hd
        refine ⟨fun e => ?_, (isCont_flat kd).shaped (by decide)⟩
        subst e
        cases kd
  | _ =>
    refine s_ifK (b := false) (k := true) (EvT.imp (et_orK (l := false) (et_notK (et_k (ev_isi Hv (kit_tuple _)))) fun e => by cases e) fun x e => e.trans rfl) Pn (fun k H1 e P1 => ?_) (fun k H1 e P1 => by cases k)
    exact s_retK (b := false) ev_bl P1 fun v H2 e2 P2 a2 => fin (e.trans e2) P2 a2 rfl

/-! ### _law_are_rules -/
abbrev N__law_are_rules : List Str := ["_law_house", "_law_item_here", "_law_rule"]
theorem sc__law_are_rules : FnScope N__law_are_rules ["_law_house", "_law_item_here"] (defScope (top 201)) := ⟨rfl, rfl, rfl, by decide +kernel, rfl, by decide +kernel, by decide +kernel⟩
theorem D__law_are_rules (T : Top K mg) : Dn P w K mg base "_law_are_rules" 4 ["_law_house", "_law_item_here"] (spF false 2 f_are_rules PreS) := by
  refine T.dn 49 rfl rfl sc__law_are_rules (fun _ _ _ _ _ _ us h => match us, h with | [_, _], _ => rfl) rfl fun f cdv A outer s p S H ds vs Q hr a l Pn pr q => ?_
  refine ⟨_, pss_cons (ps_if (PW.pt (pw_or (pt_not (pt_val (pe_isi (by rfl) T.f_isinstance (pv 1) (by rfl) T.f_tuple bb_tuple))) (pw_or1 (pt_cmpR op_gt (pe_len (by rfl) T.f_len (pv 1)) pe_int (nomark _)))))
      (pss_one (ps_ret pe_bl))
      (pss_nil))
    (pss_cons (ps_for PassesOwn.never rfl (pi_tup (pv 1)) (pg_name (i := 2) sc__law_are_rules.nd rfl (Or.inl rfl))
      (pss_cons (ps_if (PW.pt (pw_or (pt_not (pt_val (pe_isi (by rfl) T.f_isinstance (pv 2) (by rfl) T.f_tuple bb_tuple))) (pw_or (pt_cmpR (op_neD (hu_64 hr)) (pe_len (by rfl) T.f_len (pv 2)) pe_int (nomark _)) (pw_or1 (pt_not (pt_val (pe_dn ((D__law_is_whole T).up (by decide)) hr (by rfl) (pa_cons (pe_ix ix_seq (pv 2) pe_int (fun _ _ => rfl)) (pa_cons (pe_op op_add (pe_len (by rfl) T.f_len (pe_ix ix_seq (pv 0) pe_int (fun _ _ => rfl))) pe_int) pa_nil)))))))))
        (pss_one (ps_ret pe_bl))
        (pss_nil))
      (pss_one (ps_if (PW.pt (pw_or (pt_not (pt_val (pe_dn ((D__law_are_contents T).up (by decide)) hr (by rfl) (pa_cons (pv 0) (pa_cons (pe_ix ix_seq (pv 2) pe_int (fun _ _ => rfl)) pa_nil))))) (pw_or1 (pt_not (pt_val (pe_dn ((D__law_are_contents T).up (by decide)) hr (by rfl) (pa_cons (pv 0) (pa_cons (pe_ix ix_seq (pv 2) pe_int (fun _ _ => rfl)) pa_nil))))))))
        (pss_one (ps_ret pe_bl))
        (pss_nil)))))
    (pss_one (ps_ret pe_bl))), ?_⟩
  obtain ⟨h, d, rfl, ok, sd⟩ := pr
  obtain ⟨v, u, rfl, a1, a2⟩ := a.two
  have Hh : Ev false p S (tVar 0) (start N__law_are_rules [v, u]) H fun z => z = h.d := ev_var rfl a1
  have Hv : Ev false p S (tVar 1) (start N__law_are_rules [v, u]) H fun z => z = d := ev_var rfl a2
  have fin : ∀ {v : V} {H' : Hp} {k : Bool}, Rl false p H H' → Pen p S H' → At S H' v (.bool k) → k = areRules h d → Q v H' := fun e' P' a' e => q _ _ _ e' P' a' (by rw [f_are_rules, hou_d, e])
  cases d with
  | tuple ds =>
    refine s_ifK (b := false) (et_orK (et_notK (et_k (ev_isi Hv (kit_tuple _)))) fun ht => et_c (ev_I0 (z := .bool (decide ((ds.length : Int) > 6))) (ev_len Hv rfl) ev_int fun H => .bl _)) Pn (fun k H1 e P1 => ?_) (fun k H1 e P1 => ?_)
    · refine s_retK (b := false) ev_bl P1 fun v H2 e2 P2 a2 => fin (e.trans e2) P2 a2 ?_
      have k' : (ds.length : Int) > 6 := of_decide_eq_true (by simpa [isT] using k)
      show _ = (decide (ds.length ≤ 6) && _)
      rw [decide_eq_false (by omega)]
      rfl
    · have k' : ¬ (ds.length : Int) > 6 := of_decide_eq_false (by simpa [isT] using k)
      have hl : decide (ds.length ≤ 6) = true := decide_eq_true (by omega)
      refine s_forAll (b := false) (f := isRule h) (Hv.mono e) P1 (fun σ => ∃ x, σ = [some v, some u, x]) ⟨_, rfl⟩ (fun H0 e0 P0 d v' σ' H' I' hd hJ e1 P2 b1 step => ?_) fun σ' H' hJ ha e2 P2 => ?_
      · obtain ⟨x, rfl⟩ := hJ
        have w1 : At S H' v h.d := a1.mono ((e.trans e0).trans e1) Pn.mem
        have Hh' : Ev false p S (tVar 0) [some v, some u, some v'] H' fun z => z = h.d := ev_var rfl w1
        have Hr : Ev false p S (tVar 2) [some v, some u, some v'] H' fun z => z = d := ev_var rfl b1
        have hf : isRule h d = false → false = areRules h (.tuple ds) := fun hf => by
          show _ = (decide (ds.length ≤ 6) && ds.all (isRule h))
          rw [hl, Bool.true_and]
          exact (List.all_eq_false.mpr ⟨d, hd, by rw [hf]; exact Bool.false_ne_true⟩).symm
        have e0' := (e.trans e0).trans e1
        have sd1 := (sm_tup sd).2 d hd
        refine s_ifK (b := false) (k := (!isLen d 3 || !isNum (nth d 0) (h.ks.length + 1))) (et_lenK (n := 3) Hr fun hl => et_notK (et_k (ev_f (z := .bool (isNum (nth d 0) (h.ks.length + 1))) (ea_two (ev_nth (n := 3) (i := 0) Hr hl (by decide)) (ev_I0 (z := .int (h.ks.length + 1)) (ev_len (ev_ixN (j := 2) (z := .tuple h.ks) Hh' ev_int rfl rfl) rfl) ev_int fun H => .int _)) rfl ⟨_, _, rfl⟩ rfl))) P2 (fun k H2 e2 P3 => ?_) (fun k H2 e2 P3 => ?_)
        · refine s_retK (b := false) ev_bl P3 fun v H3 e3 P4 a4 => fin ((e0'.trans e2).trans e3) P4 a4 (hf ?_)
          unfold isRule
          revert k
          cases isLen d 3 <;> cases isNum (nth d 0) (h.ks.length + 1) <;> simp
        have k2 : isLen d 3 = true ∧ isNum (nth d 0) (h.ks.length + 1) = true := by simpa using k
        refine s_ifK (b := false) (k := (!areConts h.zs (nth d 1) || !areConts h.zs (nth d 2))) (et_orK (et_notK (et_k (ev_f (ea_two (Hh'.mono e2) (ev_nth (n := 3) (i := 1) (Hr.mono e2) k2.1 (by decide))) rfl ⟨h, _, rfl, ok, sm_nth sd1 _⟩ (by rw [f_are_contents, hou_d])))) fun _ => et_notK (et_k (ev_f (ea_two (Hh'.mono e2) (ev_nth (n := 3) (i := 2) (Hr.mono e2) k2.1 (by decide))) rfl ⟨h, _, rfl, ok, sm_nth sd1 _⟩ (by rw [f_are_contents, hou_d])))) P3 (fun k H3 e3 P4 => ?_) (fun k H3 e3 P4 => ?_)
        · refine s_retK (b := false) ev_bl P4 fun v H4 e4 P5 a5 => fin (((e0'.trans e2).trans e3).trans e4) P5 a5 (hf ?_)
          unfold isRule
          revert k
          cases areConts h.zs (nth d 1) <;> cases areConts h.zs (nth d 2) <;> simp
        · refine ⟨step _ ⟨_, rfl⟩ ?_, (e1.trans e2).trans e3, P4⟩
          unfold isRule
          rw [k2.1, k2.2]
          revert k
          cases areConts h.zs (nth d 1) <;> cases areConts h.zs (nth d 2) <;> simp
      · dsimp only
        refine s_retK (b := false) ev_bl P2 fun v H3 e3 P4 a4 => fin ((e.trans e2).trans e3) P4 a4 ?_
        show _ = (decide (ds.length ≤ 6) && ds.all (isRule h))
        rw [hl, ha]
        rfl
  | _ =>
    refine s_ifK (b := false) (k := true) (EvT.imp (et_orK (l := false) (et_notK (et_k (ev_isi Hv (kit_tuple _)))) fun e => by cases e) fun x e => e.trans rfl) Pn (fun k H1 e P1 => ?_) (fun k H1 e P1 => by cases k)
    exact s_retK (b := false) ev_bl P1 fun v H2 e2 P2 a2 => fin (e.trans e2) P2 a2 rfl

/-! ### _law_are_pairs -/
abbrev N__law_are_pairs : List Str := ["_law_house", "_law_item_here", "_law_pair"]
theorem sc__law_are_pairs : FnScope N__law_are_pairs ["_law_house", "_law_item_here"] (defScope (top 202)) := ⟨rfl, rfl, rfl, by decide +kernel, rfl, by decide +kernel, by decide +kernel⟩
theorem D__law_are_pairs (T : Top K mg) : Dn P w K mg base "_law_are_pairs" 3 ["_law_house", "_law_item_here"] (spF false 2 f_are_pairs PreS) := by
  refine T.dn 50 rfl rfl sc__law_are_pairs (fun _ _ _ _ _ _ us h => match us, h with | [_, _], _ => rfl) rfl fun f cdv A outer s p S H ds vs Q hr a l Pn pr q => ?_
  refine ⟨_, pss_cons (ps_if (pt_not (pt_val (pe_isi (by rfl) T.f_isinstance (pv 1) (by rfl) T.f_tuple bb_tuple)))
      (pss_one (ps_ret pe_bl))
      (pss_nil))
    (pss_cons (ps_for PassesOwn.never rfl (pi_tup (pv 1)) (pg_name (i := 2) sc__law_are_pairs.nd rfl (Or.inl rfl))
      (pss_cons (ps_if (PW.pt (pw_or (pt_not (pt_val (pe_isi (by rfl) T.f_isinstance (pv 2) (by rfl) T.f_tuple bb_tuple))) (pw_or1 (pt_cmpR (op_neD (hu_64 hr)) (pe_len (by rfl) T.f_len (pv 2)) pe_int (nomark _)))))
        (pss_one (ps_ret pe_bl))
        (pss_nil))
      (pss_one (ps_if (PW.pt (pw_or (pt_not (pt_val (pe_dn ((D__law_is_content T).up (by decide)) hr (by rfl) (pa_cons (pv 0) (pa_cons (pe_ix ix_seq (pv 2) pe_int (fun _ _ => rfl)) pa_nil))))) (pw_or1 (pt_not (pt_val (pe_dn ((D__law_is_content T).up (by decide)) hr (by rfl) (pa_cons (pv 0) (pa_cons (pe_ix ix_seq (pv 2) pe_int (fun _ _ => rfl)) pa_nil))))))))
        (pss_one (ps_ret pe_bl))
        (pss_nil)))))
    (pss_one (ps_ret (pe_dn ((D__law_rises T).up (by decide)) hr (by rfl) (pa_cons (pv 1) pa_nil))))), ?_⟩
  obtain ⟨h, d, rfl, ok, sd⟩ := pr
  obtain ⟨v, u, rfl, a1, a2⟩ := a.two
  have Hh : Ev false p S (tVar 0) (start N__law_are_pairs [v, u]) H fun z => z = h.d := ev_var rfl a1
  have Hv : Ev false p S (tVar 1) (start N__law_are_pairs [v, u]) H fun z => z = d := ev_var rfl a2
  have fin : ∀ {v : V} {H' : Hp} {k : Bool}, Rl false p H H' → Pen p S H' → At S H' v (.bool k) → k = arePairs h d → Q v H' := fun e' P' a' e => q _ _ _ e' P' a' (by rw [f_are_pairs, hou_d, e])
  refine s_ifK (b := false) (et_notK (et_k (ev_isi Hv (kit_tuple d)))) Pn (fun k H1 e P1 => ?_) (fun k H1 e P1 => ?_)
  · refine s_retK (b := false) ev_bl P1 fun v H2 e2 P2 a2 => fin (e.trans e2) P2 a2 ?_
    cases d with
    | tuple ds => cases k
    | _ => rfl
  cases d with
  | tuple ds =>
    refine s_forAll (b := false) (f := isPair h) (Hv.mono e) P1 (fun σ => ∃ x, σ = [some v, some u, x]) ⟨_, rfl⟩ (fun H0 e0 P0 d v' σ' H' I' hd hJ e1 P2 b1 step => ?_) fun σ' H' hJ ha e2 P2 => ?_
    · obtain ⟨x, rfl⟩ := hJ
      have w1 : At S H' v h.d := a1.mono ((e.trans e0).trans e1) Pn.mem
      have Hh' : Ev false p S (tVar 0) [some v, some u, some v'] H' fun z => z = h.d := ev_var rfl w1
      have Hr : Ev false p S (tVar 2) [some v, some u, some v'] H' fun z => z = d := ev_var rfl b1
      have hf : isPair h d = false → false = arePairs h (.tuple ds) := fun hf => by
        show _ = (ds.all (isPair h) && rises ds)
        rw [List.all_eq_false.mpr ⟨d, hd, by rw [hf]; exact Bool.false_ne_true⟩]
        rfl
      have e0' := (e.trans e0).trans e1
      refine s_ifK (b := false) (k := !isLen d 2) (et_lenK2 (n := 2) Hr) P2 (fun k H2 e2 P3 => ?_) (fun k H2 e2 P3 => ?_)
      · refine s_retK (b := false) ev_bl P3 fun v H3 e3 P4 a4 => fin ((e0'.trans e2).trans e3) P4 a4 (hf ?_)
        unfold isPair
        rw [show isLen d 2 = false by simpa using k]
        rfl
      have k2 : isLen d 2 = true := by simpa using k
      refine s_ifK (b := false) (k := (!isCont h.zs (nth d 0) || !isCont h.zs (nth d 1))) (et_orK (et_notK (et_k (ev_f (ea_two (Hh'.mono e2) (ev_nth (n := 2) (i := 0) (Hr.mono e2) k2 (by decide))) rfl ⟨h, _, rfl, ok⟩ (by rw [f_is_content, hou_d])))) fun _ => et_notK (et_k (ev_f (ea_two (Hh'.mono e2) (ev_nth (n := 2) (i := 1) (Hr.mono e2) k2 (by decide))) rfl ⟨h, _, rfl, ok⟩ (by rw [f_is_content, hou_d])))) P3 (fun k H3 e3 P4 => ?_) (fun k H3 e3 P4 => ?_)
      · refine s_retK (b := false) ev_bl P4 fun v H4 e4 P5 a5 => fin (((e0'.trans e2).trans e3).trans e4) P5 a5 (hf ?_)
        unfold isPair
        revert k
        cases isCont h.zs (nth d 0) <;> cases isCont h.zs (nth d 1) <;> simp
      · refine ⟨step _ ⟨_, rfl⟩ ?_, (e1.trans e2).trans e3, P4⟩
        unfold isPair
        rw [k2]
        revert k
        cases isCont h.zs (nth d 0) <;> cases isCont h.zs (nth d 1) <;> simp
    · obtain ⟨x, rfl⟩ := hJ
      dsimp only
      have ka : ∀ d ∈ ds, isPair h d = true := List.all_eq_true.mp ha
      have w1 : At S H' u (.tuple ds) := a2.mono (e.trans e2) Pn.mem
      refine s_retK (b := false) (ev_f (z := .bool (rises ds)) (ea_one (ev_var rfl w1)) rfl ⟨ds, rfl, fun d hd d' hd' => isPair_alike (ka d hd) (ka d' hd'), fun d hd => ⟨fun e => ?_, (isPair_flat (ka d hd)).shaped (by decide)⟩, (sm_tup sd).1⟩ rfl) P2 fun v H3 e3 P4 a4 => fin ((e.trans e2).trans e3) P4 a4 ?_
      · subst e
        cases ka _ hd
      · show _ = (ds.all (isPair h) && rises ds)
        rw [ha]
        rfl
  | _ => cases k

end
end Mv
namespace Mv
open PySem PySem.Spec PyProof.Rows L2 He
section
variable {K : PySem.W.Frag} {b : Bool} {p : Addr × Addr} {S : List Addr} {σ : L2.St} {H H' : Hp} {ta tb tc te tl : TE} {kvs : List (Str × Int)}
theorem s_made {tr : TA} {D : Ends} {i : Nat} (h : EvA b p S tr σ H fun zs => zs = [.list (strI kvs)]) (e : Rl b p H H') (P : Pen p S H') (k : ∀ a H2, Rl b p H' H2 → Pen p S H2 → a ≠ p.1 → H2 a = some (.dK (mergeK [] (kvsV kvs))) → D.nx (σ.set i (some (.ref a))) H2) : tAsg (tCB (rDictP K) tr) (gName i) D σ H' := made h H' e P _ k
theorem ev_dvar2 {a : Addr} {k : Nat} {x : Str} {i j : Int} (hs : σ[k]? = some (some (.ref a))) (na : a ≠ p.1) (ha : H a = some (.dK (mergeK [] (kvsV kvs)))) (hw : Ev b p S tb σ H fun z => z = .str x) (hc : Ev b p S tc σ H fun z => z = .int j) (hv : (valV (mergeK [] (kvsV kvs)) (Sum.inr x)).getD (.int j) = .int i) :
    Ev b p S (tDGet2 (tVar k) tb tc) σ H fun z => z = .int i := fun H1 e P Q q => ⟨_, hs, a, rfl, .inl ⟨_, .inl (e _ _ (fun _ => na) ha)⟩, hw H1 e P _ fun y H3 z e3 P3 a3 r => hc H3 (e.trans e3) P3 _ fun y2 H4 z2 e4 P4 a4 r4 => by
    subst r r4
    cases a3
    cases a4
    exact ⟨_, .inl ⟨_, Sum.inr x, .inl (e4 _ _ (fun _ => na) (e3 _ _ (fun _ => na) (e _ _ (fun _ => na) ha))), rfl, rfl⟩, by rw [hv]; exact q _ H4 _ (e3.trans e4) P4 (.int i) rfl⟩⟩
end
section
variable {P : Program} {w : World} {K : PySem.W.Frag} {mg : Str → Option Value} {base : Heap}

/-! ### _law_is_valid -/
abbrev N__law_is_valid : List Str := ["_law_house", "_law_item_here", "_law_parts", "_law_leak"]
theorem sc__law_is_valid : FnScope N__law_is_valid ["_law_house", "_law_item_here"] (defScope (top 205)) := ⟨rfl, rfl, rfl, by decide +kernel, rfl, by decide +kernel, by decide +kernel⟩
/-- a house, a thing of small rows whose first word is lawful -/
def PreV (ds : List PyData) : Prop := ∃ h d, ds = [Hou.d h, d] ∧ h.Ok ∧ sm d = true ∧ ∀ x, nth d 0 = .str x → PyData.strOk x = true
theorem D__law_is_valid (T : Top K mg) : Dn P w K mg base "_law_is_valid" 5 ["_law_house", "_law_item_here"] (spF false 2 f_is_claim PreV) := by
  refine T.dn 53 rfl rfl sc__law_is_valid (fun _ _ _ _ _ _ us h => match us, h with | [_, _], _ => rfl) rfl fun f cdv A outer s p S H ds vs Q hr a l Pn pr q => ?_
  refine ⟨_, pss_cons (ps_if (PW.pt (pw_or (pt_not (pt_val (pe_isi (by rfl) T.f_isinstance (pv 1) (by rfl) T.f_tuple bb_tuple))) (pw_or (pt_cmpR op_lt (pe_len (by rfl) T.f_len (pv 1)) pe_int (nomark _)) (pw_or1 (pt_not (pt_val (pe_isi (by rfl) T.f_isinstance (pe_ix ix_seq (pv 1) pe_int (fun _ _ => rfl)) (by rfl) T.f_str bb_str)))))))
      (pss_one (ps_ret pe_bl))
      (pss_nil))
    (pss_cons (ps_set (i := 2) sc__law_is_valid.nd rfl (Or.inl rfl) (pe_callTy (cr_dictP rfl) (by rfl) T.f_dict bb_dict (pa_cons (pe_lst (pa_cons (pe_tup (pa_cons pe_str (pa_cons pe_int pa_nil))) (pa_cons (pe_tup (pa_cons pe_str (pa_cons pe_int pa_nil))) (pa_cons (pe_tup (pa_cons pe_str (pa_cons pe_int pa_nil))) (pa_cons (pe_tup (pa_cons pe_str (pa_cons pe_int pa_nil))) pa_nil))))) pa_nil)))
    (pss_cons (ps_if (PW.pt (pw_or (pt_cmpR (op_neD (hu_64 hr)) (pe_len (by rfl) T.f_len (pv 1)) (pe_dget2 (hu_1 hr) (pv 2) (pe_ix ix_seq (pv 1) pe_int (fun _ _ => rfl)) pe_int ⟨rfl, rfl, rfl, rfl⟩) (nomark _)) (pw_or1 (pt_not (pt_val (pe_dn ((D__law_are_rules T).up (by decide)) hr (by rfl) (pa_cons (pv 0) (pa_cons (pe_ix ix_seq (pv 1) pe_int (fun _ _ => rfl)) pa_nil))))))))
      (pss_one (ps_ret pe_bl))
      (pss_nil))
    (pss_cons (ps_if (pt_cmpR (op_eqD (hu_64 hr)) (pe_ix ix_seq (pv 1) pe_int (fun _ _ => rfl)) pe_str (nomark _))
      (pss_cons (ps_set (i := 3) sc__law_is_valid.nd rfl (Or.inl rfl) (pe_ix ix_seq (pv 1) pe_int (fun _ _ => rfl)))
      (pss_cons (ps_if (PW.pt (pw_or (pt_not (pt_val (pe_isi (by rfl) T.f_isinstance (pv 3) (by rfl) T.f_tuple bb_tuple))) (pw_or (pt_cmpR (op_neD (hu_64 hr)) (pe_len (by rfl) T.f_len (pv 3)) pe_int (nomark _)) (pw_or1 (pt_not (pt_val (pe_dn ((D__law_is_whole T).up (by decide)) hr (by rfl) (pa_cons (pe_ix ix_seq (pv 3) pe_int (fun _ _ => rfl)) (pa_cons (pe_op op_add (pe_len (by rfl) T.f_len (pe_ix ix_seq (pv 0) pe_int (fun _ _ => rfl))) pe_int) pa_nil)))))))))
        (pss_one (ps_ret pe_bl))
        (pss_nil))
      (pss_one (ps_ret (pe_and (pe_dn ((D__law_are_contents T).up (by decide)) hr (by rfl) (pa_cons (pv 0) (pa_cons (pe_ix ix_seq (pv 3) pe_int (fun _ _ => rfl)) pa_nil))) (pe_one (pe_dn ((D__law_are_contents T).up (by decide)) hr (by rfl) (pa_cons (pv 0) (pa_cons (pe_ix ix_seq (pv 3) pe_int (fun _ _ => rfl)) pa_nil)))))))))
      (pss_nil))
    (pss_cons (ps_if (pt_not (pt_val (pe_dn ((D__law_is_whole T).up (by decide)) hr (by rfl) (pa_cons (pe_ix ix_seq (pv 1) pe_int (fun _ _ => rfl)) (pa_cons (pe_op op_add (pe_len (by rfl) T.f_len (pe_ix ix_seq (pv 0) pe_int (fun _ _ => rfl))) pe_int) pa_nil)))))
      (pss_one (ps_ret pe_bl))
      (pss_nil))
    (pss_cons (ps_if (pt_cmpR (op_eqD (hu_64 hr)) (pe_ix ix_seq (pv 1) pe_int (fun _ _ => rfl)) pe_str (nomark _))
      (pss_one (ps_ret (pe_dn ((D__law_are_pairs T).up (by decide)) hr (by rfl) (pa_cons (pv 0) (pa_cons (pe_ix ix_seq (pv 1) pe_int (fun _ _ => rfl)) pa_nil)))))
      (pss_nil))
    (pss_cons (ps_if (PW.pt (pw_or (pt_not (pt_val (pe_dn ((D__law_is_content T).up (by decide)) hr (by rfl) (pa_cons (pv 0) (pa_cons (pe_ix ix_seq (pv 1) pe_int (fun _ _ => rfl)) pa_nil))))) (pw_or1 (pt_not (pt_val (pe_dn ((D__law_is_content T).up (by decide)) hr (by rfl) (pa_cons (pv 0) (pa_cons (pe_ix ix_seq (pv 1) pe_int (fun _ _ => rfl)) pa_nil))))))))
      (pss_one (ps_ret pe_bl))
      (pss_nil))
    (pss_one (ps_ret (pe_or (pe_cmpR (op_eqD (hu_64 hr)) (pe_ix ix_seq (pv 1) pe_int (fun _ _ => rfl)) pe_str (nomark _)) (pe_one (pe_dn ((D__law_is_whole T).up (by decide)) hr (by rfl) (pa_cons (pe_ix ix_seq (pv 1) pe_int (fun _ _ => rfl)) (pa_cons (pe_op op_add (pe_op op_mul (pe_op op_pow pe_int pe_int) (pe_op op_pow pe_int pe_int)) pe_int) pa_nil))))))))))))), ?_⟩
  obtain ⟨h, d, rfl, ok, sd, gw⟩ := pr
  obtain ⟨v, u, rfl, a1, a2⟩ := a.two
  have Hh : Ev false p S (tVar 0) (start N__law_is_valid [v, u]) H fun z => z = h.d := ev_var rfl a1
  have Hv : Ev false p S (tVar 1) (start N__law_is_valid [v, u]) H fun z => z = d := ev_var rfl a2
  have fin : ∀ {v : V} {H' : Hp} {k : Bool}, Rl false p H H' → Pen p S H' → At S H' v (.bool k) → k = isClaim h d → Q v H' := fun e' P' a' e => q _ _ _ e' P' a' (by rw [f_is_claim, hou_d, e])
  have c1 : ∀ ds, d = .tuple ds → ds ≠ [] → (items d)[0]? = some (nth d 0) := fun ds e hne => by
    subst e
    exact nth_get (List.length_pos_iff.mpr hne)
  refine s_ifK (b := false) (k := !((isT d && decide (3 ≤ (items d).length)) && isS (nth d 0))) ?_ Pn (fun k H1 e1 P1 => ?_) (fun k H1 e1 P1 => ?_)
  · cases d with
    | tuple ds =>
      refine EvT.imp (et_orK (et_notK (et_k (ev_isi Hv (kit_tuple _)))) fun _ => et_orK (l := !isS (nth (.tuple ds) 0)) (et_c (ev_I0 (z := .bool (decide ((ds.length : Int) < 3))) (ev_len Hv rfl) ev_int fun H => .bl _)) fun hne => et_notK (et_k (ev_isi (ev_ixN (j := 0) Hv ev_int rfl (c1 ds rfl fun e => ?_)) (kit_str _)))) fun x e => e.trans ?_
      · subst e; cases hne
      · show (!true || (decide ((ds.length : Int) < 3) || _)) = !((true && decide (3 ≤ ds.length)) && _)
        have : decide ((ds.length : Int) < 3) = !decide (3 ≤ ds.length) := by
          by_cases h3 : 3 ≤ ds.length
          · rw [decide_eq_true h3, decide_eq_false (by omega)]; rfl
          · rw [decide_eq_false h3, decide_eq_true (by omega)]; rfl
        rw [this]
        cases decide (3 ≤ ds.length) <;> cases isS (nth (.tuple ds) 0) <;> rfl
    | _ => exact EvT.imp (et_orK (l := false) (et_notK (et_k (ev_isi Hv (kit_tuple _)))) fun e => by cases e) fun x e => e.trans rfl
  · refine s_retK (b := false) ev_bl P1 fun v H2 e2 P2 a2 => fin (e1.trans e2) P2 a2 ?_
    unfold isClaim
    cases hT : isT d with
    | false => rfl
    | true =>
      cases hS : isS (nth d 0) with
      | false => rfl
      | true =>
        rw [hT, hS] at k
        have h3 : ¬ 3 ≤ (items d).length := of_decide_eq_false (by simpa using k)
        unfold isTail
        have : isLen d (parts (unStr (nth d 0))) = false := by
          cases hl : isLen d (parts (unStr (nth d 0))) with
          | false => rfl
          | true =>
            by_cases hp : parts (unStr (nth d 0)) = 0
            · rw [hp] at hl
              obtain ⟨ds, rfl, h0⟩ := (isLen_iff (n := 0)).mp hl
              rw [List.length_eq_zero_iff.mp h0] at hS
              cases hS
            · obtain ⟨n, hn, n3, _⟩ := parts_nat hp
              rw [hn] at hl
              obtain ⟨ds, rfl, h0⟩ := isLen_iff.mp hl
              exact absurd (show 3 ≤ ds.length by omega) h3
        rw [this]
        rfl
  have kt : isT d = true ∧ decide (3 ≤ (items d).length) = true ∧ isS (nth d 0) = true := by
    revert k
    cases isT d <;> cases decide (3 ≤ (items d).length) <;> cases isS (nth d 0) <;> simp
  obtain ⟨x, hx⟩ : ∃ x, nth d 0 = .str x := by
    have := kt.2.2
    revert this
    cases nth d 0 with
    | str x => exact fun _ => ⟨x, rfl⟩
    | _ => exact fun k => by cases k
  have hs := gw x hx
  have Hx := fun (c : PySem.W.Frag) => ev_str0 (K := c) Hv kt.1 hx
  refine s_made (b := false) ev_part e1 P1 fun a H2 e2 P2 na ha => ?_
  have e12 := e1.trans e2
  have Hh : Ev false p S (tVar 0) [some v, some u, some (.ref a), none] H2 fun z => z = h.d := ev_var rfl (a1.mono e12 Pn.mem)
  have Hv : Ev false p S (tVar 1) [some v, some u, some (.ref a), none] H2 fun z => z = d := ev_var rfl (a2.mono e12 Pn.mem)
  have Hx : Ev false p S (tOp (rIx K) (tVar 1) (tC (.int 0))) [some v, some u, some (.ref a), none] H2 fun z => z = .str x := ev_str0 Hv kt.1 hx
  have fin : ∀ {v : V} {H' : Hp} {k : Bool}, Rl false p H2 H' → Pen p S H' → At S H' v (.bool k) → k = isTail h x d → Q v H' := fun e' P' a' e => fin (e12.trans e') P' a' (by
    unfold isClaim
    rw [kt.1, kt.2.2, hx, e]
    rfl)
  unfold isTail at fin
  obtain ⟨ds, hds⟩ : ∃ ds, d = .tuple ds := by
    have := kt.1
    cases d with
    | tuple ds => exact ⟨ds, rfl⟩
    | _ => cases this
  have hl : isLen d (parts x) = decide ((ds.length : Int) = parts x) := by rw [hds]; rfl
  have hp : isLen d (parts x) = true → ∃ n : Nat, parts x = (n : Int) ∧ 3 ≤ n ∧ (x ≠ Str.ofString "safe" → 4 ≤ n) ∧ (x ≠ Str.ofString "safe" → x ≠ Str.ofString "pairs" → 5 ≤ n) ∧ (x ≠ Str.ofString "safe" → x ≠ Str.ofString "pairs" → x ≠ Str.ofString "can" → 6 ≤ n) := fun kl => parts_nat (fun h0 => by
    rw [hl, h0] at kl
    have h3 := of_decide_eq_true kt.2.1
    rw [hds] at h3
    have := of_decide_eq_true kl
    simp only [items] at h3
    omega)
  have cl : Ev false p S (tCB (rLenX K) (tCons (tVar 1) tNil)) [some v, some u, some (.ref a), none] H2 fun z => z = .int ds.length := by
    rw [hds] at Hv
    exact ev_len Hv rfl
  refine s_ifK (b := false) (k := !isLen d (parts x) || !areRules h (nth d 1)) (EvT.imp (et_orK (l := !areRules h (nth d 1)) (et_c (ev_neD (d := .int ds.length) (e := .int (parts x)) cl (ev_dvar2 (kvs := partI) rfl na ha Hx ev_int (part_get x)) rfl rfl)) fun kl => ?_) fun y e => e.trans ?_) P2 (fun k H3 e3 P3 => ?_) (fun k H3 e3 P3 => ?_)
  · have kl' : isLen d (parts x) = true := by
      rw [hl]
      simpa [PyData.eqv] using kl
    obtain ⟨n, hn, n3, ns⟩ := hp kl'
    rw [hn] at kl'
    exact et_notK (et_k (ev_f (ea_two Hh (ev_nth (i := 1) Hv kl' (by omega))) rfl ⟨h, _, rfl, ok, sm_nth sd _⟩ (by rw [f_are_rules, hou_d])))
  · rw [hl]
    rfl
  · refine s_retK (b := false) ev_bl P3 fun v H4 e4 P4 a4 => fin (e3.trans e4) P4 a4 ?_
    revert k
    cases isLen d (parts x) <;> cases areRules h (nth d 1) <;> simp
  have k2 : isLen d (parts x) = true ∧ areRules h (nth d 1) = true := by
    revert k
    cases isLen d (parts x) <;> cases areRules h (nth d 1) <;> simp
  rw [k2.1, k2.2] at fin
  obtain ⟨n, hn, n3, ns⟩ := hp k2.1
  have kl := k2.1
  rw [hn] at kl
  have wh : ∀ {σ : L2.St} {H' : Hp} {te : TE} {y : PyData}, Ev false p S te σ H' (fun z => z = y) → Ev false p S (tVar 0) σ H' (fun z => z = h.d) → EvA false p S (tCons te (tCons (tOp (rI0 fun i j => .int (i + j)) (tCB (rLenX K) (tCons (tOp (rIx K) (tVar 0) (tC (.int 2))) tNil)) (tC (.int 1))) tNil)) σ H' fun zs => zs = [y, .int (h.ks.length + 1)] := fun hy hH =>
    ea_two hy (ev_I0 (z := .int (h.ks.length + 1)) (ev_len (ev_ixN (j := 2) (z := .tuple h.ks) hH ev_int rfl rfl) rfl) ev_int fun H => .int _)
  refine s_ifK (b := false) (et_c (ev_eqW (Hx.mono e3) ev_str hs (by decide +kernel))) P3 (fun k H4 e4 P4 => ?_) (fun k H4 e4 P4 => ?_)
  · have hsafe := of_decide_eq_true k
    rw [if_pos hsafe] at fin
    have e34 := e3.trans e4
    refine s_asgK (b := false) (ev_nth (i := 2) (Hv.mono e34) kl (by omega)) P4 fun v3 H5 e5 P5 a5 => ?_
    have e35 := e34.trans e5
    have Hh' : Ev false p S (tVar 0) [some v, some u, some (.ref a), some v3] H5 fun z => z = h.d := ev_var rfl (a1.mono (e12.trans e35) Pn.mem)
    have Hr : Ev false p S (tVar 3) [some v, some u, some (.ref a), some v3] H5 fun z => z = nth d 2 := ev_var rfl a5
    have sd1 := sm_nth sd 2
    refine s_ifK (b := false) (k := (!isLen (nth d 2) 3 || !isNum (nth (nth d 2) 0) (h.ks.length + 1))) (et_lenK (n := 3) Hr fun hl => et_notK (et_k (ev_f (z := .bool (isNum (nth (nth d 2) 0) (h.ks.length + 1))) (wh (ev_nth (n := 3) (i := 0) Hr hl (by decide)) Hh') rfl ⟨_, _, rfl⟩ rfl))) P5 (fun k H6 e6 P6 => ?_) (fun k H6 e6 P6 => ?_)
    · refine s_retK (b := false) ev_bl P6 fun v H7 e7 P7 a7 => fin ((e35.trans e6).trans e7) P7 a7 ?_
      unfold isRule
      revert k
      cases isLen (nth d 2) 3 <;> cases isNum (nth (nth d 2) 0) (h.ks.length + 1) <;> simp
    have k6 : isLen (nth d 2) 3 = true ∧ isNum (nth (nth d 2) 0) (h.ks.length + 1) = true := by simpa using k
    refine s_retK (b := false) (ev_andK (ev_f (ea_two (Hh'.mono e6) (ev_nth (n := 3) (i := 1) (Hr.mono e6) k6.1 (by decide))) rfl ⟨h, _, rfl, ok, sm_nth sd1 _⟩ (by rw [f_are_contents, hou_d])) fun _ => ev_f (ea_two (Hh'.mono e6) (ev_nth (n := 3) (i := 2) (Hr.mono e6) k6.1 (by decide))) rfl ⟨h, _, rfl, ok, sm_nth sd1 _⟩ (by rw [f_are_contents, hou_d])) P6 fun v H7 e7 P7 a7 => fin ((e35.trans e6).trans e7) P7 a7 ?_
    unfold isRule
    rw [k6.1, k6.2]
    rfl
  have hsafe := of_decide_eq_false k
  rw [if_neg hsafe] at fin
  have e24 := e3.trans e4
  refine s_ifK (b := false) (k := !isNum (nth d 2) (h.ks.length + 1)) (et_notK (et_k (ev_f (z := .bool (isNum (nth d 2) (h.ks.length + 1))) (wh (ev_nth (i := 2) (Hv.mono e24) kl (by omega)) (Hh.mono e24)) rfl ⟨_, _, rfl⟩ rfl))) P4 (fun k H5 e5 P5 => ?_) (fun k H5 e5 P5 => ?_)
  · refine s_retK (b := false) ev_bl P5 fun v H6 e6 P6 a6 => fin ((e24.trans e5).trans e6) P6 a6 ?_
    rw [show isNum (nth d 2) (h.ks.length + 1) = false by simpa using k]
    rfl
  rw [show isNum (nth d 2) (h.ks.length + 1) = true by simpa using k] at fin
  have e25 := e24.trans e5
  have n4 : 4 ≤ n := ns.1 hsafe
  refine s_ifK (b := false) (et_c (ev_eqW (Hx.mono e25) ev_str hs (by decide +kernel))) P5 (fun k H6 e6 P6 => ?_) (fun k H6 e6 P6 => ?_)
  · have hpairs := of_decide_eq_true k
    rw [if_pos hpairs] at fin
    exact s_retK (b := false) (ev_f (z := .bool (arePairs h (nth d 3))) (ea_two (Hh.mono (e25.trans e6)) (ev_nth (i := 3) (Hv.mono (e25.trans e6)) kl (by omega))) rfl ⟨h, _, rfl, ok, sm_nth sd _⟩ (by rw [f_are_pairs, hou_d])) P6 fun v H7 e7 P7 a7 => fin ((e25.trans e6).trans e7) P7 a7 rfl
  have hpairs := of_decide_eq_false k
  rw [if_neg hpairs] at fin
  have e26 := e25.trans e6
  have n5 : 5 ≤ n := ns.2.1 hsafe hpairs
  refine s_ifK (b := false) (k := !isCont h.zs (nth d 3) || !isCont h.zs (nth d 4)) (et_orK (et_notK (et_k (ev_f (ea_two (Hh.mono e26) (ev_nth (i := 3) (Hv.mono e26) kl (by omega))) rfl ⟨h, _, rfl, ok⟩ (by rw [f_is_content, hou_d])))) fun _ => et_notK (et_k (ev_f (ea_two (Hh.mono e26) (ev_nth (i := 4) (Hv.mono e26) kl (by omega))) rfl ⟨h, _, rfl, ok⟩ (by rw [f_is_content, hou_d])))) P6 (fun k H7 e7 P7 => ?_) (fun k H7 e7 P7 => ?_)
  · refine s_retK (b := false) ev_bl P7 fun v H8 e8 P8 a8 => fin ((e26.trans e7).trans e8) P8 a8 ?_
    revert k
    cases isCont h.zs (nth d 3) <;> cases isCont h.zs (nth d 4) <;> simp
  have kk : isCont h.zs (nth d 3) = true ∧ isCont h.zs (nth d 4) = true := by
    revert k
    cases isCont h.zs (nth d 3) <;> cases isCont h.zs (nth d 4) <;> simp
  rw [kk.1, kk.2] at fin
  have e27 := e26.trans e7
  have big : ∀ {σ : L2.St} {H' : Hp}, Ev false p S (tOp (rI0 fun i j => .int (i + j)) (tOp (rI CMul fun i j => .int (i * j)) (tOp (rI CPow fun i j => .int (i ^ j.toNat)) (tC (.int 10)) (tC (.int 60))) (tOp (rI CPow fun i j => .int (i ^ j.toNat)) (tC (.int 10)) (tC (.int 10)))) (tC (.int 1))) σ H' fun z => z = .int (10 ^ 70 + 1) :=
    ev_I0 (i := 10 ^ 70) (ev_I (i := 10 ^ 60) (j := 10 ^ 10) (ev_I (i := 10) (j := 60) ev_int ev_int ⟨by decide, by decide, by decide⟩ fun H => .int _) (ev_I (i := 10) (j := 10) ev_int ev_int ⟨by decide, by decide, by decide⟩ fun H => .int _) (.inr (by decide)) fun H => .int _) ev_int fun H => .int _
  refine s_retK (b := false) (ev_orK (ev_eqW (Hx.mono e27) ev_str hs (by decide +kernel)) fun hc => ev_f (z := .bool (isNum (nth d 5) (10 ^ 70 + 1))) (ea_two (ev_nth (i := 5) (Hv.mono e27) kl ?_) big) rfl ⟨_, _, rfl⟩ rfl) P7 fun v H8 e8 P8 a8 => fin (e27.trans e8) P8 a8 rfl
  have := ns.2.2 hsafe hpairs (of_decide_eq_false hc)
  omega

end
end Mv
/-! # Defs that take the pen -/
namespace Mv
open PySem PySem.Spec PyProof.Rows L2 He
/-- f(pen, data ..) -/
def spP (n : Nat) (R : List PyData → PyData → Prop) (Pre : List PyData → Prop) : Sp := fun vs H Q _ => ∃ (p : Addr × Addr) (S : List Addr) (ws : List V) (ds : List PyData), vs = .ref p.1 :: ws ∧ Ats S H ws ds ∧ ds.length = n ∧ Pen p S H ∧ Pre ds ∧ ∀ v H' d, Rl true p H H' → Pen p S H' → At S H' v d → R ds d → Q v H'
def rInt1 : List V → Hp → VK → Prop := fun xs H Q => (∃ i, xs = [.int i] ∧ Q (.int i) H) ∨ ∃ k, xs = [.bl k] ∧ Q (.int (if k then 1 else 0)) H
theorem cr_int1 {X : Cx} : CallR X (.type "int") rInt1 := call_int1
section
variable {P : Program} {w : World} {K : PySem.W.Frag} {mg : Str → Option Value} {base : Heap}
theorem Top.dnP (T : Top K mg) (j : Nat) {x : Str} {i : Nat} (hj : fn[j]? = some (dfn x i)) (hg : fa[j + 1]? = some (.glo x)) {N ps : List Str} (Sc : FnScope N ps (defScope (top i)))
    (hb : ∀ (kV doc pm : Value) (an : Option Addr) (cdv ct : Value) (us : List Value), us.length = ps.length → bindArgs (PySem.W.fnOf x x (defArgs (top i)) (defBody (top i)) (defScope (top i)) .none kV doc pm an cdv ct) ⟨us, []⟩ = pure (ps.zip us))
    {k : Nat} {n : Nat} {R : List PyData → PyData → Prop} {Pre : List PyData → Prop} (hn : ps.length = n + 1)
    (hbody : ∀ (f : Addr) (cdv : Value) (A : Around) (outer : List Env) (s : Shared) (p : Addr × Addr) (S : List Addr) (H : Hp) (ds : List PyData) (vs : List V) (Q : VK) (E : XK), Room k (A.deeper (envOfC x (defScope (top i)) s.heap.objs.size f cdv)) →
      Ats S H vs ds → ds.length = n → Pen p S H → Pre ds → (∀ v H' d, Rl true p H H' → Pen p S H' → At S H' v d → R ds d → Q v H') →
      ∃ t, PSs (cxOf CX0 P w K mg base N x (defScope (top i)) f cdv A outer s H E).nox (defBody (top i)) t ∧ t { nx := fun _ H' => Q .non H', rt := Q } (start N (.ref p.1 :: vs)) H) :
    Dn P w K mg base x (k + 1) ps (spP n R Pre) := by
  refine T.dnS j hj hg Sc hb (fun vs H Q E h => ?_) fun f cdv A outer s H vs Q E hr h => ?_
  · obtain ⟨_, _, ws, ds, rfl, a, l, _⟩ := h
    rw [List.length_cons, a.length, l, hn]
  · obtain ⟨p, S, ws, ds, rfl, a, l, P1, pr, q⟩ := h
    exact hbody f cdv A outer s p S H ds ws Q E hr a l P1 pr q
end
section
variable {K : PySem.W.Frag} {b : Bool} {p : Addr × Addr} {S : List Addr} {σ : L2.St} {H H' : Hp} {ta tb tc te tl : TE} {t tr : TA} {Rs : List PyData → Prop} {n i : Nat} {R : List PyData → PyData → Prop} {Pre : List PyData → Prop} {ds : List PyData} {d : PyData}
/-- arguments that begin with the pen -/
def EvP (b : Bool) (p : Addr × Addr) (S : List Addr) (ta : TA) (σ : L2.St) (H : Hp) (R : List PyData → Prop) : Prop := ∀ H1, Rl b p H H1 → Pen p S H1 → ∀ Q : List V → Hp → Prop, (∀ ws H2 ds, Rl b p H1 H2 → Pen p S H2 → Ats S H2 ws ds → R ds → Q (.ref p.1 :: ws) H2) → ta σ H1 Q
theorem ep_cons (h : σ[i]? = some (some (.ref p.1))) (hr : EvA b p S tr σ H Rs) : EvP b p S (tCons (tVar i) tr) σ H Rs := fun H1 e P Q q =>
  ⟨_, h, hr H1 e P _ fun ws H2 ds e2 P2 a2 r => q ws H2 ds e2 P2 a2 r⟩
theorem ev_pR (h : EvP true p S t σ H Rs) (k : ∀ ds, Rs ds → ds.length = n ∧ Pre ds) : Ev true p S (tCall (spP n R Pre) [] E0 t) σ H (fun z => ∃ ds, Rs ds ∧ R ds z) := fun H1 e P Q q =>
  h H1 e P _ fun ws H2 ds e2 P2 a2 r => by
    show spP n R Pre (.ref p.1 :: ws ++ []) H2 Q E0
    rw [List.append_nil]
    exact ⟨p, S, ws, ds, rfl, a2, (k ds r).1, P2, (k ds r).2, fun v H3 d e3 P3 a3 r3 => q v H3 d (e2.trans e3) P3 a3 ⟨ds, r, r3⟩⟩
theorem ev_p (h : EvP true p S t σ H fun zs => zs = ds) (hl : ds.length = n) (hp : Pre ds) : Ev true p S (tCall (spP n R Pre) [] E0 t) σ H (R ds) :=
  (ev_pR h fun zs e => by subst e; exact ⟨hl, hp⟩).imp fun z ⟨zs, e, r⟩ => by
    subst e
    exact r
theorem ea_nilK : EvA b p S tNil σ H fun zs => zs = [] := ea_nil
theorem ev_int1 {j : Int} (h : Ev b p S te σ H fun z => z = .int j) : Ev b p S (tCB rInt1 (tCons te tNil)) σ H fun z => z = .int j := fun H1 e P Q q => h H1 e P _ fun v H2 z e2 P2 a2 r => by
  subst r
  cases a2
  exact .inl ⟨j, rfl, q _ H2 _ e2 P2 (.int j) rfl⟩
/-! ### the pen's own cells, while it stands -/
theorem ev_pk {xs : List V} {v : V} {k : Nat} (h0 : σ[0]? = some (some (.ref p.1))) (hp : H p.1 = some (.lst xs)) (hx : xs[k]? = some v) (a : ∀ H, At S H v d) : Ev false p S (tOp (rIx K) (tVar 0) (tC (.int (k : Int)))) σ H fun z => z = d := fun H1 e P Q q =>
  ⟨_, h0, .inl ⟨p.1, xs, k, v, rfl, rfl, SqL.of (e.same _ _ hp), atI_nat hx, q v H1 d Rl.refl P (a _) rfl⟩⟩
variable {ns : List Int} {i' j' : Int}
theorem ev_pl (h0 : σ[0]? = some (some (.ref p.1))) (hp : H p.1 = some (.lst [.ref p.2, .int i', .int j'])) (hq : H p.2 = some (.lst (ns.map V.int))) : Ev false p S (tCB (rLenX K) (tCons (tOp (rIx K) (tVar 0) (tC (.int 0))) tNil)) σ H fun z => z = .int ns.length := fun H1 e P Q q =>
  ⟨_, h0, .inl ⟨p.1, _, 0, .ref p.2, rfl, rfl, SqL.of (e.same _ _ hp), rfl, .ref p.2, ns.length, rfl, .inl ⟨_, SqL.of (e.same _ _ hq), (List.length_map _).symm⟩, q _ H1 _ Rl.refl P (.int _) rfl⟩⟩
theorem ev_pi {k : Nat} {c : Int} (h0 : σ[0]? = some (some (.ref p.1))) (hp : H p.1 = some (.lst [.ref p.2, .int i', .int j'])) (hq : H p.2 = some (.lst (ns.map V.int))) (hk : Ev false p S te σ H fun z => z = .int (k : Int)) (hc : ns[k]? = some c) : Ev false p S (tOp (rIx K) (tOp (rIx K) (tVar 0) (tC (.int 0))) te) σ H fun z => z = .int c := fun H1 e P Q q =>
  ⟨_, h0, .inl ⟨p.1, _, 0, .ref p.2, rfl, rfl, SqL.of (e.same _ _ hp), rfl, hk H1 e P _ fun v H2 z e2 P2 a2 r => by
    subst r
    cases a2
    exact .inl ⟨p.2, ns.map V.int, k, .int c, rfl, rfl, SqL.of (e2.same _ _ (e.same _ _ hq)), atI_nat (by rw [List.getElem?_map, hc]; rfl), q _ H2 _ e2 P2 (.int c) rfl⟩⟩⟩
theorem dp_ints {H : Hp} {a : Addr} {ns : List Int} (h : H a = some (.lst (ns.map V.int))) : Dp K H (.ref a) (.list (ns.map PyData.int)) := .lst (SqL.of h) (by
  clear h
  induction ns with
  | nil => exact .nil
  | cons n ns ih => exact .cons (.int n) ih)
theorem et_pe (h0 : σ[0]? = some (some (.ref p.1))) (hp : H p.1 = some (.lst [.ref p.2, .int i', .int j'])) (hq : H p.2 = some (.lst (ns.map V.int))) : EvT false p S (tTest (tOp (rNeD K) (tOp (rIx K) (tVar 0) (tC (.int 0))) (tLst tNil))) σ H fun x => x = !ns.isEmpty := fun H1 e P Q q =>
  ⟨_, h0, .inl ⟨p.1, _, 0, .ref p.2, rfl, rfl, SqL.of (e.same _ _ hp), rfl, Nat.zero_le _, fun l hl => by
    refine ⟨.list (ns.map PyData.int), .list [], dp_ints (Rl.new (p := p) (b := false) hl _ _ (fun z => by cases z) (e.same _ _ hq)), .lst (SqL.of upd_same) .nil, (Flat.lst (n := 0) fun d hd => ?_).shaped (by decide), rfl, ?_⟩
    · obtain ⟨i, _, rfl⟩ := List.mem_map.mp hd
      exact flat_int 0 i
    · refine ⟨_, rfl, q _ _ (Rl.new hl) (P.new hl) ?_⟩
      cases ns <;> rfl⟩⟩
/-- the pen's list is written -/
theorem Pen.set {xs : List V} {i j : Int} (P : Pen p S H) (hq : H p.2 = some (.lst (ns.map V.int))) (hn : ns.length ≤ 63) (he : xs = [.ref p.2, .int i, .int j]) : Pen p S (upd H p.1 (.lst xs)) :=
  ⟨⟨ns, i, j, by rw [upd_same, he], (upd_ne P.ne2).trans hq, hn⟩, P.ne2, P.mem, P.mem2, fun s hs => by
    by_cases e : s = p.1
    · exact ⟨_, by rw [e]; exact upd_same⟩
    · rw [upd_ne e]
      exact P.all s hs⟩
theorem Rl.put {o : HO} : Rl true p H (upd H p.1 o) := fun c u n h => by
  rw [upd_ne (n rfl)]
  exact h
theorem ixN_at {n j : Nat} (hj : j < n) : ixN n (j : Int) = some j := by
  unfold ixN
  rw [if_pos (by omega), if_pos (by omega)]
  rfl
/-- pen[k] = e -/
theorem s_put {D : Ends} {k : Nat} {xs ys : List V} {v : V} (h0 : σ[0]? = some (some (.ref p.1))) (hp : H p.1 = some (.lst xs)) (hk : k < xs.length) (hy : xs.set k v = ys) (q : D.nx σ (upd H p.1 (.lst ys))) : gSub (tVar 0) (tC (.int (k : Int))) rSetL v σ H D.nx :=
  ⟨_, h0, p.1, xs, k, k, rfl, rfl, hp, ixN_at hk, hy ▸ q⟩
end
end Mv
namespace Mv
open PySem PySem.Spec PyProof.Rows L2 He
/-- one rest for all ways through a statement -/
theorem s_join {t : TS} {D : Ends} {σ : L2.St} {H : Hp} (J : L2.St → Hp → Prop) (hn : ∀ σ' H', J σ' H' → D.nx σ' H') (k : (∀ σ' H', J σ' H' → D.nx σ' H') → t D σ H) : t D σ H := k hn
theorem s_joinS {A B : TS} {D : Ends} {σ : L2.St} {H : Hp} (J : L2.St → Hp → Prop) (hn : ∀ σ' H', J σ' H' → B D σ' H') (k : (∀ σ' H', J σ' H' → B D σ' H') → A { D with nx := B D } σ H) : tSeq A B D σ H := k hn
section
variable {P : Program} {w : World} {K : PySem.W.Frag} {mg : Str → Option Value} {base : Heap}

/-! ### _law_fresh -/
abbrev N__law_fresh : List Str := ["_law_pen_here", "_law_at", "_law_cell", "_law_p", "_law_state", "_law_found", "_law_turn"]
theorem sc__law_fresh : FnScope N__law_fresh ["_law_pen_here"] (defScope (top 170)) := ⟨rfl, rfl, rfl, by decide +kernel, rfl, by decide +kernel, by decide +kernel⟩
theorem D__law_fresh (T : Top K mg) : Dn P w K mg base "_law_fresh" 1 ["_law_pen_here"] (spP 0 (fun _ z => ∃ i, z = .int i) (fun _ => True)) := by
  refine T.dnP 18 rfl rfl sc__law_fresh (fun _ _ _ _ _ _ us h => match us, h with | [_], _ => rfl) rfl fun f cdv A outer s p S H ds vs Q E hr a l Pn pr q => ?_
  refine ⟨_, pss_cons (ps_set (i := 1) sc__law_fresh.nd rfl (Or.inl rfl) (pe_ix ix_seq (pv 0) pe_int (fun _ _ => rfl)))
    (pss_cons (ps_asg (pe_op op_add (pv 1) pe_int) (pg_sub (pv 0) pe_int set_list))
    (pss_cons (ps_set (i := 2) sc__law_fresh.nd rfl (Or.inl rfl) pe_int)
    (pss_cons (ps_if (pt_cmpR (op_neD (hu_64 hr)) (pe_ix ix_seq (pv 0) pe_int (fun _ _ => rfl)) (pe_lst pa_nil) (nomark _))
      (pss_one (ps_set (i := 2) sc__law_fresh.nd rfl (Or.inl rfl) (pe_ix ix_seq (pe_ix ix_seq (pv 0) pe_int (fun _ _ => rfl)) (pe_op op_mod (pe_callTy cr_int1 (by rfl) T.f_int bb_int (pa_cons (pv 1) pa_nil)) (pe_len (by rfl) T.f_len (pe_ix ix_seq (pv 0) pe_int (fun _ _ => rfl)))) (fun _ _ => rfl))))
      (pss_nil))
    (pss_cons (ps_if (PW.pt (pw_and (pt_cmpR op_lt (pv 1) (pe_len (by rfl) T.f_len (pe_ix ix_seq (pv 0) pe_int (fun _ _ => rfl))) (nomark _)) (pw_and1 (pt_cmpR op_ge (pv 2) (pe_op op_pow pe_int pe_int) (nomark _)))))
      (pss_one (ps_ret (pe_op op_sub (pv 2) (pe_op op_pow pe_int pe_int))))
      (pss_nil))
    (pss_cons (ps_set (i := 3) sc__law_fresh.nd rfl (Or.inl rfl) pe_int)
    (pss_cons (ps_set (i := 4) sc__law_fresh.nd rfl (Or.inl rfl) (pe_op op_mod (pe_callTy cr_int1 (by rfl) T.f_int bb_int (pa_cons (pe_op op_add (pe_op op_add (pe_op op_mul (pv 2) pe_int) (pe_op op_mul pe_int (pv 1))) pe_int) pa_nil)) (pv 3)))
    (pss_cons (ps_set (i := 5) sc__law_fresh.nd rfl (Or.inl rfl) (pv 4))
    (pss_cons (ps_for PassesOwn.never rfl (pi_range1 (by rfl) T.f_range (pa_cons pe_int pa_nil)) (pg_name (i := 6) sc__law_fresh.nd rfl (Or.inl rfl))
      (pss_cons (ps_set (i := 4) sc__law_fresh.nd rfl (Or.inl rfl) (pe_op op_mod (pe_callTy cr_int1 (by rfl) T.f_int bb_int (pa_cons (pe_op op_add (pe_op op_add (pe_op op_mul (pv 4) (pv 4)) (pe_op op_mul (pe_op op_mul pe_int (pe_op op_add (pv 6) pe_int)) (pe_op op_add (pv 1) pe_int))) (pv 2)) pa_nil)) (pv 3)))
      (pss_one (ps_set (i := 5) sc__law_fresh.nd rfl (Or.inl rfl) (pe_op op_add (pe_op op_mul (pv 5) (pv 3)) (pv 4))))))
    (pss_one (ps_ret (pv 5))))))))))), ?_⟩
  cases a with
  | cons _ _ => cases l
  | nil =>
  obtain ⟨ns, i, j, h1, h2, h3⟩ := Pn.pen
  refine s_asgK (b := false) (ev_pk (k := 1) (d := .int i) rfl h1 rfl fun _ => .int i) Pn fun v1 H1 e1 P1 a1 => ?_
  cases a1
  refine (ev_I0 (b := false) (p := p) (S := S) (z := .int (i + 1)) (ev_var rfl (.int i)) ev_int fun H => .int _) H1 Rl.refl P1 _ fun v2 H2 z e2 P2 a2 r => ?_
  subst r
  cases a2
  have e12 := e1.trans e2
  refine s_put (k := 1) (ys := [.ref p.2, .int (i + 1), .int j]) rfl (e12.same _ _ h1) (by simp) rfl ?_
  have q2 := e12.same _ _ h2
  have P3 : Pen p S (upd H2 p.1 (.lst [.ref p.2, .int (i + 1), .int j])) := P2.set q2 h3 rfl
  have g1 : (upd H2 p.1 (.lst [.ref p.2, .int (i + 1), .int j])) p.1 = some (.lst [.ref p.2, .int (i + 1), .int j]) := upd_same
  have g2 : (upd H2 p.1 (.lst [.ref p.2, .int (i + 1), .int j])) p.2 = some (.lst (ns.map V.int)) := (upd_ne P2.ne2).trans q2
  have E3 : Rl true p H (upd H2 p.1 (.lst [.ref p.2, .int (i + 1), .int j])) := e12.tt.trans Rl.put
  generalize upd H2 p.1 (.lst [.ref p.2, .int (i + 1), .int j]) = H3 at P3 g1 g2 E3 ⊢
  have t18 : ∀ {σ : L2.St} {H' : Hp}, Ev false p S (tOp (rI CPow fun i j => .int (i ^ j.toNat)) (tC (.int 10)) (tC (.int 18))) σ H' fun z => z = .int (10 ^ 18) := ev_I (i := 10) (j := 18) ev_int ev_int ⟨by decide, by decide, by decide⟩ fun H => .int _
  have fin : ∀ {v : V} {H' : Hp} {k : Int}, Rl false p H3 H' → Pen p S H' → At S H' v (.int k) → Q v H' := fun e' P' a' => q _ _ _ (E3.trans e'.tt) P' a' ⟨_, rfl⟩
  dsimp only
  refine s_asgK (b := false) (d := .int 0) ev_int P3 fun v4 H4 e4 P4 a4 => ?_
  cases a4
  dsimp only
  refine s_joinS (fun σ' H' => (∃ c : Int, σ' = [some (.ref p.1), some (.int i), some (.int c), none, none, none, none]) ∧ Rl false p H3 H' ∧ Pen p S H') (fun σ' H5 hJ => ?_) fun nx => s_ifK (b := false) (et_pe rfl (e4.same _ _ g1) (e4.same _ _ g2)) P4 (fun k H5 e5 P5 => ?_) (fun k H5 e5 P5 => nx _ _ ⟨⟨0, rfl⟩, e4.trans e5, P5⟩)
  · obtain ⟨⟨c, rfl⟩, e5, P5⟩ := hJ
    refine s_ifK (b := false) (k := decide (i < (ns.length : Int)) && decide (c ≥ 10 ^ 18)) (et_andK (et_c (ev_I0 (z := .bool (decide (i < (ns.length : Int)))) (ev_var rfl (.int i)) (ev_pl rfl (e5.same _ _ g1) (e5.same _ _ g2)) fun H => .bl _)) fun _ => et_c (ev_I0 (z := .bool (decide (c ≥ 10 ^ 18))) (i := c) (j := 10 ^ 18) (ev_var rfl (.int c)) t18 fun H => .bl _)) P5 (fun k H6 e6 P6 => ?_) (fun k H6 e6 P6 => ?_)
    · exact s_retK (b := false) (d := .int (c - 10 ^ 18)) (ev_I0 (i := c) (j := 10 ^ 18) (ev_var rfl (.int c)) t18 fun H => .int _) P6 fun v7 H7 e7 P7 a7 => fin ((e5.trans e6).trans e7) P7 a7
    have e36 := e5.trans e6
    dsimp only [tNext]
    refine s_asgK (b := false) (d := .int 2305843009213693951) ev_int P6 fun v7 H7 e7 P7 a7 => ?_
    cases a7
    refine s_asgK (b := false) (d := .int ((c * 48271 + 40692 * i + 31) % 2305843009213693951)) (ev_I (i := c * 48271 + 40692 * i + 31) (j := 2305843009213693951) (ev_int1 (ev_I0 (i := c * 48271 + 40692 * i) (j := 31) (ev_I0 (i := c * 48271) (j := 40692 * i) (ev_I (i := c) (j := 48271) (ev_var rfl (.int c)) ev_int (.inr (by decide)) fun H => .int _) (ev_I (i := 40692) (j := i) ev_int (ev_var rfl (.int i)) (.inl (by decide)) fun H => .int _) fun H => .int _) ev_int fun H => .int _)) (ev_var rfl (.int _)) (by decide) fun H => .int _) P7 fun v8 H8 e8 P8 a8 => ?_
    cases a8
    refine s_asgK (b := false) (d := .int ((c * 48271 + 40692 * i + 31) % 2305843009213693951)) (ev_var rfl (.int _)) P8 fun v9 H9 e9 P9 a9 => ?_
    cases a9
    have e39 := ((e36.trans e7).trans e8).trans e9
    have b0 : 0 ≤ (c * 48271 + 40692 * i + 31) % 2305843009213693951 ∧ (c * 48271 + 40692 * i + 31) % 2305843009213693951 < 2305843009213693951 := ⟨Int.emod_nonneg _ (by decide), Int.emod_lt_of_pos _ (by decide)⟩
    generalize (c * 48271 + 40692 * i + 31) % 2305843009213693951 = st at b0
    dsimp only
    refine s_forR (b := false) (n := 6) (ea_one ev_int) (by decide) (by decide) P9 (fun _ σ => ∃ (st fd : Int) (x : Option V), σ = [some (.ref p.1), some (.int i), some (.int c), some (.int 2305843009213693951), some (.int st), some (.int fd), x] ∧ 0 ≤ st ∧ st < 2305843009213693951) ⟨st, st, none, rfl, b0.1, b0.2⟩ (fun H0 e0 P0 t σ' H' ht hI e1 P1 => ?_) fun σ' H' hI e1 P1 => ?_
    · obtain ⟨s1, fd, x, rfl, l1, l2⟩ := hI
      refine s_asgK (b := false) (d := .int ((s1 * s1 + 69621 * ((t : Int) + 1) * (i + 1) + c) % 2305843009213693951)) (ev_I (i := s1 * s1 + 69621 * ((t : Int) + 1) * (i + 1) + c) (j := 2305843009213693951) (ev_int1 (ev_I0 (i := s1 * s1 + 69621 * ((t : Int) + 1) * (i + 1)) (j := c) (ev_I0 (i := s1 * s1) (j := 69621 * ((t : Int) + 1) * (i + 1)) (ev_I (i := s1) (j := s1) (ev_var rfl (.int _)) (ev_var rfl (.int _)) (.inl ⟨by omega, by omega⟩) fun H => .int _)
        (ev_I (i := 69621 * ((t : Int) + 1)) (j := i + 1) (ev_I (i := 69621) (j := (t : Int) + 1) ev_int (ev_I0 (i := (t : Int)) (j := 1) (ev_var rfl (.int _)) ev_int fun H => .int _) (.inl (by decide)) fun H => .int _) (ev_I0 (i := i) (j := 1) (ev_var rfl (.int _)) ev_int fun H => .int _) (.inl ⟨by omega, by omega⟩) fun H => .int _) fun H => .int _) (ev_var rfl (.int _)) fun H => .int _)) (ev_var rfl (.int _)) (by decide) fun H => .int _) P1 fun v2 H2 e2 P2 a2 => ?_
      cases a2
      refine s_asgK (b := false) (ev_I0 (i := fd * 2305843009213693951) (ev_I (i := fd) (j := 2305843009213693951) (ev_var rfl (.int _)) (ev_var rfl (.int _)) (.inr (by decide)) fun H => .int _) (ev_var rfl (.int _)) fun H => .int _) P2 fun v3 H3' e3 P3' a3 => ?_
      cases a3
      exact ⟨⟨_, _, _, rfl, Int.emod_nonneg _ (by decide), Int.emod_lt_of_pos _ (by decide)⟩, (e1.trans e2).trans e3, P3'⟩
    · obtain ⟨s1, fd, x, rfl, _, _⟩ := hI
      dsimp only
      exact s_retK (b := false) (d := .int fd) (ev_var rfl (.int _)) P1 fun v2 H2 e2 P2 a2 => fin ((e39.trans e1).trans e2) P2 a2
  · have hne : 0 < ns.length := by
      cases ns with
      | nil => cases k
      | cons _ _ => exact Nat.succ_pos _
    have m0 := Int.emod_nonneg i (b := (ns.length : Int)) (by omega)
    have m1 := Int.emod_lt_of_pos i (b := (ns.length : Int)) (by omega)
    obtain ⟨m, hm⟩ := Int.eq_ofNat_of_zero_le m0
    have e45 := e4.trans e5
    refine s_asgK (b := false) (ev_pi (k := m) rfl (e45.same _ _ g1) (e45.same _ _ g2) (ev_I (i := i) (j := (ns.length : Int)) (ev_int1 (ev_var rfl (.int i))) (ev_pl rfl (e45.same _ _ g1) (e45.same _ _ g2)) (by omega) fun H => by rw [hm]; exact .int _) (List.getElem?_eq_getElem (by omega))) P5 fun v6 H6 e6 P6 a6 => ?_
    cases a6
    exact nx _ _ ⟨⟨_, rfl⟩, e45.trans e6, P6⟩

theorem s_asgR {b : Bool} {p : Addr × Addr} {S : List Addr} {σ : L2.St} {H : Hp} {te : TE} {g : TG} {D : Ends} {R : PyData → Prop} (h : Ev b p S te σ H R) (P : Pen p S H) (k : ∀ v H1 d, Rl b p H H1 → Pen p S H1 → At S H1 v d → R d → g v σ H1 D.nx) : tAsg te g D σ H := h H Rl.refl P _ k

/-! ### _law_draw -/
abbrev N__law_draw : List Str := ["_law_pen_here", "_law_many", "_law_digit"]
theorem sc__law_draw : FnScope N__law_draw ["_law_pen_here", "_law_many"] (defScope (top 171)) := ⟨rfl, rfl, rfl, by decide +kernel, rfl, by decide +kernel, by decide +kernel⟩
def Pre_draw (ds : List PyData) : Prop := ∃ m : Int, ds = [.int m] ∧ 1 ≤ m ∧ m < 1000000
def R_draw (ds : List PyData) (z : PyData) : Prop := ∃ d m : Int, ds = [.int m] ∧ z = .int d ∧ 0 ≤ d ∧ d < m
theorem D__law_draw (T : Top K mg) : Dn P w K mg base "_law_draw" 2 ["_law_pen_here", "_law_many"] (spP 1 R_draw Pre_draw) := by
  refine T.dnP 19 rfl rfl sc__law_draw (fun _ _ _ _ _ _ us h => match us, h with | [_, _], _ => rfl) rfl fun f cdv A outer s p S H ds vs Q E hr a l Pn pr q => ?_
  refine ⟨_, pss_cons (ps_if (pt_cmpR op_lt (pe_ix ix_seq (pv 0) pe_int (fun _ _ => rfl)) (pv 1) (nomark _))
      (pss_one (ps_asg (pe_dn ((D__law_fresh T).up (by decide)) hr (by rfl) (pa_cons (pv 0) pa_nil)) (pg_sub (pv 0) pe_int set_list)))
      (pss_nil))
    (pss_cons (ps_set (i := 2) sc__law_draw.nd rfl (Or.inl rfl) (pe_op op_mod (pe_callTy cr_int1 (by rfl) T.f_int bb_int (pa_cons (pe_ix ix_seq (pv 0) pe_int (fun _ _ => rfl)) pa_nil)) (pv 1)))
    (pss_cons (ps_asg (pe_op op_fdivN (pe_callTy cr_int1 (by rfl) T.f_int bb_int (pa_cons (pe_ix ix_seq (pv 0) pe_int (fun _ _ => rfl)) pa_nil)) (pv 1)) (pg_sub (pv 0) pe_int set_list))
    (pss_one (ps_ret (pv 2))))), ?_⟩
  obtain ⟨m, rfl, m1, m2⟩ := pr
  obtain ⟨vm, rfl, am⟩ := a.one
  cases am
  refine s_joinS (fun σ' H' => σ' = [some (.ref p.1), some (.int m), none] ∧ Rl true p H H' ∧ Pen p S H') (fun σ' H5 hJ => ?_) fun nx => ?_
  · obtain ⟨rfl, e5, P5⟩ := hJ
    obtain ⟨ns, i, j, h1, h2, h3⟩ := P5.pen
    refine s_asgK (b := false) (d := .int (j % m)) (ev_I (i := j) (j := m) (ev_int1 (ev_pk (k := 2) rfl h1 rfl fun _ => .int j)) (ev_var rfl (.int m)) (by omega) fun H => .int _) P5 fun v6 H6 e6 P6 a6 => ?_
    cases a6
    refine s_asgR (b := false) (ev_I (i := j) (j := m) (z := .int (j.fdiv m)) (ev_int1 (ev_pk (k := 2) rfl (e6.same _ _ h1) rfl fun _ => .int j)) (ev_var rfl (.int m)) ⟨by omega, by omega⟩ fun H => .int _) P6 fun v7 H7 d7 e7 P7 a7 r7 => ?_
    subst r7
    cases a7
    have e67 := e6.trans e7
    refine s_put (k := 2) (ys := [.ref p.2, .int i, .int (j.fdiv m)]) rfl (e67.same _ _ h1) (by simp) rfl ?_
    have P8 := P7.set (xs := [.ref p.2, .int i, .int (j.fdiv m)]) (e67.same _ _ h2) h3 rfl
    dsimp only
    exact s_retK (b := false) (d := .int (j % m)) (ev_var rfl (.int _)) P8 fun v9 H9 e9 P9 a9 => q _ _ _ (((e5.trans e67.tt).trans Rl.put).trans e9.tt) P9 a9 ⟨_, _, rfl, rfl, Int.emod_nonneg _ (by omega), Int.emod_lt_of_pos _ (by omega)⟩
  · obtain ⟨ns, i, j, h1, h2, h3⟩ := Pn.pen
    refine s_ifK (b := false) (k := decide (j < m)) (et_c (ev_I0 (i := j) (j := m) (ev_pk (k := 2) rfl h1 rfl fun _ => .int j) (ev_var rfl (.int m)) fun H => .bl _)) Pn (fun k H1 e1 P1 => ?_) (fun k H1 e1 P1 => nx _ _ ⟨rfl, e1.tt, P1⟩)
    refine s_asgR (b := true) (ev_p (ds := []) (ep_cons rfl ea_nilK) rfl trivial) P1 fun v2 H2 d2 e2 P2 a2 r2 => ?_
    obtain ⟨f, rfl⟩ := r2
    cases a2
    obtain ⟨ns2, i2, j2, g1, g2, g3⟩ := P2.pen
    refine s_put (k := 2) (ys := [.ref p.2, .int i2, .int f]) rfl g1 (by simp) rfl ?_
    exact nx _ _ ⟨rfl, (e1.tt.trans e2).trans Rl.put, P2.set g2 g3 rfl⟩

section
variable {b : Bool} {p : Addr × Addr} {S : List Addr} {σ : L2.St} {H : Hp} {ta tb te : TE} {t : TA} {d : PyData} {ds : List PyData} {m : Int} {R : PyData → Prop}
/-- what a draw of m is -/
def isDr (m : Int) (z : PyData) : Prop := ∃ i : Int, z = .int i ∧ 0 ≤ i ∧ i < m
theorem ev_draw (h : Ev true p S te σ H fun z => z = .int m) (h0 : σ[0]? = some (some (.ref p.1))) (h1 : 1 ≤ m) (h2 : m < 1000000) : Ev true p S (tCall (spP 1 R_draw Pre_draw) [] E0 (tCons (tVar 0) (tCons te tNil))) σ H (isDr m) :=
  (ev_p (ds := [.int m]) (ep_cons h0 (ea_one h)) rfl ⟨m, rfl, h1, h2⟩).imp fun z ⟨i, m', e, ez, l1, l2⟩ => by
    cases e
    exact ⟨i, ez, l1, l2⟩
theorem ev_ixM (ha : Ev b p S ta σ H fun z => z = d) (hb : Ev b p S tb σ H (isDr ((items d).length : Int))) (s : isSeq d = true) : Ev b p S (tOp (rIx K) ta tb) σ H fun z => z ∈ items d :=
  ev_op ha hb fun d1 e1 h1 h2 x y H1 P a1 a2 Q q => by
    subst h1
    obtain ⟨i, rfl, l1, l2⟩ := h2
    cases a2
    obtain ⟨a, xs, rfl, _, hs, r⟩ := a1.seq (K := K) s
    obtain ⟨n, rfl⟩ := Int.eq_ofNat_of_zero_le l1
    have hn : n < (items d1).length := by omega
    have hx : n < xs.length := by rw [r.length]; exact hn
    obtain ⟨z, g4, g5⟩ := r.get (List.getElem?_eq_getElem hx)
    have k := q _ H1 z Rl.refl P g5 (List.mem_of_getElem? g4)
    rcases hs with hs | hs
    · exact .inl ⟨a, xs, n, _, rfl, rfl, hs, atI_nat (List.getElem?_eq_getElem hx), k⟩
    · exact .inr (.inl ⟨a, xs, n, _, rfl, rfl, hs, atI_nat (List.getElem?_eq_getElem hx), k⟩)
end

/-! ### _law_one_of -/
abbrev N__law_one_of : List Str := ["_law_pen_here", "_law_rows"]
theorem sc__law_one_of : FnScope N__law_one_of ["_law_pen_here", "_law_rows"] (defScope (top 172)) := ⟨rfl, rfl, rfl, by decide +kernel, rfl, by decide +kernel, by decide +kernel⟩
def Pre_one (ds : List PyData) : Prop := ∃ d, ds = [d] ∧ isSeq d = true ∧ 1 ≤ (items d).length ∧ (items d).length < 1000000
def R_one (ds : List PyData) (z : PyData) : Prop := ∃ d, ds = [d] ∧ z ∈ items d
theorem D__law_one_of (T : Top K mg) : Dn P w K mg base "_law_one_of" 3 ["_law_pen_here", "_law_rows"] (spP 1 R_one Pre_one) := by
  refine T.dnP 20 rfl rfl sc__law_one_of (fun _ _ _ _ _ _ us h => match us, h with | [_, _], _ => rfl) rfl fun f cdv A outer s p S H ds vs Q E hr a l Pn pr q => ?_
  refine ⟨_, pss_one (ps_ret (pe_ix ix_seq (pv 1) (pe_dn ((D__law_draw T).up (by decide)) hr (by rfl) (pa_cons (pv 0) (pa_cons (pe_len (by rfl) T.f_len (pv 1)) pa_nil))) (fun _ _ => rfl))), ?_⟩
  obtain ⟨d, rfl, sq, l1, l2⟩ := pr
  obtain ⟨v, rfl, a1⟩ := a.one
  have Hv : Ev true p S (tVar 1) (start N__law_one_of [.ref p.1, v]) H fun z => z = d := ev_var rfl a1
  exact s_ret (b := true) (ev_ixM Hv (ev_draw (ev_len Hv sq) rfl (by omega) (by omega)) sq) Pn fun v2 H2 z e2 P2 a2 r => q _ _ _ e2 P2 a2 ⟨d, rfl, r⟩

section
variable {p : Addr × Addr} {S : List Addr} {σ : L2.St} {H : Hp} {te : TE} {d : PyData}
theorem ev_one (h : Ev true p S te σ H fun z => z = d) (h0 : σ[0]? = some (some (.ref p.1))) (s : isSeq d = true) (h1 : 1 ≤ (items d).length) (h2 : (items d).length < 1000000) : Ev true p S (tCall (spP 1 R_one Pre_one) [] E0 (tCons (tVar 0) (tCons te tNil))) σ H fun z => z ∈ items d :=
  (ev_p (ds := [d]) (ep_cons h0 (ea_one h)) rfl ⟨d, rfl, s, h1, h2⟩).imp fun z ⟨d', e, hz⟩ => by
    cases e
    exact hz
end

end
end Mv
/-! # Local lists that grow, loops over them -/
namespace Mv
open PySem PySem.Spec PyProof.Rows L2 He
/-- what stood stands, but for the objects at X -/
def Rx (X : List Addr) (H H' : Hp) : Prop := ∀ c o, c ∉ X → H c = some o → H' c = some o
section
variable {X Y : List Addr} {b : Bool} {p : Addr × Addr} {S : List Addr} {H H1 H2 H' : Hp} {A : Addr}
theorem Rx.refl : Rx X H H := fun _ _ _ h => h
theorem Rx.trans (a : Rx X H H1) (c : Rx X H1 H2) : Rx X H H2 := fun x o n h => c x o n (a x o n h)
theorem Rx.sub (a : Rx X H H1) (h : ∀ x ∈ X, x ∈ Y) : Rx Y H H1 := fun x o n q => a x o (fun m => n (h x m)) q
theorem Rx.of (a : Rl b p H H1) (h : b = true → p.1 ∈ X) : Rx X H H1 := fun x o n q => a x o (fun e z => n (z ▸ h e)) q
theorem Rx.of0 (a : Rl false p H H1) : Rx X H H1 := Rx.of a (fun e => by cases e)
theorem Rx.put {o : HO} (h : A ∈ X) : Rx X H (upd H A o) := fun x u n q => by
  rw [upd_ne (fun e : x = A => n (by rw [e]; exact h))]
  exact q
theorem Rx.new {o : HO} (h : H A = none) : Rx X H (upd H A o) := fun x u _ q => by
  rw [upd_ne (ne_of_none q h)]
  exact q
theorem Rx.drop (a : Rx (A :: X) H H1) (h : H A = none) : Rx X H H1 := fun x o n q => a x o (fun m => by
  rcases List.mem_cons.mp m with rfl | m
  · rw [h] at q; cases q
  · exact n m) q
theorem Rx.nil (a : Rx [] H H1) : Rl b p H H1 := fun x o _ q => a x o (fun h => nomatch h) q
theorem Rx.one (a : Rx [p.1] H H1) : Rl true p H H1 := fun x o n q => a x o (fun m => n rfl (List.mem_singleton.mp m)) q
mutual
theorem At.monoX (e : Rx X H H') (h : ∀ x ∈ X, x ∈ S) : ∀ {v : V} {d : PyData}, At S H v d → At S H' v d
  | _, _, .non => .non
  | _, _, .bl k => .bl k
  | _, _, .int i => .int i
  | _, _, .str x => .str x
  | _, _, .lst n q r => .lst n (e _ _ (fun m => n (h _ m)) q) (Ats.monoX e h r)
  | _, _, .tup n q r => .tup n (e _ _ (fun m => n (h _ m)) q) (Ats.monoX e h r)
  | _, _, .emp n q => .emp n (e _ _ (fun m => n (h _ m)) q)
theorem Ats.monoX (e : Rx X H H') (h : ∀ x ∈ X, x ∈ S) : ∀ {vs : List V} {ds : List PyData}, Ats S H vs ds → Ats S H' vs ds
  | _, _, .nil => .nil
  | _, _, .cons q r => .cons (At.monoX e h q) (Ats.monoX e h r)
end
/-- a list of one's own -/
structure Own (A : Addr) (p : Addr × Addr) (S : List Addr) (H : Hp) (ds : List PyData) : Prop where
  pen : Pen p (A :: S) H
  ls : ∃ xs, H A = some (.lst xs) ∧ Ats (A :: S) H xs ds
theorem Own.new (P : Pen p S H) (h : H A = none) : Own A p S (upd H A (.lst [])) [] := ⟨(P.new h).more ⟨_, upd_same⟩, [], upd_same, .nil⟩
theorem Own.rl {ds : List PyData} (o : Own A p S H ds) (np : A ≠ p.1) (e : Rl b p H H') (P : Pen p (A :: S) H') : Own A p S H' ds :=
  let ⟨xs, h, r⟩ := o.ls
  ⟨P, xs, e _ _ (fun _ => np) h, r.mono e o.pen.mem⟩
/-- finished: it is data -/
theorem Own.done {ds : List PyData} (o : Own A p S H ds) (na : A ∉ S) : At S H (.ref A) (.list ds) := let ⟨xs, h, r⟩ := o.ls; .lst na h r.less
theorem Pen.tail (P : Pen p (A :: S) H) (m : p.1 ∈ S) (m2 : p.2 ∈ S) : Pen p S H := ⟨P.pen, P.ne2, m, m2, fun s hs => P.all s (List.mem_cons_of_mem _ hs)⟩
end
section
variable {X Y : List Addr} {K : PySem.W.Frag} {b : Bool} {p : Addr × Addr} {S : List Addr} {σ : L2.St} {H H1 H2 H' : Hp} {A : Addr} {ta tb tc te tl : TE} {D : Ends} {body : TS} {ds es : List PyData} {d : PyData}
theorem s_forTX {g : TG} (h : Ev b p S tl σ H fun z => z = .tuple ds) (P : Pen p S H) (hX : ∀ x ∈ X, x ∈ S) (I : Hp → Nat → L2.St → Hp → Prop) (h0 : ∀ H1, Rl b p H H1 → Pen p S H1 → I H1 0 σ H1) (hk : ∀ H1 i σ' H', I H1 i σ' H' → Rx X H1 H')
    (hs : ∀ H1, Rl b p H H1 → Pen p S H1 → ∀ (i : Nat) (d : PyData) (v : V) (σ' : L2.St) (H' : Hp), ds[i]? = some d → I H1 i σ' H' → At S H' v d → g v σ' H' fun σ2 H2 => body { D with nx := I H1 (i + 1), ct := I H1 (i + 1), bk := D.nx } σ2 H2)
    (hd : ∀ H1 σ' H', Rl b p H H1 → I H1 ds.length σ' H' → D.nx σ' H') : tFor (iTup K tl) g body D σ H := by
  refine h H Rl.refl P _ fun v H1 d e1 P1 a1 r1 => ?_
  subst r1
  obtain ⟨a, xs, rfl, na, ha, ra⟩ := a1.tup_inv
  have nx : a ∉ X := fun q => na (hX _ q)
  refine ⟨a, rfl, ⟨xs, SqT.of ha⟩, for_tup (K := K) (a := a) (xs := xs) (I H1) (h0 H1 e1 P1) (fun i σ' H' _ q => SqT.of (hk _ _ _ _ q _ _ nx ha)) (fun i x σ' H' hx q => ?_) fun σ' H' q => hd H1 σ' H' e1 (ra.length ▸ q)⟩
  obtain ⟨d, hd', ad⟩ := ra.get hx
  exact hs H1 e1 P1 i d x σ' H' hd' q (ad.monoX (hk _ _ _ _ q) hX)
theorem s_forLX {g : TG} (h : Ev b p S tl σ H fun z => z = .list ds) (P : Pen p S H) (hX : ∀ x ∈ X, x ∈ S) (I : Hp → Nat → L2.St → Hp → Prop) (h0 : ∀ H1, Rl b p H H1 → Pen p S H1 → I H1 0 σ H1) (hk : ∀ H1 i σ' H', I H1 i σ' H' → Rx X H1 H')
    (hs : ∀ H1, Rl b p H H1 → Pen p S H1 → ∀ (i : Nat) (d : PyData) (v : V) (σ' : L2.St) (H' : Hp), ds[i]? = some d → I H1 i σ' H' → At S H' v d → g v σ' H' fun σ2 H2 => body { D with nx := I H1 (i + 1), ct := I H1 (i + 1), bk := D.nx } σ2 H2)
    (hd : ∀ H1 σ' H', Rl b p H H1 → I H1 ds.length σ' H' → D.nx σ' H') : tFor (iList K tl) g body D σ H := by
  refine h H Rl.refl P _ fun v H1 d e1 P1 a1 r1 => ?_
  subst r1
  obtain ⟨a, xs, rfl, na, ha, ra⟩ := a1.lst_inv
  have nx : a ∉ X := fun q => na (hX _ q)
  refine ⟨a, rfl, ⟨xs, SqL.of ha⟩, for_list (K := K) (a := a) (xs := xs) (I H1) (h0 H1 e1 P1) (fun i σ' H' _ q => SqL.of (hk _ _ _ _ q _ _ nx ha)) (fun i x σ' H' hx q => ?_) fun σ' H' q => hd H1 σ' H' e1 (ra.length ▸ q)⟩
  obtain ⟨d, hd', ad⟩ := ra.get hx
  exact hs H1 e1 P1 i d x σ' H' hd' q (ad.monoX (hk _ _ _ _ q) hX)
theorem s_forRX {t : TA} {Z : Int → Prop} {g : TG} (h : EvA b p S t σ H fun zs => ∃ n, zs = [.int n] ∧ Z n) (hn : ∀ n, Z n → n ≤ 1000000 ∧ -1000000 ≤ n) (P : Pen p S H) (I : Hp → Int → Nat → L2.St → Hp → Prop) (h0 : ∀ H1 n, Z n → Rl b p H H1 → Pen p S H1 → I H1 n 0 σ H1)
    (hs : ∀ H1 n, Z n → Rl b p H H1 → Pen p S H1 → ∀ (i : Nat) (σ' : L2.St) (H' : Hp), (i : Int) < n → I H1 n i σ' H' → g (.int (i : Int)) σ' H' fun σ2 H2 => body { D with nx := I H1 n (i + 1), ct := I H1 n (i + 1), bk := D.nx } σ2 H2)
    (hd : ∀ H1 n σ' H', Z n → Rl b p H H1 → I H1 n n.toNat σ' H' → D.nx σ' H') : tFor (iRng1 t) g body D σ H := by
  refine h H Rl.refl P _ fun vs H1 zs e1 P1 a1 r1 => ?_
  obtain ⟨n, rfl, zn⟩ := r1
  obtain ⟨v, rfl, av⟩ := a1.one
  cases av
  have := hn n zn
  refine ⟨n, rfl, by omega, by omega, for_range (lo := 0) (n := n.toNat) (I H1 n) (h0 H1 n zn e1 P1) (fun i σ' H' hi q => ?_) fun σ' H' q => hd H1 n σ' H' zn e1 q⟩
  have e0 : (0 : Int) + (i : Int) = (i : Int) := Int.zero_add _
  rw [e0]
  exact hs H1 n zn e1 P1 i σ' H' (by omega) q
/-- x = [] -/
theorem s_newL {i : Nat} (P : Pen p S H) (k : ∀ A, H A = none → Own A p S (upd H A (.lst [])) [] → D.nx (σ.set i (some (.ref A))) (upd H A (.lst []))) : tAsg (tLst tNil) (gName i) D σ H :=
  ⟨Nat.zero_le _, fun a ha => k a ha (Own.new P ha)⟩
/-- x.append(e) -/
theorem s_appL {i : Nat} {R : PyData → Prop} (hs : σ[i]? = some (some (.ref A))) (o : Own A p S H ds) (np : A ≠ p.1) (np2 : A ≠ p.2) (hl : ds.length < 100000) (he : Ev b p (A :: S) te σ H R) (k : ∀ H1 d, Rx (A :: if b then [p.1] else []) H H1 → Own A p S H1 (ds ++ [d]) → R d → D.nx σ H1) :
    tDrop (tBM K "list" rAppend (tVar i) (tCons te tNil)) D σ H := by
  obtain ⟨xs, h, r⟩ := o.ls
  refine ⟨_, hs, .inl ⟨rfl, xs, SqL.of h⟩, he H Rl.refl o.pen _ fun v H1 d e1 P1 a1 r1 => ?_⟩
  have h1 := e1 _ _ (fun _ => np) h
  have r' := r.mono e1 o.pen.mem
  refine ⟨A, xs, v, rfl, rfl, h1, by rw [r.length]; exact Nat.lt_of_lt_of_le hl (by decide), k _ d (Rx.trans (Rx.of e1 fun q => ?_) (Rx.put List.mem_cons_self)) ⟨P1.put np np2, xs ++ [v], upd_same, Ats.put List.mem_cons_self (r'.snoc a1)⟩ r1⟩
  subst q
  exact List.mem_cons_of_mem _ List.mem_cons_self
/-- x.extend(e) -/
theorem s_extL {i : Nat} (hs : σ[i]? = some (some (.ref A))) (o : Own A p S H ds) (np : A ≠ p.1) (np2 : A ≠ p.2) (hl : ds.length + es.length ≤ 100000) (he : Ev b p (A :: S) te σ H fun z => z = .list es) (k : ∀ H1, Rx (A :: if b then [p.1] else []) H H1 → Own A p S H1 (ds ++ es) → D.nx σ H1) :
    tDrop (tBM K "list" rExtend (tVar i) (tCons te tNil)) D σ H := by
  obtain ⟨xs, h, r⟩ := o.ls
  refine ⟨_, hs, .inl ⟨rfl, xs, SqL.of h⟩, he H Rl.refl o.pen _ fun v H1 d e1 P1 a1 r1 => ?_⟩
  subst r1
  obtain ⟨c, ys, rfl, nc, hc, rc⟩ := a1.lst_inv
  have h1 := e1 _ _ (fun _ => np) h
  have r' := r.mono e1 o.pen.mem
  refine ⟨A, c, xs, ys, rfl, rfl, h1, hc, by rw [r.length, rc.length]; exact Nat.le_trans hl (by decide), k _ (Rx.trans (Rx.of e1 fun q => ?_) (Rx.put List.mem_cons_self)) ⟨P1.put np np2, xs ++ ys, upd_same, Ats.put List.mem_cons_self (r'.append rc)⟩⟩
  subst q
  exact List.mem_cons_of_mem _ List.mem_cons_self
end
end Mv
namespace Mv
open PySem PySem.Spec PyProof.Rows L2 He
/-! ### all contents of a house -/
def cRow (r : List Int) : PyData := .tuple (r.map PyData.int)
def cStep (acc : List (List Int)) (z : Int) : List (List Int) := acc.flatMap fun r => (List.range z.toNat).map fun (v : Nat) => r ++ [(v : Int)]
def contL (zs : List Int) : List (List Int) := zs.foldl cStep [[]]
def conts (zs : List Int) : List PyData := (contL zs).map cRow
/-- the sizes that come -/
def okZ : List (List Int) := [[2], [3], [2, 2], [4], [3, 2], [2, 3], [6]]
theorem okZ_small {zs : List Int} (h : zs ∈ okZ) : ∀ k, k ≤ zs.length → (contL (zs.take k)).length ≤ 6 := by
  have : ∀ zs ∈ okZ, ∀ k, k ≤ zs.length → (contL (zs.take k)).length ≤ 6 := by decide
  exact this zs h
theorem okZ_pos {zs : List Int} (h : zs ∈ okZ) : ∀ z ∈ zs, 2 ≤ z ∧ z ≤ 6 := by
  have : ∀ zs ∈ okZ, ∀ z ∈ zs, 2 ≤ z ∧ z ≤ 6 := by decide
  exact this zs h
theorem okZ_len {zs : List Int} (h : zs ∈ okZ) : 1 ≤ zs.length ∧ zs.length ≤ 2 := by
  have : ∀ zs ∈ okZ, 1 ≤ zs.length ∧ zs.length ≤ 2 := by decide
  exact this zs h
theorem contL_step (zs : List Int) (z : Int) : contL (zs ++ [z]) = cStep (contL zs) z := by
  unfold contL
  rw [List.foldl_append]
  rfl
section
variable {b : Bool} {p : Addr × Addr} {S : List Addr} {σ : L2.St} {H H' : Hp} {te : TE} {t : TA} {vs : List Nat} {n : Int} {j : Nat}
theorem ev_lcRK {g : PyData → PyData} (h : EvA b p S t σ H fun zs => zs = [.int n]) (hz : n ≤ 100000) (hz0 : -100000 ≤ n) (hw : ∀ x, wipe ((wipe σ vs).set j (some x)) vs = wipe σ vs)
    (he : ∀ A H0, Rl b p H H0 → Pen p S H0 → H0 A = none → ∀ (i : Nat) (H' : Hp), (i : Int) < n → Rl b p H0 H' → Pen p (A :: S) H' → Ev b p (A :: S) te ((wipe σ vs).set j (some (.int (i : Int)))) H' fun z => z = g (.int (i : Int))) :
    Ev b p S (tLc (iRng1 t) (gName j) tYes te vs) σ H fun z => z = .list ((rngD n.toNat).map g) :=
  (ev_lcR (Z := fun _ k => k = true) (E := fun d z => z = g d) h hz hz0 hw (fun A H0 e P hA i H' hi e2 P2 H3 e3 P3 Q q => q true H3 Rl.refl P3 rfl) fun A H0 e P hA i H' hi e2 P2 _ => he A H0 e P hA i H' hi e2 P2).imp fun z ⟨zs, e, c⟩ => by rw [e, cmp_map c]
end
section
variable {P : Program} {w : World} {K : PySem.W.Frag} {mg : Str → Option Value} {base : Heap}

/-! ### _law_contents -/
abbrev N__law_contents : List Str := ["_law_house", "_law_found", "_law_size", "_law_rows", "_law_row", "_law_value"]
theorem sc__law_contents : FnScope N__law_contents ["_law_house"] (defScope (top 182)) := ⟨rfl, rfl, rfl, by decide +kernel, rfl, by decide +kernel, by decide +kernel⟩
def f_conts : List PyData → PyData
  | [h] => .list (conts (hou h).zs)
  | _ => .none
def PreZ (ds : List PyData) : Prop := ∃ h, ds = [Hou.d h] ∧ h.zs ∈ okZ
theorem contL_short {zs : List Int} (h : zs ∈ okZ) {k : Nat} (hk : k ≤ zs.length) {r : List Int} (hr : r ∈ contL (zs.take k)) : r.length ≤ 1000 := by
  have : ∀ zs ∈ okZ, ∀ k, k ≤ zs.length → ∀ r ∈ contL (zs.take k), r.length ≤ 1000 := by decide
  exact this zs h k hk r hr
theorem cStep_take (acc : List (List Int)) (j : Nat) (z : Int) : (cStep (acc.take j) z).length ≤ (cStep acc z).length := by
  conv => rhs; rw [← List.take_append_drop j acc]
  unfold cStep
  rw [List.flatMap_append, List.length_append]
  exact Nat.le_add_right _ _
theorem D__law_contents (T : Top K mg) : Dn P w K mg base "_law_contents" 1 ["_law_house"] (spF false 1 f_conts PreZ) := by
  refine T.dn 30 rfl rfl sc__law_contents (fun _ _ _ _ _ _ us h => match us, h with | [_], _ => rfl) rfl fun f cdv A outer s p S H ds vs Q hr a l Pn pr q => ?_
  refine ⟨_, pss_cons (ps_set (i := 1) sc__law_contents.nd rfl (Or.inl rfl) (pe_lst (pa_cons (pe_tup pa_nil) pa_nil)))
    (pss_cons (ps_for PassesOwn.never rfl (pi_tup (pe_ix ix_seq (pv 0) pe_int (fun _ _ => rfl))) (pg_name (i := 2) sc__law_contents.nd rfl (Or.inl rfl))
      (pss_cons (ps_set (i := 3) sc__law_contents.nd rfl (Or.inl rfl) (pe_lst pa_nil))
      (pss_cons (ps_for PassesOwn.never rfl (pi_list (pv 1)) (pg_name (i := 4) sc__law_contents.nd rfl (Or.inr rfl))
        (pss_one (ps_expr (pe_bm PySem.F.plainAttrs_list PySem.F.slot_list_extend PySem.F.type_list_extend mt_extend (pv 3) (pa_cons (pe_lc (own := [("_law_value", 5)]) rfl sc__law_contents.nd (pi_range1 (by rfl) T.f_range (pa_cons (pv 2) pa_nil)) (blkOk_by (N := N__law_contents) (sc := defScope (top 182)) (by decide +kernel)) (fun _ _ _ _ _ => (pg_name (i := 5) sc__law_contents.nd rfl (Or.inl rfl))) (fun _ _ _ _ _ => pts_nil) (fun _ _ _ _ _ => (pe_op (op_catAk (K := K) rfl) (pv 4) (pe_tup (pa_cons (pv 5) pa_nil))))) pa_nil)))))
      (pss_one (ps_set (i := 1) sc__law_contents.nd rfl (Or.inl rfl) (pv 3))))))
    (pss_one (ps_ret (pv 1)))), ?_⟩
  obtain ⟨h, rfl, hz⟩ := pr
  obtain ⟨v, rfl, a1⟩ := a.one
  have Hz : Ev false p S (tOp (rIx K) (tVar 0) (tC (.int 0))) [some v, none, none, none, none, none] H fun z => z = .tuple (h.zs.map PyData.int) := ev_ixN (j := 0) (ev_var rfl a1) ev_int rfl rfl
  refine s_asgK (b := false) (d := .list [cRow []]) (ev_lstK (ea_one (ev_tupK ea_nil))) Pn fun f1 H1 e1 P1 a1' => ?_
  dsimp only
  refine s_forTX (b := false) (X := []) (ds := h.zs.map PyData.int) (ev_ixN (j := 0) (ev_var rfl (a1.mono e1 Pn.mem)) ev_int rfl rfl) P1 (fun x hx => nomatch hx) (fun H2 i σ' H' => (∃ f x2 x3 x4, σ' = [some v, some f, x2, x3, x4, none] ∧ At S H' f (.list ((contL (h.zs.take i)).map cRow))) ∧ Rx [] H2 H' ∧ Pen p S H')
    (fun H2 e2 P2 => ⟨⟨f1, none, none, none, rfl, a1'.mono e2 P1.mem⟩, Rx.refl, P2⟩) (fun _ _ _ _ q => q.2.1) (fun H2 e2 P2 i d v' σ' H' hd hI av => ?_) fun H2 σ' H' e2 hI => ?_
  · obtain ⟨⟨f, x2, x3, x4, rfl, af⟩, e3, P3⟩ := hI
    rw [List.getElem?_map] at hd
    cases hzi : h.zs[i]? with
    | none => rw [hzi] at hd; cases hd
    | some z =>
      rw [hzi] at hd
      cases hd
      cases av
      have hil : i < h.zs.length := (List.getElem?_eq_some_iff.mp hzi).1
      have z6 := okZ_pos hz z (List.mem_of_getElem? hzi)
      have hs := okZ_small hz (i + 1) hil
      have hs0 := okZ_small hz i (by omega)
      have htk : h.zs.take (i + 1) = h.zs.take i ++ [z] := take_succ_of hzi
      rw [htk, contL_step] at hs
      refine s_newL P3 fun A hA o => ?_
      dsimp only
      have nA : A ∉ S := P3.ne hA
      have np : A ≠ p.1 := P3.nep hA
      have np2 : A ≠ p.2 := fun e => nA (e ▸ P3.mem2)
      have af' : At (A :: S) (upd H' A (.lst [])) f (.list ((contL (h.zs.take i)).map cRow)) := (af.avoid hA).monoX (X := []) (Rx.new hA) (fun x hx => nomatch hx)
      refine s_forLX (b := false) (X := [A]) (S := A :: S) (ds := (contL (h.zs.take i)).map cRow) (ev_var rfl af') o.pen (fun x hx => by rw [List.mem_singleton.mp hx]; exact List.mem_cons_self)
        (fun H4 j σ2 H5 => (∃ x4, σ2 = [some v, some f, some (.int z), some (.ref A), x4, none]) ∧ Rx [A] H4 H5 ∧ Own A p S H5 ((cStep ((contL (h.zs.take i)).take j) z).map cRow)) (fun H4 e4 P4 => ⟨⟨_, rfl⟩, Rx.refl, o.rl np e4 P4⟩) (fun _ _ _ _ q => q.2.1) (fun H4 e4 P4 j d v2 σ2 H5 hd hJ ad => ?_) fun H4 σ2 H5 e4 hJ => ?_
      · obtain ⟨⟨x, rfl⟩, e5, o5⟩ := hJ
        rw [List.getElem?_map] at hd
        cases hrj : (contL (h.zs.take i))[j]? with
        | none => rw [hrj] at hd; cases hd
        | some r =>
          rw [hrj] at hd
          cases hd
          have hjl : j < (contL (h.zs.take i)).length := (List.getElem?_eq_some_iff.mp hrj).1
          have rl : r.length ≤ 1000 := contL_short hz (by omega) (List.mem_of_getElem? hrj)
          have hc : (cStep ((contL (h.zs.take i)).take j) z).length ≤ 6 := Nat.le_trans (cStep_take _ _ _) hs
          have hgt : cStep ((contL (h.zs.take i)).take (j + 1)) z = cStep ((contL (h.zs.take i)).take j) z ++ (List.range z.toNat).map fun (v : Nat) => r ++ [(v : Int)] := by
            rw [take_succ_of hrj]
            unfold cStep
            rw [List.flatMap_append]
            simp
          refine s_extL (b := false) (es := (rngD z.toNat).map fun d => .tuple (r.map PyData.int ++ [d])) rfl o5 np np2 (by rw [List.length_map, List.length_map, rngD_len]; omega) (ev_lcRK (g := fun d => .tuple (r.map PyData.int ++ [d])) (ea_one (ev_var rfl (.int z))) (by omega) (by omega) (fun _ => rfl) fun A2 H6 e6 P6 hA2 k H7 hk e7 P7 => ?_) fun H6 e6 o6 => ?_
          · have ad' : At (A2 :: A :: S) H7 v2 (cRow r) := At.through ad e6 P6 hA2 e7
            exact ev_catT (ev_var rfl ad') (ev_tupK (ea_one (ev_var rfl (.int _))) (by simp)) (by rw [List.length_map]; simp; omega)
          · refine ⟨⟨_, rfl⟩, e5.trans (by simpa using e6), ?_⟩
            have : (rngD z.toNat).map (fun d => PyData.tuple (r.map PyData.int ++ [d])) = ((List.range z.toNat).map fun (v : Nat) => r ++ [(v : Int)]).map cRow := by
              unfold rngD cRow
              rw [List.map_map, List.map_map]
              refine List.map_congr_left fun k _ => ?_
              show PyData.tuple _ = PyData.tuple _
              rw [List.map_append]
              rfl
            rw [hgt, List.map_append, ← this]
            exact o6
      · obtain ⟨⟨x, rfl⟩, e5, o5⟩ := hJ
        dsimp only
        rw [List.length_map, List.take_length] at o5
        have e35 : Rx [] H2 H5 := e3.trans (((Rx.new hA : Rx [A] H' _).trans ((Rx.of0 e4).trans e5)).drop hA)
        have P5 : Pen p S H5 := o5.pen.tail P3.mem P3.mem2
        refine s_asgK (b := false) (ev_var rfl (o5.done nA)) P5 fun v6 H6 e6 P6 a6 => ?_
        refine ⟨⟨v6, _, _, _, rfl, ?_⟩, e35.trans (Rx.of0 e6), P6⟩
        rw [htk, contL_step]
        exact a6
  · obtain ⟨⟨f, x2, x3, x4, rfl, af⟩, e3, P3⟩ := hI
    dsimp only
    rw [List.length_map, List.take_length] at af
    refine s_retK (b := false) (ev_var rfl af) P3 fun v4 H4 e4 P4 a4 => q _ _ _ (((e1.trans e2).trans e3.nil).trans e4) P4 a4 ?_
    rw [f_conts, hou_d]
    rfl

end
end Mv
namespace Mv
open PySem PySem.Spec PyProof.Rows L2 He
/-! ### steps, houses, rules -/
def isPl (zs : List Int) (d : PyData) : Prop := ∃ (w : Str) (c : Nat) (n z : Int), d = .tuple [.str w, .int (c : Int), .int n] ∧ (w = Str.ofString "set" ∨ w = Str.ofString "raise" ∨ w = Str.ofString "lower" ∨ w = Str.ofString "copy") ∧ zs[c]? = some z ∧ 0 ≤ n ∧ (w = Str.ofString "copy" → n < zs.length) ∧ (w ≠ Str.ofString "copy" → n < z)
def isSt (zs : List Int) (d : PyData) : Prop := isPl zs d ∨ ∃ (c : Nat) (lo hi : Int) (pl : PyData), d = .tuple [.str (Str.ofString "when"), .int (c : Int), .int lo, .int hi, pl] ∧ isPl zs pl ∧ c < zs.length
def isKi (zs : List Int) (d : PyData) : Prop := ∃ st, d = .tuple st ∧ st.length ≤ 60 ∧ ∀ s ∈ st, isSt zs s
structure Good (h : Hou) : Prop where
  zs : h.zs ∈ okZ
  bg : isCont h.zs h.bg = true
  k1 : 1 ≤ h.ks.length
  k5 : h.ks.length ≤ 5
  ks : ∀ k ∈ h.ks, isKi h.zs k
theorem Good.ok {h : Hou} (g : Good h) : h.Ok := ⟨by have := okZ_len g.zs; omega, by have := g.k5; omega, fun e => by have := g.zs; rw [e] at this; revert this; decide⟩
/-- a rule as the law draws it -/
def isRu (h : Hou) (d : PyData) : Prop := ∃ (m : Int) (a c : List PyData), d = .tuple [.int m, .tuple a, .tuple c] ∧ (∀ x ∈ a, isCont h.zs x = true) ∧ (∀ x ∈ c, isCont h.zs x = true) ∧ a.length ≤ 6 ∧ c.length ≤ 6 ∧ 0 ≤ m ∧ m ≤ h.ks.length
def areRu (h : Hou) (d : PyData) : Prop := ∃ rs, d = .tuple rs ∧ rs.length ≤ 3 ∧ ∀ r ∈ rs, isRu h r
theorem isDr_nat {n : Nat} {z : PyData} (h : isDr (n : Int) z) : ∃ c : Nat, z = .int (c : Int) ∧ c < n := by
  obtain ⟨i, rfl, l1, l2⟩ := h
  obtain ⟨c, rfl⟩ := Int.eq_ofNat_of_zero_le l1
  exact ⟨c, rfl, by omega⟩
section
variable {K : PySem.W.Frag} {b : Bool} {p : Addr × Addr} {S : List Addr} {σ : L2.St} {H H' : Hp} {te ta tb : TE} {t tr : TA} {D : Ends} {R R1 R2 : PyData → Prop} {Rs : List PyData → Prop} {ds : List PyData}
theorem s_par {i j : Nat} (h1 : Ev b p S ta σ H R1) (h2 : Ev b p S tb σ H R2) (P : Pen p S H) (k : ∀ v w H1 d e, Rl b p H H1 → Pen p S H1 → At S H1 v d → At S H1 w e → R1 d → R2 e → D.nx ((σ.set i (some v)).set j (some w)) H1) : tPar i j (tCons ta (tCons tb tNil)) D σ H :=
  h1 H Rl.refl P _ fun v H1 d e1 P1 a1 r1 => h2 H1 e1 P1 _ fun w H2 e e2 P2 a2 r2 => ⟨v, w, rfl, k v w H2 d e (e1.trans e2) P2 (a1.mono e2 P1.mem) a2 r1 r2⟩
theorem ea_1 (h : Ev b p S te σ H R) : EvA b p S (tCons te tNil) σ H fun zs => ∃ d, zs = [d] ∧ R d := ea_cons h ea_nil fun x xs h1 h2 => ⟨x, by rw [h2], h1⟩
theorem ea_m (h : Ev b p S te σ H R) (hr : EvA b p S tr σ H Rs) : EvA b p S (tCons te tr) σ H fun zs => ∃ d ds, zs = d :: ds ∧ R d ∧ Rs ds := ea_cons h hr fun x xs h1 h2 => ⟨x, xs, rfl, h1, h2⟩
/-- a conjunction of tests that are only partly known -/
theorem et_dr {i j : Nat} {c e : Int} (h1 : σ[i]? = some (some (.int c))) (h2 : σ[j]? = some (some (.int e))) : EvT b p S (tTest (tOp (rNeD K) (tVar i) (tVar j))) σ H fun x => x = !decide (c = e) :=
  (et_c (ev_neD (ev_var h1 (.int c)) (ev_var h2 (.int e)) rfl rfl)).imp fun x q => by rw [q]; rfl
theorem strD {x y : Str} : PyData.eqv (.str x) (.str y) = decide (x = y) := by simp [PyData.eqv]; rfl
end
section
variable {P : Program} {w : World} {K : PySem.W.Frag} {mg : Str → Option Value} {base : Heap}

/-! ### _law_plain -/
abbrev N__law_plain : List Str := ["_law_pen_here", "_law_sizes", "_law_other", "_law_word", "_law_cell"]
theorem sc__law_plain : FnScope N__law_plain ["_law_pen_here", "_law_sizes"] (defScope (top 173)) := ⟨rfl, rfl, rfl, by decide +kernel, rfl, by decide +kernel, by decide +kernel⟩
def Pre_zs (ds : List PyData) : Prop := ∃ zs : List Int, ds = [.tuple (zs.map PyData.int)] ∧ zs ∈ okZ
def R_plain (ds : List PyData) (d : PyData) : Prop := ∃ zs : List Int, ds = [.tuple (zs.map PyData.int)] ∧ isPl zs d
theorem D__law_plain (T : Top K mg) : Dn P w K mg base "_law_plain" 4 ["_law_pen_here", "_law_sizes"] (spP 1 R_plain Pre_zs) := by
  refine T.dnP 21 rfl rfl sc__law_plain (fun _ _ _ _ _ _ us h => match us, h with | [_, _], _ => rfl) rfl fun f cdv A outer s p S H ds vs Q E hr a l Pn pr q => ?_
  refine ⟨_, pss_cons (ps_par (i := 4) (j := 3) (by rfl) sc__law_plain.nd rfl rfl (by decide) rfl rfl (pa_cons (pe_dn ((D__law_draw T).up (by decide)) hr (by rfl) (pa_cons (pv 0) (pa_cons (pe_len (by rfl) T.f_len (pv 1)) pa_nil))) (pa_cons (pe_dn ((D__law_one_of T).up (by decide)) hr (by rfl) (pa_cons (pv 0) (pa_cons (pe_lst (pa_cons pe_str (pa_cons pe_str (pa_cons pe_str (pa_cons pe_str pa_nil))))) pa_nil))) pa_nil)) (by rfl))
    (pss_cons (ps_set (i := 2) sc__law_plain.nd rfl (Or.inl rfl) (pe_dn ((D__law_draw T).up (by decide)) hr (by rfl) (pa_cons (pv 0) (pa_cons (pe_len (by rfl) T.f_len (pv 1)) pa_nil))))
    (pss_cons (ps_if (PW.pt (pw_and (pt_cmpR (op_eqD (hu_64 hr)) (pv 3) pe_str (nomark _)) (pw_and1 (pt_cmpR (op_neD (hu_64 hr)) (pv 2) (pv 4) (nomark _)))))
      (pss_one (ps_ret (pe_tup (pa_cons (pv 3) (pa_cons (pv 4) (pa_cons (pv 2) pa_nil))))))
      (pss_nil))
    (pss_cons (ps_set (i := 3) sc__law_plain.nd rfl (Or.inl rfl) (pe_ifExp (pt_cmpR (op_eqD (hu_64 hr)) (pv 3) pe_str (nomark _)) pe_str (pv 3)))
    (pss_one (ps_ret (pe_tup (pa_cons (pv 3) (pa_cons (pv 4) (pa_cons (pe_dn ((D__law_draw T).up (by decide)) hr (by rfl) (pa_cons (pv 0) (pa_cons (pe_ix ix_seq (pv 1) (pv 4) (fun _ _ => rfl)) pa_nil))) pa_nil))))))))), ?_⟩
  obtain ⟨zs, rfl, hz⟩ := pr
  obtain ⟨v, rfl, a1⟩ := a.one
  have zl := okZ_len hz
  have Hz : Ev true p S (tVar 1) [some (.ref p.1), some v, none, none, none] H fun z => z = .tuple (zs.map PyData.int) := ev_var rfl a1
  have Hl : Ev true p S (tCB (rLenX K) (tCons (tVar 1) tNil)) [some (.ref p.1), some v, none, none, none] H fun z => z = .int (zs.length : Int) := ev_eq (ev_len Hz rfl) (by show PyData.int (((zs.map PyData.int).length : Nat) : Int) = _; rw [List.length_map])
  refine s_par (b := true) (ev_draw Hl rfl (by omega) (by omega)) (ev_one (d := .list [.str (Str.ofString "set"), .str (Str.ofString "raise"), .str (Str.ofString "lower"), .str (Str.ofString "copy")]) (ev_lstK (ea_more ev_str (ea_more ev_str (ea_two ev_str ev_str)))) rfl rfl (by decide) (by decide)) Pn fun v4 v3 H1 d4 d3 e1 P1 b4 b3 r4 r3 => ?_
  obtain ⟨c, rfl, hc⟩ := isDr_nat r4
  obtain ⟨x, rfl, hx⟩ : ∃ x, d3 = .str x ∧ (x = Str.ofString "set" ∨ x = Str.ofString "raise" ∨ x = Str.ofString "lower" ∨ x = Str.ofString "copy") := by
    simp only [items, List.mem_cons, List.not_mem_nil, or_false] at r3
    rcases r3 with rfl | rfl | rfl | rfl
    · exact ⟨_, rfl, .inl rfl⟩
    · exact ⟨_, rfl, .inr (.inl rfl)⟩
    · exact ⟨_, rfl, .inr (.inr (.inl rfl))⟩
    · exact ⟨_, rfl, .inr (.inr (.inr rfl))⟩
  cases b4
  cases b3
  have hs : PyData.strOk x = true := by
    rcases hx with rfl | rfl | rfl | rfl <;> decide +kernel
  have a1' := a1.mono e1 Pn.mem
  have Hz : Ev true p S (tVar 1) [some (.ref p.1), some v, none, some (.str x), some (.int c)] H1 fun z => z = .tuple (zs.map PyData.int) := ev_var rfl a1'
  have Hl : Ev true p S (tCB (rLenX K) (tCons (tVar 1) tNil)) [some (.ref p.1), some v, none, some (.str x), some (.int c)] H1 fun z => z = .int (zs.length : Int) := ev_eq (ev_len Hz rfl) (by show PyData.int (((zs.map PyData.int).length : Nat) : Int) = _; rw [List.length_map])
  dsimp only
  refine s_asg (b := true) (ev_draw Hl rfl (by omega) (by omega)) P1 fun v2 H2 d2 e2 P2 b2 r2 => ?_
  obtain ⟨o, rfl, ho⟩ := isDr_nat r2
  cases b2
  have a2' := a1'.mono e2 P1.mem
  obtain ⟨z, hzc⟩ : ∃ z, zs[c]? = some z := ⟨zs[c], List.getElem?_eq_getElem hc⟩
  have zb := okZ_pos hz z (List.mem_of_getElem? hzc)
  dsimp only
  refine s_ifK (b := true) (k := decide (x = Str.ofString "copy") && !decide ((o : Int) = (c : Int))) (et_andK (et_c (ev_eqW (ev_var rfl (.str x)) ev_str hs (by decide +kernel))) fun _ => et_dr rfl rfl) P2 (fun k H3 e3 P3 => ?_) (fun k H3 e3 P3 => ?_)
  · have hcp : x = Str.ofString "copy" := by
      rw [Bool.and_eq_true] at k
      exact of_decide_eq_true k.1
    refine s_retK (b := true) (ev_tupK (ea_more (ev_var rfl (.str x)) (ea_two (ev_var rfl (.int c)) (ev_var rfl (.int o)))) (by simp)) P3 fun v4 H4 e4 P4 a4 => q _ _ _ (((e1.trans e2).trans e3).trans e4) P4 a4 ⟨zs, rfl, x, c, o, z, rfl, hx, hzc, by omega, fun _ => by omega, fun n => absurd hcp n⟩
  · have e123 := (e1.trans e2).trans e3
    have a3' := a2'.mono e3 P2.mem
    dsimp only [tNext]
    refine s_asg (b := true) (R := fun z => ∃ y, z = .str y ∧ (y = Str.ofString "set" ∨ y = Str.ofString "raise" ∨ y = Str.ofString "lower")) (ev_ifK (et_c (ev_eqW (ev_var rfl (.str x)) ev_str hs (by decide +kernel))) (fun _ => ev_str.imp fun z e => ⟨_, e, .inl rfl⟩) fun k => (ev_var rfl (.str x)).imp fun z e => ⟨x, e, by
      rcases hx with h | h | h | h
      · exact .inl h
      · exact .inr (.inl h)
      · exact .inr (.inr h)
      · exact absurd h (of_decide_eq_false k)⟩) P3 fun v4 H4 d4 e4 P4 b4 r4 => ?_
    obtain ⟨y, rfl, hy⟩ := r4
    cases b4
    have a4' := a3'.mono e4 P3.mem
    dsimp only
    have Hy : Ev true p S (tOp (rIx K) (tVar 1) (tVar 4)) [some (.ref p.1), some v, some (.int o), some (.str y), some (.int c)] H4 fun w => w = .int z := ev_ixN (j := c) (ev_var rfl a4') (ev_var rfl (.int _)) rfl (by show (zs.map PyData.int)[c]? = _; rw [List.getElem?_map, hzc]; rfl)
    refine s_ret (b := true) (ev_tup (Rs := fun zs' => ∃ n : Int, zs' = [.str y, .int (c : Int), .int n] ∧ 0 ≤ n ∧ n < z) ((ea_m (ev_var rfl (.str y)) (ea_m (ev_var rfl (.int (c : Int))) (ea_1 (ev_draw Hy rfl (by omega) (by omega))))).imp fun zs' ⟨d1, _, e1, r1, d2, _, e2, r2, d3, e3, n, e4, l1, l2⟩ => ⟨n, by rw [e1, e2, e3, e4, r1, r2], l1, l2⟩) fun zs' ⟨n, e, _⟩ => by rw [e]; simp) P4 fun v5 H5 d5 e5 P5 a5 r5 => ?_
    obtain ⟨_, rfl, n, rfl, l1, l2⟩ := r5
    refine q _ _ _ ((e123.trans e4).trans e5) P5 a5 ⟨zs, rfl, y, c, n, z, rfl, ?_, hzc, l1, fun h => ?_, fun _ => l2⟩
    · rcases hy with h | h | h
      · exact .inl h
      · exact .inr (.inl h)
      · exact .inr (.inr (.inl h))
    · rcases hy with h2 | h2 | h2
      · rw [h2] at h; exact absurd h (by decide +kernel)
      · rw [h2] at h; exact absurd h (by decide +kernel)
      · rw [h2] at h; exact absurd h (by decide +kernel)

end
end Mv
namespace Mv
open PySem PySem.Spec PyProof.Rows L2 He
section
variable {K : PySem.W.Frag} {b : Bool} {p : Addr × Addr} {S : List Addr} {σ : L2.St} {H H' : Hp} {te ta tb : TE} {t tr : TA} {D : Ends} {R R1 R2 : PyData → Prop} {Rs : List PyData → Prop} {ds : List PyData} {d : PyData} {m : Int} {tt : TT} {vs : List Nat} {j : Nat}
/-- a test of a draw: any answer -/
theorem et_any {n : Int} (h : Ev b p S te σ H (isDr m)) : EvT b p S (tTest (tOp (rEqD K) te (tC (.int n)))) σ H fun _ => True :=
  et_test ((ev_op (R2 := fun z => z = .int n) (R := fun z => ∃ k, z = .bool k) h ev_int fun d1 e1 h1 h2 x y H1 P a1 a2 Q q => by
    obtain ⟨i, rfl, _⟩ := h1
    subst h2
    exact ⟨.int i, .int n, a1.dp rfl, a2.dp rfl, rfl, rfl, q _ H1 _ Rl.refl P (.bl _) ⟨_, rfl⟩⟩).imp fun z ⟨k, e⟩ => ⟨k, e, trivial⟩)
theorem ev_lcRN {Zn : Int → Prop} {Z : PyData → Bool → Prop} {E : PyData → PyData → Prop} (h : EvA b p S t σ H fun zs => ∃ n, zs = [.int n] ∧ Zn n) (hz : ∀ n, Zn n → n ≤ 100000 ∧ -100000 ≤ n) (hw : ∀ x, wipe ((wipe σ vs).set j (some x)) vs = wipe σ vs)
    (ht : ∀ A H0, Rl b p H H0 → Pen p S H0 → H0 A = none → ∀ (i : Nat) (H' : Hp), Rl b p H0 H' → Pen p (A :: S) H' → EvT b p (A :: S) tt ((wipe σ vs).set j (some (.int (i : Int)))) H' (Z (.int (i : Int))))
    (he : ∀ A H0, Rl b p H H0 → Pen p S H0 → H0 A = none → ∀ (i : Nat) (H' : Hp), Rl b p H0 H' → Pen p (A :: S) H' → Z (.int (i : Int)) true → Ev b p (A :: S) te ((wipe σ vs).set j (some (.int (i : Int)))) H' (E (.int (i : Int)))) :
    Ev b p S (tLc (iRng1 t) (gName j) tt te vs) σ H (fun z => ∃ n zs, Zn n ∧ z = .list zs ∧ Cmp Z E (rngD n.toNat) zs) := fun H0 e P Q q => h H0 e P _ fun xs H1 z e1 P1 a1 r1 => by
  obtain ⟨n, rfl, zn⟩ := r1
  obtain ⟨v, rfl, av⟩ := a1.one
  cases av
  have hzn := hz n zn
  refine ⟨n, rfl, by omega, by omega, fun A hA => ?_⟩
  refine lc_range (lo := 0) (n := n.toNat) (Qd := Q (.ref A)) (fun i H' => Cv b p S H1 A Z E ((rngD n.toNat).take i) H') (by rw [List.take_zero]; exact cv_start hA P1) (fun i H' hi c => ?_) fun H' c => ?_
  · have e0 : (0 : Int) + (i : Int) = (i : Int) := Int.zero_add _
    rw [e0]
    refine ⟨hw _, ?_⟩
    rw [take_succ_of (rngD_get hi)]
    exact cv_turn hA P1 (by rw [List.length_take, rngD_len]; omega) c (ht A H1 (e.trans e1) P1 hA i H' c.1 c.2.1) fun hzt H2 e2 P2 => he A H1 (e.trans e1) P1 hA i H2 (c.1.trans e2) P2 hzt
  · rw [List.take_of_length_le (by rw [rngD_len]; exact Nat.le_refl _)] at c
    obtain ⟨g1, g2, zs, g3, g4⟩ := cv_end hA P1 c
    exact q _ _ _ (e1.trans g1) g2 g3 ⟨n, zs, zn, rfl, g4⟩
theorem allNum_snoc : ∀ {ds : List PyData} {ns : List Int} {d : PyData} {n : Int}, allNum ds ns = true → isNum d n = true → allNum (ds ++ [d]) (ns ++ [n]) = true
  | [], [], d, n, _, h => by simp [allNum, h]
  | e :: ds, k :: ns, d, n, h, h2 => by
    rw [allNum, Bool.and_eq_true] at h
    show (isNum e k && allNum (ds ++ [d]) (ns ++ [n])) = true
    rw [h.1, allNum_snoc h.2 h2]
    rfl
  | [], _ :: _, _, _, h, _ => by simp [allNum] at h
  | _ :: _, [], _, _, h, _ => by simp [allNum] at h
theorem cmp_cont {ds out : List PyData} (c : Cmp (fun _ k => k = true) (fun d z => isDr (unInt d) z) ds out) : allNum out (ds.map unInt) = true := by
  induction c with
  | nil => rfl
  | skip _ h => cases h
  | take _ _ e ih =>
    rw [List.map_append]
    refine allNum_snoc ih ?_
    obtain ⟨i, rfl, l1, l2⟩ := e
    show (decide (0 ≤ i) && decide (i < _)) = true
    rw [decide_eq_true l1, decide_eq_true l2]
    rfl
end
section
variable {P : Program} {w : World} {K : PySem.W.Frag} {mg : Str → Option Value} {base : Heap}

/-! ### _law_step -/
abbrev N__law_step : List Str := ["_law_pen_here", "_law_sizes", "_law_found", "_law_cell", "_law_low"]
theorem sc__law_step : FnScope N__law_step ["_law_pen_here", "_law_sizes"] (defScope (top 174)) := ⟨rfl, rfl, rfl, by decide +kernel, rfl, by decide +kernel, by decide +kernel⟩
def R_step (ds : List PyData) (d : PyData) : Prop := ∃ zs : List Int, ds = [.tuple (zs.map PyData.int)] ∧ isSt zs d
theorem zs_inj {zs zs' : List Int} {r r' : List PyData} (h : PyData.tuple (zs.map PyData.int) :: r = PyData.tuple (zs'.map PyData.int) :: r') : zs = zs' := by
  have h1 := (List.cons.inj h).1
  have h2 : zs.map PyData.int = zs'.map PyData.int := PyData.tuple.inj h1
  have := congrArg (List.map unInt) h2
  rwa [unInts, unInts] at this
theorem D__law_step (T : Top K mg) : Dn P w K mg base "_law_step" 5 ["_law_pen_here", "_law_sizes"] (spP 1 R_step Pre_zs) := by
  refine T.dnP 22 rfl rfl sc__law_step (fun _ _ _ _ _ _ us h => match us, h with | [_, _], _ => rfl) rfl fun f cdv A outer s p S H ds vs Q E hr a l Pn pr q => ?_
  refine ⟨_, pss_cons (ps_set (i := 2) sc__law_step.nd rfl (Or.inl rfl) (pe_dn ((D__law_plain T).up (by decide)) hr (by rfl) (pa_cons (pv 0) (pa_cons (pv 1) pa_nil))))
    (pss_cons (ps_if (pt_cmpR (op_eqD (hu_64 hr)) (pe_dn ((D__law_draw T).up (by decide)) hr (by rfl) (pa_cons (pv 0) (pa_cons pe_int pa_nil))) pe_int (nomark _))
      (pss_one (ps_ret (pv 2)))
      (pss_nil))
    (pss_cons (ps_set (i := 3) sc__law_step.nd rfl (Or.inl rfl) (pe_dn ((D__law_draw T).up (by decide)) hr (by rfl) (pa_cons (pv 0) (pa_cons (pe_len (by rfl) T.f_len (pv 1)) pa_nil))))
    (pss_cons (ps_set (i := 4) sc__law_step.nd rfl (Or.inl rfl) (pe_dn ((D__law_draw T).up (by decide)) hr (by rfl) (pa_cons (pv 0) (pa_cons (pe_ix ix_seq (pv 1) (pv 3) (fun _ _ => rfl)) pa_nil))))
    (pss_one (ps_ret (pe_tup (pa_cons pe_str (pa_cons (pv 3) (pa_cons (pv 4) (pa_cons (pe_op op_add (pv 4) (pe_dn ((D__law_draw T).up (by decide)) hr (by rfl) (pa_cons (pv 0) (pa_cons (pe_op op_sub (pe_ix ix_seq (pv 1) (pv 3) (fun _ _ => rfl)) (pv 4)) pa_nil)))) (pa_cons (pv 2) pa_nil))))))))))), ?_⟩
  obtain ⟨zs, rfl, hz⟩ := pr
  obtain ⟨v, rfl, a1⟩ := a.one
  have zl := okZ_len hz
  refine s_asg (b := true) (ev_p (ep_cons rfl (ea_one (ev_var rfl a1))) rfl ⟨zs, rfl, hz⟩) Pn fun v2 H1 d1 e1 P1 b2 r2 => ?_
  obtain ⟨zs', eq, hpl⟩ := r2
  have : zs' = zs := by
    have := congrArg (fun l => match l with | [PyData.tuple l] => l.map unInt | _ => []) eq
    simp only [unInts] at this
    exact this.symm
  subst this
  have a1' := a1.mono e1 Pn.mem
  dsimp only
  refine s_if (b := true) (et_any (ev_draw (m := 3) ev_int rfl (by decide) (by decide))) P1 (fun _ H2 e2 P2 => ?_) (fun _ H2 e2 P2 => ?_)
  · exact s_retK (b := true) ((ev_var rfl b2).mono e2) P2 fun v3 H3 e3 P3 a3 => q _ _ _ ((e1.trans e2).trans e3) P3 a3 ⟨_, rfl, .inl hpl⟩
  have a2' := a1'.mono e2 P1.mem
  have b2' := b2.mono e2 P1.mem
  have Hz : Ev true p S (tVar 1) [some (.ref p.1), some v, some v2, none, none] H2 fun z => z = .tuple (zs'.map PyData.int) := ev_var rfl a2'
  have Hl : Ev true p S (tCB (rLenX K) (tCons (tVar 1) tNil)) [some (.ref p.1), some v, some v2, none, none] H2 fun z => z = .int (zs'.length : Int) := ev_eq (ev_len Hz rfl) (by show PyData.int (((zs'.map PyData.int).length : Nat) : Int) = _; rw [List.length_map])
  dsimp only [tNext]
  refine s_asg (b := true) (ev_draw Hl rfl (by omega) (by omega)) P2 fun v3 H3 d3 e3 P3 b3 r3 => ?_
  obtain ⟨c, rfl, hc⟩ := isDr_nat r3
  cases b3
  obtain ⟨z, hzc⟩ : ∃ z, zs'[c]? = some z := ⟨zs'[c], List.getElem?_eq_getElem hc⟩
  have zb := okZ_pos hz z (List.mem_of_getElem? hzc)
  have a3' := a2'.mono e3 P2.mem
  have b3' := b2'.mono e3 P2.mem
  dsimp only
  refine s_asg (b := true) (ev_draw (m := z) (ev_ixN (j := c) (ev_var rfl a3') (ev_var rfl (.int _)) rfl (by show (zs'.map PyData.int)[c]? = _; rw [List.getElem?_map, hzc]; rfl)) rfl (by omega) (by omega)) P3 fun v4 H4 d4 e4 P4 b4 r4 => ?_
  obtain ⟨lo, rfl, l1, l2⟩ := r4
  cases b4
  have a4' := a3'.mono e4 P3.mem
  have b4' := b3'.mono e4 P3.mem
  dsimp only
  have Hs : Ev true p S (tOp (rI0 fun i j => .int (i - j)) (tOp (rIx K) (tVar 1) (tVar 3)) (tVar 4)) [some (.ref p.1), some v, some v2, some (.int c), some (.int lo)] H4 fun w => w = .int (z - lo) :=
    ev_I0 (i := z) (j := lo) (ev_ixN (j := c) (ev_var rfl a4') (ev_var rfl (.int _)) rfl (by show (zs'.map PyData.int)[c]? = _; rw [List.getElem?_map, hzc]; rfl)) (ev_var rfl (.int _)) fun H => .int _
  refine s_ret (b := true) (ev_tup (Rs := fun l => ∃ hi : Int, l = [.str (Str.ofString "when"), .int (c : Int), .int lo, .int hi, d1]) ((ea_m (R := fun z => z = .str (Str.ofString "when")) ev_str (ea_m (R := fun z => z = .int (c : Int)) (ev_var rfl (.int _)) (ea_m (R := fun z => z = .int lo) (ev_var rfl (.int _)) (ea_m (R := fun z => ∃ hi : Int, z = .int hi) ((ev_op (R1 := fun z => z = .int lo) (R2 := isDr (z - lo)) (R := fun z => ∃ hi : Int, z = .int hi) (ev_var rfl (.int _)) (ev_draw Hs rfl (by omega) (by omega)) fun d1 e1 h1 h2 x y H1 P a1 a2 Q q => by
      obtain ⟨i, rfl, _⟩ := h2
      subst h1
      cases a1
      cases a2
      exact ⟨_, _, rfl, rfl, q _ H1 _ Rl.refl P (.int _) ⟨_, rfl⟩⟩)) (ea_one (ev_var rfl b4')))))).imp fun l ⟨d1, _, e1, r1, d2, _, e2, r2, d3, _, e3, r3, d4, _, e4, ⟨hi, r4⟩, e5⟩ => ⟨hi, by rw [e1, e2, e3, e4, e5, r1, r2, r3, r4]⟩) fun l ⟨_, e⟩ => by rw [e]; simp) P4 fun v5 H5 d5 e5 P5 a5 r5 => ?_
  obtain ⟨_, rfl, hi, rfl⟩ := r5
  exact q _ _ _ ((((e1.trans e2).trans e3).trans e4).trans e5) P5 a5 ⟨_, rfl, .inr ⟨c, lo, hi, d1, rfl, hpl, hc⟩⟩

/-! ### _law_kind -/
abbrev N__law_kind : List Str := ["_law_pen_here", "_law_sizes", "_law_most", "_law_lap"]
theorem sc__law_kind : FnScope N__law_kind ["_law_pen_here", "_law_sizes", "_law_most"] (defScope (top 175)) := ⟨rfl, rfl, rfl, by decide +kernel, rfl, by decide +kernel, by decide +kernel⟩
def Pre_kind (ds : List PyData) : Prop := ∃ (zs : List Int) (mo : Int), ds = [.tuple (zs.map PyData.int), .int mo] ∧ zs ∈ okZ ∧ 0 ≤ mo ∧ mo ≤ 6
def R_kind (ds : List PyData) (d : PyData) : Prop := ∃ (zs : List Int) (mo : Int), ds = [.tuple (zs.map PyData.int), .int mo] ∧ isKi zs d
theorem D__law_kind (T : Top K mg) : Dn P w K mg base "_law_kind" 6 ["_law_pen_here", "_law_sizes", "_law_most"] (spP 2 R_kind Pre_kind) := by
  refine T.dnP 23 rfl rfl sc__law_kind (fun _ _ _ _ _ _ us h => match us, h with | [_, _, _], _ => rfl) rfl fun f cdv A outer s p S H ds vs Q E hr a l Pn pr q => ?_
  refine ⟨_, pss_one (ps_ret (pe_callTy cr_tupOf (by rfl) T.f_tuple bb_tuple (pa_cons (pe_lc (own := [("_law_lap", 3)]) rfl sc__law_kind.nd (pi_range1 (by rfl) T.f_range (pa_cons (pe_dn ((D__law_one_of T).up (by decide)) hr (by rfl) (pa_cons (pv 0) (pa_cons (pe_lst (pa_cons pe_int (pa_cons pe_int (pa_cons pe_int (pa_cons pe_int (pa_cons pe_int (pa_cons (pv 2) pa_nil))))))) pa_nil))) pa_nil)) (blkOk_by (N := N__law_kind) (sc := defScope (top 175)) (by decide +kernel)) (fun _ _ _ _ _ => (pg_name (i := 3) sc__law_kind.nd rfl (Or.inl rfl))) (fun _ _ _ _ _ => pts_nil) (fun _ _ _ _ _ => (pe_dn ((D__law_step T).up (by decide)) hr (by rfl) (pa_cons (pv 0) (pa_cons (pv 1) pa_nil))))) pa_nil))), ?_⟩
  obtain ⟨zs, mo, rfl, hz, m1, m2⟩ := pr
  obtain ⟨v, u, rfl, a1, a2⟩ := a.two
  cases a2
  refine s_ret (b := true) (ev_tupR (Rs := fun l => ∃ n : Int, n ≤ 6 ∧ l.length ≤ n.toNat ∧ ∀ s ∈ l, isSt zs s) ((ev_lcRN (Zn := fun n => 0 ≤ n ∧ n ≤ 6) (Z := fun _ k => k = true) (E := fun _ z => isSt zs z) ((ea_1 (ev_one (d := .list [.int 0, .int 1, .int 1, .int 2, .int 2, .int mo]) (ev_lstK (ea_more ev_int (ea_more ev_int (ea_more ev_int (ea_more ev_int (ea_two ev_int (ev_var rfl (.int mo))))))) (by simp)) rfl rfl (by simp [items]) (by simp [items]))).imp fun l ⟨d, e, hd⟩ => ?_) (fun n h => ⟨by omega, by omega⟩) (fun _ => rfl) (fun A H0 e P hA i H' e2 P2 H3 e3 P3 Q q => q true H3 Rl.refl P3 rfl) fun A H0 e P hA i H' e2 P2 _ => ?_).imp fun z ⟨n, l, zn, e, c⟩ => ⟨l, e, n, zn.2, ?_, ?_⟩)) Pn fun v2 H2 d2 e2 P2 b2 r2 => ?_
  · simp only [items, List.mem_cons, List.not_mem_nil, or_false] at hd
    rcases hd with rfl | rfl | rfl | rfl | rfl | rfl
    all_goals exact ⟨_, e, by omega, by omega⟩
  · have w1 : At (A :: S) H' v (.tuple (zs.map PyData.int)) := At.through a1 e P hA e2
    exact (ev_p (ep_cons rfl (ea_one (ev_var rfl w1))) rfl ⟨zs, rfl, hz⟩).imp fun z ⟨zs', eq, hs⟩ => by
      rw [zs_inj eq]
      exact hs
  · have := c.le
    rwa [rngD_len] at this
  · intro s hs
    obtain ⟨_, _, _, h⟩ := c.all s hs
    exact h
  · obtain ⟨l, rfl, n, h6, hl, hs⟩ := r2
    exact q _ _ _ e2 P2 b2 ⟨zs, mo, rfl, l, rfl, by omega, hs⟩

/-! ### _law_house_of -/
abbrev N__law_house_of : List Str := ["_law_pen_here", "_law_sizes", "_law_many", "_law_begin", "_law_most", "_law_size", "_law_lap"]
theorem sc__law_house_of : FnScope N__law_house_of ["_law_pen_here", "_law_sizes", "_law_many"] (defScope (top 176)) := ⟨rfl, rfl, rfl, by decide +kernel, rfl, by decide +kernel, by decide +kernel⟩
def Pre_house (ds : List PyData) : Prop := ∃ (zs : List Int) (m : Int), ds = [.tuple (zs.map PyData.int), .int m] ∧ zs ∈ okZ ∧ 1 ≤ m ∧ m ≤ 3
def R_house (_ : List PyData) (d : PyData) : Prop := ∃ h : Hou, d = h.d ∧ Good h
theorem cmp_len {E : PyData → PyData → Prop} {ds zs : List PyData} (c : Cmp (fun _ k => k = true) E ds zs) : zs.length = ds.length := by
  induction c with
  | nil => rfl
  | skip _ h => cases h
  | take _ _ _ ih => rw [List.length_append, List.length_append, ih]; rfl
theorem D__law_house_of (T : Top K mg) : Dn P w K mg base "_law_house_of" 7 ["_law_pen_here", "_law_sizes", "_law_many"] (spP 2 R_house Pre_house) := by
  refine T.dnP 24 rfl rfl sc__law_house_of (fun _ _ _ _ _ _ us h => match us, h with | [_, _, _], _ => rfl) rfl fun f cdv A outer s p S H ds vs Q E hr a l Pn pr q => ?_
  refine ⟨_, pss_cons (ps_set (i := 3) sc__law_house_of.nd rfl (Or.inl rfl) (pe_callTy cr_tupOf (by rfl) T.f_tuple bb_tuple (pa_cons (pe_lc (own := [("_law_size", 5)]) rfl sc__law_house_of.nd (pi_tup (pv 1)) (blkOk_by (N := N__law_house_of) (sc := defScope (top 176)) (by decide +kernel)) (fun _ _ _ _ _ => (pg_name (i := 5) sc__law_house_of.nd rfl (Or.inl rfl))) (fun _ _ _ _ _ => pts_nil) (fun _ _ _ _ _ => (pe_dn ((D__law_draw T).up (by decide)) hr (by rfl) (pa_cons (pv 0) (pa_cons (pv 5) pa_nil))))) pa_nil)))
    (pss_cons (ps_set (i := 4) sc__law_house_of.nd rfl (Or.inr rfl) (pe_op op_add pe_int (pe_dn ((D__law_draw T).up (by decide)) hr (by rfl) (pa_cons (pv 0) (pa_cons pe_int pa_nil)))))
    (pss_one (ps_ret (pe_tup (pa_cons (pv 1) (pa_cons (pv 3) (pa_cons (pe_callTy cr_tupOf (by rfl) T.f_tuple bb_tuple (pa_cons (pe_lc (own := [("_law_lap", 6)]) rfl sc__law_house_of.nd (pi_range1 (by rfl) T.f_range (pa_cons (pv 2) pa_nil)) (blkOk_by (N := N__law_house_of) (sc := defScope (top 176)) (by decide +kernel)) (fun _ _ _ _ _ => (pg_name (i := 6) sc__law_house_of.nd rfl (Or.inl rfl))) (fun _ _ _ _ _ => pts_nil) (fun _ _ _ _ _ => (pe_dn ((D__law_kind T).up (by decide)) hr (by rfl) (pa_cons (pv 0) (pa_cons (pv 1) (pa_cons (pv 4) pa_nil)))))) pa_nil)) pa_nil))))))), ?_⟩
  obtain ⟨zs, m, rfl, hz, m1, m2⟩ := pr
  obtain ⟨v, u, rfl, a1, a2⟩ := a.two
  cases a2
  have zl := okZ_len hz
  refine s_asg (b := true) (R := fun z => ∃ l, z = .tuple l ∧ allNum l zs = true) (ev_tupR (Rs := fun l => allNum l zs = true) ((ev_lcT (Z := fun _ k => k = true) (E := fun d z => isDr (unInt d) z) (ev_var rfl a1) (by rw [List.length_map]; omega) (fun _ => rfl) (fun A H0 e P hA i d v H' hd e2 P2 a2 H3 e3 P3 Q q => q true H3 Rl.refl P3 rfl) fun A H0 e P hA i d v H' hd e2 P2 a2 _ => ?_).imp fun z ⟨l, e, c⟩ => ⟨l, e, ?_⟩)) Pn fun v3 H1 d3 e1 P1 b3 r3 => ?_
  · rw [List.getElem?_map] at hd
    cases hzi : zs[i]? with
    | none => rw [hzi] at hd; cases hd
    | some z =>
      rw [hzi] at hd
      cases hd
      cases a2
      have zb := okZ_pos hz z (List.mem_of_getElem? hzi)
      exact ev_draw (m := z) (ev_var rfl (.int z)) rfl (by omega) (by omega)
  · have := cmp_cont c
    rwa [unInts] at this
  obtain ⟨bg, rfl, hbg⟩ := r3
  have a1' := a1.mono e1 Pn.mem
  dsimp only
  refine s_asg (b := true) (R := fun z => ∃ mo : Int, z = .int mo ∧ 0 ≤ mo ∧ mo ≤ 6) (ev_op (R1 := fun z => z = .int 2) (R2 := isDr 5) ev_int (ev_draw (m := 5) ev_int rfl (by decide) (by decide)) fun d1 e1 h1 h2 x y H1 P a1 a2 Q q => by
      obtain ⟨i, rfl, l1, l2⟩ := h2
      subst h1
      cases a1
      cases a2
      exact ⟨_, _, rfl, rfl, q _ H1 _ Rl.refl P (.int _) ⟨2 + i, rfl, by omega, by omega⟩⟩) P1 fun v4 H2 d4 e2 P2 b4 r4 => ?_
  obtain ⟨mo, rfl, mo1, mo2⟩ := r4
  cases b4
  have a2' := a1'.mono e2 P1.mem
  have b2' := b3.mono e2 P1.mem
  dsimp only
  refine s_ret (b := true) (ev_tup (Rs := fun l => ∃ ks : List PyData, l = [.tuple (zs.map PyData.int), .tuple bg, .tuple ks] ∧ ks.length = m.toNat ∧ ∀ k ∈ ks, isKi zs k) ((ea_m (R := fun z => z = .tuple (zs.map PyData.int)) (ev_var rfl a2') (ea_m (R := fun z => z = .tuple bg) (ev_var rfl b2') (ea_1 (ev_tupR (Rs := fun ks => ks.length = m.toNat ∧ ∀ k ∈ ks, isKi zs k) ((ev_lcRN (Zn := fun n => n = m) (Z := fun _ k => k = true) (E := fun _ z => isKi zs z) ((ea_one (ev_var rfl (.int m))).imp fun l e => ⟨m, e, rfl⟩) (fun n h => ⟨by omega, by omega⟩) (fun _ => rfl) (fun A H0 e P hA i H' e2 P2 H3 e3 P3 Q q => q true H3 Rl.refl P3 rfl) fun A H0 e P hA i H' e2 P2 _ => ?_).imp fun z ⟨n, l, zn, e, c⟩ => ⟨l, e, ?_, ?_⟩))))).imp fun l ⟨d1, _, e1, r1, d2, _, e2, r2, d3, e3, ks, e4, h1, h2⟩ => ⟨ks, by rw [e1, e2, e3, e4, r1, r2], h1, h2⟩) fun l ⟨_, e, _⟩ => by rw [e]; simp) P2 fun v5 H5 d5 e5 P5 a5 r5 => ?_
  · have w1 : At (A :: S) H' v (.tuple (zs.map PyData.int)) := At.through a2' e P hA e2
    exact (ev_p (ep_cons rfl (ea_two (ev_var rfl w1) (ev_var rfl (.int mo)))) rfl ⟨zs, mo, rfl, hz, mo1, mo2⟩).imp fun z ⟨zs', mo', eq, hs⟩ => by
      rw [zs_inj eq]
      exact hs
  · subst zn
    rw [cmp_len c, rngD_len]
  · intro s hs
    obtain ⟨_, _, _, h⟩ := c.all s hs
    exact h
  · obtain ⟨_, rfl, ks, rfl, hl, hk⟩ := r5
    exact q _ _ _ ((e1.trans e2).trans e5) P5 a5 ⟨⟨zs, .tuple bg, ks⟩, rfl, ⟨hz, hbg, by show 1 ≤ ks.length; omega, by show ks.length ≤ 5; omega, hk⟩⟩

end
end Mv
namespace Mv
open PySem PySem.Spec PyProof.Rows L2 He
/-! ### written houses and rules -/
def pairD (a c : PyData) : PyData := .tuple [a, c]
def setD (w : Str) (c n : Int) : PyData := .tuple [.str w, .int c, .int n]
def whenD (c lo hi : Int) (s : PyData) : PyData := .tuple [.str (Str.ofString "when"), .int c, .int lo, .int hi, s]
def kindD (st : List PyData) : PyData := .tuple st
def ruleD (m : Int) (a c : List (List Int)) : PyData := .tuple [.int m, .tuple (a.map cRow), .tuple (c.map cRow)]
theorem pl_set {zs : List Int} {n z : Int} (hz : zs[0]? = some z) (h0 : 0 ≤ n) (hn : n < z) : isPl zs (setD (Str.ofString "set") 0 n) := ⟨Str.ofString "set", 0, n, z, rfl, .inl rfl, hz, h0, fun h => absurd h (by decide +kernel), fun _ => hn⟩
theorem pl_raise {zs : List Int} {n z : Int} (hz : zs[0]? = some z) (h0 : 0 ≤ n) (hn : n < z) : isPl zs (setD (Str.ofString "raise") 0 n) := ⟨Str.ofString "raise", 0, n, z, rfl, .inr (.inl rfl), hz, h0, fun h => absurd h (by decide +kernel), fun _ => hn⟩
theorem st_when {zs : List Int} {lo hi : Int} {s : PyData} (h : isPl zs s) (hl : 0 < zs.length) : isSt zs (whenD 0 lo hi s) := .inr ⟨0, lo, hi, s, rfl, h, hl⟩
theorem ki_1 {zs : List Int} {s : PyData} (h : isSt zs s) : isKi zs (.tuple [s]) := ⟨[s], rfl, by simp, fun x hx => by rw [List.mem_singleton.mp hx]; exact h⟩
theorem ki_2 {zs : List Int} {s t : PyData} (h : isSt zs s) (k : isSt zs t) : isKi zs (.tuple [s, t]) := ⟨[s, t], rfl, by simp, fun x hx => by
  rcases List.mem_cons.mp hx with rfl | hx
  · exact h
  · rw [List.mem_singleton.mp hx]; exact k⟩
theorem ru_of {h : Hou} {m : Int} {a c : List (List Int)} (ha : ((a.map cRow).all (isCont h.zs) && (c.map cRow).all (isCont h.zs)) = true) (la : a.length ≤ 6) (lc : c.length ≤ 6) (m0 : 0 ≤ m) (m1 : m ≤ h.ks.length) : isRu h (ruleD m a c) := by
  rw [Bool.and_eq_true] at ha
  exact ⟨m, _, _, rfl, fun x hx => List.all_eq_true.mp ha.1 x hx, fun x hx => List.all_eq_true.mp ha.2 x hx, by rw [List.length_map]; exact la, by rw [List.length_map]; exact lc, m0, m1⟩
/-- a house and its rules -/
def R_pair (_ : List PyData) (z : PyData) : Prop := ∃ (h : Hou) (ru : PyData), z = .tuple [h.d, ru] ∧ Good h ∧ areRu h ru
def hWide : Hou := ⟨[3], cRow [0], [.tuple [setD (Str.ofString "set") 0 0], .tuple [setD (Str.ofString "raise") 0 1], .tuple [whenD 0 1 1 (setD (Str.ofString "set") 0 2)]]⟩
def hTrap : Hou := ⟨[6], cRow [0], [.tuple [whenD 0 5 5 (setD (Str.ofString "set") 0 1)], .tuple [whenD 0 3 3 (setD (Str.ofString "set") 0 1), whenD 0 4 4 (setD (Str.ofString "set") 0 2)], .tuple [setD (Str.ofString "raise") 0 3], .tuple [setD (Str.ofString "raise") 0 4], .tuple [setD (Str.ofString "raise") 0 5]]⟩
def hNeed : PyData := .tuple [whenD 0 1 1 (setD (Str.ofString "set") 0 0), whenD 0 2 2 (setD (Str.ofString "set") 0 1)]
def hDeep : Hou := ⟨[3], cRow [0], [.tuple [setD (Str.ofString "raise") 0 2], hNeed, hNeed]⟩
theorem good_wide : Good hWide := ⟨by decide, rfl, by decide, by decide, fun k hk => by
  simp only [hWide, List.mem_cons, List.not_mem_nil, or_false] at hk
  rcases hk with rfl | rfl | rfl
  · exact ki_1 (.inl (pl_set rfl (by decide) (by decide)))
  · exact ki_1 (.inl (pl_raise rfl (by decide) (by decide)))
  · exact ki_1 (st_when (pl_set rfl (by decide) (by decide)) (by decide))⟩
theorem good_trap : Good hTrap := ⟨by decide, rfl, by decide, by decide, fun k hk => by
  simp only [hTrap, List.mem_cons, List.not_mem_nil, or_false] at hk
  rcases hk with rfl | rfl | rfl | rfl | rfl
  · exact ki_1 (st_when (pl_set rfl (by decide) (by decide)) (by decide))
  · exact ki_2 (st_when (pl_set rfl (by decide) (by decide)) (by decide)) (st_when (pl_set rfl (by decide) (by decide)) (by decide))
  · exact ki_1 (.inl (pl_raise rfl (by decide) (by decide)))
  · exact ki_1 (.inl (pl_raise rfl (by decide) (by decide)))
  · exact ki_1 (.inl (pl_raise rfl (by decide) (by decide)))⟩
theorem good_deep : Good hDeep := ⟨by decide, rfl, by decide, by decide, fun k hk => by
  have n : isKi hDeep.zs hNeed := ki_2 (st_when (pl_set rfl (by decide) (by decide)) (by decide)) (st_when (pl_set rfl (by decide) (by decide)) (by decide))
  simp only [hDeep, List.mem_cons, List.not_mem_nil, or_false] at hk
  rcases hk with rfl | rfl | rfl
  · exact ki_1 (.inl (pl_raise rfl (by decide) (by decide)))
  · exact n
  · exact n⟩
theorem flat_ints (zs : List Int) : Flat 1 (.tuple (zs.map PyData.int)) := Flat.tup fun d hd => by
  obtain ⟨i, _, rfl⟩ := List.mem_map.mp hd
  exact flat_int 0 i
section
variable {P : Program} {w : World} {K : PySem.W.Frag} {mg : Str → Option Value} {base : Heap}

/-! ### _law_small_house -/
abbrev N__law_small_house : List Str := ["_law_pen_here", "_law_sizes"]
theorem sc__law_small_house : FnScope N__law_small_house ["_law_pen_here"] (defScope (top 177)) := ⟨rfl, rfl, rfl, by decide +kernel, rfl, by decide +kernel, by decide +kernel⟩
theorem D__law_small_house (T : Top K mg) : Dn P w K mg base "_law_small_house" 8 ["_law_pen_here"] (spP 0 R_house (fun _ => True)) := by
  refine T.dnP 25 rfl rfl sc__law_small_house (fun _ _ _ _ _ _ us h => match us, h with | [_], _ => rfl) rfl fun f cdv A outer s p S H ds vs Q E hr a l Pn pr q => ?_
  refine ⟨_, pss_cons (ps_set (i := 1) sc__law_small_house.nd rfl (Or.inl rfl) (pe_dn ((D__law_one_of T).up (by decide)) hr (by rfl) (pa_cons (pv 0) (pa_cons (pe_lst (pa_cons (pe_tup (pa_cons pe_int pa_nil)) (pa_cons (pe_tup (pa_cons pe_int pa_nil)) (pa_cons (pe_tup (pa_cons pe_int (pa_cons pe_int pa_nil))) (pa_cons (pe_tup (pa_cons pe_int pa_nil)) (pa_cons (pe_tup (pa_cons pe_int pa_nil)) (pa_cons (pe_tup (pa_cons pe_int (pa_cons pe_int pa_nil))) (pa_cons (pe_tup (pa_cons pe_int (pa_cons pe_int pa_nil))) (pa_cons (pe_tup (pa_cons pe_int (pa_cons pe_int pa_nil))) pa_nil))))))))) pa_nil))))
    (pss_one (ps_ret (pe_dn ((D__law_house_of T).up (by decide)) hr (by rfl) (pa_cons (pv 0) (pa_cons (pv 1) (pa_cons (pe_op op_add pe_int (pe_dn ((D__law_draw T).up (by decide)) hr (by rfl) (pa_cons (pv 0) (pa_cons (pe_ifExp (pt_cmpR (op_inS (hu_65 hr)) (pv 1) (pe_tup (pa_cons (pe_tup (pa_cons pe_int (pa_cons pe_int pa_nil))) (pa_cons (pe_tup (pa_cons pe_int (pa_cons pe_int pa_nil))) pa_nil))) (by rfl)) pe_int pe_int) pa_nil)))) pa_nil)))))), ?_⟩
  cases a with
  | cons _ _ => cases l
  | nil =>
  refine s_asg (b := true) (ev_one (d := .list [cRow [2], cRow [3], cRow [2, 2], cRow [4], cRow [3], cRow [2, 2], cRow [3, 2], cRow [2, 3]]) (by repeat' first | exact ev_int | exact ev_str | exact ea_nilK | refine ea_more ?_ ?_ | refine ev_tupK ?_ (by first | decide | simp) | refine ev_lstK ?_ (by first | decide | simp)) rfl rfl (by simp [items]) (by simp [items])) Pn fun v1 H1 d1 e1 P1 b1 r1 => ?_
  obtain ⟨zs, rfl, hz⟩ : ∃ zs : List Int, d1 = .tuple (zs.map PyData.int) ∧ zs ∈ okZ := by
    simp only [items, List.mem_cons, List.not_mem_nil, or_false] at r1
    rcases r1 with rfl | rfl | rfl | rfl | rfl | rfl | rfl | rfl
    all_goals exact ⟨_, rfl, by decide⟩
  dsimp only
  refine s_ret (b := true) ((ev_pR (n := 2) (Pre := Pre_house) (R := R_house) (Rs := fun l => ∃ m : Int, l = [.tuple (zs.map PyData.int), .int m] ∧ 1 ≤ m ∧ m ≤ 3) (ep_cons rfl ((ea_m (R := fun z => z = .tuple (zs.map PyData.int)) (ev_var rfl b1) (ea_1 (R := fun z => ∃ m : Int, z = .int m ∧ 1 ≤ m ∧ m ≤ 3) (ev_op (R1 := fun z => z = .int 1) (R2 := fun z => ∃ m : Int, z = .int m ∧ 0 ≤ m ∧ m ≤ 2) ev_int ?_ fun d1 e1 h1 h2 x y H1 P a1 a2 Q q => ?_))).imp fun l ⟨d, _, e1, r1, e, e2, m, e3, h1, h2⟩ => ⟨m, by rw [e1, r1, e2, e3], h1, h2⟩)) fun l ⟨m, e, h1, h2⟩ => by
      subst e
      exact ⟨rfl, zs, m, rfl, hz, h1, h2⟩)) P1 fun v2 H2 d2 e2 P2 b2 ⟨_, _, h, hd, g⟩ => q _ _ _ (e1.trans e2) P2 b2 ⟨h, hd, g⟩
  · let k : Bool := [cRow [3, 2], cRow [2, 3]].any fun z => PyData.eqv z (.tuple (zs.map PyData.int))
    refine Ev.imp (ev_draw (m := if k = true then 2 else 3) (ev_ifK (k := k) (et_c (ev_inS (f := fun k => k) (e := .tuple [cRow [3, 2], cRow [2, 3]]) (ev_var rfl b1) (by repeat' first | exact ev_int | exact ev_str | exact ea_nilK | refine ea_more ?_ ?_ | refine ev_tupK ?_ (by first | decide | simp) | refine ev_lstK ?_ (by first | decide | simp)) rfl ((flat_ints zs).shaped (by decide)) (by decide +kernel))) (fun e => ?_) fun e => ?_) rfl ?_ ?_) fun z ⟨i, e, l1, l2⟩ => ⟨i, e, l1, ?_⟩
    · rw [if_pos e]
      exact ev_int
    · rw [if_neg (by rw [e]; exact Bool.false_ne_true)]
      exact ev_int
    · split <;> omega
    · split <;> omega
    · split at l2 <;> omega
  · obtain ⟨m, rfl, l1, l2⟩ := h2
    subst h1
    cases a1
    cases a2
    exact ⟨_, _, rfl, rfl, q _ H1 _ Rl.refl P (.int _) ⟨1 + m, rfl, by omega, by omega⟩⟩

/-! ### _law_wide -/
abbrev N__law_wide : List Str := ["_law_pen_here", "_law_kinds", "_law_more"]
theorem sc__law_wide : FnScope N__law_wide ["_law_pen_here"] (defScope (top 178)) := ⟨rfl, rfl, rfl, by decide +kernel, rfl, by decide +kernel, by decide +kernel⟩
theorem D__law_wide (T : Top K mg) : Dn P w K mg base "_law_wide" 3 ["_law_pen_here"] (spP 0 R_pair (fun _ => True)) := by
  refine T.dnP 26 rfl rfl sc__law_wide (fun _ _ _ _ _ _ us h => match us, h with | [_], _ => rfl) rfl fun f cdv A outer s p S H ds vs Q E hr a l Pn pr q => ?_
  refine ⟨_, pss_cons (ps_set (i := 1) sc__law_wide.nd rfl (Or.inl rfl) (pe_tup (pa_cons (pe_tup (pa_cons (pe_tup (pa_cons pe_str (pa_cons pe_int (pa_cons pe_int pa_nil)))) pa_nil)) (pa_cons (pe_tup (pa_cons (pe_tup (pa_cons pe_str (pa_cons pe_int (pa_cons pe_int pa_nil)))) pa_nil)) (pa_cons (pe_tup (pa_cons (pe_tup (pa_cons pe_str (pa_cons pe_int (pa_cons pe_int (pa_cons pe_int (pa_cons (pe_tup (pa_cons pe_str (pa_cons pe_int (pa_cons pe_int pa_nil)))) pa_nil)))))) pa_nil)) pa_nil)))))
    (pss_cons (ps_set (i := 2) sc__law_wide.nd rfl (Or.inl rfl) (pe_ix ix_seq (pe_lst (pa_cons (pe_tup pa_nil) (pa_cons (pe_tup (pa_cons (pe_tup (pa_cons pe_int (pa_cons (pe_tup (pa_cons (pe_tup (pa_cons pe_int pa_nil)) pa_nil)) (pa_cons (pe_tup (pa_cons (pe_tup (pa_cons pe_int pa_nil)) pa_nil)) pa_nil)))) pa_nil)) (pa_cons (pe_tup (pa_cons (pe_tup (pa_cons pe_int (pa_cons (pe_tup (pa_cons (pe_tup (pa_cons pe_int pa_nil)) (pa_cons (pe_tup (pa_cons pe_int pa_nil)) pa_nil))) (pa_cons (pe_tup (pa_cons (pe_tup (pa_cons pe_int pa_nil)) pa_nil)) pa_nil)))) pa_nil)) pa_nil)))) (pe_dn ((D__law_draw T).up (by decide)) hr (by rfl) (pa_cons (pv 0) (pa_cons pe_int pa_nil))) (fun _ _ => rfl)))
    (pss_one (ps_ret (pe_tup (pa_cons (pe_tup (pa_cons (pe_tup (pa_cons pe_int pa_nil)) (pa_cons (pe_tup (pa_cons pe_int pa_nil)) (pa_cons (pv 1) pa_nil)))) (pa_cons (pe_op op_catA (pe_tup (pa_cons (pe_tup (pa_cons pe_int (pa_cons (pe_tup (pa_cons (pe_tup (pa_cons pe_int pa_nil)) pa_nil)) (pa_cons (pe_tup (pa_cons (pe_tup (pa_cons pe_int pa_nil)) pa_nil)) pa_nil)))) pa_nil)) (pv 2)) pa_nil)))))), ?_⟩
  cases a with
  | cons _ _ => cases l
  | nil =>
  refine s_asgK (b := true) (d := .tuple hWide.ks) (by repeat' first | exact ev_int | exact ev_str | exact ea_nilK | refine ea_more ?_ ?_ | refine ev_tupK ?_ (by first | decide | simp) | refine ev_lstK ?_ (by first | decide | simp)) Pn fun v1 H1 e1 P1 b1 => ?_
  dsimp only
  refine s_asg (b := true) (ev_ixM (d := .list [.tuple [], .tuple [ruleD 3 [[1]] [[0]]], .tuple [ruleD 1 [[0], [2]] [[1]]]]) (by repeat' first | exact ev_int | exact ev_str | exact ea_nilK | refine ea_more ?_ ?_ | refine ev_tupK ?_ (by first | decide | simp) | refine ev_lstK ?_ (by first | decide | simp)) (ev_draw (m := 3) ev_int rfl (by decide) (by decide)) rfl) P1 fun v2 H2 d2 e2 P2 b2 r2 => ?_
  obtain ⟨mo, rfl, hm, hl⟩ : ∃ mo, d2 = .tuple mo ∧ (∀ r ∈ mo, isRu hWide r) ∧ mo.length ≤ 1 := by
    simp only [items, List.mem_cons, List.not_mem_nil, or_false] at r2
    rcases r2 with rfl | rfl | rfl
    · exact ⟨[], rfl, (fun r h => by cases h), by simp⟩
    · exact ⟨_, rfl, (fun r h => by rw [List.mem_singleton.mp h]; exact ru_of rfl (by decide) (by decide) (by decide) (by decide)), by simp⟩
    · exact ⟨_, rfl, (fun r h => by rw [List.mem_singleton.mp h]; exact ru_of rfl (by decide) (by decide) (by decide) (by decide)), by simp⟩
  dsimp only
  refine s_retK (b := true) (d := .tuple [hWide.d, .tuple ([ruleD 2 [[0]] [[1]]] ++ mo)]) (ev_tupK (ea_two (ev_tupK (ea_more (d := .tuple ([3].map PyData.int)) (by repeat' first | exact ev_int | exact ev_str | exact ea_nilK | refine ea_more ?_ ?_ | refine ev_tupK ?_ (by first | decide | simp) | refine ev_lstK ?_ (by first | decide | simp)) (ea_two (d1 := cRow [0]) (by repeat' first | exact ev_int | exact ev_str | exact ea_nilK | refine ea_more ?_ ?_ | refine ev_tupK ?_ (by first | decide | simp) | refine ev_lstK ?_ (by first | decide | simp)) (ev_var rfl (b1.mono e2 P1.mem)))) (by simp)) (ev_catT (es := mo) (ds := [ruleD 2 [[0]] [[1]]]) (by repeat' first | exact ev_int | exact ev_str | exact ea_nilK | refine ea_more ?_ ?_ | refine ev_tupK ?_ (by first | decide | simp) | refine ev_lstK ?_ (by first | decide | simp)) (ev_var rfl b2) (by simp only [List.length_cons, List.length_nil]; omega))) (by simp)) P2 fun v3 H3 e3 P3 b3 => q _ _ _ ((e1.trans e2).trans e3) P3 b3 ⟨hWide, _, rfl, good_wide, _, rfl, (by rw [List.length_append]; show 1 + mo.length ≤ 3; omega), fun r hr => ?_⟩
  rcases List.mem_append.mp hr with hr | hr
  · rw [List.mem_singleton.mp hr]
    exact ru_of rfl (by decide) (by decide) (by decide) (by decide)
  · exact hm r hr

/-! ### _law_trap -/
abbrev N__law_trap : List Str := ["_law_pen_here", "_law_one", "_law_two", "_law_kinds", "_law_more"]
theorem sc__law_trap : FnScope N__law_trap ["_law_pen_here"] (defScope (top 179)) := ⟨rfl, rfl, rfl, by decide +kernel, rfl, by decide +kernel, by decide +kernel⟩
theorem D__law_trap (T : Top K mg) : Dn P w K mg base "_law_trap" 3 ["_law_pen_here"] (spP 0 R_pair (fun _ => True)) := by
  refine T.dnP 27 rfl rfl sc__law_trap (fun _ _ _ _ _ _ us h => match us, h with | [_], _ => rfl) rfl fun f cdv A outer s p S H ds vs Q E hr a l Pn pr q => ?_
  refine ⟨_, pss_cons (ps_set (i := 1) sc__law_trap.nd rfl (Or.inl rfl) (pe_tup (pa_cons (pe_tup (pa_cons pe_str (pa_cons pe_int (pa_cons pe_int (pa_cons pe_int (pa_cons (pe_tup (pa_cons pe_str (pa_cons pe_int (pa_cons pe_int pa_nil)))) pa_nil)))))) pa_nil)))
    (pss_cons (ps_set (i := 2) sc__law_trap.nd rfl (Or.inl rfl) (pe_tup (pa_cons (pe_tup (pa_cons pe_str (pa_cons pe_int (pa_cons pe_int (pa_cons pe_int (pa_cons (pe_tup (pa_cons pe_str (pa_cons pe_int (pa_cons pe_int pa_nil)))) pa_nil)))))) (pa_cons (pe_tup (pa_cons pe_str (pa_cons pe_int (pa_cons pe_int (pa_cons pe_int (pa_cons (pe_tup (pa_cons pe_str (pa_cons pe_int (pa_cons pe_int pa_nil)))) pa_nil)))))) pa_nil))))
    (pss_cons (ps_set (i := 3) sc__law_trap.nd rfl (Or.inl rfl) (pe_tup (pa_cons (pv 1) (pa_cons (pv 2) (pa_cons (pe_tup (pa_cons (pe_tup (pa_cons pe_str (pa_cons pe_int (pa_cons pe_int pa_nil)))) pa_nil)) (pa_cons (pe_tup (pa_cons (pe_tup (pa_cons pe_str (pa_cons pe_int (pa_cons pe_int pa_nil)))) pa_nil)) (pa_cons (pe_tup (pa_cons (pe_tup (pa_cons pe_str (pa_cons pe_int (pa_cons pe_int pa_nil)))) pa_nil)) pa_nil)))))))
    (pss_cons (ps_set (i := 4) sc__law_trap.nd rfl (Or.inl rfl) (pe_ix ix_seq (pe_lst (pa_cons (pe_tup pa_nil) (pa_cons (pe_tup (pa_cons (pe_tup (pa_cons pe_int (pa_cons (pe_tup (pa_cons (pe_tup (pa_cons pe_int pa_nil)) pa_nil)) (pa_cons (pe_tup (pa_cons (pe_tup (pa_cons pe_int pa_nil)) pa_nil)) pa_nil)))) pa_nil)) pa_nil))) (pe_dn ((D__law_draw T).up (by decide)) hr (by rfl) (pa_cons (pv 0) (pa_cons pe_int pa_nil))) (fun _ _ => rfl)))
    (pss_one (ps_ret (pe_tup (pa_cons (pe_tup (pa_cons (pe_tup (pa_cons pe_int pa_nil)) (pa_cons (pe_tup (pa_cons pe_int pa_nil)) (pa_cons (pv 3) pa_nil)))) (pa_cons (pe_op op_catA (pe_tup (pa_cons (pe_tup (pa_cons pe_int (pa_cons (pe_tup (pa_cons (pe_tup (pa_cons pe_int pa_nil)) pa_nil)) (pa_cons (pe_tup (pa_cons (pe_tup (pa_cons pe_int pa_nil)) pa_nil)) pa_nil)))) (pa_cons (pe_tup (pa_cons pe_int (pa_cons (pe_tup (pa_cons (pe_tup (pa_cons pe_int pa_nil)) pa_nil)) (pa_cons (pe_tup (pa_cons (pe_tup (pa_cons pe_int pa_nil)) pa_nil)) pa_nil)))) pa_nil))) (pv 4)) pa_nil)))))))), ?_⟩
  cases a with
  | cons _ _ => cases l
  | nil =>
  refine s_asgK (b := true) (d := .tuple [whenD 0 5 5 (setD (Str.ofString "set") 0 1)]) (by repeat' first | exact ev_int | exact ev_str | exact ea_nilK | refine ea_more ?_ ?_ | refine ev_tupK ?_ (by first | decide | simp) | refine ev_lstK ?_ (by first | decide | simp)) Pn fun v1 H1 e1 P1 b1 => ?_
  dsimp only
  refine s_asgK (b := true) (d := .tuple [whenD 0 3 3 (setD (Str.ofString "set") 0 1), whenD 0 4 4 (setD (Str.ofString "set") 0 2)]) (by repeat' first | exact ev_int | exact ev_str | exact ea_nilK | refine ea_more ?_ ?_ | refine ev_tupK ?_ (by first | decide | simp) | refine ev_lstK ?_ (by first | decide | simp)) P1 fun v2 H2 e2 P2 b2 => ?_
  dsimp only
  refine s_asgK (b := true) (d := .tuple hTrap.ks) (ev_tupK (ea_more (ev_var rfl (b1.mono e2 P1.mem)) (ea_more (ev_var rfl b2) (by repeat' first | exact ev_int | exact ev_str | exact ea_nilK | refine ea_more ?_ ?_ | refine ev_tupK ?_ (by first | decide | simp) | refine ev_lstK ?_ (by first | decide | simp)))) (by decide)) P2 fun v3 H3 e3 P3 b3 => ?_
  dsimp only
  refine s_asg (b := true) (ev_ixM (d := .list [.tuple [], .tuple [ruleD 5 [[1]] [[1]]]]) (by repeat' first | exact ev_int | exact ev_str | exact ea_nilK | refine ea_more ?_ ?_ | refine ev_tupK ?_ (by first | decide | simp) | refine ev_lstK ?_ (by first | decide | simp)) (ev_draw (m := 2) ev_int rfl (by decide) (by decide)) rfl) P3 fun v4 H4 d4 e4 P4 b4 r4 => ?_
  obtain ⟨mo, rfl, hm, hl⟩ : ∃ mo, d4 = .tuple mo ∧ (∀ r ∈ mo, isRu hTrap r) ∧ mo.length ≤ 1 := by
    simp only [items, List.mem_cons, List.not_mem_nil, or_false] at r4
    rcases r4 with rfl | rfl
    · exact ⟨[], rfl, (fun r h => by cases h), by simp⟩
    · exact ⟨_, rfl, (fun r h => by rw [List.mem_singleton.mp h]; exact ru_of rfl (by decide) (by decide) (by decide) (by decide)), by simp⟩
  dsimp only
  refine s_retK (b := true) (d := .tuple [hTrap.d, .tuple ([ruleD 0 [[0]] [[5]], ruleD 1 [[3]] [[4]]] ++ mo)]) (ev_tupK (ea_two (ev_tupK (ea_more (d := .tuple ([6].map PyData.int)) (by repeat' first | exact ev_int | exact ev_str | exact ea_nilK | refine ea_more ?_ ?_ | refine ev_tupK ?_ (by first | decide | simp) | refine ev_lstK ?_ (by first | decide | simp)) (ea_two (d1 := cRow [0]) (by repeat' first | exact ev_int | exact ev_str | exact ea_nilK | refine ea_more ?_ ?_ | refine ev_tupK ?_ (by first | decide | simp) | refine ev_lstK ?_ (by first | decide | simp)) (ev_var rfl (b3.mono e4 P3.mem)))) (by simp)) (ev_catT (es := mo) (ds := [ruleD 0 [[0]] [[5]], ruleD 1 [[3]] [[4]]]) (by repeat' first | exact ev_int | exact ev_str | exact ea_nilK | refine ea_more ?_ ?_ | refine ev_tupK ?_ (by first | decide | simp) | refine ev_lstK ?_ (by first | decide | simp)) (ev_var rfl b4) (by simp only [List.length_cons, List.length_nil]; omega))) (by simp)) P4 fun v5 H5 e5 P5 b5 => q _ _ _ ((((e1.trans e2).trans e3).trans e4).trans e5) P5 b5 ⟨hTrap, _, rfl, good_trap, _, rfl, (by rw [List.length_append]; show 2 + mo.length ≤ 3; omega), fun r hr => ?_⟩
  rcases List.mem_append.mp hr with hr | hr
  · rcases List.mem_cons.mp hr with rfl | hr
    · exact ru_of rfl (by decide) (by decide) (by decide) (by decide)
    · rw [List.mem_singleton.mp hr]
      exact ru_of rfl (by decide) (by decide) (by decide) (by decide)
  · exact hm r hr

/-! ### _law_deep -/
abbrev N__law_deep : List Str := ["_law_pen_here", "_law_need", "_law_house"]
theorem sc__law_deep : FnScope N__law_deep ["_law_pen_here"] (defScope (top 180)) := ⟨rfl, rfl, rfl, by decide +kernel, rfl, by decide +kernel, by decide +kernel⟩
theorem D__law_deep (T : Top K mg) : Dn P w K mg base "_law_deep" 1 ["_law_pen_here"] (spP 0 R_pair (fun _ => True)) := by
  refine T.dnP 28 rfl rfl sc__law_deep (fun _ _ _ _ _ _ us h => match us, h with | [_], _ => rfl) rfl fun f cdv A outer s p S H ds vs Q E hr a l Pn pr q => ?_
  refine ⟨_, pss_cons (ps_set (i := 1) sc__law_deep.nd rfl (Or.inl rfl) (pe_tup (pa_cons (pe_tup (pa_cons pe_str (pa_cons pe_int (pa_cons pe_int (pa_cons pe_int (pa_cons (pe_tup (pa_cons pe_str (pa_cons pe_int (pa_cons pe_int pa_nil)))) pa_nil)))))) (pa_cons (pe_tup (pa_cons pe_str (pa_cons pe_int (pa_cons pe_int (pa_cons pe_int (pa_cons (pe_tup (pa_cons pe_str (pa_cons pe_int (pa_cons pe_int pa_nil)))) pa_nil)))))) pa_nil))))
    (pss_cons (ps_set (i := 2) sc__law_deep.nd rfl (Or.inl rfl) (pe_tup (pa_cons (pe_tup (pa_cons pe_int pa_nil)) (pa_cons (pe_tup (pa_cons pe_int pa_nil)) (pa_cons (pe_tup (pa_cons (pe_tup (pa_cons (pe_tup (pa_cons pe_str (pa_cons pe_int (pa_cons pe_int pa_nil)))) pa_nil)) (pa_cons (pv 1) (pa_cons (pv 1) pa_nil)))) pa_nil)))))
    (pss_one (ps_ret (pe_tup (pa_cons (pv 2) (pa_cons (pe_tup (pa_cons (pe_tup (pa_cons pe_int (pa_cons (pe_tup (pa_cons (pe_tup (pa_cons pe_int pa_nil)) pa_nil)) (pa_cons (pe_tup (pa_cons (pe_tup (pa_cons pe_int pa_nil)) pa_nil)) pa_nil)))) (pa_cons (pe_tup (pa_cons pe_int (pa_cons (pe_tup (pa_cons (pe_tup (pa_cons pe_int pa_nil)) pa_nil)) (pa_cons (pe_tup (pa_cons (pe_tup (pa_cons pe_int pa_nil)) pa_nil)) pa_nil)))) pa_nil))) pa_nil)))))), ?_⟩
  cases a with
  | cons _ _ => cases l
  | nil =>
  refine s_asgK (b := true) (d := hNeed) (by repeat' first | exact ev_int | exact ev_str | exact ea_nilK | refine ea_more ?_ ?_ | refine ev_tupK ?_ (by first | decide | simp) | refine ev_lstK ?_ (by first | decide | simp)) Pn fun v1 H1 e1 P1 b1 => ?_
  dsimp only
  refine s_asgK (b := true) (d := hDeep.d) (ev_tupK (ea_more (d := .tuple ([3].map PyData.int)) (by repeat' first | exact ev_int | exact ev_str | exact ea_nilK | refine ea_more ?_ ?_ | refine ev_tupK ?_ (by first | decide | simp) | refine ev_lstK ?_ (by first | decide | simp)) (ea_two (d1 := cRow [0]) (by repeat' first | exact ev_int | exact ev_str | exact ea_nilK | refine ea_more ?_ ?_ | refine ev_tupK ?_ (by first | decide | simp) | refine ev_lstK ?_ (by first | decide | simp)) (ev_tupK (ea_more (d := .tuple [setD (Str.ofString "raise") 0 2]) (by repeat' first | exact ev_int | exact ev_str | exact ea_nilK | refine ea_more ?_ ?_ | refine ev_tupK ?_ (by first | decide | simp) | refine ev_lstK ?_ (by first | decide | simp)) (ea_two (ev_var rfl b1) (ev_var rfl b1))) (by first | decide | simp)))) (by first | decide | simp)) P1 fun v2 H2 e2 P2 b2 => ?_
  dsimp only
  refine s_retK (b := true) (d := .tuple [hDeep.d, .tuple [ruleD 1 [[0]] [[2]], ruleD 2 [[1]] [[2]]]]) (ev_tupK (ea_two (ev_var rfl b2) (by repeat' first | exact ev_int | exact ev_str | exact ea_nilK | refine ea_more ?_ ?_ | refine ev_tupK ?_ (by first | decide | simp) | refine ev_lstK ?_ (by first | decide | simp))) (by simp)) P2 fun v3 H3 e3 P3 b3 => q _ _ _ ((e1.trans e2).trans e3) P3 b3 ⟨hDeep, _, rfl, good_deep, _, rfl, by simp, fun r hr => ?_⟩
  rcases List.mem_cons.mp hr with rfl | hr
  · exact ru_of rfl (by decide) (by decide) (by decide) (by decide)
  · rw [List.mem_singleton.mp hr]
    exact ru_of rfl (by decide) (by decide) (by decide) (by decide)

/-! ### _law_item -/
abbrev N__law_item : List Str := ["_law_pen_here", "_law_house"]
theorem sc__law_item : FnScope N__law_item ["_law_pen_here", "_law_house"] (defScope (top 192)) := ⟨rfl, rfl, rfl, by decide +kernel, rfl, by decide +kernel, by decide +kernel⟩
def PreG (ds : List PyData) : Prop := ∃ h, ds = [Hou.d h] ∧ Good h
def R_item (ds : List PyData) (z : PyData) : Prop := ∃ h, ds = [Hou.d h] ∧ isDr (h.ks.length + 1) z
theorem D__law_item (T : Top K mg) : Dn P w K mg base "_law_item" 3 ["_law_pen_here", "_law_house"] (spP 1 R_item PreG) := by
  refine T.dnP 40 rfl rfl sc__law_item (fun _ _ _ _ _ _ us h => match us, h with | [_, _], _ => rfl) rfl fun f cdv A outer s p S H ds vs Q E hr a l Pn pr q => ?_
  refine ⟨_, pss_one (ps_ret (pe_dn ((D__law_draw T).up (by decide)) hr (by rfl) (pa_cons (pv 0) (pa_cons (pe_op op_add (pe_len (by rfl) T.f_len (pe_ix ix_seq (pv 1) pe_int (fun _ _ => rfl))) pe_int) pa_nil)))), ?_⟩
  obtain ⟨h, rfl, g⟩ := pr
  obtain ⟨v, rfl, a1⟩ := a.one
  have := g.k5
  exact s_ret (b := true) (ev_draw (m := h.ks.length + 1) (ev_I0 (z := .int (h.ks.length + 1)) (i := h.ks.length) (j := 1) (ev_len (ev_ixN (j := 2) (z := .tuple h.ks) (ev_var rfl a1) ev_int rfl rfl) rfl) ev_int fun H => .int _) rfl (by omega) (by omega)) Pn fun v2 H2 d2 e2 P2 b2 r2 => q _ _ _ e2 P2 b2 ⟨h, rfl, r2⟩

end
end Mv
namespace Mv
open PySem PySem.Spec PyProof.Rows L2 He
theorem conts_cont {zs : List Int} (h : zs ∈ okZ) : ∀ c ∈ conts zs, isCont zs c = true := by
  have : ∀ zs ∈ okZ, (conts zs).all (isCont zs) = true := by decide +kernel
  exact fun c hc => List.all_eq_true.mp (this zs h) c hc
theorem conts_len {zs : List Int} (h : zs ∈ okZ) : 2 ≤ (conts zs).length ∧ (conts zs).length ≤ 6 := by
  have : ∀ zs ∈ okZ, 2 ≤ (conts zs).length ∧ (conts zs).length ≤ 6 := by decide +kernel
  exact this zs h
/-- a row of contents -/
def isSide (zs : List Int) (d : PyData) : Prop := ∃ l, d = .tuple l ∧ (∀ x ∈ l, isCont zs x = true) ∧ l.length ≤ 6 ∧ l ≠ []
section
variable {b : Bool} {p : Addr × Addr} {S : List Addr} {σ : L2.St} {H H' : Hp} {te ta tb : TE} {t tr : TA} {h : Hou} {zs : List Int} {K : PySem.W.Frag}
theorem f_conts_d (h : Hou) : f_conts [h.d] = .list (conts h.zs) := by rw [f_conts, hou_d]
theorem ev_conts (hv : Ev b p S te σ H fun z => z = h.d) (hz : h.zs ∈ okZ) : Ev b p S (tCall (spF false 1 f_conts PreZ) [] E0 (tCons te tNil)) σ H fun z => z = .list (conts h.zs) := ev_f (ea_one hv) rfl ⟨h, rfl, hz⟩ (f_conts_d h)
theorem ev_oneC (hv : Ev true p S te σ H fun z => z = h.d) (hz : h.zs ∈ okZ) (h0 : σ[0]? = some (some (.ref p.1))) : Ev true p S (tCall (spP 1 R_one Pre_one) [] E0 (tCons (tVar 0) (tCons (tCall (spF false 1 f_conts PreZ) [] E0 (tCons te tNil)) tNil))) σ H fun z => isCont h.zs z = true :=
  (ev_one (ev_conts hv hz) h0 rfl (by have := conts_len hz; show 1 ≤ (conts h.zs).length; omega) (by have := conts_len hz; show (conts h.zs).length < 1000000; omega)).imp fun z hz' => conts_cont hz z hz'
theorem cmp_side {Z : PyData → Bool → Prop} {l : List PyData} (hz : zs ∈ okZ) (c : Cmp Z (fun d z => z = d) (conts zs) l) : (∀ x ∈ l, isCont zs x = true) ∧ l.length ≤ 6 := by
  refine ⟨fun x hx => ?_, Nat.le_trans c.le (conts_len hz).2⟩
  obtain ⟨d, hd, _, e⟩ := c.all x hx
  rw [e]
  exact conts_cont hz d hd
theorem side_flat {l : List PyData} (h : ∀ x ∈ l, isCont zs x = true) : Flat 2 (.tuple l) := Flat.tup fun d hd => isCont_flat (h d hd)
theorem side_flatL {l : List PyData} (h : ∀ x ∈ l, isCont zs x = true) : Flat 2 (.list l) := Flat.lst fun d hd => isCont_flat (h d hd)
end
section
variable {P : Program} {w : World} {K : PySem.W.Frag} {mg : Str → Option Value} {base : Heap}

/-! ### _law_side -/
abbrev N__law_side : List Str := ["_law_pen_here", "_law_house", "_law_some", "_law_content"]
theorem sc__law_side : FnScope N__law_side ["_law_pen_here", "_law_house"] (defScope (top 193)) := ⟨rfl, rfl, rfl, by decide +kernel, rfl, by decide +kernel, by decide +kernel⟩
def R_side (ds : List PyData) (z : PyData) : Prop := ∃ h, ds = [Hou.d h] ∧ isSide h.zs z
theorem D__law_side (T : Top K mg) : Dn P w K mg base "_law_side" 4 ["_law_pen_here", "_law_house"] (spP 1 R_side PreG) := by
  refine T.dnP 41 rfl rfl sc__law_side (fun _ _ _ _ _ _ us h => match us, h with | [_, _], _ => rfl) rfl fun f cdv A outer s p S H ds vs Q E hr a l Pn pr q => ?_
  refine ⟨_, pss_cons (ps_set (i := 2) sc__law_side.nd rfl (Or.inl rfl) (pe_callTy cr_tupOf (by rfl) T.f_tuple bb_tuple (pa_cons (pe_lc (own := [("_law_content", 3)]) rfl sc__law_side.nd (pi_list (pe_dn ((D__law_contents T).up (by decide)) hr (by rfl) (pa_cons (pv 1) pa_nil))) (blkOk_by (N := N__law_side) (sc := defScope (top 193)) (by decide +kernel)) (fun _ _ _ _ _ => (pg_name (i := 3) sc__law_side.nd rfl (Or.inl rfl))) (fun _ _ _ _ _ => pts_one (pt_cmpR (op_eqDk (K := K) rfl (hu_64 hr)) (pe_dn ((D__law_draw T).up (by decide)) hr (by rfl) (pa_cons (pv 0) (pa_cons pe_int pa_nil))) pe_int (nomark _))) (fun _ _ _ _ _ => (pv 3))) pa_nil)))
    (pss_one (ps_ret (pe_ifExp (pt_cmpR (op_neD (hu_64 hr)) (pv 2) (pe_tup pa_nil) (nomark _)) (pv 2) (pe_tup (pa_cons (pe_dn ((D__law_one_of T).up (by decide)) hr (by rfl) (pa_cons (pv 0) (pa_cons (pe_dn ((D__law_contents T).up (by decide)) hr (by rfl) (pa_cons (pv 1) pa_nil)) pa_nil))) pa_nil))))), ?_⟩
  obtain ⟨h, rfl, g⟩ := pr
  obtain ⟨v, rfl, a1⟩ := a.one
  refine s_asg (b := true) (R := fun z => ∃ l, z = .tuple l ∧ (∀ x ∈ l, isCont h.zs x = true) ∧ l.length ≤ 6) (ev_tupR (Rs := fun l => (∀ x ∈ l, isCont h.zs x = true) ∧ l.length ≤ 6) ((ev_lcL (Z := fun _ _ => True) (E := fun d z => z = d) (ev_conts (ev_var rfl a1) g.zs) (by have := conts_len g.zs; omega) (fun _ => rfl) (fun A H0 e P hA i d v H' hd e2 P2 a2 => et_any (ev_draw (m := 3) ev_int rfl (by decide) (by decide))) fun A H0 e P hA i d v H' hd e2 P2 a2 _ => ev_var rfl a2).imp fun z ⟨l, e, c⟩ => ⟨l, e, cmp_side g.zs c⟩)) Pn fun v2 H2 d2 e2 P2 b2 r2 => ?_
  obtain ⟨l, rfl, hl, l6⟩ := r2
  dsimp only
  refine s_ret (b := true) (R := isSide h.zs) (ev_ifK (et_c (ev_neD (ev_var rfl b2) (ev_tupK ea_nil) ((side_flat hl).shaped (by decide)) (by decide +kernel))) (fun k => (ev_var rfl b2).imp fun z e => ⟨l, e, hl, l6, fun e => ?_⟩) fun k => (ev_tup (Rs := fun l => ∃ c, l = [c] ∧ isCont h.zs c = true) (ea_1 (ev_oneC (ev_var rfl (a1.mono e2 Pn.mem)) g.zs rfl)) fun l ⟨_, e, _⟩ => by rw [e]; simp).imp fun z ⟨l, e, c, e2, hc⟩ => ⟨l, e, fun x hx => ?_, by rw [e2]; simp, by rw [e2]; simp⟩) P2 fun v3 H3 d3 e3 P3 b3 r3 => q _ _ _ (e2.trans e3) P3 b3 ⟨h, rfl, r3⟩
  · subst e
    cases k
  · rw [e2, List.mem_singleton] at hx
    rw [hx]
    exact hc

/-! ### _law_rules -/
abbrev N__law_rules : List Str := ["_law_pen_here", "_law_house", "_law_most", "_law_found", "_law_lap", "_law_sides", "_law_side_here", "_law_some", "_law_content"]
theorem sc__law_rules : FnScope N__law_rules ["_law_pen_here", "_law_house", "_law_most"] (defScope (top 181)) := ⟨rfl, rfl, rfl, by decide +kernel, rfl, by decide +kernel, by decide +kernel⟩
def Pre_rules (ds : List PyData) : Prop := ∃ (h : Hou) (m : Int), ds = [h.d, .int m] ∧ Good h ∧ 0 ≤ m ∧ m ≤ 3
def R_rules (ds : List PyData) (z : PyData) : Prop := ∃ (h : Hou) (m : Int), ds = [h.d, .int m] ∧ areRu h z
theorem D__law_rules (T : Top K mg) : Dn P w K mg base "_law_rules" 4 ["_law_pen_here", "_law_house", "_law_most"] (spP 2 R_rules Pre_rules) := by
  refine T.dnP 29 rfl rfl sc__law_rules (fun _ _ _ _ _ _ us h => match us, h with | [_, _, _], _ => rfl) rfl fun f cdv A outer s p S H ds vs Q E hr a l Pn pr q => ?_
  refine ⟨_, pss_cons (ps_set (i := 3) sc__law_rules.nd rfl (Or.inl rfl) (pe_lst pa_nil))
    (pss_cons (ps_for PassesOwn.never rfl (pi_range1 (by rfl) T.f_range (pa_cons (pe_dn ((D__law_draw T).up (by decide)) hr (by rfl) (pa_cons (pv 0) (pa_cons (pe_op op_add (pv 2) pe_int) pa_nil))) pa_nil)) (pg_name (i := 4) sc__law_rules.nd rfl (Or.inl rfl))
      (pss_cons (ps_set (i := 5) sc__law_rules.nd rfl (Or.inl rfl) (pe_lst pa_nil))
      (pss_cons (ps_for PassesOwn.never rfl (pi_range1 (by rfl) T.f_range (pa_cons pe_int pa_nil)) (pg_name (i := 6) sc__law_rules.nd rfl (Or.inl rfl))
        (pss_cons (ps_setLc (i := 7) (own := [("_law_content", 8)]) rfl sc__law_rules.nd rfl rfl (by rfl) (pi_list (pe_dn ((D__law_contents T).up (by decide)) hr (by rfl) (pa_cons (pv 1) pa_nil))) (blkOk_by (N := N__law_rules) (sc := defScope (top 181)) (by decide +kernel)) (fun _ _ _ _ _ => (pg_name (i := 8) sc__law_rules.nd rfl (Or.inl rfl))) (fun _ _ _ _ _ => pts_one (pt_cmpR (op_eqDk (K := K) rfl (hu_64 hr)) (pe_dn ((D__law_draw T).up (by decide)) hr (by rfl) (pa_cons (pv 0) (pa_cons pe_int pa_nil))) pe_int (nomark _))) (fun _ _ _ _ _ => (pv 8)))
        (pss_one (ps_expr (pe_bm PySem.F.plainAttrs_list PySem.F.slot_list_append PySem.F.type_list_append mt_append (pv 5) (pa_cons (pe_ifExp (pt_cmpR (op_neD (hu_64 hr)) (pv 7) (pe_lst pa_nil) (nomark _)) (pe_callTy cr_tupOf (by rfl) T.f_tuple bb_tuple (pa_cons (pv 7) pa_nil)) (pe_tup (pa_cons (pe_dn ((D__law_one_of T).up (by decide)) hr (by rfl) (pa_cons (pv 0) (pa_cons (pe_dn ((D__law_contents T).up (by decide)) hr (by rfl) (pa_cons (pv 1) pa_nil)) pa_nil))) pa_nil))) pa_nil))))))
      (pss_one (ps_expr (pe_bm PySem.F.plainAttrs_list PySem.F.slot_list_append PySem.F.type_list_append mt_append (pv 3) (pa_cons (pe_tup (pa_cons (pe_dn ((D__law_draw T).up (by decide)) hr (by rfl) (pa_cons (pv 0) (pa_cons (pe_op op_add (pe_len (by rfl) T.f_len (pe_ix ix_seq (pv 1) pe_int (fun _ _ => rfl))) pe_int) pa_nil))) (pa_cons (pe_ix ix_seq (pv 5) pe_int (fun _ _ => rfl)) (pa_cons (pe_ix ix_seq (pv 5) pe_int (fun _ _ => rfl)) pa_nil)))) pa_nil)))))))
    (pss_one (ps_ret (pe_callTy cr_tupOf (by rfl) T.f_tuple bb_tuple (pa_cons (pv 3) pa_nil))))), ?_⟩
  obtain ⟨h, m, rfl, g, m1, m3⟩ := pr
  obtain ⟨v, u, rfl, a1, a2⟩ := a.two
  cases a2
  have k5 := g.k5
  refine s_newL Pn fun A hA o => ?_
  have nA : A ∉ S := Pn.ne hA
  have np : A ≠ p.1 := Pn.nep hA
  have np2 : A ≠ p.2 := fun e => nA (e ▸ Pn.mem2)
  have aA : At (A :: S) (upd H A (.lst [])) v h.d := (a1.avoid hA).monoX (X := []) (Rx.new hA) (fun x hx => nomatch hx)
  generalize hH1 : upd H A (.lst []) = H1 at o aA
  have e01 : Rx [A] H H1 := by rw [← hH1]; exact Rx.new hA
  dsimp only
  refine s_forRX (b := true) (Z := fun n => 0 ≤ n ∧ n ≤ 3) ((ea_1 (ev_draw (m := m + 1) (ev_I0 (i := m) (j := 1) (ev_var rfl (.int m)) ev_int fun H => .int _) rfl (by omega) (by omega))).imp fun l ⟨d, e, i, ei, l1, l2⟩ => ⟨i, by rw [e, ei], by omega, by omega⟩) (fun n hn => ⟨by omega, by omega⟩) o.pen (fun H2 n i σ' H' => (∃ x4 x5 x6 x7, σ' = [some (.ref p.1), some v, some (.int m), some (.ref A), x4, x5, x6, x7, none]) ∧ Rx [A, p.1] H1 H' ∧ ∃ rs, Own A p S H' rs ∧ rs.length = i ∧ ∀ r ∈ rs, isRu h r)
    (fun H2 n hn e2 P2 => ⟨⟨_, _, _, _, rfl⟩, Rx.of e2 (fun _ => by simp), [], o.rl np e2 P2, rfl, fun r hr => by cases hr⟩) (fun H2 n hn e2 P2 i σ' H3 hi hI => ?_) fun H2 n σ' H3 hn e2 hI => ?_
  · obtain ⟨⟨x4, x5, x6, x7, rfl⟩, e3, rs, o3, hl, hr⟩ := hI
    have a3 : At (A :: S) H3 v h.d := aA.monoX e3 (fun x hx => by
      rcases List.mem_cons.mp hx with rfl | hx
      · exact List.mem_cons_self
      · rw [List.mem_singleton.mp hx]; exact List.mem_cons_of_mem _ Pn.mem)
    refine s_newL o3.pen fun B hB oB => ?_
    have nB : B ∉ A :: S := o3.pen.ne hB
    have bp : B ≠ p.1 := o3.pen.nep hB
    have bp2 : B ≠ p.2 := fun e => nB (e ▸ o3.pen.mem2)
    have aB : At (B :: A :: S) (upd H3 B (.lst [])) v h.d := (a3.avoid hB).monoX (X := []) (Rx.new hB) (fun x hx => nomatch hx)
    generalize hH4 : upd H3 B (.lst []) = H4 at oB aB
    have e34 : Rx [B] H3 H4 := by rw [← hH4]; exact Rx.new hB
    have sub : ∀ x ∈ [B, p.1], x ∈ B :: A :: S := fun x hx => by
      rcases List.mem_cons.mp hx with rfl | hx
      · exact List.mem_cons_self
      · rw [List.mem_singleton.mp hx]; exact List.mem_cons_of_mem _ (List.mem_cons_of_mem _ Pn.mem)
    dsimp only
    refine s_forRX (b := true) (Z := fun n => n = 2) ((ea_one ev_int).imp fun l e => ⟨2, e, rfl⟩) (fun n hn => ⟨by omega, by omega⟩) oB.pen (fun H5 n j σ' H' => (∃ x6 x7, σ' = [some (.ref p.1), some v, some (.int m), some (.ref A), some (.int i), some (.ref B), x6, x7, none]) ∧ Rx [B, p.1] H4 H' ∧ ∃ ss, Own B p (A :: S) H' ss ∧ ss.length = j ∧ ∀ s ∈ ss, isSide h.zs s)
      (fun H5 n hn e5 P5 => ⟨⟨_, _, rfl⟩, Rx.of e5 (fun _ => by simp), [], oB.rl bp e5 P5, rfl, fun r hr => by cases hr⟩) (fun H5 n hn e5 P5 j σ' H6 hj hJ => ?_) fun H5 n σ' H6 hn e5 hJ => ?_
    · obtain ⟨⟨x6, x7, rfl⟩, e6, ss, o6, sl, hs⟩ := hJ
      have a6 : At (B :: A :: S) H6 v h.d := aB.monoX e6 sub
      refine s_asg (b := true) (S := B :: A :: S) (R := fun z => ∃ l, z = .list l ∧ (∀ x ∈ l, isCont h.zs x = true) ∧ l.length ≤ 6) ((ev_lcL (Z := fun _ _ => True) (E := fun d z => z = d) (ev_conts (ev_var rfl a6) g.zs) (by have := conts_len g.zs; omega) (fun _ => rfl) (fun A H0 e P hA i d v H' hd e2 P2 a2 => et_any (ev_draw (m := 2) ev_int rfl (by decide) (by decide))) fun A H0 e P hA i d v H' hd e2 P2 a2 _ => ev_var rfl a2).imp fun z ⟨l, e, c⟩ => ⟨l, e, cmp_side g.zs c⟩) o6.pen fun v7 H7 d7 e7 P7 b7 r7 => ?_
      obtain ⟨l, rfl, hl, l6⟩ := r7
      have o7 := o6.rl bp e7 P7
      have a7 := a6.mono e7 o6.pen.mem
      dsimp only
      refine s_appL (b := true) (R := isSide h.zs) rfl o7 bp bp2 (by omega) (ev_ifK (et_c (ev_neD (ev_var rfl b7) (ev_lstK ea_nil) ((side_flatL hl).shaped (by decide)) (by decide +kernel))) (fun k => (ev_tupOf (ev_var rfl b7) rfl).imp fun z e => ⟨l, e, hl, l6, fun e => ?_⟩) fun k => (ev_tup (Rs := fun l => ∃ c, l = [c] ∧ isCont h.zs c = true) (ea_1 (ev_oneC (ev_var rfl a7) g.zs rfl)) fun l ⟨_, e, _⟩ => by rw [e]; simp).imp fun z ⟨l, e, c, e2, hc⟩ => ⟨l, e, fun x hx => ?_, by rw [e2]; simp, by rw [e2]; simp⟩) fun H8 d8 e8 o8 r8 => ?_
      · subst e
        cases k
      · rw [e2, List.mem_singleton] at hx
        rw [hx]
        exact hc
      · refine ⟨⟨_, _, rfl⟩, (e6.trans (Rx.of e7 fun _ => by simp)).trans e8, ss ++ [d8], o8, by rw [List.length_append, sl]; rfl, fun s hs' => ?_⟩
        rcases List.mem_append.mp hs' with hs' | hs'
        · exact hs s hs'
        · rw [List.mem_singleton.mp hs']
          exact r8
    · obtain ⟨⟨x6, x7, rfl⟩, e6, ss, o6, sl, hs⟩ := hJ
      subst hn
      have sl2 : ss.length = 2 := sl
      match ss, sl2 with
      | [s1, s2], _ =>
      have e36 : Rx [p.1] H3 H6 := ((Rx.trans (e34.sub fun x hx => by rw [List.mem_singleton.mp hx]; exact List.mem_cons_self) e6 : Rx [B, p.1] H3 H6)).drop hB
      have P6 : Pen p (A :: S) H6 := o6.pen.tail o3.pen.mem o3.pen.mem2
      have oA : Own A p S H6 rs := o3.rl np e36.one P6
      have bB : At (A :: S) H6 (.ref B) (.list [s1, s2]) := o6.done nB
      have a6 : At (A :: S) H6 v h.d := a3.mono e36.one o3.pen.mem
      dsimp only
      refine s_appL (b := true) (R := fun r => isRu h r) rfl oA np np2 (by omega) ((ev_tup (Rs := fun l => ∃ i : Int, l = [.int i, s1, s2] ∧ 0 ≤ i ∧ i < h.ks.length + 1) ((ea_m (ev_draw (m := h.ks.length + 1) (ev_I0 (z := .int (h.ks.length + 1)) (i := h.ks.length) (j := 1) (ev_len (ev_ixN (j := 2) (z := .tuple h.ks) (ev_var rfl a6) ev_int rfl rfl) rfl) ev_int fun H => .int _) rfl (by omega) (by omega)) (ea_two (ev_ixN (j := 0) (ev_var rfl bB) ev_int rfl rfl) (ev_ixN (j := 1) (ev_var rfl bB) ev_int rfl rfl))).imp fun l ⟨d, _, e, ⟨i, ei, l1, l2⟩, e2⟩ => ⟨i, by rw [e, ei, e2], l1, l2⟩) fun l ⟨_, e, _⟩ => by rw [e]; simp).imp fun z ⟨l, e, i, e2, l1, l2⟩ => ?_) fun H8 d8 e8 o8 r8 => ?_
      · obtain ⟨la, ra, ha, ha6, _⟩ := hs s1 (by simp)
        obtain ⟨lc, rc, hc, hc6, _⟩ := hs s2 (by simp)
        exact ⟨i, la, lc, by rw [e, e2, ra, rc], ha, hc, ha6, hc6, l1, by omega⟩
      · refine ⟨⟨_, _, _, _, rfl⟩, (e3.trans (e36.sub fun x hx => by rw [List.mem_singleton.mp hx]; simp)).trans e8, rs ++ [d8], o8, by rw [List.length_append, hl]; rfl, fun r hr' => ?_⟩
        rcases List.mem_append.mp hr' with hr' | hr'
        · exact hr r hr'
        · rw [List.mem_singleton.mp hr']
          exact r8
  · obtain ⟨⟨x4, x5, x6, x7, rfl⟩, e3, rs, o3, hl, hr⟩ := hI
    have e03 : Rx [p.1] H H3 := (Rx.trans (e01.sub fun x hx => by rw [List.mem_singleton.mp hx]; exact List.mem_cons_self) e3 : Rx [A, p.1] H H3).drop hA
    have P3 : Pen p S H3 := o3.pen.tail Pn.mem Pn.mem2
    dsimp only
    exact s_retK (b := true) (ev_tupOf (ev_var rfl (o3.done nA)) rfl) P3 fun v4 H4 e4 P4 b4 => q _ _ _ (e03.one.trans e4) P4 b4 ⟨h, m, rfl, rs, rfl, by omega, hr⟩

end
end Mv
/-! # Sums of bools and numbers, list + list, t[::-1], calls of a chosen def, bounds of data -/
namespace Mv
open PySem PySem.Spec PyProof.Rows L2 He
def numI : PyData → Int
  | .int i => i
  | .bool k => if k = true then 1 else 0
  | _ => 0
def rAddB : L2.R2 := fun x y H Q => (∃ i j, x = .int i ∧ y = .int j ∧ Q (.int (i + j)) H) ∨ ∃ k j, x = .bl k ∧ y = .int j ∧ Q (.int ((if k = true then 1 else 0) + j)) H
def rSubB : L2.R2 := fun x y H Q => (∃ i j, x = .int i ∧ y = .int j ∧ Q (.int (i - j)) H) ∨ ∃ k j, x = .bl k ∧ y = .int j ∧ Q (.int ((if k = true then 1 else 0) - j)) H
section
variable {X : Cx}
theorem op_addB : OpR X (binaryOp .Add) rAddB := by
  intro pins s σ H x y v u Q I rx ry h
  rcases h with ⟨i, j, rfl, rfl, q⟩ | ⟨k, j, rfl, rfl, q⟩
  · exact op_add pins s σ H _ _ v u Q I rx ry ⟨i, j, rfl, rfl, q⟩
  · cases rx
    obtain ⟨t, rfl⟩ := ry
    exact PySem.IntBool.add_bool_int ⟨.int _, H, I.tok _, ⟨_, rfl⟩, q⟩
theorem op_subB : OpR X (binaryOp .Sub) rSubB := by
  intro pins s σ H x y v u Q I rx ry h
  rcases h with ⟨i, j, rfl, rfl, q⟩ | ⟨k, j, rfl, rfl, q⟩
  · exact op_sub pins s σ H _ _ v u Q I rx ry ⟨i, j, rfl, rfl, q⟩
  · cases rx
    obtain ⟨t, rfl⟩ := ry
    exact PySem.IntBool.sub_bool_int ⟨.int _, H, I.tok _, ⟨_, rfl⟩, q⟩
/-- f(e, ..), f any expression that gives a def -/
def tCallE (P : Program) (w : World) (K : PySem.W.Frag) (mg : Str → Option Value) (base : Heap) (k : Nat) (te : TE) (t : TA) : TE := fun σ H Q => te σ H fun v H1 => ∃ (f : Addr) (fd : FuncData) (ps : List Str) (sp : Sp), v = .ref f ∧ FnOk P w K mg base CX0 k f fd ps sp ∧ PySem.W.keepIn K (.ref f) = true ∧ Binds K fd ps [] ∧ t σ H1 fun vs H2 => sp vs H2 Q E0
theorem pe_callE {fe e : Expr} {es : List Expr} {te : TE} {t : TA} {k : Nat} {pos : Pos} (hr : Room k X.A) (hf : PE X fe te) (ha : PA X (e :: es) t)
    (hev : eval (.Call fe (e :: es) [] pos) X.env = (do callWith pos (← eval fe X.env) [] (backTo pos (starEach (e :: es) X.env)) (backToKw pos (keywordEach [] X.env))) := by rfl)
    (he : starEach (e :: es) X.env = (false, eval e X.env) :: starEach es X.env := by rfl) (hpl : (backTo pos (starEach es X.env)).any (·.1) = false := by rfl) : PE X (.Call fe (e :: es) [] pos) (tCallE X.prog X.w X.K X.mg X.base k te t) := by
  refine ⟨fun pins s σ H Q I h => ?_⟩
  rw [hev]
  refine wpAny_bind (thn (hf.run pins s σ H _ I h) fun v s1 ⟨x, H1, I1, r1, f, fd, ps, sp, ex, F, hk, hb, q⟩ => ?_)
  subst ex
  cases r1
  refine PySem.W.callWith_K (h₀ := X.base) I.ok.mod.kin hk (thn (ha.run pos pins s1 σ H1 _ I1 q) fun us s2 ⟨vs, H2, I2, r, q2⟩ => ⟨I2.kIn, ?_⟩) he hpl
  exact run_fn (dvs := []) F hr hb .nil pass0 I2 r (by rw [List.append_nil]; exact q2)
theorem pe_fnv {K : PySem.W.Frag} {mg : Str → Option Value} (T : Top K mg) {x : Str} {j : Nat} {pos : Pos} (hj : fa[j]? = some (.glo x)) (hg : Gl X x) (hm : X.mg = mg) (hd : (x == ("__debug__" : Str)) = false := by decide) : PE X (.Name x pos) (tC (.ref (ga K x))) := pe_glob hg (by rw [hm]; exact T.glo j x hj) rfl hd
end
section
variable {b : Bool} {p : Addr × Addr} {S : List Addr} {σ : L2.St} {H H' : Hp} {ta tb te : TE} {d : PyData} {j : Int} {ds es : List PyData}
theorem ev_addB (ha : Ev b p S ta σ H fun z => z = d) (hb : Ev b p S tb σ H fun z => z = .int j) (hi : isI d = true) : Ev b p S (tOp rAddB ta tb) σ H fun z => z = .int (numI d + j) :=
  ev_op ha hb fun d1 e1 h1 h2 x y H1 P a1 a2 Q q => by
    subst h1 h2
    cases a2
    cases a1 with
    | int i => exact .inl ⟨_, _, rfl, rfl, q _ H1 _ Rl.refl P (.int _) rfl⟩
    | bl k => exact .inr ⟨_, _, rfl, rfl, q _ H1 _ Rl.refl P (.int _) rfl⟩
    | _ => cases hi
theorem ev_subB (ha : Ev b p S ta σ H fun z => z = d) (hb : Ev b p S tb σ H fun z => z = .int j) (hi : isI d = true) : Ev b p S (tOp rSubB ta tb) σ H fun z => z = .int (numI d - j) :=
  ev_op ha hb fun d1 e1 h1 h2 x y H1 P a1 a2 Q q => by
    subst h1 h2
    cases a2
    cases a1 with
    | int i => exact .inl ⟨_, _, rfl, rfl, q _ H1 _ Rl.refl P (.int _) rfl⟩
    | bl k => exact .inr ⟨_, _, rfl, rfl, q _ H1 _ Rl.refl P (.int _) rfl⟩
    | _ => cases hi
theorem ev_catL (ha : Ev b p S ta σ H fun z => z = .list ds) (hb : Ev b p S tb σ H fun z => z = .list es) (hz : ds.length + es.length ≤ 100000) : Ev b p S (tOp rCat ta tb) σ H fun z => z = .list (ds ++ es) :=
  ev_op ha hb fun d1 e1 h1 h2 x y H1 P a1 a2 Q q => by
    subst h1 h2
    obtain ⟨a, xs, rfl, na, ha, ra⟩ := a1.lst_inv
    obtain ⟨c, ys, rfl, nc, hc, rc⟩ := a2.lst_inv
    exact ⟨a, c, xs, ys, rfl, rfl, ha, hc, by rw [ra.length, rc.length]; exact Nat.le_trans hz (by decide), fun l hl => q _ _ _ (Rl.new hl) (P.new hl) (at_new_lst P hl (ra.append rc)) rfl⟩
theorem ev_emp : Ev b p S tDNewK σ H fun z => z = .dict [] := fun H1 e P Q q => fun a ha => q _ _ _ (Rl.new ha) (P.new ha) (.emp (P.ne ha) upd_same) rfl
end
/-! ### bounds of data -/
def wordL : List Str := [Str.ofString "can", Str.ofString "least", Str.ofString "safe", Str.ofString "pairs", Str.ofString "shown", Str.ofString "root", Str.ofString "less", Str.ofString "more", Str.ofString ""]
mutual
def okD (L I : Nat) : PyData → Bool
  | .none => true
  | .bool _ => true
  | .int i => decide (i.natAbs ≤ I)
  | .str x => decide (x ∈ wordL)
  | .list ds => decide (ds.length ≤ L) && okDs L I ds
  | .tuple ds => decide (ds.length ≤ L) && okDs L I ds
  | .dict kvs => kvs.isEmpty
def okDs (L I : Nat) : List PyData → Bool
  | [] => true
  | d :: ds => okD L I d && okDs L I ds
end
structure Bd (L I D N : Nat) (d : PyData) : Prop where
  ok : okD L I d = true
  dp : d.depth ≤ D
  bk : d.bulk ≤ N
theorem okDs_mem {L I : Nat} {d : PyData} : ∀ {ds : List PyData}, okDs L I ds = true → d ∈ ds → okD L I d = true
  | x :: xs, c, h => by
    rw [okDs, Bool.and_eq_true] at c
    rcases List.mem_cons.mp h with rfl | h
    · exact c.1
    · exact okDs_mem c.2 h
theorem okDs_of {L I : Nat} : ∀ {ds : List PyData}, (∀ d ∈ ds, okD L I d = true) → okDs L I ds = true
  | [], _ => rfl
  | d :: ds, h => by
    rw [okDs, h d List.mem_cons_self, okDs_of fun x hx => h x (List.mem_cons_of_mem _ hx)]
    rfl
theorem okD_tup {L I : Nat} {ds : List PyData} : okD L I (.tuple ds) = true ↔ ds.length ≤ L ∧ ∀ d ∈ ds, okD L I d = true := by
  rw [okD, Bool.and_eq_true, decide_eq_true_iff]
  exact ⟨fun h => ⟨h.1, fun d => okDs_mem h.2⟩, fun h => ⟨h.1, okDs_of h.2⟩⟩
theorem okD_lst {L I : Nat} {ds : List PyData} : okD L I (.list ds) = true ↔ ds.length ≤ L ∧ ∀ d ∈ ds, okD L I d = true := by
  rw [okD, Bool.and_eq_true, decide_eq_true_iff]
  exact ⟨fun h => ⟨h.1, fun d => okDs_mem h.2⟩, fun h => ⟨h.1, okDs_of h.2⟩⟩
mutual
theorem okD_mono {L I L' I' : Nat} (hL : L ≤ L') (hI : I ≤ I') : ∀ d : PyData, okD L I d = true → okD L' I' d = true
  | .none, _ => rfl
  | .bool _, _ => rfl
  | .int i, h => by
    rw [okD, decide_eq_true_iff] at h ⊢
    omega
  | .str _, h => h
  | .list ds, h => by
    rw [okD, Bool.and_eq_true, decide_eq_true_iff] at h ⊢
    exact ⟨Nat.le_trans h.1 hL, okDs_mono hL hI ds h.2⟩
  | .tuple ds, h => by
    rw [okD, Bool.and_eq_true, decide_eq_true_iff] at h ⊢
    exact ⟨Nat.le_trans h.1 hL, okDs_mono hL hI ds h.2⟩
  | .dict _, h => h
theorem okDs_mono {L I L' I' : Nat} (hL : L ≤ L') (hI : I ≤ I') : ∀ ds : List PyData, okDs L I ds = true → okDs L' I' ds = true
  | [], _ => rfl
  | d :: ds, h => by
    rw [okDs, Bool.and_eq_true] at h ⊢
    exact ⟨okD_mono hL hI d h.1, okDs_mono hL hI ds h.2⟩
end
theorem bulk_app : ∀ ds es : List PyData, PyData.bulkAll (ds ++ es) = PyData.bulkAll ds + PyData.bulkAll es
  | [], es => (Nat.zero_add _).symm
  | d :: ds, es => by
    show d.bulk + 1 + PyData.bulkAll (ds ++ es) = _
    rw [bulk_app ds es]
    show _ = d.bulk + 1 + PyData.bulkAll ds + _
    omega
theorem bulk_rev : ∀ ds : List PyData, PyData.bulkAll ds.reverse = PyData.bulkAll ds
  | [] => rfl
  | d :: ds => by
    rw [List.reverse_cons, bulk_app, bulk_rev ds]
    show _ + (d.bulk + 1 + 0) = d.bulk + 1 + _
    omega
theorem bulk_take (n : Nat) (ds : List PyData) : PyData.bulkAll (ds.take n) ≤ PyData.bulkAll ds := by
  conv => rhs; rw [← List.take_append_drop n ds, bulk_app]
  exact Nat.le_add_right _ _
theorem bulk_drop (n : Nat) (ds : List PyData) : PyData.bulkAll (ds.drop n) ≤ PyData.bulkAll ds := by
  conv => rhs; rw [← List.take_append_drop n ds, bulk_app]
  exact Nat.le_add_left _ _
theorem bulk_mem {d : PyData} : ∀ {ds : List PyData}, d ∈ ds → d.bulk + 1 ≤ PyData.bulkAll ds
  | x :: xs, h => by
    show _ ≤ x.bulk + 1 + PyData.bulkAll xs
    rcases List.mem_cons.mp h with rfl | h
    · omega
    · have := bulk_mem h
      omega
end Mv
/-! # t[::-1] -/
namespace Mv
open PySem PySem.Spec PyProof.Rows L2 He HT
section
variable {prog : Program} {w : World} {A : Around} {E : Value → Shared → Prop} {s : Shared}
theorem adjust_rev (n : Nat) : Builtin.Slice.sliceAdjust none none (-1) (n : Int) = ((n : Int) - 1, -1) := by
  unfold Builtin.Slice.sliceAdjust
  simp
theorem places_rev (n : Nat) : Builtin.Slice.slicePlaces ((n : Int) - 1) (-1) (-1) = n := by
  unfold Builtin.Slice.slicePlaces
  simp
  by_cases h : n = 0
  · subst h; rfl
  · rw [if_pos (by omega)]
    exact Int.toNat_natCast n
theorem fm_map {α β : Type} {f : α → Option β} {g : α → β} : ∀ {l : List α}, (∀ m ∈ l, f m = some (g m)) → l.filterMap f = l.map g
  | [], _ => rfl
  | a :: l, h => by
    rw [List.filterMap_cons, h a List.mem_cons_self, fm_map fun m hm => h m (List.mem_cons_of_mem _ hm)]
    rfl
theorem sliceApplied_rev {sl : Addr} {vs : Value} {n : Nat} {Q : Int × Int × Nat → Shared → Prop} (hs : s.heap.IsSliceOf sl .none .none vs) (pk : IsPart vs (some (-1)))
    (h : Q ((n : Int) - 1, -1, n) s) : wpAny (model prog w) A (Builtin.Slice.sliceApplied (.ref sl) (pure (n : Int))) Q E s := by
  obtain ⟨os, hos, hcs, hds⟩ := id hs
  unfold Builtin.Slice.sliceApplied Builtin.Slice.sliceFields
  refine wpAny_bind (wpAny_bind (wpAny_field hos hds (x := .none) rfl (wpAny_bind (wpAny_field hos hds (x := .none) rfl (wpAny_bind (wpAny_field hos hds (x := vs) rfl (wpAny_pure ?_)))))))
  refine wpAny_bind (slicePart_ pk ?_)
  show wpAny _ _ (if ((-1 : Int) == 0) = true then _ else _) _ _ s
  rw [if_neg (by decide)]
  refine wpAny_bind (slicePart_ .none (wpAny_bind (slicePart_ .none (wpAny_bind (wpAny_pure ?_)))))
  show wpAny _ _ (match Builtin.Slice.sliceAdjust none none (-1) (n : Int) with | (lo, hi) => pure (lo, (-1 : Int), Builtin.Slice.slicePlaces lo hi (-1))) _ _ s
  rw [adjust_rev n]
  show wpAny _ _ (pure ((n : Int) - 1, (-1 : Int), Builtin.Slice.slicePlaces ((n : Int) - 1) (-1) (-1))) _ _ s
  rw [places_rev]
  exact wpAny_pure h
theorem pick_rev (xs : Array Value) : ((List.range xs.size).filterMap fun (m : Nat) => xs[((xs.size : Int) - 1 + (m : Int) * -1).toNat]?).toArray = xs.toList.reverse.toArray := by
  congr 1
  have e : ∀ m ∈ List.range xs.size, xs[((xs.size : Int) - 1 + (m : Int) * -1).toNat]? = some (xs.toList.reverse.getD m .none) := fun m hm => by
    have hm' := List.mem_range.mp hm
    have h1 : ((xs.size : Int) - 1 + (m : Int) * -1).toNat = xs.size - 1 - m := by omega
    rw [h1, List.getD_eq_getElem?_getD, List.getElem?_reverse (by simpa using hm'), Array.length_toList, Array.getElem?_toList]
    rw [Array.getElem?_eq_getElem (by omega)]
    rfl
  rw [fm_map e]
  refine List.ext_getElem? fun i => ?_
  rw [List.getElem?_map]
  by_cases hi : i < xs.size
  · rw [List.getElem?_range hi]
    show some (xs.toList.reverse.getD i .none) = _
    rw [List.getD_eq_getElem?_getD, List.getElem?_eq_getElem (by simpa using hi)]
    rfl
  · rw [List.getElem?_eq_none (by simpa using hi), List.getElem?_eq_none (by simpa using hi)]
    rfl
theorem getItem_tuple_rev {t sl : Addr} {items : Array Value} {vs : Value} {Q : Value → Shared → Prop} (ht : IsTup s.heap t items) (hs : s.heap.IsSliceOf sl .none .none vs) (pk : IsPart vs (some (-1)))
    (h : Q (.ref s.heap.objs.size) { s with heap := s.heap.push { cls := .type "tuple", data := .seq items.toList.reverse.toArray } })
    (hsz : items.size ≤ sizeLine) : wpAny (model prog w) A (getItem (.ref t) (.ref sl)) Q E s := by
  have htake : sizeOk (.seq items.toList.reverse.toArray) := by
    show items.toList.reverse.toArray.size ≤ sizeLine
    simpa using hsz
  obtain ⟨os, hos, hcs, hds⟩ := id hs
  have hTs : s.TypeIs (.ref sl) "slice" := ⟨os, hos, hcs⟩
  unfold getItem
  try with_reducible refine wpAny_holding ?_
  first | refine wpAny_bind (wpAny_pure ?_) | skip
  refine wpAny_bind (wpAny_sequenceKey ht.typeIs (by decide) ?_)
  refine wpAny_bind (wpAny_callSpecial?_slot (name := Str.ofString "__getitem__") ht.typeIs PyProof.Rows.slot_tuple_getitem
    (wpAny_call_entry PyProof.Rows.slot_tuple_getitem ht.typeIs entry_tuple_getitem ?_ (args_tuple_getitem _ _)))
  show wpAny _ _ (Builtin.Tuple.tupleItemsOf (.ref t) >>= _) _ _ s
  refine wpAny_bind (tupleItemsOf_ ht ?_)
  refine wpAny_bind (wpAny_typeOf hTs ?_)
  rw [if_pos (by decide)]
  refine wpAny_bind (sliceApplied_rev hs pk ?_)
  have hno : ¬ ((((items.size : Int) - 1) == 0 && (-1 : Int) == 1 && items.size == items.size) = true) := by simp
  show wpAny _ _ (if (((items.size : Int) - 1) == 0 && (-1 : Int) == 1 && items.size == items.size) = true then _ else _) _ _ s
  rw [if_neg hno, pick_rev]
  first
    | exact wpAny_bind (m := Builtin.Tuple.tupleExact _) (wpAny_newObj_type (wpAny_pure ⟨_, rfl, wpAny_pure h⟩) htake)
    | exact wpAny_bind (m := Builtin.Tuple.tupleExact _) (wpAny_newObj_type (wpAny_bind (wpAny_pure (wpAny_pure ⟨_, rfl, wpAny_pure h⟩))) htake)
    | exact wpAny_bind (wpAny_bind (m := Builtin.Tuple.tupleExact _) (wpAny_newObj_type (wpAny_pure (wpAny_pure ⟨_, rfl, wpAny_pure h⟩)) htake))
    | exact wpAny_bind (wpAny_bind (m := Builtin.Tuple.tupleExact _) (wpAny_newObj_type (wpAny_pure ⟨_, rfl, wpAny_pure h⟩) htake))
end
section
variable {X : Cx} {e st : Expr} {te ts : TE} {p2 pos : Pos}
def tRev (K : PySem.W.Frag) (te ts : TE) : TE := fun σ H Q => te σ H fun x H1 => ts σ H1 fun k H2 => k = .int (-1) ∧ ∃ a xs, x = .ref a ∧ SqT K H2 a xs ∧ ∀ l, H2 l = none → Q (.ref l) (upd H2 l (.tup xs.reverse))
theorem vals_rev : ∀ {xs : List V} {us : List Value}, Vals xs us → Vals xs.reverse us.reverse
  | _, _, .nil => .nil
  | _, _, .cons r t => by
    rw [List.reverse_cons, List.reverse_cons]
    exact (vals_rev t).append (.cons r .nil)
theorem pe_rev (he : PE X e te) (hk : PE X st ts) : PE X (.Subscript e (.Slice none none (some st) p2) pos) (tRev X.K te ts) := by
  refine ⟨fun pins s σ H Q I h => ?_⟩
  refine Subscript_ (thn (he.run pins s σ H _ I h) fun v s1 ⟨x, H1, I1, r1, q1⟩ => ?_)
  refine wpAny_Slice ?_
  rw [evalPart_none]
  refine wpAny_pure (wpAny_pure ?_)
  show wpAny (model X.prog X.w) X.A (eval st X.env) _ _ s1
  refine thn (hk.run pins s1 σ H1 _ I1 q1) fun kv s2 ⟨k, H2, I2, rk, ek, a, xs, ex, hx, q2⟩ => ?_
  subst ek ex
  obtain ⟨t, rfl⟩ := rk
  cases r1
  have I4 : Inv X pins σ H2 { s2 with heap := s2.heap.push { cls := .type "slice", data := .fields #[.none, .none, .int (-1) t] } } := I2.kept (t' := s2.toks) fun b ob q => Heap.get?_push_of_some _ q
  obtain ⟨its, r, ht, hz⟩ := I4.tuple hx
  have hlen : its.toArray.size = xs.length := by rw [List.size_toArray]; exact r.length.symm
  show wpAny (model X.prog X.w) X.A (subscriptTail e (.Slice none none (some st) p2) (.ref a) (.ref s2.heap.objs.size)) (EP X pins σ Q) X.xe { s2 with heap := s2.heap.push { cls := .type "slice", data := .fields #[.none, .none, .int (-1) t] } }
  refine tail_any (ops := [.ref a, .ref s2.heap.objs.size]) ht.typeIs PyProof.Rows.slot_tuple_getitem.lookup ?_ (by with_unfolding_all rfl)
  refine getItem_tuple_rev ht (Heap.IsSliceOf.new ..) (.int _ _) ?_ (by rw [hlen]; exact hz)
  refine ⟨.ref _, _, I4.laid (t' := s2.toks) (o := .tup xs.reverse) (fun b ob q => Heap.get?_push_of_some _ q) (Nat.le_refl _) ?_, rfl, q2 _ (I4.hok.fresh (Nat.le_refl _))⟩
  exact ⟨by rw [List.length_reverse]; exact hz, _, vals_rev r, IsTup.new _ _⟩
theorem ev_rev {K : PySem.W.Frag} {b : Bool} {p : Addr × Addr} {S : List Addr} {σ : L2.St} {H : Hp} {ds : List PyData} (h : Ev b p S te σ H fun z => z = .tuple ds) (hk : Ev b p S ts σ H fun z => z = .int (-1)) : Ev b p S (tRev K te ts) σ H fun z => z = .tuple ds.reverse := fun H1 e P Q q =>
  h H1 e P _ fun v H2 z e2 P2 a2 r => hk H2 (e.trans e2) P2 _ fun kv H3 z3 e3 P3 a3 r3 => by
    subst r r3
    cases a3
    obtain ⟨a, xs, rfl, na, ha, ra⟩ := (a2.mono e3 P2.mem).tup_inv
    exact ⟨rfl, a, xs, rfl, SqT.of ha, fun l hl => q _ _ _ ((e2.trans e3).trans (Rl.new hl)) (P3.new hl) (at_new_tup P3 hl ra.reverse) rfl⟩
end
end Mv
namespace Mv
open PySem PySem.Spec PyProof.Rows L2 He
def things1 : List PyData := [.none, .bool true, .bool false, .int (0), .int (1), .int (-1), .int (2), .int (9), .int (10 ^ 25), .str (Str.ofString ""), .str (Str.ofString "can"), .str (Str.ofString "shown"), .str (Str.ofString "root"), .str (Str.ofString "less"), .tuple [], .list [], .dict [], .tuple [.int (0)], .tuple [.int (0), .int (1)]]
def things2 : List PyData := [.tuple [.str (Str.ofString "root")], .tuple [.tuple [.int (0)]], .tuple [.tuple [.int (0)], .tuple [.int (0)]], .tuple [.tuple [], .tuple [], .tuple []], .tuple [.int (0), .tuple [.int (0)]], .tuple [.str (Str.ofString "more"), .tuple []], .tuple [.tuple [.tuple [.str (Str.ofString "root")]], .tuple [.int (0)]]]
theorem bd_things : ∀ z ∈ things1 ++ things2, Bd 3 (10 ^ 25) 3 12 z := by
  have h : ((things1 ++ things2).all fun z => okD 3 (10 ^ 25) z && decide (z.depth ≤ 3) && decide (z.bulk ≤ 12)) = true := by decide +kernel
  intro z hz
  have := List.all_eq_true.mp h z hz
  rw [Bool.and_eq_true, Bool.and_eq_true, decide_eq_true_iff, decide_eq_true_iff] at this
  exact ⟨this.1.1, this.1.2, this.2⟩
theorem Bd.mono {L I D N L' I' D' N' : Nat} {d : PyData} (h : Bd L I D N d) (a : L ≤ L') (b : I ≤ I') (c : D ≤ D') (e : N ≤ N') : Bd L' I' D' N' d := ⟨okD_mono a b d h.ok, Nat.le_trans h.dp c, Nat.le_trans h.bk e⟩
theorem Bd.tup {L I D N : Nat} {ds : List PyData} : Bd L I (D + 1) N (.tuple ds) ↔ ds.length ≤ L ∧ (∀ d ∈ ds, okD L I d = true) ∧ PyData.depthAll ds ≤ D ∧ PyData.bulkAll ds ≤ N := by
  constructor
  · intro h
    have h1 := okD_tup.mp h.ok
    have h2 := h.dp
    rw [PyData.depth] at h2
    exact ⟨h1.1, h1.2, by omega, h.bk⟩
  · rintro ⟨h1, h2, h3, h4⟩
    exact ⟨okD_tup.mpr ⟨h1, h2⟩, by rw [PyData.depth]; omega, h4⟩
theorem dep_app {n : Nat} {ds es : List PyData} (h1 : PyData.depthAll ds ≤ n) (h2 : PyData.depthAll es ≤ n) : PyData.depthAll (ds ++ es) ≤ n :=
  depAll_of fun d hd => (List.mem_append.mp hd).elim (fun h => Nat.le_trans (depth_mem h) h1) fun h => Nat.le_trans (depth_mem h) h2
theorem dep_sub {n : Nat} {ds es : List PyData} (h1 : PyData.depthAll ds ≤ n) (h : ∀ x ∈ es, x ∈ ds) : PyData.depthAll es ≤ n := depAll_of fun d hd => Nat.le_trans (depth_mem (h d hd)) h1
section
variable {b : Bool} {p : Addr × Addr} {S : List Addr} {σ : L2.St} {H H' : Hp} {te ta tb : TE}
theorem ev_big25 : Ev b p S (tOp (rI CPow fun i j => .int (i ^ j.toNat)) (tC (.int 10)) (tC (.int 25))) σ H fun z => z = .int (10 ^ 25) := ev_I (i := 10) (j := 25) ev_int ev_int ⟨by decide, by decide, by decide⟩ fun H => .int _
end
section
variable {P : Program} {w : World} {K : PySem.W.Frag} {mg : Str → Option Value} {base : Heap}

/-! ### _law_thing -/
abbrev N__law_thing : List Str := ["_law_pen_here", "_law_things"]
theorem sc__law_thing : FnScope N__law_thing ["_law_pen_here"] (defScope (top 195)) := ⟨rfl, rfl, rfl, by decide +kernel, rfl, by decide +kernel, by decide +kernel⟩
def R_thing (_ : List PyData) (z : PyData) : Prop := Bd 3 (10 ^ 25) 3 12 z
theorem D__law_thing (T : Top K mg) : Dn P w K mg base "_law_thing" 4 ["_law_pen_here"] (spP 0 R_thing (fun _ => True)) := by
  refine T.dnP 43 rfl rfl sc__law_thing (fun _ _ _ _ _ _ us h => match us, h with | [_], _ => rfl) rfl fun f cdv A outer s p S H ds vs Q E hr a l Pn pr q => ?_
  refine ⟨_, pss_cons (ps_set (i := 1) sc__law_thing.nd rfl (Or.inl rfl) (pe_lst (pa_cons pe_non (pa_cons pe_bl (pa_cons pe_bl (pa_cons pe_int (pa_cons pe_int (pa_cons (pe_un un_neg pe_int) (pa_cons pe_int (pa_cons pe_int (pa_cons (pe_op op_pow pe_int pe_int) (pa_cons pe_str (pa_cons pe_str (pa_cons pe_str (pa_cons pe_str (pa_cons pe_str (pa_cons (pe_tup pa_nil) (pa_cons (pe_lst pa_nil) (pa_cons pe_dnewK (pa_cons (pe_tup (pa_cons pe_int pa_nil)) (pa_cons (pe_tup (pa_cons pe_int (pa_cons pe_int pa_nil))) pa_nil)))))))))))))))))))))
    (pss_cons (ps_set (i := 1) sc__law_thing.nd rfl (Or.inl rfl) (pe_op op_cat (pv 1) (pe_lst (pa_cons (pe_tup (pa_cons pe_str pa_nil)) (pa_cons (pe_tup (pa_cons (pe_tup (pa_cons pe_int pa_nil)) pa_nil)) (pa_cons (pe_tup (pa_cons (pe_tup (pa_cons pe_int pa_nil)) (pa_cons (pe_tup (pa_cons pe_int pa_nil)) pa_nil))) (pa_cons (pe_tup (pa_cons (pe_tup pa_nil) (pa_cons (pe_tup pa_nil) (pa_cons (pe_tup pa_nil) pa_nil)))) (pa_cons (pe_tup (pa_cons pe_int (pa_cons (pe_tup (pa_cons pe_int pa_nil)) pa_nil))) (pa_cons (pe_tup (pa_cons pe_str (pa_cons (pe_tup pa_nil) pa_nil))) (pa_cons (pe_tup (pa_cons (pe_tup (pa_cons (pe_tup (pa_cons pe_str pa_nil)) pa_nil)) (pa_cons (pe_tup (pa_cons pe_int pa_nil)) pa_nil))) pa_nil))))))))))
    (pss_one (ps_ret (pe_dn ((D__law_one_of T).up (by decide)) hr (by rfl) (pa_cons (pv 0) (pa_cons (pv 1) pa_nil)))))), ?_⟩
  cases a with
  | cons _ _ => cases l
  | nil =>
  refine s_asgK (b := true) (d := .list things1) (by repeat' first | exact ev_int | exact ev_str | exact ev_non | exact ev_bl | exact ev_emp | exact ea_nilK | exact ev_neg ev_int | exact ev_big25 | refine ea_more ?_ ?_ | refine ev_tupK ?_ (by first | decide | simp) | refine ev_lstK ?_ (by first | decide | simp)) Pn fun v1 H1 e1 P1 b1 => ?_
  dsimp only
  refine s_asgK (b := true) (d := .list (things1 ++ things2)) (ev_catL (ev_var rfl b1) (by repeat' first | exact ev_int | exact ev_str | exact ev_non | exact ev_bl | exact ev_emp | exact ea_nilK | exact ev_neg ev_int | exact ev_big25 | refine ea_more ?_ ?_ | refine ev_tupK ?_ (by first | decide | simp) | refine ev_lstK ?_ (by first | decide | simp)) (by decide)) P1 fun v2 H2 e2 P2 b2 => ?_
  dsimp only
  exact s_ret (b := true) (ev_one (ev_var rfl b2) rfl rfl (by decide) (by decide)) P2 fun v3 H3 d3 e3 P3 b3 r3 => q _ _ _ ((e1.trans e2).trans e3) P3 b3 (bd_things _ r3)

end
end Mv
namespace Mv
open PySem PySem.Spec PyProof.Rows L2 He
theorem cut_to {ds : List PyData} {k : Nat} (h : k ≤ ds.length) : cutD ds none (some (k : Int)) = ds.take k := by
  unfold cutD
  rw [HT.sIx_none, HT.sIx_nat, List.drop_zero, Nat.sub_zero, Nat.min_eq_left h]
theorem cut_one {ds : List PyData} : cutD ds none (some 1) = ds.take 1 := by
  unfold cutD
  rw [HT.sIx_none, show (some (1 : Int)) = some ((1 : Nat) : Int) from rfl, HT.sIx_nat, List.drop_zero, Nat.sub_zero]
  cases ds with
  | nil => rfl
  | cons d ds => rw [Nat.min_eq_left (by simp)]
theorem cut_from {ds : List PyData} {k : Nat} (h : k ≤ ds.length) : cutD ds (some (k : Int)) none = ds.drop k := by
  unfold cutD
  rw [HT.sIx_none, HT.sIx_nat, Nat.min_eq_left h, List.take_of_length_le (by rw [List.length_drop]; omega)]
def Pre_bent (n : Nat) (ds : List PyData) : Prop := ∃ d, ds = [d, .int n] ∧ ∃ L I D N, Bd L I D N d ∧ L ≤ 50
def R_bent (ds : List PyData) (z : PyData) : Prop := ∃ (d : PyData) (n : Int), ds = [d, .int n] ∧ ∀ L I D N : Nat, 3 ≤ L → 10 ^ 25 ≤ I → Bd L I D N d → Bd (L + 1) (I + 100) (D + 3) (2 * N + 40) z
theorem bd_six {L I D N : Nat} {ds : List PyData} {z : PyData} (l3 : 3 ≤ L) (i25 : 10 ^ 25 ≤ I) (bd : Bd L I D N (.tuple ds))
    (r : z = .tuple (ds.drop 1) ∨ z = .tuple (ds.take (ds.length - 1)) ∨ z = .tuple (ds ++ ds.take 1) ∨ z = .tuple ds.reverse ∨ z = .list ds ∨ z = .tuple (ds ++ [.tuple [.int 0]])) : Bd (L + 1) (I + 100) (D + 3) (2 * N + 40) z := by
  have h1 := okD_tup.mp bd.ok
  have h2 := bd.dp
  rw [PyData.depth] at h2
  have h3 : PyData.bulkAll ds ≤ N := bd.bk
  have ok' : ∀ d ∈ ds, okD (L + 1) (I + 100) d = true := fun d hd => okD_mono (by omega) (by omega) d (h1.2 d hd)
  have mk : ∀ es : List PyData, es.length ≤ L + 1 → (∀ d ∈ es, okD (L + 1) (I + 100) d = true) → PyData.depthAll es ≤ D + 2 → PyData.bulkAll es ≤ 2 * N + 40 → Bd (L + 1) (I + 100) (D + 3) (2 * N + 40) (.tuple es) := fun es a b c d => Bd.tup.mpr ⟨a, b, c, d⟩
  have dA : PyData.depthAll ds ≤ D + 2 := by omega
  rcases r with rfl | rfl | rfl | rfl | rfl | rfl
  · exact mk _ (by rw [List.length_drop]; omega) (fun d hd => ok' d (List.mem_of_mem_drop hd)) (dep_sub dA fun x hx => List.mem_of_mem_drop hx) (by have := bulk_drop 1 ds; omega)
  · exact mk _ (by rw [List.length_take]; omega) (fun d hd => ok' d (List.mem_of_mem_take hd)) (dep_sub dA fun x hx => List.mem_of_mem_take hx) (by have := bulk_take (ds.length - 1) ds; omega)
  · refine mk _ (by rw [List.length_append, List.length_take]; omega) (fun d hd => ?_) (dep_app dA (dep_sub dA fun x hx => List.mem_of_mem_take hx)) (by rw [bulk_app]; have := bulk_take 1 ds; omega)
    rcases List.mem_append.mp hd with hd | hd
    · exact ok' d hd
    · exact ok' d (List.mem_of_mem_take hd)
  · exact mk _ (by rw [List.length_reverse]; omega) (fun d hd => ok' d (List.mem_reverse.mp hd)) (dep_sub dA fun x hx => List.mem_reverse.mp hx) (by rw [bulk_rev]; omega)
  · exact ⟨okD_lst.mpr ⟨by omega, ok'⟩, by rw [PyData.depth]; omega, by show PyData.bulkAll ds ≤ _; omega⟩
  · refine mk _ (by rw [List.length_append]; show ds.length + 1 ≤ _; omega) (fun d hd => ?_) (dep_app dA (by show max 1 0 ≤ D + 2; omega)) (by rw [bulk_app]; show PyData.bulkAll ds + 2 ≤ _; omega)
    rcases List.mem_append.mp hd with hd | hd
    · exact ok' d hd
    · rw [List.mem_singleton.mp hd]
      exact okD_tup.mpr ⟨by show 1 ≤ L + 1; omega, fun d hd => by rw [List.mem_singleton.mp hd]; rfl⟩
theorem bulk_at {ds : List PyData} {k : Nat} {x : PyData} (hx : ds[k]? = some x) : PyData.bulkAll (ds.take k) + (x.bulk + 1) + PyData.bulkAll (ds.drop (k + 1)) = PyData.bulkAll ds := by
  have h := List.take_append_drop k ds
  have hk := (List.getElem?_eq_some_iff.mp hx)
  have h2 : ds.drop k = x :: ds.drop (k + 1) := by
    rw [List.drop_eq_getElem_cons hk.1, hk.2]
  conv => rhs; rw [← h, bulk_app, h2]
  show _ = PyData.bulkAll (ds.take k) + (x.bulk + 1 + PyData.bulkAll (ds.drop (k + 1)))
  omega
theorem bd_at {L I D N : Nat} {ds : List PyData} {k : Nat} {x y : PyData} (l3 : 3 ≤ L) (i25 : 10 ^ 25 ≤ I) (bd : Bd L I D N (.tuple ds)) (hk : k < ds.length) (hx : ds[k]? = some x) (hy : ∀ L I D N : Nat, 3 ≤ L → 10 ^ 25 ≤ I → Bd L I D N x → Bd (L + 1) (I + 100) (D + 3) (2 * N + 40) y) :
    Bd (L + 1) (I + 100) (D + 3) (2 * N + 40) (.tuple (ds.take k ++ [y] ++ ds.drop (k + 1))) := by
  have h1 := okD_tup.mp bd.ok
  have h2 := bd.dp
  rw [PyData.depth] at h2
  have h3 : PyData.bulkAll ds ≤ N := bd.bk
  have hxm : x ∈ ds := List.mem_of_getElem? hx
  have hdx := depth_mem hxm
  have by' := hy L I (D - 1) x.bulk l3 i25 ⟨h1.2 x hxm, by omega, Nat.le_refl _⟩
  have hb := bulk_at hx
  have hbk := by'.bk
  have hdp := by'.dp
  have ok' : ∀ d ∈ ds, okD (L + 1) (I + 100) d = true := fun d hd => okD_mono (by omega) (by omega) d (h1.2 d hd)
  have dA : PyData.depthAll ds ≤ D + 2 := by omega
  refine Bd.tup.mpr ⟨?_, fun d hd => ?_, dep_app (dep_app (dep_sub dA fun x hx => List.mem_of_mem_take hx) ?_) (dep_sub dA fun x hx => List.mem_of_mem_drop hx), ?_⟩
  · rw [List.length_append, List.length_append, List.length_take, List.length_drop]
    show min k ds.length + 1 + (ds.length - (k + 1)) ≤ L + 1
    omega
  · rcases List.mem_append.mp hd with hd | hd
    · rcases List.mem_append.mp hd with hd | hd
      · exact ok' d (List.mem_of_mem_take hd)
      · rw [List.mem_singleton.mp hd]
        exact by'.ok
    · exact ok' d (List.mem_of_mem_drop hd)
  · show max y.depth 0 ≤ D + 2
    omega
  · rw [bulk_app, bulk_app]
    show PyData.bulkAll (ds.take k) + (y.bulk + 1 + 0) + PyData.bulkAll (ds.drop (k + 1)) ≤ 2 * N + 40
    omega
section
variable {P : Program} {w : World} {K : PySem.W.Frag} {mg : Str → Option Value} {base : Heap}

/-! ### _law_bent -/
abbrev N__law_bent : List Str := ["_law_pen_here", "_law_item_here", "_law_depth", "_law_at", "_law_option"]
theorem sc__law_bent : FnScope N__law_bent ["_law_pen_here", "_law_item_here", "_law_depth"] (defScope (top 196)) := ⟨rfl, rfl, rfl, by decide +kernel, rfl, by decide +kernel, by decide +kernel⟩
theorem D__law_bent (T : Top K mg) : ∀ n : Nat, Dn P w K mg base "_law_bent" (5 + n) ["_law_pen_here", "_law_item_here", "_law_depth"] (spP 2 R_bent (Pre_bent n))
  | 0 => by
    refine T.dnP 44 rfl rfl sc__law_bent (fun _ _ _ _ _ _ us h => match us, h with | [_, _, _], _ => rfl) rfl fun f cdv A outer s p S H ds vs Q E hr a l Pn pr q => ?_
    refine ⟨_, pss_cons (ps_if (PW.pt (pw_or (pt_not (pt_val (pe_isi (by rfl) T.f_isinstance (pv 1) (by rfl) T.f_tuple bb_tuple))) (pw_or (pt_cmpR (op_eqE (hu_lt hr)) (pv 1) (pe_tup pa_nil) (nomark _)) (pw_or (pt_cmpR (op_eqD (hu_64 hr)) (pv 2) pe_int (nomark _)) (pw_or1 (pt_cmpR (op_eqD (hu_64 hr)) (pe_dn ((D__law_draw T).up (by decide)) hr (by rfl) (pa_cons (pv 0) (pa_cons pe_int pa_nil))) pe_int (nomark _)))))))
        (pss_cons (ps_set (i := 4) sc__law_bent.nd rfl (Or.inl rfl) (pe_dn ((D__law_draw T).up (by decide)) hr (by rfl) (pa_cons (pv 0) (pa_cons pe_int pa_nil))))
        (pss_cons (ps_if (PW.pt (pw_and (pt_val (pe_isi (by rfl) T.f_isinstance (pv 1) (by rfl) T.f_int bb_int)) (pw_and1 (pt_cmpR op_lt (pv 4) pe_int (nomark _)))))
          (pss_one (ps_ret (pe_ix ix_seq (pe_lst (pa_cons (pe_op op_addB (pv 1) pe_int) (pa_cons (pe_op op_subB (pv 1) pe_int) (pa_cons (pe_cmpR (op_eqD (hu_64 hr)) (pv 1) pe_int (nomark _)) (pa_cons (pe_un un_neg pe_int) (pa_cons (pe_op op_addB (pv 1) pe_int) pa_nil)))))) (pv 4) (fun _ _ => rfl))))
          (pss_nil))
        (pss_cons (ps_if (PW.pt (pw_and (pt_val (pe_isi (by rfl) T.f_isinstance (pv 1) (by rfl) T.f_tuple bb_tuple)) (pw_and1 (pt_cmpR op_lt (pv 4) pe_int (nomark _)))))
          (pss_one (ps_ret (pe_ix ix_seq (pe_lst (pa_cons (pe_slice sl_tupA (pv 1) (po_some pe_int) po_none) (pa_cons (pe_slice sl_tupA (pv 1) po_none (po_some (pe_un un_neg pe_int))) (pa_cons (pe_op op_catA (pv 1) (pe_slice sl_tupA (pv 1) po_none (po_some pe_int))) (pa_cons (pe_rev (pv 1) (pe_un un_neg pe_int)) (pa_cons (pe_callTy cr_listOf (by rfl) T.f_list bb_list (pa_cons (pv 1) pa_nil)) (pa_cons (pe_op op_catA (pv 1) (pe_tup (pa_cons (pe_tup (pa_cons pe_int pa_nil)) pa_nil))) pa_nil))))))) (pv 4) (fun _ _ => rfl))))
          (pss_nil))
        (pss_one (ps_ret (pe_dn ((D__law_thing T).up (by decide)) hr (by rfl) (pa_cons (pv 0) pa_nil)))))))
        (pss_nil))
      (pss_cons (ps_set (i := 3) sc__law_bent.nd rfl (Or.inl rfl) (pe_dn ((D__law_draw T).up (by decide)) hr (by rfl) (pa_cons (pv 0) (pa_cons (pe_len (by rfl) T.f_len (pv 1)) pa_nil))))
      (pss_one (ps_ret (pe_op op_catA (pe_op op_catA (pe_slice sl_tupA (pv 1) po_none (po_some (pv 3))) (pe_tup (pa_cons pe_nev pa_nil))) (pe_slice sl_tupA (pv 1) (po_some (pe_op op_add (pv 3) pe_int)) po_none))))), ?_⟩
    obtain ⟨d, rfl, L0, I0, D0, N0, bd0, l50⟩ := pr
    obtain ⟨v, u, rfl, a1, a2⟩ := a.two
    cases a2
    have Hv : Ev true p S (tVar 1) [some (.ref p.1), some v, some (.int ((0 : Nat) : Int)), none, none] H fun z => z = d := ev_var rfl a1
    refine s_if (b := true) (Z := fun k => k = false → ∃ ds, d = .tuple ds ∧ ds ≠ [] ∧ ((0 : Nat) : Int) ≠ 0) ?_ Pn (fun _ H1 e1 P1 => ?_) (fun k H1 e1 P1 => ?_)
    · cases d with
      | tuple ds =>
        refine et_or (Z1 := fun k => k = false) ((et_notK (et_k (ev_isi Hv (kit_tuple _)))).imp fun x e => e) (fun _ => et_or (Z1 := fun k => k = ds.isEmpty) (et_c (ev_eqE Hv (ev_tupK ea_nil))) (fun h1 => et_or (Z1 := fun k => k = decide ((((0 : Nat) : Int) : Int) = 0)) ((et_c (ev_eqD (d := .int ((0 : Nat) : Int)) (e := .int 0) (ev_var rfl (.int _)) ev_int rfl rfl)).imp fun x e => e) (fun h2 => (et_any (ev_draw (m := 7) ev_int rfl (by decide) (by decide))).imp fun x _ _ => ⟨ds, rfl, fun e => ?_, of_decide_eq_false h2.symm⟩) fun _ => ?_) fun _ => ?_) fun _ => ?_
        · subst e; cases h1
        all_goals intro h; cases h
      | _ => exact et_or (Z1 := fun k => k = true) ((et_notK (et_k (ev_isi Hv (kit_tuple _)))).imp fun x e => e) (fun h => by cases h) fun _ h => by cases h
    · have a1' := a1.mono e1 Pn.mem
      dsimp only [tNext]
      refine s_asg (b := true) (ev_draw (m := 7) ev_int rfl (by decide) (by decide)) P1 fun v4 H2 d4 e2 P2 b4 r4 => ?_
      obtain ⟨o, rfl, o0, o7⟩ := r4
      cases b4
      have Hv2 : Ev true p S (tVar 1) [some (.ref p.1), some v, some (.int ((0 : Nat) : Int)), none, some (.int o)] H2 fun z => z = d := ev_var rfl (a1'.mono e2 P1.mem)
      have e12 := e1.trans e2
      dsimp only
      refine s_ifK (b := true) (k := isI d && decide (o < 5)) (et_andK (et_k (ev_isi Hv2 (kit_int d))) fun _ => et_c (ev_I0 (z := .bool (decide (o < 5))) (i := o) (j := 5) (ev_var rfl (.int o)) ev_int fun H => .bl _)) P2 (fun k H3 e3 P3 => ?_) (fun k H3 e3 P3 => ?_)
      · rw [Bool.and_eq_true] at k
        have o5 := of_decide_eq_true k.2
        have Hv3 := Hv2.mono e3
        have shp : SeqAt.shaped d = true := by
          have := k.1
          cases d <;> first | rfl | (cases this)
        refine s_ret (b := true) (ev_ixM (d := .list [.int (numI d + 1), .int (numI d - 1), .bool (PyData.eqv d (.int 1)), .int (-1), .int (numI d + 100)]) (ev_lstK (ea_more (ev_addB Hv3 ev_int k.1) (ea_more (ev_subB Hv3 ev_int k.1) (ea_more (ev_eqD Hv3 ev_int shp rfl) (ea_more (ev_neg ev_int) (ea_more (ev_addB Hv3 ev_int k.1) ea_nilK))))) (by simp)) ((ev_var (d := .int o) rfl (.int o)).imp fun z e => ⟨o, e, o0, o5⟩) rfl) P3 fun v5 H5 d5 e5 P5 b5 r5 => q _ _ _ ((e12.trans e3).trans e5) P5 b5 ⟨d, ((0 : Nat) : Int), rfl, fun L I D N l3 i25 bd => ?_⟩
        have ni : (numI d).natAbs ≤ I := by
          have h1 := k.1
          have h2 := bd.ok
          cases d with
          | int i => rw [okD, decide_eq_true_iff] at h2; exact h2
          | bool c => cases c <;> (simp [numI]; try omega)
          | _ => cases h1
        simp only [items, List.mem_cons, List.not_mem_nil, or_false] at r5
        rcases r5 with rfl | rfl | rfl | rfl | rfl
        · exact ⟨by rw [okD, decide_eq_true_iff]; omega, by show 0 ≤ _; omega, by show 0 ≤ _; omega⟩
        · exact ⟨by rw [okD, decide_eq_true_iff]; omega, by show 0 ≤ _; omega, by show 0 ≤ _; omega⟩
        · exact ⟨rfl, by show 0 ≤ _; omega, by show 0 ≤ _; omega⟩
        · exact ⟨by rw [okD, decide_eq_true_iff]; omega, by show 0 ≤ _; omega, by show 0 ≤ _; omega⟩
        · exact ⟨by rw [okD, decide_eq_true_iff]; omega, by show 0 ≤ _; omega, by show 0 ≤ _; omega⟩
      have e13 := e12.trans e3
      dsimp only [tNext]
      refine s_ifK (b := true) (k := isT d && decide (o < 6)) (et_andK (et_k (ev_isi (Hv2.mono e3) (kit_tuple d))) fun _ => et_c (ev_I0 (z := .bool (decide (o < 6))) (i := o) (j := 6) (ev_var rfl (.int o)) ev_int fun H => .bl _)) P3 (fun k H4 e4 P4 => ?_) (fun k H4 e4 P4 => ?_)
      · rw [Bool.and_eq_true] at k
        have o6 := of_decide_eq_true k.2
        cases d with
        | tuple ds =>
          have Hv4 := (Hv2.mono e3).mono e4
          have l0 := (okD_tup.mp bd0.ok).1
          have lc : (cutD ds none (some 1)).length ≤ 1 := by rw [cut_one]; rw [List.length_take]; omega
          refine s_ret (b := true) (ev_ixM (d := .list [.tuple (cutD ds (some 1) none), .tuple (cutD ds none (some (-1))), .tuple (ds ++ cutD ds none (some 1)), .tuple ds.reverse, .list ds, .tuple (ds ++ [.tuple [.int 0]])]) (ev_lstK (ea_more (ev_slT Hv4 (eo_some (i := 1) ev_int) eo_none) (ea_more (ev_slT Hv4 eo_none (eo_some (i := -1) (ev_neg ev_int))) (ea_more (ev_catT Hv4 (ev_slT Hv4 eo_none (eo_some (i := 1) ev_int)) (by omega)) (ea_more (ev_rev Hv4 (ev_neg ev_int)) (ea_more (ev_listOf Hv4 rfl) (ea_more (ev_catT Hv4 (ev_tupK (ea_one (ev_tupK (ea_one ev_int) (by simp))) (by simp)) (by simp; omega)) ea_nilK)))))) (by simp)) ((ev_var (d := .int o) rfl (.int o)).imp fun z e => ⟨o, e, o0, o6⟩) rfl) P4 fun v5 H5 d5 e5 P5 b5 r5 => q _ _ _ ((e13.trans e4).trans e5) P5 b5 ⟨.tuple ds, ((0 : Nat) : Int), rfl, fun L I D N l3 i25 bd => ?_⟩
          simp only [items, List.mem_cons, List.not_mem_nil, or_false] at r5
          rw [cut_tail, cut_init, cut_one] at r5
          exact bd_six l3 i25 bd r5
        | _ => cases k.1
      · have e14 := e13.trans e4
        dsimp only [tNext]
        refine s_ret (b := true) (ev_p (ds := []) (ep_cons rfl ea_nilK) rfl trivial) P4 fun v5 H5 d5 e5 P5 b5 r5 => q _ _ _ (e14.trans e5) P5 b5 ⟨d, ((0 : Nat) : Int), rfl, fun L I D N l3 i25 bd => ?_⟩
        exact Bd.mono r5 (by omega) (by omega) (by omega) (by omega)
    · obtain ⟨ds, rfl, hne, hn0⟩ := k rfl
      exact absurd rfl hn0

  | n + 1 => by
    have ih := D__law_bent T n
    refine T.dnP 44 rfl rfl sc__law_bent (fun _ _ _ _ _ _ us h => match us, h with | [_, _, _], _ => rfl) rfl fun f cdv A outer s p S H ds vs Q E hr a l Pn pr q => ?_
    refine ⟨_, pss_cons (ps_if (PW.pt (pw_or (pt_not (pt_val (pe_isi (by rfl) T.f_isinstance (pv 1) (by rfl) T.f_tuple bb_tuple))) (pw_or (pt_cmpR (op_eqE (hu_lt hr)) (pv 1) (pe_tup pa_nil) (nomark _)) (pw_or (pt_cmpR (op_eqD (hu_64 hr)) (pv 2) pe_int (nomark _)) (pw_or1 (pt_cmpR (op_eqD (hu_64 hr)) (pe_dn ((D__law_draw T).up (by show _ ≤ 5 + _; omega)) hr (by rfl) (pa_cons (pv 0) (pa_cons pe_int pa_nil))) pe_int (nomark _)))))))
        (pss_cons (ps_set (i := 4) sc__law_bent.nd rfl (Or.inl rfl) (pe_dn ((D__law_draw T).up (by show _ ≤ 5 + _; omega)) hr (by rfl) (pa_cons (pv 0) (pa_cons pe_int pa_nil))))
        (pss_cons (ps_if (PW.pt (pw_and (pt_val (pe_isi (by rfl) T.f_isinstance (pv 1) (by rfl) T.f_int bb_int)) (pw_and1 (pt_cmpR op_lt (pv 4) pe_int (nomark _)))))
          (pss_one (ps_ret (pe_ix ix_seq (pe_lst (pa_cons (pe_op op_addB (pv 1) pe_int) (pa_cons (pe_op op_subB (pv 1) pe_int) (pa_cons (pe_cmpR (op_eqD (hu_64 hr)) (pv 1) pe_int (nomark _)) (pa_cons (pe_un un_neg pe_int) (pa_cons (pe_op op_addB (pv 1) pe_int) pa_nil)))))) (pv 4) (fun _ _ => rfl))))
          (pss_nil))
        (pss_cons (ps_if (PW.pt (pw_and (pt_val (pe_isi (by rfl) T.f_isinstance (pv 1) (by rfl) T.f_tuple bb_tuple)) (pw_and1 (pt_cmpR op_lt (pv 4) pe_int (nomark _)))))
          (pss_one (ps_ret (pe_ix ix_seq (pe_lst (pa_cons (pe_slice sl_tupA (pv 1) (po_some pe_int) po_none) (pa_cons (pe_slice sl_tupA (pv 1) po_none (po_some (pe_un un_neg pe_int))) (pa_cons (pe_op op_catA (pv 1) (pe_slice sl_tupA (pv 1) po_none (po_some pe_int))) (pa_cons (pe_rev (pv 1) (pe_un un_neg pe_int)) (pa_cons (pe_callTy cr_listOf (by rfl) T.f_list bb_list (pa_cons (pv 1) pa_nil)) (pa_cons (pe_op op_catA (pv 1) (pe_tup (pa_cons (pe_tup (pa_cons pe_int pa_nil)) pa_nil))) pa_nil))))))) (pv 4) (fun _ _ => rfl))))
          (pss_nil))
        (pss_one (ps_ret (pe_dn ((D__law_thing T).up (by show _ ≤ 5 + _; omega)) hr (by rfl) (pa_cons (pv 0) pa_nil)))))))
        (pss_nil))
      (pss_cons (ps_set (i := 3) sc__law_bent.nd rfl (Or.inl rfl) (pe_dn ((D__law_draw T).up (by show _ ≤ 5 + _; omega)) hr (by rfl) (pa_cons (pv 0) (pa_cons (pe_len (by rfl) T.f_len (pv 1)) pa_nil))))
      (pss_one (ps_ret (pe_op op_catA (pe_op op_catA (pe_slice sl_tupA (pv 1) po_none (po_some (pv 3))) (pe_tup (pa_cons (pe_dn ih hr (by rfl) (pa_cons (pv 0) (pa_cons (pe_ix ix_seq (pv 1) (pv 3) (fun _ _ => rfl)) (pa_cons (pe_op op_sub (pv 2) pe_int) pa_nil)))) pa_nil))) (pe_slice sl_tupA (pv 1) (po_some (pe_op op_add (pv 3) pe_int)) po_none))))), ?_⟩
    obtain ⟨d, rfl, L0, I0, D0, N0, bd0, l50⟩ := pr
    obtain ⟨v, u, rfl, a1, a2⟩ := a.two
    cases a2
    have Hv : Ev true p S (tVar 1) [some (.ref p.1), some v, some (.int ((n + 1 : Nat) : Int)), none, none] H fun z => z = d := ev_var rfl a1
    refine s_if (b := true) (Z := fun k => k = false → ∃ ds, d = .tuple ds ∧ ds ≠ [] ∧ ((n + 1 : Nat) : Int) ≠ 0) ?_ Pn (fun _ H1 e1 P1 => ?_) (fun k H1 e1 P1 => ?_)
    · cases d with
      | tuple ds =>
        refine et_or (Z1 := fun k => k = false) ((et_notK (et_k (ev_isi Hv (kit_tuple _)))).imp fun x e => e) (fun _ => et_or (Z1 := fun k => k = ds.isEmpty) (et_c (ev_eqE Hv (ev_tupK ea_nil))) (fun h1 => et_or (Z1 := fun k => k = decide ((((n + 1 : Nat) : Int) : Int) = 0)) ((et_c (ev_eqD (d := .int ((n + 1 : Nat) : Int)) (e := .int 0) (ev_var rfl (.int _)) ev_int rfl rfl)).imp fun x e => e) (fun h2 => (et_any (ev_draw (m := 7) ev_int rfl (by decide) (by decide))).imp fun x _ _ => ⟨ds, rfl, fun e => ?_, of_decide_eq_false h2.symm⟩) fun _ => ?_) fun _ => ?_) fun _ => ?_
        · subst e; cases h1
        all_goals intro h; cases h
      | _ => exact et_or (Z1 := fun k => k = true) ((et_notK (et_k (ev_isi Hv (kit_tuple _)))).imp fun x e => e) (fun h => by cases h) fun _ h => by cases h
    · have a1' := a1.mono e1 Pn.mem
      dsimp only [tNext]
      refine s_asg (b := true) (ev_draw (m := 7) ev_int rfl (by decide) (by decide)) P1 fun v4 H2 d4 e2 P2 b4 r4 => ?_
      obtain ⟨o, rfl, o0, o7⟩ := r4
      cases b4
      have Hv2 : Ev true p S (tVar 1) [some (.ref p.1), some v, some (.int ((n + 1 : Nat) : Int)), none, some (.int o)] H2 fun z => z = d := ev_var rfl (a1'.mono e2 P1.mem)
      have e12 := e1.trans e2
      dsimp only
      refine s_ifK (b := true) (k := isI d && decide (o < 5)) (et_andK (et_k (ev_isi Hv2 (kit_int d))) fun _ => et_c (ev_I0 (z := .bool (decide (o < 5))) (i := o) (j := 5) (ev_var rfl (.int o)) ev_int fun H => .bl _)) P2 (fun k H3 e3 P3 => ?_) (fun k H3 e3 P3 => ?_)
      · rw [Bool.and_eq_true] at k
        have o5 := of_decide_eq_true k.2
        have Hv3 := Hv2.mono e3
        have shp : SeqAt.shaped d = true := by
          have := k.1
          cases d <;> first | rfl | (cases this)
        refine s_ret (b := true) (ev_ixM (d := .list [.int (numI d + 1), .int (numI d - 1), .bool (PyData.eqv d (.int 1)), .int (-1), .int (numI d + 100)]) (ev_lstK (ea_more (ev_addB Hv3 ev_int k.1) (ea_more (ev_subB Hv3 ev_int k.1) (ea_more (ev_eqD Hv3 ev_int shp rfl) (ea_more (ev_neg ev_int) (ea_more (ev_addB Hv3 ev_int k.1) ea_nilK))))) (by simp)) ((ev_var (d := .int o) rfl (.int o)).imp fun z e => ⟨o, e, o0, o5⟩) rfl) P3 fun v5 H5 d5 e5 P5 b5 r5 => q _ _ _ ((e12.trans e3).trans e5) P5 b5 ⟨d, ((n + 1 : Nat) : Int), rfl, fun L I D N l3 i25 bd => ?_⟩
        have ni : (numI d).natAbs ≤ I := by
          have h1 := k.1
          have h2 := bd.ok
          cases d with
          | int i => rw [okD, decide_eq_true_iff] at h2; exact h2
          | bool c => cases c <;> (simp [numI]; try omega)
          | _ => cases h1
        simp only [items, List.mem_cons, List.not_mem_nil, or_false] at r5
        rcases r5 with rfl | rfl | rfl | rfl | rfl
        · exact ⟨by rw [okD, decide_eq_true_iff]; omega, by show 0 ≤ _; omega, by show 0 ≤ _; omega⟩
        · exact ⟨by rw [okD, decide_eq_true_iff]; omega, by show 0 ≤ _; omega, by show 0 ≤ _; omega⟩
        · exact ⟨rfl, by show 0 ≤ _; omega, by show 0 ≤ _; omega⟩
        · exact ⟨by rw [okD, decide_eq_true_iff]; omega, by show 0 ≤ _; omega, by show 0 ≤ _; omega⟩
        · exact ⟨by rw [okD, decide_eq_true_iff]; omega, by show 0 ≤ _; omega, by show 0 ≤ _; omega⟩
      have e13 := e12.trans e3
      dsimp only [tNext]
      refine s_ifK (b := true) (k := isT d && decide (o < 6)) (et_andK (et_k (ev_isi (Hv2.mono e3) (kit_tuple d))) fun _ => et_c (ev_I0 (z := .bool (decide (o < 6))) (i := o) (j := 6) (ev_var rfl (.int o)) ev_int fun H => .bl _)) P3 (fun k H4 e4 P4 => ?_) (fun k H4 e4 P4 => ?_)
      · rw [Bool.and_eq_true] at k
        have o6 := of_decide_eq_true k.2
        cases d with
        | tuple ds =>
          have Hv4 := (Hv2.mono e3).mono e4
          have l0 := (okD_tup.mp bd0.ok).1
          have lc : (cutD ds none (some 1)).length ≤ 1 := by rw [cut_one]; rw [List.length_take]; omega
          refine s_ret (b := true) (ev_ixM (d := .list [.tuple (cutD ds (some 1) none), .tuple (cutD ds none (some (-1))), .tuple (ds ++ cutD ds none (some 1)), .tuple ds.reverse, .list ds, .tuple (ds ++ [.tuple [.int 0]])]) (ev_lstK (ea_more (ev_slT Hv4 (eo_some (i := 1) ev_int) eo_none) (ea_more (ev_slT Hv4 eo_none (eo_some (i := -1) (ev_neg ev_int))) (ea_more (ev_catT Hv4 (ev_slT Hv4 eo_none (eo_some (i := 1) ev_int)) (by omega)) (ea_more (ev_rev Hv4 (ev_neg ev_int)) (ea_more (ev_listOf Hv4 rfl) (ea_more (ev_catT Hv4 (ev_tupK (ea_one (ev_tupK (ea_one ev_int) (by simp))) (by simp)) (by simp; omega)) ea_nilK)))))) (by simp)) ((ev_var (d := .int o) rfl (.int o)).imp fun z e => ⟨o, e, o0, o6⟩) rfl) P4 fun v5 H5 d5 e5 P5 b5 r5 => q _ _ _ ((e13.trans e4).trans e5) P5 b5 ⟨.tuple ds, ((n + 1 : Nat) : Int), rfl, fun L I D N l3 i25 bd => ?_⟩
          simp only [items, List.mem_cons, List.not_mem_nil, or_false] at r5
          rw [cut_tail, cut_init, cut_one] at r5
          exact bd_six l3 i25 bd r5
        | _ => cases k.1
      · have e14 := e13.trans e4
        dsimp only [tNext]
        refine s_ret (b := true) (ev_p (ds := []) (ep_cons rfl ea_nilK) rfl trivial) P4 fun v5 H5 d5 e5 P5 b5 r5 => q _ _ _ (e14.trans e5) P5 b5 ⟨d, ((n + 1 : Nat) : Int), rfl, fun L I D N l3 i25 bd => ?_⟩
        exact Bd.mono r5 (by omega) (by omega) (by omega) (by omega)
    · obtain ⟨ds, rfl, hne, hn0⟩ := k rfl
      have a1' := a1.mono e1 Pn.mem
      have l0 := (okD_tup.mp bd0.ok).1
      have hpos : 0 < ds.length := List.length_pos_iff.mpr hne
      dsimp only [tNext]
      refine s_asg (b := true) (ev_draw (m := ds.length) (ev_len (Hv.mono e1) rfl) rfl (by omega) (by omega)) P1 fun v3 H2 d3 e2 P2 b3 r3 => ?_
      obtain ⟨k, rfl, hk⟩ := isDr_nat r3
      cases b3
      have a2' := a1'.mono e2 P1.mem
      have Hv2 : Ev true p S (tVar 1) [some (.ref p.1), some v, some (.int ((n + 1 : Nat) : Int)), some (.int k), none] H2 fun z => z = .tuple ds := ev_var rfl a2'
      obtain ⟨x, hx⟩ : ∃ x, ds[k]? = some x := ⟨ds[k], List.getElem?_eq_getElem hk⟩
      have hxm : x ∈ ds := List.mem_of_getElem? hx
      have bdx : Bd L0 I0 D0 N0 x := ⟨(okD_tup.mp bd0.ok).2 x hxm, by have h1 := bd0.dp; rw [PyData.depth] at h1; have := depth_mem hxm; omega, by have h1 := bulk_mem hxm; have h2 : PyData.bulkAll ds ≤ N0 := bd0.bk; omega⟩
      have e12 := e1.trans e2
      have c1 := ev_slT (K := K) Hv2 eo_none (eo_some (i := (k : Int)) (ev_var (i := 3) rfl (.int _)))
      rw [cut_to (by omega)] at c1
      have c2 := ev_slT (K := K) Hv2 (eo_some (i := ((k + 1 : Nat) : Int)) (ev_I0 (g := fun i j => V.int (i + j)) (i := (k : Int)) (j := 1) (ev_var (i := 3) rfl (.int _)) ev_int fun H => .int _)) eo_none
      rw [cut_from (by omega)] at c2
      dsimp only
      refine s_ret (b := true) (R := fun z => ∃ y, z = .tuple (ds.take k ++ [y] ++ ds.drop (k + 1)) ∧ R_bent [x, .int n] y) (ev_op (R1 := fun z => ∃ y, z = .tuple (ds.take k ++ [y]) ∧ R_bent [x, .int n] y) (ev_op c1 (ev_tup (Rs := fun l => ∃ y, l = [y] ∧ R_bent [x, .int n] y) (ea_1 (ev_p (ds := [x, .int n]) (ep_cons rfl (ea_two (ev_ixN (j := k) Hv2 (ev_var rfl (.int _)) rfl hx) (ev_I0 (z := .int n) (i := ((n + 1 : Nat) : Int)) (j := 1) (ev_var rfl (.int _)) ev_int fun H => by rw [show (((n + 1 : Nat) : Int) - 1) = (n : Int) by omega]; exact .int _))) rfl ⟨x, rfl, L0, I0, D0, N0, bdx, l50⟩)) fun l ⟨_, e, _⟩ => by rw [e]; simp) fun d1 e1 h1 h2 x' y' H1 P a1 a2 Q q => ?_) c2 fun d1 e1 h1 h2 x' y' H1 P a1 a2 Q q => ?_) P2 fun v5 H5 d5 e5 P5 b5 r5 => ?_
      · obtain ⟨_, rfl, y, rfl, hy⟩ := h2
        subst h1
        exact rv_catT (by rw [List.length_take]; simp; omega) x' y' H1 P a1 a2 Q fun v H2 z e2 P2 a2 r => q v H2 z e2 P2 a2 ⟨y, r, hy⟩
      · obtain ⟨y, rfl, hy⟩ := h1
        subst h2
        exact rv_catT (by rw [List.length_append, List.length_take, List.length_drop]; simp; omega) x' y' H1 P a1 a2 Q fun v H2 z e2 P2 a2 r => q v H2 z e2 P2 a2 ⟨y, r, hy⟩
      · obtain ⟨y, rfl, hy⟩ := r5
        refine q _ _ _ (e12.trans e5) P5 b5 ⟨.tuple ds, _, rfl, fun L I D N l3 i25 bd => ?_⟩
        obtain ⟨x', n', eq, hy⟩ := hy
        obtain ⟨rfl, _⟩ := List.cons.inj eq
        exact bd_at l3 i25 bd hk hx hy


end
end Mv
namespace Mv
open PySem PySem.Spec PyProof.Rows L2 He
section
variable {P : Program} {w : World} {K : PySem.W.Frag} {mg : Str → Option Value} {base : Heap}
/-- a def by the address that its name has -/
theorem Dn.at_ (T : Top K mg) {x : Str} {i k j : Nat} {ps : List Str} {sp : Sp} (D : Dn P w K mg base x j ps sp) (hg : fa[i]? = some (.glo x)) (h : j ≤ k) : ∃ fd, FnOk P w K mg base CX0 k (ga K x) fd ps sp ∧ PySem.W.keepIn K (.ref (ga K x)) = true ∧ Binds K fd ps [] := by
  obtain ⟨f, fd, F, hm, hk, hb⟩ := D.ex
  have := (T.glo i x hg).symm.trans hm
  cases this
  exact ⟨fd, F.mono h, hk, hb⟩

/-! ### _law_small_pair -/
abbrev N__law_small_pair : List Str := ["_law_pen_here", "_law_option", "_law_house"]
theorem sc__law_small_pair : FnScope N__law_small_pair ["_law_pen_here"] (defScope (top 204)) := ⟨rfl, rfl, rfl, by decide +kernel, rfl, by decide +kernel, by decide +kernel⟩
theorem hou_inj {h h' : Hou} (e : h.d = h'.d) : h = h' := by rw [← hou_d h, ← hou_d h', e]
theorem D__law_small_pair (T : Top K mg) : Dn P w K mg base "_law_small_pair" 9 ["_law_pen_here"] (spP 0 R_pair (fun _ => True)) := by
  refine T.dnP 52 rfl rfl sc__law_small_pair (fun _ _ _ _ _ _ us h => match us, h with | [_], _ => rfl) rfl fun f cdv A outer s p S H ds vs Q E hr a l Pn pr q => ?_
  refine ⟨_, pss_cons (ps_set (i := 1) sc__law_small_pair.nd rfl (Or.inl rfl) (pe_dn ((D__law_draw T).up (by decide)) hr (by rfl) (pa_cons (pv 0) (pa_cons pe_int pa_nil))))
    (pss_cons (ps_if (pt_cmpR op_lt (pv 1) pe_int (nomark _))
      (pss_one (ps_ret (pe_callE hr (pe_ix ix_seq (pe_lst (pa_cons (pe_fnv T (j := 27) rfl (by rfl) rfl) (pa_cons (pe_fnv T (j := 29) rfl (by rfl) rfl) (pa_cons (pe_fnv T (j := 27) rfl (by rfl) rfl) (pa_cons (pe_fnv T (j := 29) rfl (by rfl) rfl) (pa_cons (pe_fnv T (j := 28) rfl (by rfl) rfl) pa_nil)))))) (pv 1) (fun _ _ => rfl)) (pa_cons (pv 0) pa_nil))))
      (pss_nil))
    (pss_cons (ps_set (i := 2) sc__law_small_pair.nd rfl (Or.inl rfl) (pe_dn ((D__law_small_house T).up (by decide)) hr (by rfl) (pa_cons (pv 0) pa_nil)))
    (pss_one (ps_ret (pe_tup (pa_cons (pv 2) (pa_cons (pe_dn ((D__law_rules T).up (by decide)) hr (by rfl) (pa_cons (pv 0) (pa_cons (pv 2) (pa_cons (pe_ifExp (pt_cmpR op_lt (pe_len (by rfl) T.f_len (pe_dn ((D__law_contents T).up (by decide)) hr (by rfl) (pa_cons (pv 2) pa_nil))) pe_int (nomark _)) pe_int pe_int) pa_nil)))) pa_nil))))))), ?_⟩
  cases a with
  | cons _ _ => cases l
  | nil =>
  refine s_asg (b := true) (ev_draw (m := 10) ev_int rfl (by decide) (by decide)) Pn fun v1 H1 d1 e1 P1 b1 r1 => ?_
  obtain ⟨o, rfl, ho⟩ := isDr_nat (n := 10) r1
  cases b1
  dsimp only
  refine s_ifK (b := true) (k := decide ((o : Int) < 5)) (et_c (ev_I0 (z := .bool (decide ((o : Int) < 5))) (i := (o : Int)) (j := 5) (ev_var rfl (.int (o : Int))) ev_int fun H => .bl _)) P1 (fun k H2 e2 P2 => ?_) (fun k H2 e2 P2 => ?_)
  · have o5 : (o : Int) < 5 := of_decide_eq_true k
    have call : ∀ (f : Addr) (H3 : Hp), (∃ fd, FnOk P w K mg base CX0 8 f fd ["_law_pen_here"] (spP 0 R_pair fun _ => True) ∧ PySem.W.keepIn K (.ref f) = true ∧ Binds K fd ["_law_pen_here"] []) → Rl true p H2 H3 → Pen p S H3 →
        ∃ (f' : Addr) (fd : FuncData) (ps : List Str) (sp : Sp), V.ref f = .ref f' ∧ FnOk P w K mg base CX0 8 f' fd ps sp ∧ PySem.W.keepIn K (.ref f') = true ∧ Binds K fd ps [] ∧ (tCons (tVar 0) tNil) [some (.ref p.1), some (.int (o : Int)), none] H3 fun vs H4 => sp vs H4 (fun v H' => Q v H') E0 := fun f H3 ⟨fd, F, hk, hb⟩ e3 P3 =>
      ⟨f, fd, _, _, rfl, F, hk, hb, .ref p.1, rfl, p, S, [], [], rfl, .nil, rfl, P3, trivial, fun v H' d e4 P4 a4 r4 => q v H' d (((e1.trans e2).trans e3).trans e4) P4 a4 (by
        obtain ⟨h, ru, e, g, r⟩ := r4
        exact ⟨h, ru, e, g, r⟩)⟩
    have w1 := (D__law_wide (P := P) (w := w) (base := base) T).at_ T (i := 27) rfl (k := 8) (by decide)
    have w2 := (D__law_deep (P := P) (w := w) (base := base) T).at_ T (i := 29) rfl (k := 8) (by decide)
    have w3 := (D__law_trap (P := P) (w := w) (base := base) T).at_ T (i := 28) rfl (k := 8) (by decide)
    refine ⟨Nat.le_trans (by decide : 5 ≤ 1000) (by decide), fun l hl => ⟨.int (o : Int), rfl, .inl ⟨l, [.ref (ga K "_law_wide"), .ref (ga K "_law_deep"), .ref (ga K "_law_wide"), .ref (ga K "_law_deep"), .ref (ga K "_law_trap")], (o : Int), ?_⟩⟩⟩
    have eN : Rl true p H2 (upd H2 l (.lst [.ref (ga K "_law_wide"), .ref (ga K "_law_deep"), .ref (ga K "_law_wide"), .ref (ga K "_law_deep"), .ref (ga K "_law_trap")])) := Rl.new hl
    have PN := P2.new (o := .lst [.ref (ga K "_law_wide"), .ref (ga K "_law_deep"), .ref (ga K "_law_wide"), .ref (ga K "_law_deep"), .ref (ga K "_law_trap")]) hl
    have oc : o = 0 ∨ o = 1 ∨ o = 2 ∨ o = 3 ∨ o = 4 := by omega
    rcases oc with rfl | rfl | rfl | rfl | rfl
    · exact ⟨_, rfl, rfl, SqL.of upd_same, atI_nat (j := 0) rfl, call _ _ w1 eN PN⟩
    · exact ⟨_, rfl, rfl, SqL.of upd_same, atI_nat (j := 1) rfl, call _ _ w2 eN PN⟩
    · exact ⟨_, rfl, rfl, SqL.of upd_same, atI_nat (j := 2) rfl, call _ _ w1 eN PN⟩
    · exact ⟨_, rfl, rfl, SqL.of upd_same, atI_nat (j := 3) rfl, call _ _ w2 eN PN⟩
    · exact ⟨_, rfl, rfl, SqL.of upd_same, atI_nat (j := 4) rfl, call _ _ w3 eN PN⟩
  · have e12 := e1.trans e2
    dsimp only [tNext]
    refine s_asg (b := true) (ev_p (ds := []) (ep_cons rfl ea_nilK) rfl trivial) P2 fun v3 H3 d3 e3 P3 b3 r3 => ?_
    obtain ⟨h, rfl, g⟩ := r3
    have cl := conts_len g.zs
    dsimp only
    refine s_ret (b := true) (ev_tup (Rs := fun l => ∃ ru, l = [h.d, ru] ∧ areRu h ru) ((ea_m (R := fun z => z = h.d) (ev_var rfl b3) (ea_1 (R := areRu h) ((ev_p (n := 2) (Pre := Pre_rules) (R := R_rules) (ds := [h.d, .int (if (((conts h.zs).length : Nat) : Int) < 5 then 3 else 2)]) (ep_cons rfl (ea_two (ev_var rfl b3) (ev_ifK (k := decide ((((conts h.zs).length : Nat) : Int) < 5)) (et_c (ev_I0 (z := .bool (decide ((((conts h.zs).length : Nat) : Int) < 5))) (i := (((conts h.zs).length : Nat) : Int)) (j := 5) (ev_len (ev_conts (ev_var rfl b3) g.zs) rfl) ev_int fun H => .bl _)) (fun k => by rw [if_pos (of_decide_eq_true k)]; exact ev_int) fun k => by rw [if_neg (of_decide_eq_false k)]; exact ev_int))) rfl ⟨h, _, rfl, g, by split <;> decide, by split <;> decide⟩).imp fun z ⟨h', m, eq, hr⟩ => by
      have := hou_inj (List.cons.inj eq).1
      subst this
      exact hr))).imp fun l ⟨d, _, e1, r1, ru, e2, hr⟩ => ⟨ru, by rw [e1, r1, e2], hr⟩) fun l ⟨_, e, _⟩ => by rw [e]; simp) P3 fun v4 H4 d4 e4 P4 b4 r4 => ?_
    obtain ⟨_, rfl, ru, rfl, hr⟩ := r4
    exact q _ _ _ ((e12.trans e3).trans e4) P4 b4 ⟨h, ru, rfl, g, hr⟩

end
end Mv
namespace Mv
open PySem PySem.Spec PyProof.Rows L2 He
def rMaxI : List V → Hp → VK → Prop := fun xs H Q => ∃ i j, xs = [.int i, .int j] ∧ Q (.int (if j > i then j else i)) H
def rMinI : List V → Hp → VK → Prop := fun xs H Q => ∃ i j, xs = [.int i, .int j] ∧ Q (.int (if j < i then j else i)) H
theorem cr_max2 {X : Cx} (hc : X.calm = true) : CallR X (.builtin "max") rMaxI := call_max2 hc
theorem cr_min2 {X : Cx} (hc : X.calm = true) : CallR X (.builtin "min") rMinI := call_min2 hc
/-- cells of a content -/
def okc (zs ns : List Int) : Prop := allNum (ns.map PyData.int) zs = true
theorem okc_iff {zs ns : List Int} : okc zs ns ↔ ns.length = zs.length ∧ ∀ (i : Nat) (n z : Int), ns[i]? = some n → zs[i]? = some z → 0 ≤ n ∧ n < z := by
  constructor
  · intro h
    have hl : (ns.map PyData.int).length = zs.length := allNum_len h
    refine ⟨by simpa using hl, fun i n z h1 h2 => ?_⟩
    have := (allNum_iff hl).mp h i (.int n) z (by rw [List.getElem?_map, h1]; rfl) h2
    rw [isNum, Bool.and_eq_true, decide_eq_true_iff, decide_eq_true_iff] at this
    exact this
  · rintro ⟨hl, h⟩
    refine (allNum_iff (by simpa using hl)).mpr fun i d z h1 h2 => ?_
    rw [List.getElem?_map] at h1
    cases hn : ns[i]? with
    | none => rw [hn] at h1; cases h1
    | some n =>
      rw [hn] at h1
      cases h1
      have := h i n z hn h2
      rw [isNum, decide_eq_true this.1, decide_eq_true this.2]
      rfl
theorem okc_set {zs ns : List Int} {c : Nat} {n z : Int} (h : okc zs ns) (hz : zs[c]? = some z) (h0 : 0 ≤ n) (h1 : n < z) : okc zs (ns.set c n) := by
  rw [okc_iff] at h ⊢
  refine ⟨by rw [List.length_set]; exact h.1, fun i m y h2 h3 => ?_⟩
  by_cases e : c = i
  · subst e
    rw [hz] at h3
    cases h3
    rw [List.getElem?_set_self (by have := (List.getElem?_eq_some_iff.mp hz).1; omega)] at h2
    cases h2
    exact ⟨h0, h1⟩
  · rw [List.getElem?_set_ne e] at h2
    exact h.2 i m y h2 h3
theorem okc_get {zs ns : List Int} {c : Nat} (h : okc zs ns) (hc : c < zs.length) : ∃ n, ns[c]? = some n ∧ 0 ≤ n := by
  rw [okc_iff] at h
  have hn : c < ns.length := by omega
  exact ⟨ns[c], List.getElem?_eq_getElem hn, (h.2 c _ _ (List.getElem?_eq_getElem hn) (List.getElem?_eq_getElem hc)).1⟩
section
variable {K : PySem.W.Frag} {b : Bool} {p : Addr × Addr} {S : List Addr} {σ : L2.St} {H H' : Hp} {te ta tb tc : TE} {D : Ends} {A : Addr} {ns : List Int} {i j : Int} {d : PyData}
theorem Ats.ints_inv : ∀ {xs : List V} {ns : List Int}, Ats S H xs (ns.map PyData.int) → xs = ns.map V.int
  | _, [], .nil => rfl
  | _, n :: ns, .cons h r => by
    rw [h.int_inv, Ats.ints_inv r]
    rfl
theorem Own.cells (o : Own A p S H (ns.map PyData.int)) : H A = some (.lst (ns.map V.int)) := by
  obtain ⟨xs, h, r⟩ := o.ls
  rw [h, r.ints_inv]
theorem ev_max (ha : Ev b p S ta σ H fun z => z = .int i) (hb : Ev b p S tb σ H fun z => z = .int j) : Ev b p S (tCB rMaxI (tCons ta (tCons tb tNil))) σ H fun z => z = .int (if j > i then j else i) :=
  ev_call (ea_two ha hb) fun ds e xs H1 P a Q q => by
    subst e
    obtain ⟨v, w, rfl, h1, h2⟩ := a.two
    cases h1
    cases h2
    exact ⟨i, j, rfl, q _ H1 _ Rl.refl P (.int _) rfl⟩
theorem ev_min (ha : Ev b p S ta σ H fun z => z = .int i) (hb : Ev b p S tb σ H fun z => z = .int j) : Ev b p S (tCB rMinI (tCons ta (tCons tb tNil))) σ H fun z => z = .int (if j < i then j else i) :=
  ev_call (ea_two ha hb) fun ds e xs H1 P a Q q => by
    subst e
    obtain ⟨v, w, rfl, h1, h2⟩ := a.two
    cases h1
    cases h2
    exact ⟨i, j, rfl, q _ H1 _ Rl.refl P (.int _) rfl⟩
/-- cells[e] of a list of one's own -/
theorem ev_own {m c : Nat} {n : Int} (h0 : σ[m]? = some (some (.ref A))) (o : Own A p S H (ns.map PyData.int)) (hb : Ev false p (A :: S) tb σ H fun z => z = .int (c : Int)) (hn : ns[c]? = some n) : Ev false p (A :: S) (tOp (rIx K) (tVar m) tb) σ H fun z => z = .int n := fun H1 e P Q q =>
  ⟨_, h0, hb H1 e P _ fun v H2 z e2 P2 a2 r => by
    subst r
    cases a2
    exact .inl ⟨A, ns.map V.int, c, .int n, rfl, rfl, SqL.of (e2.same _ _ (e.same _ _ o.cells)), atI_nat (by rw [List.getElem?_map, hn]; rfl), q _ H2 _ e2 P2 (.int n) rfl⟩⟩
/-- cells[c] = e -/
theorem s_own {m k c : Nat} {n : Int} (h0 : σ[m]? = some (some (.ref A))) (hk : σ[k]? = some (some (.int (c : Int)))) (o : Own A p S H (ns.map PyData.int)) (np : A ≠ p.1) (np2 : A ≠ p.2) (hc : c < ns.length) (he : Ev false p (A :: S) te σ H fun z => z = .int n)
    (q : ∀ H1, Rx [A] H H1 → Own A p S H1 ((ns.set c n).map PyData.int) → D.nx σ H1) : tAsg te (gSub (tVar m) (tVar k) rSetL) D σ H := he H Rl.refl o.pen _ fun v H1 d e1 P1 a1 r => by
  subst r
  cases a1
  have h1 := e1.same _ _ o.cells
  refine ⟨_, h0, _, hk, A, ns.map V.int, c, c, rfl, rfl, h1, ixN_at (by rw [List.length_map]; exact hc), q _ ((Rx.of0 e1).trans (Rx.put List.mem_cons_self)) ⟨P1.put np np2, (ns.set c n).map V.int, by rw [upd_same, List.map_set], Ats.ints _⟩⟩
/-- x = list(e), to be one's own -/
theorem s_ownList {m : Nat} {ds : List PyData} (h : Ev false p S te σ H fun z => z = d) (s : isSeq d = true) (hd : items d = ds) (P : Pen p S H) (k : ∀ A H1, H A = none → Rx [] H H1 → Own A p S H1 ds → A ∉ S → D.nx (σ.set m (some (.ref A))) H1) : tAsg (tCB (rListOf K) (tCons te tNil)) (gName m) D σ H :=
  h H Rl.refl P _ fun v H2 z e2 P2 a2 r => by
    subst r
    obtain ⟨a, xs, rfl, na, hs, r⟩ := a2.seq (K := K) s
    refine ⟨a, xs, rfl, hs, fun l hl => k l _ (Rl.back e2 P2 hl) ((Rx.of0 e2).trans (Rx.new hl)) ⟨(P2.new hl).more ⟨_, upd_same⟩, xs, upd_same, hd ▸ (r.avoid hl).mono (p := p) (b := false) (Rl.new hl) (List.mem_cons_of_mem _ P2.mem)⟩ (P2.ne hl)⟩
end
/-- one step, on cells of one's own -/
def spSt : Sp := fun vs H Q _ => ∃ (p : Addr × Addr) (S : List Addr) (v u : V) (A : Addr) (zs ns : List Int) (d : PyData), vs = [v, .ref A, u] ∧ At (A :: S) H v (.tuple (zs.map PyData.int)) ∧ At (A :: S) H u d ∧ isPl zs d ∧ Own A p S H (ns.map PyData.int) ∧ okc zs ns ∧ A ≠ p.1 ∧ A ≠ p.2 ∧
  ∀ H' ns', Rx [A] H H' → Own A p S H' (ns'.map PyData.int) → okc zs ns' → Q .non H'
section
variable {P : Program} {w : World} {K : PySem.W.Frag} {mg : Str → Option Value} {base : Heap}

/-! ### _law_stepped -/
abbrev N__law_stepped : List Str := ["_law_sizes", "_law_cells", "_law_step_here", "_law_word", "_law_cell", "_law_number"]
theorem sc__law_stepped : FnScope N__law_stepped ["_law_sizes", "_law_cells", "_law_step_here"] (defScope (top 183)) := ⟨rfl, rfl, rfl, by decide +kernel, rfl, by decide +kernel, by decide +kernel⟩
theorem D__law_stepped (T : Top K mg) : Dn P w K mg base "_law_stepped" 1 ["_law_sizes", "_law_cells", "_law_step_here"] spSt := by
  refine T.dnS 31 rfl rfl sc__law_stepped (fun _ _ _ _ _ _ us h => match us, h with | [_, _, _], _ => rfl) (fun vs H Q E h => ?_) fun f cdv A0 outer s H vs Q E hr h => ?_
  · obtain ⟨p, S, v, u, A, zs, ns, d, rfl, _⟩ := h
    rfl
  refine ⟨_, pss_cons (ps_asg (pv 2) (pg_tup rfl (pgs_cons (pg_name (i := 3) sc__law_stepped.nd rfl (Or.inl rfl)) (pgs_cons (pg_name (i := 4) sc__law_stepped.nd rfl (Or.inl rfl)) (pgs_cons (pg_name (i := 5) sc__law_stepped.nd rfl (Or.inl rfl)) pgs_nil)))))
    (pss_one (ps_if (pt_cmpR (op_eqD (hu_64 hr)) (pv 3) pe_str (nomark _))
      (pss_one (ps_asg (pv 5) (pg_sub (pv 1) (pv 4) set_list)))
      (pss_one (ps_if (pt_cmpR (op_eqD (hu_64 hr)) (pv 3) pe_str (nomark _))
        (pss_one (ps_asg (pe_callB (cr_max2 rfl) (by rfl) T.f_max bb_max (pa_cons (pe_ix ix_seq (pv 1) (pv 4) (fun _ _ => rfl)) (pa_cons (pv 5) pa_nil))) (pg_sub (pv 1) (pv 4) set_list)))
        (pss_one (ps_if (pt_cmpR (op_eqD (hu_64 hr)) (pv 3) pe_str (nomark _))
          (pss_one (ps_asg (pe_callB (cr_min2 rfl) (by rfl) T.f_min bb_min (pa_cons (pe_ix ix_seq (pv 1) (pv 4) (fun _ _ => rfl)) (pa_cons (pv 5) pa_nil))) (pg_sub (pv 1) (pv 4) set_list)))
          (pss_one (ps_asg (pe_callB (cr_min2 rfl) (by rfl) T.f_min bb_min (pa_cons (pe_ix ix_seq (pv 1) (pv 5) (fun _ _ => rfl)) (pa_cons (pe_op op_sub (pe_ix ix_seq (pv 0) (pv 4) (fun _ _ => rfl)) pe_int) pa_nil))) (pg_sub (pv 1) (pv 4) set_list))))))))), ?_⟩
  obtain ⟨p, S, v, u, A, zs, ns, d, rfl, a1, a2, hp, o, hc, np, np2, q⟩ := h
  obtain ⟨x, c, n, z, rfl, hx, hz, n0, hcp, hnc⟩ := hp
  obtain ⟨a, xs, rfl, na, ha, ra⟩ := a2.tup_inv
  obtain ⟨y1, y2, y3, rfl, b1, b2, b3⟩ := ra.three
  cases b1
  cases b2
  cases b3
  refine ⟨.ref a, rfl, a, [.str x, .int (c : Int), .int n], rfl, SqT.of ha, rfl, .str x, [.int (c : Int), .int n], rfl, .int (c : Int), [.int n], rfl, .int n, [], rfl, rfl, ?_⟩
  have hs : PyData.strOk x = true := by
    rcases hx with rfl | rfl | rfl | rfl <;> decide +kernel
  have cz : c < zs.length := (List.getElem?_eq_some_iff.mp hz).1
  have cn : c < ns.length := by rw [(okc_iff.mp hc).1]; exact cz
  obtain ⟨m, hm, m0⟩ := okc_get hc cz
  have mz := (okc_iff.mp hc).2 c m z hm hz
  have Hx : ∀ {H'}, Ev false p (A :: S) (tVar 3) [some v, some (.ref A), some (.ref a), some (.str x), some (.int (c : Int)), some (.int n)] H' fun z => z = .str x := ev_var rfl (.str x)
  have Hn : ∀ {H'}, Ev false p (A :: S) (tVar 5) [some v, some (.ref A), some (.ref a), some (.str x), some (.int (c : Int)), some (.int n)] H' fun z => z = .int n := ev_var rfl (.int n)
  have Hc : ∀ {H'}, Ev false p (A :: S) (tVar 4) [some v, some (.ref A), some (.ref a), some (.str x), some (.int (c : Int)), some (.int n)] H' fun z => z = .int (c : Int) := ev_var rfl (.int _)
  refine s_ifK (b := false) (et_c (ev_eqW Hx ev_str hs (by decide +kernel))) o.pen (fun k H1 e1 P1 => ?_) (fun k H1 e1 P1 => ?_)
  · have o1 := o.rl np e1 P1
    have hne : x ≠ Str.ofString "copy" := by rw [of_decide_eq_true k]; decide +kernel
    exact s_own rfl rfl o1 np np2 cn Hn fun H2 e2 o2 => q _ _ ((Rx.of0 e1).trans e2) o2 (okc_set hc hz n0 (hnc hne))
  refine s_ifK (b := false) (et_c (ev_eqW Hx ev_str hs (by decide +kernel))) P1 (fun k2 H2 e2 P2 => ?_) (fun k2 H2 e2 P2 => ?_)
  · have e12 := e1.trans e2
    have o2 := o.rl np e12 P2
    have hne : x ≠ Str.ofString "copy" := by rw [of_decide_eq_true k2]; decide +kernel
    have nz := hnc hne
    exact s_own rfl rfl o2 np np2 cn (ev_max (ev_own rfl o2 Hc hm) Hn) fun H3 e3 o3 => q _ _ ((Rx.of0 e12).trans e3) o3 (okc_set hc hz (by split <;> omega) (by split <;> omega))
  have e12 := e1.trans e2
  refine s_ifK (b := false) (et_c (ev_eqW Hx ev_str hs (by decide +kernel))) P2 (fun k3 H3 e3 P3 => ?_) (fun k3 H3 e3 P3 => ?_)
  · have e13 := e12.trans e3
    have o3 := o.rl np e13 P3
    have hne : x ≠ Str.ofString "copy" := by rw [of_decide_eq_true k3]; decide +kernel
    have nz := hnc hne
    exact s_own rfl rfl o3 np np2 cn (ev_min (ev_own rfl o3 Hc hm) Hn) fun H4 e4 o4 => q _ _ ((Rx.of0 e13).trans e4) o4 (okc_set hc hz (by split <;> omega) (by split <;> omega))
  · have e13 := e12.trans e3
    have o3 := o.rl np e13 P3
    have hco : x = Str.ofString "copy" := by
      rcases hx with h | h | h | h
      · exact absurd h (of_decide_eq_false k)
      · exact absurd h (of_decide_eq_false k2)
      · exact absurd h (of_decide_eq_false k3)
      · exact h
    obtain ⟨g, rfl⟩ := Int.eq_ofNat_of_zero_le n0
    have gz := hcp hco
    obtain ⟨y, hy, y0⟩ := okc_get hc (c := g) (by omega)
    have a3 : At (A :: S) H3 v (.tuple (zs.map PyData.int)) := a1.mono e13 o.pen.mem
    exact s_own rfl rfl o3 np np2 cn (ev_min (ev_own rfl o3 Hn hy) (ev_I0 (i := z) (j := 1) (ev_ixN (j := c) (ev_var (i := 0) rfl a3) Hc rfl (by show (zs.map PyData.int)[c]? = _; rw [List.getElem?_map, hz]; rfl)) ev_int fun H => .int _)) fun H4 e4 o4 => q _ _ ((Rx.of0 e13).trans e4) o4 (okc_set hc hz (by split <;> omega) (by split <;> omega))

end
end Mv
namespace Mv
open PySem PySem.Spec PyProof.Rows L2 He
section
variable {K : PySem.W.Frag} {p : Addr × Addr} {S : List Addr} {σ : L2.St} {H H' : Hp} {te ta tb tc : TE} {D : Ends} {A : Addr} {ns zs : List Int} {d : PyData}
theorem s_stepped {m : Nat} (ha : Ev false p (A :: S) ta σ H fun z => z = .tuple (zs.map PyData.int)) (h0 : σ[m]? = some (some (.ref A))) (hb : Ev false p (A :: S) tb σ H fun z => z = d) (hp : isPl zs d) (o : Own A p S H (ns.map PyData.int)) (hc : okc zs ns) (np : A ≠ p.1) (np2 : A ≠ p.2)
    (k : ∀ H' ns', Rx [A] H H' → Own A p S H' (ns'.map PyData.int) → okc zs ns' → D.nx σ H') : tDrop (tCall spSt [] E0 (tCons ta (tCons (tVar m) (tCons tb tNil)))) D σ H :=
  ha H Rl.refl o.pen _ fun v H1 d1 e1 P1 a1 r1 => ⟨_, h0, hb H1 e1 P1 _ fun u H2 d2 e2 P2 a2 r2 => by
    subst r1 r2
    exact ⟨p, S, v, u, A, zs, ns, d2, rfl, a1.mono e2 P1.mem, a2, hp, o.rl np (e1.trans e2) P2, hc, np, np2, fun H' ns' e o' h' => k H' ns' ((Rx.of0 (e1.trans e2)).trans e) o' h'⟩⟩
end
def Pre_made (ds : List PyData) : Prop := ∃ (h : Hou) (ns : List Int) (k : Nat), ds = [h.d, .tuple (ns.map PyData.int), .int (k : Int)] ∧ Good h ∧ okc h.zs ns ∧ k < h.ks.length
def R_made (ds : List PyData) (z : PyData) : Prop := ∃ (h : Hou) (c k : PyData), ds = [h.d, c, k] ∧ isCont h.zs z = true
section
variable {P : Program} {w : World} {K : PySem.W.Frag} {mg : Str → Option Value} {base : Heap}

/-! ### _law_made -/
abbrev N__law_made : List Str := ["_law_house", "_law_content", "_law_kind_here", "_law_cells", "_law_step_here"]
theorem sc__law_made : FnScope N__law_made ["_law_house", "_law_content", "_law_kind_here"] (defScope (top 184)) := ⟨rfl, rfl, rfl, by decide +kernel, rfl, by decide +kernel, by decide +kernel⟩
theorem D__law_made (T : Top K mg) : Dn P w K mg base "_law_made" 2 ["_law_house", "_law_content", "_law_kind_here"] (spD false 3 R_made Pre_made) := by
  refine T.dn 32 rfl rfl sc__law_made (fun _ _ _ _ _ _ us h => match us, h with | [_, _, _], _ => rfl) rfl fun f cdv A outer s p S H ds vs Q hr a l Pn pr q => ?_
  refine ⟨_, pss_cons (ps_set (i := 3) sc__law_made.nd rfl (Or.inl rfl) (pe_callTy cr_listOf (by rfl) T.f_list bb_list (pa_cons (pv 1) pa_nil)))
    (pss_cons (ps_for PassesOwn.never rfl (pi_tup (pe_ix ix_seq (pe_ix ix_seq (pv 0) pe_int (fun _ _ => rfl)) (pv 2) (fun _ _ => rfl))) (pg_name (i := 4) sc__law_made.nd rfl (Or.inl rfl))
      (pss_one (ps_if (pt_cmpR (op_neD (hu_64 hr)) (pe_ix ix_seq (pv 4) pe_int (fun _ _ => rfl)) pe_str (nomark _))
        (pss_one (ps_expr (pe_dn ((D__law_stepped T).up (by decide)) hr (by rfl) (pa_cons (pe_ix ix_seq (pv 0) pe_int (fun _ _ => rfl)) (pa_cons (pv 3) (pa_cons (pv 4) pa_nil))))))
        (pss_one (ps_if (pt_chain op_le op_le (pe_ix ix_seq (pv 4) pe_int (fun _ _ => rfl)) (pe_ix ix_seq (pv 3) (pe_ix ix_seq (pv 4) pe_int (fun _ _ => rfl)) (fun _ _ => rfl)) (pe_ix ix_seq (pv 4) pe_int (fun _ _ => rfl)))
          (pss_one (ps_expr (pe_dn ((D__law_stepped T).up (by decide)) hr (by rfl) (pa_cons (pe_ix ix_seq (pv 0) pe_int (fun _ _ => rfl)) (pa_cons (pv 3) (pa_cons (pe_ix ix_seq (pv 4) pe_int (fun _ _ => rfl)) pa_nil))))))
          (pss_nil))))))
    (pss_one (ps_ret (pe_callTy cr_tupOf (by rfl) T.f_tuple bb_tuple (pa_cons (pv 3) pa_nil))))), ?_⟩
  obtain ⟨h, ns, k, rfl, g, hc, hk⟩ := pr
  obtain ⟨v, u, x, rfl, a1, a2, a3⟩ := a.three
  cases a3
  refine s_ownList (ds := ns.map PyData.int) (ev_var rfl a2) rfl rfl Pn fun A H1 hA e1 o nA => ?_
  have np : A ≠ p.1 := Pn.nep hA
  have np2 : A ≠ p.2 := fun e => nA (e ▸ Pn.mem2)
  have aA : At (A :: S) H1 v h.d := (a1.avoid hA).monoX e1 (fun x hx => nomatch hx)
  obtain ⟨st, hst, s60, hsts⟩ := g.ks _ (List.getElem_mem hk)
  dsimp only
  refine s_forTX (b := false) (X := [A]) (S := A :: S) (ds := st) (ev_ixN (j := k) (z := .tuple st) (ev_ixN (j := 2) (z := .tuple h.ks) (ev_var rfl aA) ev_int rfl rfl) (ev_var rfl (.int _)) rfl (by show h.ks[k]? = _; rw [List.getElem?_eq_getElem hk, hst])) o.pen (fun x hx => by rw [List.mem_singleton.mp hx]; exact List.mem_cons_self)
    (fun H2 i σ' H' => (∃ x, σ' = [some v, some u, some (.int (k : Int)), some (.ref A), x]) ∧ Rx [A] H2 H' ∧ ∃ ns', Own A p S H' (ns'.map PyData.int) ∧ okc h.zs ns') (fun H2 e2 P2 => ⟨⟨_, rfl⟩, Rx.refl, ns, o.rl np e2 P2, hc⟩) (fun _ _ _ _ q => q.2.1) (fun H2 e2 P2 i d v4 σ' H3 hd hI ad => ?_) fun H2 σ' H3 e2 hI => ?_
  · obtain ⟨⟨x, rfl⟩, e3, ns', o3, hc3⟩ := hI
    have a3 : At (A :: S) H3 v h.d := (aA.mono e2 o.pen.mem).monoX e3 (fun x hx => by rw [List.mem_singleton.mp hx]; exact List.mem_cons_self)
    have Hz : Ev false p (A :: S) (tOp (rIx K) (tVar 0) (tC (.int 0))) [some v, some u, some (.int (k : Int)), some (.ref A), some v4] H3 fun z => z = .tuple (h.zs.map PyData.int) := ev_ixN (j := 0) (ev_var rfl a3) ev_int rfl rfl
    have Hs : Ev false p (A :: S) (tVar 4) [some v, some u, some (.int (k : Int)), some (.ref A), some v4] H3 fun z => z = d := ev_var rfl ad
    dsimp only [gName]
    rcases hsts d (List.mem_of_getElem? hd) with hp | ⟨c, lo, hi, pl, rfl, hp, hcz⟩
    · obtain ⟨x, c, n, z, rfl, hx, hz, n0, hcp, hnc⟩ := id hp
      have hs : PyData.strOk x = true := by
        rcases hx with rfl | rfl | rfl | rfl <;> decide +kernel
      have hw : x ≠ Str.ofString "when" := by
        rcases hx with rfl | rfl | rfl | rfl <;> decide +kernel
      refine s_ifK (b := false) (k := true) ((et_c (ev_neD (ev_ixN (j := 0) Hs ev_int rfl rfl) ev_str (by unfold SeqAt.shaped; rw [PyData.canLay0, hs]; rfl) (by decide +kernel))).imp fun y e => e.trans (by rw [strD, decide_eq_false hw]; rfl)) o3.pen (fun _ H4 e4 P4 => ?_) (fun k _ _ _ => by cases k)
      have o4 := o3.rl np e4 P4
      exact s_stepped (Hz.mono e4) rfl (Hs.mono e4) hp o4 hc3 np np2 fun H5 ns5 e5 o5 h5 => ⟨⟨_, rfl⟩, (e3.trans (Rx.of0 e4)).trans e5, ns5, o5, h5⟩
    · refine s_ifK (b := false) (k := false) ((et_c (ev_neD (ev_ixN (j := 0) Hs ev_int rfl rfl) ev_str (by decide +kernel) (by decide +kernel))).imp fun y e => e.trans (by rw [strD]; decide +kernel)) o3.pen (fun k _ _ _ => by cases k) (fun _ H4 e4 P4 => ?_)
      have o4 := o3.rl np e4 P4
      obtain ⟨y, hy, y0⟩ := okc_get hc3 hcz
      have Hs4 := Hs.mono e4
      refine s_ifK (b := false) (et_c (ev_chain (ev_ixN (j := 2) Hs4 ev_int rfl rfl) (ev_own rfl o4 (ev_ixN (j := 1) Hs4 ev_int rfl rfl) hy) (ev_ixN (j := 3) Hs4 ev_int rfl rfl))) P4 (fun _ H5 e5 P5 => ?_) (fun _ H5 e5 P5 => ⟨⟨_, rfl⟩, (e3.trans (Rx.of0 e4)).trans (Rx.of0 e5), ns', o4.rl np e5 P5, hc3⟩)
      exact s_stepped ((Hz.mono e4).mono e5) rfl (ev_ixN (j := 4) (Hs4.mono e5) ev_int rfl rfl) hp (o4.rl np e5 P5) hc3 np np2 fun H6 ns6 e6 o6 h6 => ⟨⟨_, rfl⟩, ((e3.trans (Rx.of0 e4)).trans (Rx.of0 e5)).trans e6, ns6, o6, h6⟩
  · obtain ⟨⟨x, rfl⟩, e3, ns', o3, hc3⟩ := hI
    have e03 : Rx [] H H3 := (Rx.trans (Rx.trans (e1.sub fun x hx => nomatch hx) (Rx.of0 e2)) e3 : Rx [A] H H3).drop hA
    dsimp only
    exact s_retK (b := false) (ev_tupOf (ev_var rfl (o3.done nA)) rfl) (o3.pen.tail Pn.mem Pn.mem2) fun v4 H4 e4 P4 b4 => q _ _ _ (e03.nil.trans e4) P4 b4 ⟨h, _, _, rfl, hc3⟩

/-! ### _law_sum -/
abbrev N__law_sum : List Str := ["_law_one", "_law_two"]
theorem sc__law_sum : FnScope N__law_sum ["_law_one", "_law_two"] (defScope (top 187)) := ⟨rfl, rfl, rfl, by decide +kernel, rfl, by decide +kernel, by decide +kernel⟩
def costD (c : Int × Int) : PyData := .tuple [.int c.1, .int c.2]
def f_sum : List PyData → PyData
  | [.tuple [.int i, .int j], .tuple [.int k, .int m]] => .tuple [.int (i + k), .int (j + m)]
  | _ => .none
def Pre_sum (ds : List PyData) : Prop := ∃ i j k m : Int, ds = [.tuple [.int i, .int j], .tuple [.int k, .int m]]
theorem D__law_sum (T : Top K mg) : Dn P w K mg base "_law_sum" 1 ["_law_one", "_law_two"] (spF false 2 f_sum Pre_sum) := by
  refine T.dn 35 rfl rfl sc__law_sum (fun _ _ _ _ _ _ us h => match us, h with | [_, _], _ => rfl) rfl fun f cdv A outer s p S H ds vs Q hr a l Pn pr q => ?_
  refine ⟨_, pss_one (ps_ret (pe_tup (pa_cons (pe_op op_add (pe_ix ix_seq (pv 0) pe_int (fun _ _ => rfl)) (pe_ix ix_seq (pv 1) pe_int (fun _ _ => rfl))) (pa_cons (pe_op op_add (pe_ix ix_seq (pv 0) pe_int (fun _ _ => rfl)) (pe_ix ix_seq (pv 1) pe_int (fun _ _ => rfl))) pa_nil)))), ?_⟩
  obtain ⟨i, j, k, m, rfl⟩ := pr
  obtain ⟨v, u, rfl, a1, a2⟩ := a.two
  have H1 : Ev false p S (tVar 0) (start N__law_sum [v, u]) H fun z => z = .tuple [.int i, .int j] := ev_var rfl a1
  have H2 : Ev false p S (tVar 1) (start N__law_sum [v, u]) H fun z => z = .tuple [.int k, .int m] := ev_var rfl a2
  exact s_retK (b := false) (ev_tupK (ea_two (ev_I0 (i := i) (j := k) (ev_ixN (j := 0) H1 ev_int rfl rfl) (ev_ixN (j := 0) H2 ev_int rfl rfl) fun H => .int _) (ev_I0 (i := j) (j := m) (ev_ixN (j := 1) H1 ev_int rfl rfl) (ev_ixN (j := 1) H2 ev_int rfl rfl) fun H => .int _)) (by simp)) Pn fun v2 H2 e2 P2 b2 => q _ _ _ e2 P2 b2 rfl

end
end Mv
namespace Mv
open PySem PySem.Spec PyProof.Rows L2 He
abbrev KVD := List (PyData × PyData)
def kget (kvs : KVD) (key : PyData) : Option PyData := (kvs.find? fun kv => decide (keyN kv.1 = keyN key)).map (·.2)
def kput (kvs : KVD) (key val : PyData) : KVD := if (kget kvs key).isSome then kvs.map (fun kv => if keyN kv.1 = keyN key then (kv.1, val) else kv) else kvs ++ [(key, val)]
/-- one entry -/
def EntOk (S : List Addr) (H : Hp) (x : KEnt) (kv : PyData × PyData) : Prop := x.1 = keyN kv.1 ∧ At S H (.ref x.2.1) kv.1 ∧ At S H x.2.2 kv.2 ∧ keyOkD kv.1 = true ∧ (keyN kv.1).depth ≤ 8
/-- at d stands a dict with these keys and values -/
structure NDict (P : Program) (w : World) (S : List Addr) (H : Hp) (d : Addr) (kvs : KVD) : Prop where
  ex : ∃ xs : List KEnt, H d = some (DN P w d xs) ∧ Paired (EntOk S H) xs kvs
section
variable {P : Program} {w : World} {b : Bool} {p : Addr × Addr} {S X : List Addr} {H H' : Hp} {d c : Addr} {kvs : KVD} {xs : List KEnt} {key val : PyData} {v : V}
theorem ent_keys (r : Paired (EntOk S H) xs kvs) : KeysAt S H xs := fun x hx => by
  induction r with
  | nil => cases hx
  | cons h t ih =>
    rcases List.mem_cons.mp hx with rfl | hx
    · exact ⟨_, h.2.1, h.1.symm, h.2.2.2.1, by rw [h.1]; exact h.2.2.2.2⟩
    · exact ih hx
theorem ent_len (r : Paired (EntOk S H) xs kvs) : xs.length = kvs.length := Paired.length r
theorem ent_get (r : Paired (EntOk S H) xs kvs) (key : PyData) : (atE xs (keyN key) = none ∧ kget kvs key = none) ∨ ∃ a v z, atE xs (keyN key) = some (a, v) ∧ kget kvs key = some z ∧ At S H v z := by
  induction r with
  | nil => exact .inl ⟨rfl, rfl⟩
  | @cons x y xs ys h t ih =>
    unfold atE kget at ih ⊢
    by_cases e : keyN y.1 = keyN key
    · refine .inr ⟨x.2.1, x.2.2, y.2, ?_, ?_, h.2.2.1⟩
      · rw [List.find?_cons, decide_eq_true (h.1.trans e)]; rfl
      · rw [List.find?_cons, decide_eq_true e]; rfl
    · rw [List.find?_cons, List.find?_cons, decide_eq_false e, decide_eq_false (fun q => e (h.1.symm.trans q))]
      exact ih
theorem ent_put (r : Paired (EntOk S H) xs kvs) (hk : At S H (.ref c) key) (ok : keyOkD key = true) (dp : (keyN key).depth ≤ 8) (hv : At S H v val) : Paired (EntOk S H) (putE xs (keyN key) c v) (kput kvs key val) := by
  have hm : ∀ {xs : List KEnt} {kvs : KVD}, Paired (EntOk S H) xs kvs → Paired (EntOk S H) (xs.map (fun x => if x.1 = keyN key then (x.1, x.2.1, v) else x)) (kvs.map (fun kv => if keyN kv.1 = keyN key then (kv.1, val) else kv)) := fun r => by
    induction r with
    | nil => exact .nil
    | @cons x y xs ys h t ih =>
      refine .cons ?_ ih
      show EntOk S H (if x.1 = keyN key then (x.1, x.2.1, v) else x) (if keyN y.1 = keyN key then (y.1, val) else y)
      by_cases e : keyN y.1 = keyN key
      · rw [if_pos e, if_pos (h.1.trans e)]
        exact ⟨h.1, h.2.1, hv, h.2.2.2⟩
      · rw [if_neg e, if_neg (fun q => e (h.1.symm.trans q))]
        exact h
  have ha : ∀ {xs : List KEnt} {kvs : KVD}, Paired (EntOk S H) xs kvs → Paired (EntOk S H) (xs ++ [(keyN key, c, v)]) (kvs ++ [(key, val)]) := fun r => by
    induction r with
    | nil => exact .cons ⟨rfl, hk, hv, ok, dp⟩ .nil
    | cons h t ih => exact .cons h ih
  unfold putE kput
  rcases ent_get r key with ⟨e1, e2⟩ | ⟨a', v', u', e1, e2, _⟩
  · rw [e1, e2]
    exact ha r
  · rw [e1, e2]
    exact hm r
theorem ent_mono {H' : Hp} {S' : List Addr} (f : ∀ v d, At S H v d → At S' H' v d) (r : Paired (EntOk S H) xs kvs) : Paired (EntOk S' H') xs kvs := L2.Paired.mapP r fun _ _ h => ⟨h.1, f _ _ h.2.1, f _ _ h.2.2.1, h.2.2.2⟩
theorem NDict.rl (n : NDict P w S H d kvs) (e : Rl b p H H') (np : d ≠ p.1) (m : p.1 ∈ S) : NDict P w S H' d kvs :=
  let ⟨xs, h, r⟩ := n.ex
  ⟨xs, e _ _ (fun _ => np) h, ent_mono (fun _ _ a => a.mono e m) r⟩
theorem NDict.rx (n : NDict P w S H d kvs) (e : Rx X H H') (hd : d ∉ X) (hX : ∀ x ∈ X, x ∈ S) : NDict P w S H' d kvs :=
  let ⟨xs, h, r⟩ := n.ex
  ⟨xs, e _ _ hd h, ent_mono (fun _ _ a => a.monoX e hX) r⟩
theorem NDict.less {a : Addr} (n : NDict P w (a :: S) H d kvs) : NDict P w S H d kvs :=
  let ⟨xs, h, r⟩ := n.ex
  ⟨xs, h, ent_mono (fun _ _ a => a.less) r⟩
theorem NDict.avoid {a : Addr} (n : NDict P w S H d kvs) (ha : H a = none) : NDict P w (a :: S) H d kvs :=
  let ⟨xs, h, r⟩ := n.ex
  ⟨xs, h, ent_mono (fun _ _ z => z.avoid ha) r⟩
end
section
variable {K : PySem.W.Frag} {P : Program} {w : World} {b : Bool} {p : Addr × Addr} {S X : List Addr} {σ : L2.St} {H H' : Hp} {d : Addr} {kvs : KVD} {key val : PyData} {te tk : TE} {D : Ends} {i : Nat}
theorem ev_nin {f : Bool → Bool} (hk : Ev b p S te σ H fun z => z = key) (h0 : σ[i]? = some (some (.ref d))) (np : d ≠ p.1) (n : NDict P w S H d kvs) (ok : keyOkD key = true) (ht : isT key = true) (dp : (keyN key).depth ≤ 8) :
    Ev b p S (tOp (rNIn P w f) te (tVar i)) σ H fun z => z = .bool (f (kget kvs key).isSome) := fun H1 e Pn Q q => hk H1 e Pn _ fun v H2 z e2 P2 a2 r => ⟨_, h0, by
  subst r
  obtain ⟨xs, hx, rx⟩ := (n.rl (e.trans e2) np Pn.mem).ex
  refine ⟨S, z, d, xs, rfl, hx, ent_keys rx, a2, ok, ht, dp, ?_⟩
  rcases ent_get rx z with ⟨e3, e4⟩ | ⟨a', v', u', e3, e4, _⟩
  · rw [e3]
    exact q _ H2 _ e2 P2 (.bl _) (by rw [e4]; rfl)
  · rw [e3]
    exact q _ H2 _ e2 P2 (.bl _) (by rw [e4]; rfl)⟩
theorem ev_nget (hk : Ev b p S te σ H fun z => z = key) (h0 : σ[i]? = some (some (.ref d))) (np : d ≠ p.1) (n : NDict P w S H d kvs) (ok : keyOkD key = true) (ht : isT key = true) (dp : (keyN key).depth ≤ 8) (hv : kget kvs key = some val) :
    Ev b p S (tNGet P w (tVar i) te) σ H fun z => z = val := fun H1 e Pn Q q => ⟨_, h0, hk H1 e Pn _ fun v H2 z e2 P2 a2 r => by
  subst r
  obtain ⟨xs, hx, rx⟩ := (n.rl (e.trans e2) np Pn.mem).ex
  rcases ent_get rx z with ⟨e3, e4⟩ | ⟨a', v', u', e3, e4, av⟩
  · rw [e4] at hv; cases hv
  · rw [e4] at hv
    cases hv
    exact ⟨S, z, d, xs, a', v', rfl, hx, ent_keys rx, a2, ok, ht, dp, e3, q _ H2 _ e2 P2 av rfl⟩⟩
/-- d[key] = e -/
theorem s_nset {R : PyData → Prop} (he : Ev b p S te σ H R) (h0 : σ[i]? = some (some (.ref d))) (hk : ∀ {H1}, Rl b p H H1 → Ev b p S tk σ H1 fun z => z = key) (ok : keyOkD key = true) (ht : isT key = true) (dp : (keyN key).depth ≤ 8) (Pn : Pen p S H) (n : NDict P w S H d kvs) (np : d ≠ p.1) (np2 : d ≠ p.2) (hd : d ∈ S) (hl : kvs.length < 100000)
    (q : ∀ H1 val, Rx (d :: if b then [p.1] else []) H H1 → Pen p S H1 → NDict P w S H1 d (kput kvs key val) → R val → D.nx σ H1) : tAsg te (gSub (tVar i) tk (rNSet P w)) D σ H :=
  he H Rl.refl Pn _ fun v H1 val e1 P1 a1 r1 => ⟨_, h0, hk e1 H1 Rl.refl P1 _ fun kv H2 z e2 P2 a2 r => by
    subst r
    obtain ⟨c, rfl⟩ := at_ref a2 ht
    obtain ⟨xs, hx, rx⟩ := (n.rl (e1.trans e2) np Pn.mem).ex
    refine ⟨S, z, d, c, xs, rfl, rfl, hx, ent_keys rx, a2, ok, dp, by rw [ent_len rx]; exact Nat.lt_of_lt_of_le hl (by decide), ?_⟩
    have rp := ent_put rx a2 ok dp (a1.mono e2 P1.mem)
    refine q _ val ((Rx.of (e1.trans e2) fun e => ?_).trans (Rx.put List.mem_cons_self)) (P2.put np np2) ⟨_, upd_same, ent_mono (fun _ _ a => a.put hd) rp⟩ r1
    subst e
    exact List.mem_cons_of_mem _ List.mem_cons_self⟩
/-- x = dict([]) -/
theorem s_ndict (Pn : Pen p S H) (k : ∀ d H1, H d = none → Rx [] H H1 → Pen p (d :: S) H1 → NDict P w (d :: S) H1 d [] → d ∉ S → D.nx (σ.set i (some (.ref d))) H1) : tAsg (tCB (rDict0 K P w) (tCons (tLst tNil) tNil)) (gName i) D σ H :=
  ⟨Nat.zero_le _, fun l hl => ⟨l, rfl, SqL.of upd_same, fun d hd => k d _ (by
    unfold upd at hd
    split at hd
    · cases hd
    · exact hd) ((Rx.new hl).trans (Rx.new hd)) (((Pn.new hl).new hd).more ⟨_, upd_same⟩) ⟨[], upd_same, .nil⟩ ((Pn.new hl).ne hd)⟩⟩
end
end Mv
namespace Mv
open PySem PySem.Spec PyProof.Rows L2 He
theorem find_map_key {kvs : KVD} {key val : PyData} (k' : PyData) : kget (kvs.map fun kv => if keyN kv.1 = keyN key then (kv.1, val) else kv) k' = if keyN k' = keyN key then (kget kvs key).map (fun _ => val) else kget kvs k' := by
  unfold kget
  induction kvs with
  | nil => simp
  | cons y r ih =>
    rw [List.map_cons, List.find?_cons, List.find?_cons, List.find?_cons]
    by_cases e : keyN y.1 = keyN key
    · rw [if_pos e]
      by_cases e2 : keyN k' = keyN key
      · rw [if_pos e2]
        simp [e, e2]
      · rw [if_neg e2] at ih ⊢
        have : ¬ keyN y.1 = keyN k' := fun q => e2 (q.symm.trans e)
        simp only [this, decide_false]
        exact ih
    · rw [if_neg e]
      by_cases e2 : keyN k' = keyN key
      · rw [if_pos e2] at ih ⊢
        have : ¬ keyN y.1 = keyN k' := fun q => e (q.trans e2)
        simp only [this, e, decide_false]
        exact ih
      · rw [if_neg e2] at ih ⊢
        by_cases e3 : keyN y.1 = keyN k'
        · simp [e3]
        · simp only [e3, decide_false]
          exact ih
theorem kget_kput (kvs : KVD) (key val k' : PyData) : kget (kput kvs key val) k' = if keyN k' = keyN key then some val else kget kvs k' := by
  unfold kput
  cases h : kget kvs key with
  | some z =>
    rw [if_pos (show (some z).isSome = true from rfl), find_map_key, h]
    rfl
  | none =>
    rw [if_neg (by simp)]
    unfold kget at h ⊢
    rw [List.find?_append]
    by_cases e : keyN k' = keyN key
    · rw [if_pos e, e, Option.map_eq_none_iff.mp h]
      simp
    · rw [if_neg e]
      cases hf : kvs.find? fun kv => decide (keyN kv.1 = keyN k') with
      | some z => rfl
      | none => simp [Ne.symm e, fun q : keyN key = keyN k' => e q.symm]
theorem kput_len (kvs : KVD) (key val : PyData) : (kput kvs key val).length ≤ kvs.length + 1 := by
  unfold kput
  split
  · rw [List.length_map]; omega
  · rw [List.length_append]; exact Nat.le_refl _
theorem kput_mem {kvs : KVD} {key val : PyData} {kv : PyData × PyData} (h : kv ∈ kput kvs key val) : (∃ kv0 ∈ kvs, kv.1 = kv0.1 ∧ (kv.2 = kv0.2 ∨ kv.2 = val)) ∨ kv = (key, val) := by
  unfold kput at h
  split at h
  · obtain ⟨kv0, h0, rfl⟩ := List.mem_map.mp h
    refine .inl ⟨kv0, h0, ?_⟩
    split
    · exact ⟨rfl, .inr rfl⟩
    · exact ⟨rfl, .inl rfl⟩
  · rcases List.mem_append.mp h with h | h
    · exact .inl ⟨kv, h, rfl, .inl rfl⟩
    · exact .inr (List.mem_singleton.mp h)
theorem keyNs_ints : ∀ is : List Int, keyOkDs (is.map PyData.int) = true ∧ NestedKey.depthAll (keyNs (is.map PyData.int)) = 0
  | [] => ⟨rfl, by rw [List.map_nil, keyNs, NestedKey.depthAll]⟩
  | i :: is => by
    have := keyNs_ints is
    refine ⟨by rw [List.map_cons, keyOkDs, this.1]; rfl, ?_⟩
    rw [List.map_cons, keyNs, NestedKey.depthAll, this.2, keyN, NestedKey.depth]
    rfl
theorem cont_key {zs : List Int} {c : PyData} (h : isCont zs c = true) : keyOkD c = true ∧ isT c = true ∧ (keyN c).depth = 1 := by
  obtain ⟨is, rfl, _⟩ := isCont_ints h
  have := keyNs_ints is
  exact ⟨by rw [keyOkD]; exact this.1, rfl, by rw [keyN, NestedKey.depth, this.2]⟩
/-- the row of ways of a content -/
def isWay (h : Hou) (z : PyData) : Prop := ∃ l, z = .list l ∧ l.length = h.ks.length ∧ ∀ x ∈ l, isCont h.zs x = true
def WaysOk (h : Hou) (kvs : KVD) : Prop := ∀ c ∈ conts h.zs, ∃ z, kget kvs c = some z ∧ isWay h z
def spWays (P : Program) (w : World) : Sp := fun vs H Q _ => ∃ (p : Addr × Addr) (S : List Addr) (v : V) (h : Hou), vs = [v] ∧ At S H v h.d ∧ Good h ∧ Pen p S H ∧ ∀ d H' kvs, Rx [] H H' → Pen p S H' → d ∉ S → NDict P w S H' d kvs → WaysOk h kvs → H d = none → Q (.ref d) H'
/-- the list at q, one of S -/
structure LstAt (S : List Addr) (H : Hp) (q : Addr) (ds : List PyData) : Prop where
  ex : ∃ xs, H q = some (.lst xs) ∧ Ats S H xs ds
def offered (kvs : KVD) (key : PyData) (c : Int × Int) : Bool := !(kget kvs key).isSome || (match kget kvs key with | some o => W.dataLt (costD c) o | none => false)
def offK (kvs : KVD) (key : PyData) (c : Int × Int) : KVD := if offered kvs key c = true then kput kvs key (costD c) else kvs
def offQ (kvs : KVD) (ds : List PyData) (key : PyData) (c : Int × Int) : List PyData := if offered kvs key c = true then ds ++ [key] else ds
def costs (kvs : KVD) : Prop := ∀ kv ∈ kvs, ∃ c, kv.2 = costD c
def spOffer (P : Program) (w : World) : Sp := fun vs H Q _ => ∃ (p : Addr × Addr) (S : List Addr) (d q : Addr) (v u : V) (kvs : KVD) (ds : List PyData) (key : PyData) (c : Int × Int), vs = [.ref d, .ref q, v, u] ∧ At S H v key ∧ At S H u (costD c) ∧ Pen p S H ∧ NDict P w S H d kvs ∧ LstAt S H q ds ∧
  d ∈ S ∧ q ∈ S ∧ d ≠ q ∧ d ≠ p.1 ∧ d ≠ p.2 ∧ q ≠ p.1 ∧ q ≠ p.2 ∧ keyOkD key = true ∧ isT key = true ∧ (keyN key).depth ≤ 8 ∧ costs kvs ∧ kvs.length < 100000 ∧ ds.length < 1000000 ∧
  ∀ H', Rx [d, q] H H' → Pen p S H' → NDict P w S H' d (offK kvs key c) → LstAt S H' q (offQ kvs ds key c) → Q .non H'
theorem cost_flat (c : Int × Int) : Flat 1 (costD c) := Flat.tup fun d hd => by
  rcases List.mem_cons.mp hd with rfl | hd
  · exact flat_int 0 _
  · rw [List.mem_singleton.mp hd]; exact flat_int 0 _
theorem cost_alike (c e : Int × Int) : W.alike (costD c) (costD e) = true := by simp [costD, W.alike, W.alikeAll]
theorem kget_cost {kvs : KVD} {key z : PyData} (h : costs kvs) (e : kget kvs key = some z) : ∃ c, z = costD c := by
  unfold kget at e
  obtain ⟨kv, h1, rfl⟩ := Option.map_eq_some_iff.mp e
  exact h kv (List.mem_of_find?_eq_some h1)
section
variable {P : Program} {w : World} {K : PySem.W.Frag} {mg : Str → Option Value} {base : Heap}

/-! ### _law_ways -/
abbrev N__law_ways : List Str := ["_law_house", "_law_found", "_law_content", "_law_kind_here"]
theorem sc__law_ways : FnScope N__law_ways ["_law_house"] (defScope (top 185)) := ⟨rfl, rfl, rfl, by decide +kernel, rfl, by decide +kernel, by decide +kernel⟩
theorem D__law_ways (T : Top K mg) : Dn P w K mg base "_law_ways" 3 ["_law_house"] (spWays P w) := by
  refine T.dnS 33 rfl rfl sc__law_ways (fun _ _ _ _ _ _ us h => match us, h with | [_], _ => rfl) (fun vs H Q E h => ?_) fun f cdv A0 outer s H vs Q E hr h => ?_
  · obtain ⟨p, S, v, h, rfl, _⟩ := h
    rfl
  refine ⟨_, pss_cons (ps_set (i := 1) sc__law_ways.nd rfl (Or.inl rfl) (pe_callTy (cr_dict0 rfl) (by rfl) T.f_dict bb_dict (pa_cons (pe_lst pa_nil) pa_nil)))
    (pss_cons (ps_for PassesOwn.never rfl (pi_list (pe_dn ((D__law_contents T).up (by decide)) hr (by rfl) (pa_cons (pv 0) pa_nil))) (pg_name (i := 2) sc__law_ways.nd rfl (Or.inr rfl))
      (pss_one (ps_asg (pe_lc (own := [("_law_kind_here", 3)]) rfl sc__law_ways.nd (pi_range1 (by rfl) T.f_range (pa_cons (pe_len (by rfl) T.f_len (pe_ix ix_seq (pv 0) pe_int (fun _ _ => rfl))) pa_nil)) (blkOk_by (N := N__law_ways) (sc := defScope (top 185)) (by decide +kernel)) (fun _ _ _ _ _ => (pg_name (i := 3) sc__law_ways.nd rfl (Or.inl rfl))) (fun _ _ _ _ _ => pts_nil) (fun _ _ _ _ _ => (pe_dn ((D__law_made T).up (by decide)) hr (by rfl) (pa_cons (pv 0) (pa_cons (pv 2) (pa_cons (pv 3) pa_nil)))))) (pg_sub (pv 1) (pv 2) (set_nest (hu_64 hr))))))
    (pss_one (ps_ret (pv 1)))), ?_⟩
  obtain ⟨p, S, v, h, rfl, a1, g, Pn, q⟩ := h
  refine s_ndict Pn fun d H1 hd e1 P1 n1 nd => ?_
  have np : d ≠ p.1 := Pn.nep hd
  have np2 : d ≠ p.2 := fun e => nd (e ▸ Pn.mem2)
  have a1' : At (d :: S) H1 v h.d := (a1.avoid hd).monoX e1 (fun x hx => nomatch hx)
  have cl := conts_len g.zs
  have k5 := g.k5
  dsimp only
  refine s_forLX (b := false) (X := [d]) (S := d :: S) (ev_conts (ev_var rfl a1') g.zs) P1 (fun x hx => by rw [List.mem_singleton.mp hx]; exact List.mem_cons_self) (fun H2 i σ' H' => (∃ x, σ' = [some v, some (.ref d), x, none]) ∧ Rx [d] H2 H' ∧ Pen p (d :: S) H' ∧ ∃ kvs, NDict P w (d :: S) H' d kvs ∧ kvs.length ≤ i ∧ ∀ c ∈ (conts h.zs).take i, ∃ z, kget kvs c = some z ∧ isWay h z)
    (fun H2 e2 P2 => ⟨⟨_, rfl⟩, Rx.refl, P2, [], n1.rl e2 np P1.mem, Nat.le_refl _, fun c hc => by rw [List.take_zero] at hc; cases hc⟩) (fun _ _ _ _ q => q.2.1) (fun H2 e2 P2 i c v2 σ' H3 hc hI ac => ?_) fun H2 σ' H3 e2 hI => ?_
  · obtain ⟨⟨x, rfl⟩, e3, P3, kvs, n3, hl, hw⟩ := hI
    have hcm := List.mem_of_getElem? hc
    have hcc := conts_cont g.zs c hcm
    obtain ⟨ns, rfl, nl⟩ := isCont_ints hcc
    have ck := cont_key hcc
    have hi : i < (conts h.zs).length := (List.getElem?_eq_some_iff.mp hc).1
    have a3 : At (d :: S) H3 v h.d := (a1'.mono e2 P1.mem).monoX e3 (fun x hx => by rw [List.mem_singleton.mp hx]; exact List.mem_cons_self)
    dsimp only [gName]
    refine s_nset (b := false) (R := isWay h) (i := 1) (d := d) (kvs := kvs) ((ev_lcR (Z := fun _ k => k = true) (E := fun _ z => isCont h.zs z) (n := h.ks.length) (ea_one (ev_len (ev_ixN (j := 2) (z := .tuple h.ks) (ev_var rfl a3) ev_int rfl rfl) rfl)) (by omega) (by omega) (fun _ => rfl) (fun A H0 e P hA i H' hi e2 P2 H3 e3 P3 Q q => q true H3 Rl.refl P3 rfl) fun A H0 e P hA k H' hk e4 P4 _ => ?_).imp fun z ⟨l, e, c⟩ => ⟨l, e, by rw [cmp_len c, rngD_len]; rfl, fun x hx => let ⟨_, _, _, h⟩ := c.all x hx; h⟩) rfl (fun {H1} e => ev_var rfl (ac.mono e P3.mem)) ck.1 ck.2.1 (by rw [ck.2.2]; decide) P3 n3 np np2 List.mem_cons_self (by omega) fun H4 val e4 P4 n4 hv => ?_
    · have w1 : At (A :: d :: S) H' v h.d := At.through a3 e P hA e4
      have w2 : At (A :: d :: S) H' v2 (.tuple (ns.map PyData.int)) := At.through ac e P hA e4
      exact ((ev_fn0 (n := 3) (R := R_made) (Pre := Pre_made) (Rs := fun l => l = [h.d, .tuple (ns.map PyData.int), .int (k : Int)]) (ea_more (ev_var rfl w1) (ea_two (ev_var rfl w2) (ev_var rfl (.int _)))) fun l e => by subst e; exact ⟨rfl, h, ns, k, rfl, g, hcc, by omega⟩)).imp fun z ⟨l, e, h', c', k', e2, hz⟩ => by
        subst e
        have := hou_inj (List.cons.inj e2).1
        subst this
        exact hz
    · refine ⟨⟨_, rfl⟩, e3.trans (by simpa using e4), P4, _, n4, Nat.le_trans (kput_len _ _ _) (by omega), fun c' hc' => ?_⟩
      rw [take_succ_of hc] at hc'
      rw [kget_kput]
      by_cases e : keyN c' = keyN (.tuple (ns.map PyData.int))
      · exact ⟨val, if_pos e, hv⟩
      · rw [if_neg e]
        rcases List.mem_append.mp hc' with hc' | hc'
        · exact hw c' hc'
        · rw [List.mem_singleton.mp hc'] at e
          exact absurd rfl e
  · obtain ⟨⟨x, rfl⟩, e3, P3, kvs, n3, hl, hw⟩ := hI
    rw [List.take_length] at hw
    have e03 : Rx [] H H3 := (Rx.trans (Rx.trans (e1.sub fun x hx => nomatch hx) (Rx.of0 e2)) e3 : Rx [d] H H3).drop hd
    exact ⟨_, rfl, q d H3 kvs e03 (P3.tail Pn.mem Pn.mem2) nd n3.less hw hd⟩

/-! ### _law_offer -/
abbrev N__law_offer : List Str := ["_law_known", "_law_waiting", "_law_key", "_law_cost"]
theorem sc__law_offer : FnScope N__law_offer ["_law_known", "_law_waiting", "_law_key", "_law_cost"] (defScope (top 188)) := ⟨rfl, rfl, rfl, by decide +kernel, rfl, by decide +kernel, by decide +kernel⟩
theorem D__law_offer (T : Top K mg) : Dn P w K mg base "_law_offer" 1 ["_law_known", "_law_waiting", "_law_key", "_law_cost"] (spOffer P w) := by
  refine T.dnS 36 rfl rfl sc__law_offer (fun _ _ _ _ _ _ us h => match us, h with | [_, _, _, _], _ => rfl) (fun vs H Q E h => ?_) fun f cdv A0 outer s H vs Q E hr h => ?_
  · obtain ⟨p, S, d, q, v, u, kvs, ds, key, c, rfl, _⟩ := h
    rfl
  refine ⟨_, pss_one (ps_if (PW.pt (pw_or (pt_cmpR (op_nnin (hu_64 hr)) (pv 2) (pv 0) (by rfl)) (pw_or1 (pt_cmpR (op_ltD (hu_64 hr)) (pv 3) (pe_nget (hu_64 hr) (pv 0) (pv 2) (fun _ _ => rfl)) (nomark _)))))
      (pss_cons (ps_asg (pv 3) (pg_sub (pv 0) (pv 2) (set_nest (hu_64 hr))))
      (pss_one (ps_expr (pe_bm PySem.F.plainAttrs_list PySem.F.slot_list_append PySem.F.type_list_append mt_append (pv 1) (pa_cons (pv 2) pa_nil)))))
      (pss_nil)), ?_⟩
  obtain ⟨p, S, d, qq, v, u, kvs, ds, key, c, rfl, ak, ac, Pn, n, lq, hd, hq, dq, np, np2, qp, qp2, ok, ht, dp, hc, hl, hl2, q⟩ := h
  refine s_ifK (b := false) (k := offered kvs key c) ?_ Pn (fun k H1 e1 P1 => ?_) (fun k H1 e1 P1 => ?_)
  · refine (et_orK (k := !(kget kvs key).isSome) (l := match kget kvs key with | some o => W.dataLt (costD c) o | none => false) (et_c (ev_nin (f := fun k => !k) (i := 0) (ev_var rfl ak) rfl np n ok ht dp)) fun hs => ?_)
    cases hg : kget kvs key with
    | none => rw [hg] at hs; cases hs
    | some z =>
      obtain ⟨o, rfl⟩ := kget_cost hc hg
      exact et_c (ev_ltD (ev_var rfl ac) (ev_nget (i := 0) (ev_var rfl ak) rfl np n ok ht dp hg) (cost_alike _ _) (by simp [costD]) ((cost_flat _).shaped (by decide)) ((cost_flat _).shaped (by decide)))
  · dsimp only [tNext]
    refine s_nset (b := false) (R := fun z => z = costD c) (i := 0) ((ev_var (i := 3) rfl ac).mono e1) rfl (fun {H2} e => ev_var (i := 2) rfl (ak.mono (e1.trans e) Pn.mem)) ok ht dp P1 (n.rl e1 np Pn.mem) np np2 hd hl fun H2 val e2 P2 n2 hv => ?_
    subst hv
    obtain ⟨xs, hx, rx⟩ := lq.ex
    have e12 : Rx [d] H H2 := (Rx.of0 e1).trans (by simpa using e2)
    have hx2 : H2 qq = some (.lst xs) := e12 _ _ (fun m => dq (List.mem_singleton.mp m).symm) hx
    have sub : ∀ x ∈ [d], x ∈ S := fun x hx => by rw [List.mem_singleton.mp hx]; exact hd
    have rx2 := rx.monoX e12 sub
    have ak2 := ak.monoX e12 sub
    refine ⟨_, rfl, .inl ⟨rfl, xs, SqL.of hx2⟩, _, rfl, qq, xs, v, rfl, rfl, hx2, by rw [rx.length]; exact Nat.lt_of_lt_of_le hl2 (by decide), ?_⟩
    refine q _ ((e12.sub fun x hx => by rw [List.mem_singleton.mp hx]; simp).trans (Rx.put (by simp))) (P2.put qp qp2) ?_ ⟨xs ++ [v], upd_same, ?_⟩
    · unfold offK
      rw [if_pos k]
      exact n2.rx (X := [qq]) (Rx.put (by simp)) (fun m => dq (List.mem_singleton.mp m)) fun x hx => by rw [List.mem_singleton.mp hx]; exact hq
    · unfold offQ
      rw [if_pos k]
      exact Ats.put hq (rx2.snoc ak2)
  · dsimp only [tNext]
    refine q _ (Rx.of0 e1) P1 ?_ ?_
    · unfold offK
      rw [if_neg (by rw [k]; exact Bool.false_ne_true)]
      exact n.rl e1 np Pn.mem
    · unfold offQ
      rw [if_neg (by rw [k]; exact Bool.false_ne_true)]
      obtain ⟨xs, hx, rx⟩ := lq.ex
      exact ⟨xs, e1.same _ _ hx, rx.mono e1 Pn.mem⟩

end
end Mv
namespace Mv
open PySem PySem.Spec PyProof.Rows L2 He
/-- the pen is made -/
def spPen (K : PySem.W.Frag) : Sp := fun vs H Q _ => ∃ (l : Addr) (ns : List Int), vs = [.ref l] ∧ SqL K H l (ns.map V.int) ∧ ∀ r q H', Rx [] H H' → Pen (r, q) [r, q] H' → Q (.ref r) H'
theorem cut_63 (ns : List Int) : cutV (ns.map V.int) none (some 63) = (ns.take 63).map V.int := by
  unfold cutV
  rw [HT.sIx_none, show (some (63 : Int)) = some ((63 : Nat) : Int) from rfl, HT.sIx_nat, List.drop_zero, Nat.sub_zero, List.length_map, List.map_take]
  by_cases h : 63 ≤ ns.length
  · rw [Nat.min_eq_left h]
  · rw [Nat.min_eq_right (by omega), List.take_of_length_le (by simp), List.take_of_length_le (by simp; omega)]
section
variable {P : Program} {w : World} {K : PySem.W.Frag} {mg : Str → Option Value} {base : Heap}

/-! ### _law_pen -/
abbrev N__law_pen : List Str := ["_law_script"]
theorem sc__law_pen : FnScope N__law_pen ["_law_script"] (defScope (top 169)) := ⟨rfl, rfl, rfl, by decide +kernel, rfl, by decide +kernel, by decide +kernel⟩
theorem D__law_pen (T : Top K mg) : Dn P w K mg base "_law_pen" 1 ["_law_script"] (spPen K) := by
  refine T.dnS 17 rfl rfl sc__law_pen (fun _ _ _ _ _ _ us h => match us, h with | [_], _ => rfl) (fun vs H Q E h => ?_) fun f cdv A0 outer s H vs Q E hr h => ?_
  · obtain ⟨l, ns, rfl, _⟩ := h
    rfl
  refine ⟨_, pss_one (ps_ret (pe_lst (pa_cons (pe_callTy cr_listOf (by rfl) T.f_list bb_list (pa_cons (pe_slice sl_list (pv 0) po_none (po_some pe_int)) pa_nil)) (pa_cons pe_int (pa_cons pe_int pa_nil))))), ?_⟩
  obtain ⟨l, ns, rfl, hs, q⟩ := h
  refine ⟨.ref l, rfl, 63, rfl, l, ns.map V.int, rfl, hs, fun a ha => ⟨a, (ns.take 63).map V.int, rfl, .inl (SqL.of (by rw [upd_same, cut_63])), fun c hc => ⟨(by decide : 3 ≤ sizeLine), fun r hr => ?_⟩⟩⟩
  rw [cut_63] at hc hr ⊢
  have hc0 : H c = none := by
    unfold upd at hc
    split at hc
    · cases hc
    · exact hc
  have hrc : r ≠ c := fun e => by
    rw [e, upd_same] at hr
    cases hr
  refine q r c _ (((Rx.new ha).trans (Rx.new hc)).trans (Rx.new hr)) ⟨⟨ns.take 63, 0, 0, upd_same, (upd_ne (Ne.symm hrc)).trans upd_same, by rw [List.length_take]; omega⟩, Ne.symm hrc, by simp, by simp, fun s hs => ?_⟩
  rcases List.mem_cons.mp hs with rfl | hs
  · exact ⟨_, upd_same⟩
  · rw [List.mem_singleton.mp hs]
    exact ⟨_, (upd_ne (Ne.symm hrc)).trans upd_same⟩

end
end Mv
/-! # An own error made without arguments; its __init__ stores nothing -/
namespace Mv
open PySem PySem.Spec PyProof.Rows L2 He
section
variable {X : Cx}
theorem mk_endN {pins : List (Addr × Obj)} {σ : L2.St} {H1 H2 : Hp} {Q : XK} {hp hp2 h2 : Heap} {g1 g2 : Array GenState} {d1 d2 : Drawn} {t1 t2 : Nat} {os1 os2 : OsState} {a C : Addr} (T : Raises X (.ref C)) (I1 : Inv X pins σ H1 ⟨hp, g1, d1, t1, os1⟩)
    (ha : hp.objs.size ≤ a) (k : ∀ b o, hp.get? b = some o → hp2.get? b = some o) (un : Un (frs X.stack) [] (upd H1 a (exo a C none)) H2 hp2 h2) (hok : HOk X.prog X.w H2 h2) (ho : os2 = os1) (hb : AllBare g2)
    (ea : H2 a = some (exo a C none)) (q : Q (.ref C) none (del H2 a)) : MkP X pins σ Q (.ref a) ⟨h2, g2, d2, t2, os2⟩ := by
  obtain ⟨t0, hoe⟩ := exo_at hok ea
  have hn : H1 a = none := I1.hok.fresh ha
  obtain ⟨G, ga, gb⟩ := restrict h2 fun b => decide (b ≠ a)
  have stay : ∀ b, b ≠ a → G.get? b = h2.get? b := fun b h => ga b (decide_eq_true h)
  have gone : G.get? a = none := gb a (by simp)
  have old : ∀ {b : Addr} {o : Obj}, hp.get? b = some o → b ≠ a := fun {b o} z e => absurd (Heap.lt_size z) (Nat.not_lt.mpr (e ▸ ha))
  have dn : ∀ {b : Addr}, b ≠ a → H1 b = none → upd H1 a (exo a C none) b = none := fun {b} h z => (upd_ne h).trans z
  have none1 : ∀ {b : Addr} {o : HO}, H1 b = some o → b ≠ a := fun {b o} z => ne_of_none z hn
  have U : Un (frs X.stack) [] H1 (del H2 a) hp G :=
    { keep := fun b o z n f x => (stay b (old z)).trans (un.keep b o (k b o z) (dn (old z) n) f x)
      slot := fun b o z n f x => let ⟨sl, e⟩ := un.slot b o (k b o z) (dn (old z) n) f x; ⟨sl, (stay b (old z)).trans e⟩
      free := fun b o z n x => (del_ne (old z)).trans (un.free b o (k b o z) (dn (old z) n) x)
      there := fun b o z x => let ⟨o', e⟩ := un.there b o (k b o z) x; ⟨o', (stay b (old z)).trans e⟩
      tups := fun b xs z => (del_ne (none1 z)).trans (un.tups b xs ((upd_ne (none1 z)).trans z))
      frzs := fun b o v z => (del_ne (none1 z)).trans (un.frzs b o v ((upd_ne (none1 z)).trans z))
      tbls := fun b ps z => let ⟨m, e⟩ := un.tbls b ps ((upd_ne (none1 z)).trans z); ⟨m, (del_ne (none1 z)).trans e⟩ }
  have hokG : HOk X.prog X.w (del H2 a) G := fun b o z => by
    have hba : b ≠ a := fun e => by
      rw [e, del_same] at z
      cases z
    rw [del_ne hba] at z
    have noa : ∀ {c : Addr}, H2 c = some (.own b) → c ≠ a := fun {c} hc => at_ne ea hc exo_own
    refine (hok b o z).stay (fun c v hc y => (stay c ?_).trans y) (fun c hc => (del_ne (noa hc)).trans hc) fun c xs hc => (del_ne (at_ne ea hc exo_tup)).trans hc
    rcases hc with rfl | hc
    · exact hba
    · exact noa hc
  have J : Inv X pins σ (del H2 a) ⟨G, g2, d2, t2, os2⟩ := I1.call' (ch := []) ho U hokG hb fun b z => absurd z (by simp)
  refine ⟨a, _, _, ⟨G, g2, d2, t2, os2⟩, _, .ref C, none, rfl, J, fun b o z => ?_, gone, hoe, ⟨rfl, rfl⟩, rfl, rfl, del_same, rfl, hb, T, q⟩
  by_cases hba : b = a
  · rw [hba, gone] at z
    cases z
  · exact (stay b hba).symm.trans z
/-- C() -/
def tMk0 (C : Addr) (sp : Sp) : L2.St → Hp → XK → Prop := fun _ H Q => ∀ a, H a = none → sp [.ref a] (upd H a (exo a C none)) (fun v H2 => v = .non ∧ H2 a = some (exo a C none) ∧ Q (.ref C) none (del H2 a)) (fun _ _ _ => False)
theorem pmk_ox0 {CX : CXT} {x : Str} {p pos : Pos} {C fI : Addr} {k : Nat} {fd : FuncData} {ps : List Str} {sp : Sp} (T : OexC X.K C) (iC : PySem.W.findIn X.K (.ref C) "__init__" = some (some (.ref fI))) (tI : PySem.W.typeIn X.K (.ref fI) = some (.type "function"))
    (F1 : FnOk X.prog X.w X.K X.mg X.base CX k fI fd ps sp) (hr : Room (k + 1) X.A) (hb : Binds X.K fd ps []) (hx : Passes CX X (fun _ _ _ => False)) (hg : Gl X x) (hm : X.mg x = some (.ref C)) (hdb : (x == ("__debug__" : Str)) = false := by decide) : PMk X (.Call (.Name x p) [] [] pos) (tMk0 C sp) := by
  intro pins s σ H Q I h
  obtain ⟨nm, q, N, bs, bm, sn, sub, ab, col, dd, k0, k1, k2, k3, k5, hC, hbm⟩ := T.cls
  refine wpAny_Call_Name_kw (ld_glob I hg hm ?_ hdb)
  refine PySem.W.callWith_K0 I.kIn T.kC ?_
  show wpAny _ _ (call (.ref C) []) _ _ _
  obtain ⟨hp, g, dr, tk, os⟩ := s
  have hn : H (hp.objs.size + 1) = none := I.hok.fresh (Nat.le_succ _)
  have hq := h (hp.objs.size + 1) hn
  have kk : ∀ b o, hp.get? b = some o → ((hp.push (PySem.W.kdv_tup [])).push (PySem.HandSPX.excO C hp.objs.size)).get? b = some o := fun b o e => Heap.get?_push_of_some _ (Heap.get?_push_of_some _ e)
  have hget : ((hp.push (PySem.W.kdv_tup [])).push (PySem.HandSPX.excO C hp.objs.size)).get? (hp.objs.size + 1) = some (PySem.HandSPX.excO C hp.objs.size) := by heap_get
  have I2 : Inv X pins σ (upd H (hp.objs.size + 1) (exo (hp.objs.size + 1) C none)) ⟨(hp.push (PySem.W.kdv_tup [])).push (PySem.HandSPX.excO C hp.objs.size), g, dr, tk, os⟩ :=
    I.laid (t' := tk) (a := hp.objs.size + 1) (o := exo (hp.objs.size + 1) C none) (h' := (hp.push (PySem.W.kdv_tup [])).push (PySem.HandSPX.excO C hp.objs.size)) kk (Nat.le_succ _) (exo_ok hget)
  have r2 : Vals [V.ref (hp.objs.size + 1)] ([Value.ref (hp.objs.size + 1)] ++ []) := .cons rfl .nil
  have hl : ([Value.ref (hp.objs.size + 1)] ++ []).length = ps.length := (F1.len _ _ _ _ hq).symm ▸ rfl
  refine wpAny_call (PySem.HandSPX.call_own F.excBase_ValueError (fun Y => PySem.HandSPX.refsVE_contains Y bm hbm) (I.kIn _ _ hC) (PySem.W.looks_findIn I.kIn iC) (fun self => PySem.W.bind_fn I.kIn self tI) (Nat.zero_le _)
    (codeAny_mono (F1.run _ X.stack _ _ ⟨[Value.ref (hp.objs.size + 1)], []⟩ ([Value.ref (hp.objs.size + 1)] ++ []) [V.ref (hp.objs.size + 1)] _ (fun _ _ _ => False) (hr.make C [] []) (I2.env0.make C [] []) (hb _ [Value.ref (hp.objs.size + 1)] I2.kIn hl) r2 hq) fun r s' hq' => ?_))
  cases r with
  | error er => exact hx pins σ _ _ er s' I2 hq'
  | ok fl =>
    cases fl with
    | ret u =>
      obtain ⟨v, H2, os2, bare2, un2, hok2, rv, ev, ea, q2⟩ := hq'
      subst ev
      obtain ⟨h2, g2, d2, t2, os'⟩ := s'
      exact ⟨rv, mk_endN (raises_own T.exC T.tyC) I (Nat.le_succ _) kk un2 hok2 os2 bare2 ea q2⟩
    | next => exact False.elim hq'
    | brk => exact False.elim hq'
    | cont => exact False.elim hq'
end
end Mv
namespace Mv
open PySem PySem.Spec PyProof.Rows L2 He
/-- what the top has left of the error's class -/
structure Icl (K : PySem.W.Frag) (mg : Str → Option Value) (C fI : Addr) : Prop where
  glo : mg "InvalidClaim" = some (.ref C)
  ox : OexC K C
  ec : ExcC K C
  iC : PySem.W.findIn K (.ref C) "__init__" = some (some (.ref fI))
  tI : PySem.W.typeIn K (.ref fI) = some (.type "function")
  fd : ∃ fd, FunD K "__init__" "InvalidClaim.__init__" (defArgs sInit) (defBody sInit) (defScope sInit) [] [] fI fd
  vV : PySem.W.findCls K (.type "ValueError") (.type "type") "__init__" = some (.val (.builtin "ValueError.__init__"))
  exm : PySem.W.exmOne K (.ref C) (.ref C) = some true
  kit : PySem.W.kitOne K (.ref C) (.type "ValueError") = some true
theorem sc_init : FnScope ["self"] ["self"] (defScope sInit) := ⟨rfl, rfl, rfl, by decide +kernel, rfl, by decide +kernel, by decide +kernel⟩
/-- __init__ of the new error -/
def spInit (K : PySem.W.Frag) (C : Addr) : Sp := fun vs H Q _ => ∃ a, vs = [.ref a] ∧ H a = some (exo a C none) ∧ Q .non H
theorem del_upd {H : Hp} {a : Addr} {o : HO} (h : H a = none) : del (upd H a o) a = H := by
  funext b
  unfold del upd
  by_cases e : b = a
  · rw [if_pos e, e, h]
  · rw [if_neg e, if_neg e]
/-- a def that may raise -/
structure DnX (P : Program) (w : World) (K : PySem.W.Frag) (mg : Str → Option Value) (base : Heap) (x : Str) (k : Nat) (ps : List Str) (sp : Sp) : Prop where
  ex : ∃ f fd, FnOk P w K mg base (L2.CX P w) k f fd ps sp ∧ mg x = some (.ref f) ∧ PySem.W.keepIn K (.ref f) = true ∧ Binds K fd ps []
section
variable {P : Program} {w : World} {K : PySem.W.Frag} {mg : Str → Option Value} {base : Heap} {C fI : Addr}
theorem DnX.up {x : Str} {j k : Nat} {ps : List Str} {sp : Sp} (D : DnX P w K mg base x j ps sp) (h : j ≤ k) : DnX P w K mg base x k ps sp := let ⟨f, fd, a, b, c, d⟩ := D.ex; ⟨f, fd, a.mono h, b, c, d⟩
theorem ok_init (T : Top K mg) (I : Icl K mg C fI) : ∃ fd, FnOk P w K mg base CX0 1 fI fd ["self"] (spInit K C) ∧ Binds K fd ["self"] [] := by
  obtain ⟨fd, F⟩ := I.fd
  refine ⟨fd, ?_, FunD.bindsN F (fun _ _ _ _ _ _ us h => match us, h with | [_], _ => rfl)⟩
  refine FunD.ok F sc_init (fun vs H Q E h => ?_) fun cdv A outer s H vs Q E hr h => ?_
  · obtain ⟨a, rfl, _⟩ := h
    rfl
  · obtain ⟨a, rfl, ha, q⟩ := h
    refine ⟨_, pss_one (ps_expr (pe_veinit (by rfl) T.f_ValueError I.vV (pa_cons (pv 0) (pa_cons pe_str pa_nil)))), ?_⟩
    exact ⟨.ref a, rfl, a, C, [.str (Str.ofString "this is no claim about the house")], rfl, by simp, I.ox, ha, q⟩
theorem Top.dnX (T : Top K mg) (j : Nat) {x : Str} {i : Nat} (hj : fn[j]? = some (dfn x i)) (hg : fa[j + 1]? = some (.glo x)) {N ps : List Str} (Sc : FnScope N ps (defScope (top i)))
    (hb : ∀ (kV doc pm : Value) (an : Option Addr) (cdv ct : Value) (us : List Value), us.length = ps.length → bindArgs (PySem.W.fnOf x x (defArgs (top i)) (defBody (top i)) (defScope (top i)) .none kV doc pm an cdv ct) ⟨us, []⟩ = pure (ps.zip us))
    {k : Nat} {sp : Sp} (hn : ∀ vs H Q E, sp vs H Q E → vs.length = ps.length)
    (hbody : ∀ (f : Addr) (cdv : Value) (A : Around) (outer : List Env) (s : Shared) (H : Hp) (vs : List V) (Q : VK) (E : XK), Room k (A.deeper (envOfC x (defScope (top i)) s.heap.objs.size f cdv)) → sp vs H Q E →
      ∃ t, PSs (cxOf (L2.CX P w) P w K mg base N x (defScope (top i)) f cdv A outer s H E) (defBody (top i)) t ∧ t { nx := fun _ H' => Q .non H', rt := Q } (start N vs) H) :
    DnX P w K mg base x (k + 1) ps sp := by
  obtain ⟨fd, F⟩ := T.defs j _ hj
  refine ⟨_, fd, ?_, T.glo (j + 1) x hg, F.kp, FunD.bindsN F hb⟩
  refine FunD.ok F Sc (fun vs H Q E h => hn vs H Q E h) fun cdv A outer s H vs Q E hr h => ?_
  obtain ⟨t, h1, h2⟩ := hbody _ cdv A outer s H vs Q E hr h
  exact ⟨t, h1, h2⟩
/-- a house and a thing: it is a claim, or the error goes out -/
def spReq (C : Addr) : Sp := fun vs H Q E => ∃ (p : Addr × Addr) (S : List Addr) (h : Hou) (d : PyData), Ats S H vs [h.d, d] ∧ h.Ok ∧ sm d = true ∧ GoodW d ∧ Pen p S H ∧
  ∀ H', Rl false p H H' → Pen p S H' → (isClaim h d = true → Q .non H') ∧ (isClaim h d = false → E (.ref C) none H')
abbrev N_require_claim : List Str := ["house", "claim"]
theorem sc_require_claim : FnScope N_require_claim ["house", "claim"] (defScope (top 124)) := ⟨rfl, rfl, rfl, by decide +kernel, rfl, by decide +kernel, by decide +kernel⟩
theorem D_require_claim (T : Top K mg) (I : Icl K mg C fI) : DnX P w K mg base "require_claim" 9 ["house", "claim"] (spReq C) := by
  obtain ⟨fdI, FI, bI⟩ := ok_init (P := P) (w := w) (base := base) T I
  refine T.dnX 14 rfl rfl sc_require_claim (fun _ _ _ _ _ _ us h => match us, h with | [_, _], _ => rfl) (fun vs H Q E h => ?_) fun f cdv A outer s H vs Q E hr h => ?_
  · obtain ⟨p, S, h, d, a, _⟩ := h
    exact a.length
  refine ⟨_, pss_one (ps_if (pt_not (pt_val (pe_dn ((D_is_claim T).up (by decide)) hr (by rfl) (pa_cons (pv 0) (pa_cons (pv 1) pa_nil)))))
      (pss_one (ps_raise rfl (takes_of rfl rfl rfl rfl) (pmk_ox0 (k := 1) I.ox I.iC I.tI FI (hr.mono (by decide)) bI pass0 (by rfl) I.glo)))
      (pss_nil)), ?_⟩
  obtain ⟨p, S, h, d, a, ok, sd, gw, Pn, q⟩ := h
  obtain ⟨v, u, rfl, a1, a2⟩ := a.two
  refine s_ifK (b := false) (k := !isClaim h d) (et_notK (et_k (ev_f (ea_two (ev_var rfl a1) (ev_var rfl a2)) rfl ⟨h, d, rfl, ok, sd, gw⟩ (by rw [f_is_claim, hou_d])))) Pn (fun k H1 e1 P1 => ?_) (fun k H1 e1 P1 => ?_)
  · intro a ha
    refine ⟨a, rfl, upd_same, rfl, upd_same, ?_⟩
    rw [del_upd ha]
    exact (q H1 e1 P1).2 (by simpa using k)
  · exact (q H1 e1 P1).1 (by simpa using k)
end
end Mv
namespace Mv
open PySem PySem.Spec PyProof.Rows L2 He
section
variable {P : Program} {w : World} {K : PySem.W.Frag} {mg : Str → Option Value} {base : Heap} {C fI : Addr}
/-- a house and a thing that is no claim: the error goes out -/
def spDec (C : Addr) : Sp := fun vs H Q E => ∃ (p : Addr × Addr) (S : List Addr) (h : Hou) (d : PyData), Ats S H vs [h.d, d] ∧ h.Ok ∧ sm d = true ∧ GoodW d ∧ Pen p S H ∧ isClaim h d = false ∧ ∀ H', Rl false p H H' → Pen p S H' → E (.ref C) none H'
abbrev N_decide : List Str := ["house", "claim", "ways"]
theorem sc_decide : FnScope N_decide ["house", "claim"] (defScope (top 125)) := ⟨rfl, rfl, rfl, by decide +kernel, rfl, by decide +kernel, by decide +kernel⟩
theorem D_decide (T : Top K mg) (I : Icl K mg C fI) : DnX P w K mg base "decide" 10 ["house", "claim"] (spDec C) := by
  obtain ⟨fR, fdR, FR, mR, kR, bR⟩ := (D_require_claim (P := P) (w := w) (base := base) T I).ex
  refine T.dnX 15 rfl rfl sc_decide (fun _ _ _ _ _ _ us h => match us, h with | [_, _], _ => rfl) (fun vs H Q E h => ?_) fun f cdv A outer s H vs Q E hr h => ?_
  · obtain ⟨p, S, h, d, a, _⟩ := h
    exact a.length
  refine ⟨_, pss_cons (ps_expr (pe_callS FR hr (by rfl) mR kR bR (fun σ => passAt (takes_of rfl rfl rfl rfl) σ) (pa_cons (pv 0) (pa_cons (pv 1) pa_nil)))) pss_never, ?_⟩
  obtain ⟨p, S, h, d, a, ok, sd, gw, Pn, hc, q⟩ := h
  obtain ⟨v, u, rfl, a1, a2⟩ := a.two
  exact ⟨v, rfl, u, rfl, p, S, h, d, .cons a1 (.cons a2 .nil), ok, sd, gw, Pn, fun H' e P' => ⟨fun k => absurd (hc.symm.trans k) Bool.false_ne_true, fun _ => q H' e P'⟩⟩
abbrev N_first_fault : List Str := ["house", "certificate", "word", "claim", "paper", "ways"]
theorem sc_first_fault : FnScope N_first_fault ["house", "certificate"] (defScope (top 167)) := ⟨rfl, rfl, rfl, by decide +kernel, rfl, by decide +kernel, by decide +kernel⟩
def Pre_fault (ds : List PyData) : Prop := ∃ (h : Hou) (x d y : PyData), ds = [h.d, .tuple [x, d, y]] ∧ h.Ok ∧ sm d = true ∧ GoodW d ∧ isClaim h d = false
theorem D_first_fault (T : Top K mg) : Dn P w K mg base "first_fault" 9 ["house", "certificate"] (spF false 2 (fun _ => .tuple [.str (Str.ofString "claim")]) Pre_fault) := by
  refine T.dn 16 rfl rfl sc_first_fault (fun _ _ _ _ _ _ us h => match us, h with | [_, _], _ => rfl) rfl fun f cdv A outer s p S H ds vs Q hr a l Pn pr q => ?_
  refine ⟨_, pss_cons (ps_if (pt_not (pt_val (pe_dn ((D_is_parts T).up (by decide)) hr (by rfl) (pa_cons (pv 1) (pa_cons pe_int pa_nil)))))
      (pss_never)
      (pss_nil))
    (pss_cons (ps_asg (pv 1) (pg_tup rfl (pgs_cons (pg_name (i := 2) sc_first_fault.nd rfl (Or.inl rfl)) (pgs_cons (pg_name (i := 3) sc_first_fault.nd rfl (Or.inl rfl)) (pgs_cons (pg_name (i := 4) sc_first_fault.nd rfl (Or.inl rfl)) pgs_nil)))))
    (pss_cons (ps_if (pt_not (pt_val (pe_dn ((D_is_claim T).up (by decide)) hr (by rfl) (pa_cons (pv 0) (pa_cons (pv 3) pa_nil)))))
      (pss_one (ps_ret (pe_tup (pa_cons pe_str pa_nil))))
      (pss_nil)) pss_never)), ?_⟩
  obtain ⟨h, x, d, y, rfl, ok, sd, gw, hc⟩ := pr
  obtain ⟨v, u, rfl, a1, a2⟩ := a.two
  refine s_ifK (b := false) (k := false) (et_notK (k := true) (et_k (ev_f (z := .bool true) (ea_two (ev_var rfl a2) ev_int) rfl ⟨_, 3, rfl⟩ rfl))) Pn (fun k _ _ _ => by cases k) (fun k H1 e1 P1 => ?_)
  obtain ⟨c, xs, rfl, nc, hcc, rc⟩ := (a2.mono e1 Pn.mem).tup_inv
  obtain ⟨x1, x2, x3, rfl, b1, b2, b3⟩ := rc.three
  refine ⟨.ref c, rfl, c, [x1, x2, x3], rfl, SqT.of hcc, rfl, x1, [x2, x3], rfl, x2, [x3], rfl, x3, [], rfl, rfl, ?_⟩
  refine s_ifK (b := false) (k := true) ((et_notK (k := false) (et_k (ev_f (z := .bool false) (ea_two (ev_var rfl (a1.mono e1 Pn.mem)) (ev_var rfl b2)) rfl ⟨h, d, rfl, ok, sd, gw⟩ (by rw [f_is_claim, hou_d, hc]))))) P1 (fun k H2 e2 P2 => ?_) (fun k _ _ _ => by cases k)
  exact s_retK (b := false) (ev_tupK (ea_one ev_str)) P2 fun v3 H3 e3 P3 a3 => q _ _ _ ((e1.trans e2).trans e3) P3 a3 rfl
end
end Mv
/-! # repr of data -/
namespace Mv
open PySem PySem.Spec PyProof.Rows L2 He
section
variable {X : Cx} {pins : List (Addr × Obj)} {σ : L2.St} {H : Hp} {s : Shared} {S : List Addr}
def rRepr : List V → Hp → VK → Prop := fun xs H Q => ∃ (S : List Addr) (v : V) (d : PyData), xs = [v] ∧ At S H v d ∧ d.showable = true ∧ d.shown.length ≤ sizeLine ∧ d.depth ≤ 50 ∧ Q (.str d.shown) H
theorem cr_repr (hg : X.A.guards = some []) (hu : X.A.units + 64 < cLine) (hs : (X.K.lookup sysModules).isSome = true) : CallR X (.builtin "repr") rRepr := by
  intro pins s σ H xs us Q I r h
  obtain ⟨S, v, d, rfl, a, sh, hz, dp, q⟩ := h
  cases r with
  | cons r rr =>
    cases rr
    obtain ⟨as, h1, h2⟩ := a.reads I r
    cases h1 with
    | none => exact PySem.P.repr_of_none ⟨.str _, H, I.tok _, ⟨_, rfl⟩, q⟩
    | bool k => exact PySem.P.repr_of_bool ⟨.str _, H, I.tok _, ⟨_, rfl⟩, q⟩
    | int i t => exact PySem.P.repr_of_int (of_decide_eq_true sh) ⟨.str _, H, I.tok _, ⟨_, rfl⟩, q⟩
    | str x t => exact PySem.P.repr_of_str ⟨.str _, H, I.tok _, ⟨_, rfl⟩, q⟩ hz
    | _ =>
      refine repr_of_reads' (h₀ := s.heap) (by first | exact .list ‹_› ‹_› ‹_› ‹_› | exact .tuple ‹_› ‹_› ‹_› ‹_› | exact .dict ‹_› ‹_› ‹_› ‹_› ‹_›) sh (fun _ hm => ?_) hg (by omega) (fun _ _ e => e) (fun h' u tk k => ⟨.str _, H, I.kept k, ⟨_, rfl⟩, q⟩) hz
      obtain ⟨o, ho⟩ := h2 _ hm
      obtain ⟨ob, hb⟩ := Option.isSome_iff_exists.mp hs
      have := (I.bs sysModules ob (I.ok.mod.kin _ _ hb)).2
      rw [ho] at this
      cases this
theorem ev_repr {b : Bool} {p : Addr × Addr} {te : TE} {d : PyData} (h : Ev b p S te σ H fun z => z = d) (sh : d.showable = true) (hz : d.shown.length ≤ sizeLine) (dp : d.depth ≤ 50) : Ev b p S (tCB rRepr (tCons te tNil)) σ H fun z => z = .str d.shown := fun H1 e P Q q =>
  h H1 e P _ fun v H2 z e2 P2 a2 r => by
    subst r
    exact ⟨S, v, z, rfl, a2, sh, hz, dp, q _ H2 _ e2 P2 (.str _) rfl⟩
end
end Mv
/-! # [e for k in d if t], d a dict of nested keys -/
namespace Mv
open PySem PySem.Spec PyProof.Rows L2 He
/-- the keys of the known dict at d -/
def Itn (P : Program) (w : World) (d : Addr) (o : Obj) (xs : List KEnt) : It :=
  ⟨fun i H => H d = some (.frz o (DN P w d xs)) ∧ i < xs.length, fun i H x H' => H' = H ∧ ∃ e, xs[i]? = some e ∧ x = .ref e.2.1, fun i H => H d = some (.frz o (DN P w d xs)) ∧ xs.length ≤ i⟩
theorem paired_get {α β : Type} {F : α → β → Prop} : ∀ {l : List α} {m : List β} {i : Nat} {y : β}, Paired F l m → m[i]? = some y → ∃ x, l[i]? = some x ∧ F x y
  | _, _, _, _, .nil, h => by simp at h
  | _, _, 0, _, .cons r _, h => by
    simp at h
    subst h
    exact ⟨_, rfl, r⟩
  | _, _, i + 1, _, .cons _ t, h => by
    obtain ⟨x, h1, h2⟩ := paired_get (i := i) t (by simpa using h)
    exact ⟨x, by simpa using h1, h2⟩
theorem paired_getL {α β : Type} {F : α → β → Prop} : ∀ {l : List α} {m : List β} {i : Nat} {x : α}, Paired F l m → l[i]? = some x → ∃ y, m[i]? = some y ∧ F x y
  | _, _, _, _, .nil, h => by simp at h
  | _, _, 0, _, .cons r _, h => by
    simp at h
    subst h
    exact ⟨_, rfl, r⟩
  | _, _, i + 1, _, .cons _ t, h => by
    obtain ⟨x, h1, h2⟩ := paired_getL (i := i) t (by simpa using h)
    exact ⟨x, by simpa using h1, h2⟩
theorem frz_raw {P : Program} {w : World} {H : Hp} {h : Heap} {d : Addr} {o : Obj} {xs : List KEnt} (hok : HOk P w H h) (e : H d = some (.frz o (DN P w d xs))) :
    h.get? d = some o ∧ (d == sysModules) = false ∧ ∃ es ep, o.ExactDict ∧ o.data = .dict es ep ∧ es.size = xs.length ∧ ∀ (i : Nat) (hi : i < es.size), ∃ x, xs[i]? = some x ∧ es[i].key = .ref x.2.1 := by
  obtain ⟨h1, ⟨z, m, ys, r, o', es, ep, e1, e2, e3, e4, e5⟩, _⟩ := hok d _ e
  rw [h1] at e1
  cases e1
  have hl : es.size = xs.length := by rw [← Array.length_toList, e4, List.length_map]; exact (Paired.length r).symm
  refine ⟨h1, m, es, ep, e2, e3, hl, fun i hi => ?_⟩
  have hi2 : i < ys.length := by
    have := Paired.length r
    omega
  have hy : es[i]? = some (entryOfKey (nestedKind P w) ys[i]) := by rw [← Array.getElem?_toList, e4, List.getElem?_map, List.getElem?_eq_getElem hi2]; rfl
  obtain ⟨x, hx, rx⟩ : ∃ x, xs[i]? = some x ∧ RelE x ys[i] := by
    exact paired_get r (List.getElem?_eq_getElem hi2)
  refine ⟨x, hx, ?_⟩
  have he : es[i] = entryOfKey (nestedKind P w) ys[i] := by
    rw [Array.getElem?_eq_getElem hi] at hy
    exact Option.some.inj hy
  rw [he]
  show Value.ref ys[i].2.1 = _
  rw [rx.2.1]
theorem turn_nest {P : Program} {w : World} {K : PySem.W.Frag} {tg : Expr} (d it : Addr) (o : Obj) (xs : List KEnt) (es : Array DictEntry) (ep : Nat) (ho : o.data = .dict es ep) :
    Turn P w K tg (Itn P w d o xs) [it] it (fun i h => h.IsKeyIter it d i es.size ep) where
  mem := by simp
  obj := fun i h st b hb => by
    have e : b = it := by simpa using hb
    subst e
    obtain ⟨ob, e, c, dd⟩ := st
    exact ⟨ob, e, fun v z => by rw [dd] at z; cases z⟩
  keep := fun i h h' st k => by
    obtain ⟨ob, e, c, dd⟩ := st
    exact ⟨ob, k it (by simp) ob e, c, dd⟩
  item := by
    intro X hP hw hK hc i pins s σ H E I hf st hg
    subst hP hw hK
    obtain ⟨hd, hi⟩ := hg
    obtain ⟨h1, m, es', ep', e2, e3, hl, hk⟩ := frz_raw I.hok hd
    rw [ho] at e3
    cases e3
    have hi' : i < es.size := by omega
    obtain ⟨x, hx, hkey⟩ := hk i hi'
    obtain ⟨f0, f1, f2, f3, f4, f5⟩ := hf it (by simp)
    refine wpAny_pyNext_keys_item_raw st ⟨o, h1, e2, ho⟩ hi' fun h' st' sb => ?_
    have I1 : Inv X pins σ H { s with heap := h' } := I.turned (t' := s.toks) (fun b ob hb e => (sb.2 b hb).trans e) f0 f1 f3 f4 f5
    obtain ⟨ob, e, c, dd⟩ := id st'
    exact ⟨_, rfl, go_of (s := { s with heap := h' }) e c dd (by decide) ⟨.ref x.2.1, H, I1, hkey, ⟨rfl, x, hx, rfl⟩, st', fun b hb => (hf b hb).1⟩⟩
  done := by
    intro X hP hw hK hc i pins s σ H E I hf st hg
    subst hP hw hK
    obtain ⟨hd, hi⟩ := hg
    obtain ⟨h1, m, es', ep', e2, e3, hl, hk⟩ := frz_raw I.hok hd
    rw [ho] at e3
    cases e3
    obtain ⟨f0, f1, f2, f3, f4, f5⟩ := hf it (by simp)
    exact wpAny_pyNext_keys_end_raw (I.ok.hd hc) st ⟨o, h1, e2, ho⟩ (by omega) fun h' eb => ⟨rfl, I.turned (t' := s.toks) (fun b ob hb e => eb b ob hb e) f0 f1 f3 f4 f5⟩
  self := fun _ _ _ _ _ st h => wpAny_pyIter_keyiter st h
def iNest (P : Program) (w : World) (tl : TE) : TI := fun σ H R => tl σ H fun x H1 => ∃ d o xs, x = .ref d ∧ H1 d = some (.frz o (DN P w d xs)) ∧ R (Itn P w d o xs) H1
section
variable {X : Cx} {tg : Expr}
theorem pi_nest {l : Expr} {tl : TE} (hl : PE X l tl) : PI X tg l (iNest X.prog X.w tl) := by
  refine ⟨fun pins s σ H R I h => ?_⟩
  refine thn (hl.run pins s σ H _ I h) fun v s1 ⟨x, H1, I1, r1, d, o, xs, e, hd, q⟩ => ?_
  subst e
  cases r1
  obtain ⟨h1, m, es, ep, e2, e3, hl', hk⟩ := frz_raw I1.hok hd
  refine wpAny_pyIter_dict_raw m ⟨o, h1, e2, e3⟩ ?_
  exact pi_one (tk := s1.toks) I1 _ (turn_nest d _ o xs es ep e3) ⟨_, Heap.get?_push_size _ rfl, rfl, rfl⟩ q
end
section
variable {P : Program} {w : World} {b : Bool} {p : Addr × Addr} {S : List Addr} {σ : L2.St} {H : Hp} {te : TE} {tt : TT} {vs : List Nat} {j i : Nat} {d : Addr} {kvs : KVD} {Z : PyData → Bool → Prop} {E : PyData → PyData → Prop}
/-- [e for k in d if t] over the keys of d, which stands in a slot -/
theorem ev_lcN (h0 : σ[i]? = some (some (.ref d))) (n : NDict P w S H d kvs) (np : d ≠ p.1) (np2 : d ≠ p.2) (hd : d ∈ S) (hl : kvs.length ≤ 100000) (hw : ∀ x, wipe ((wipe σ vs).set j (some x)) vs = wipe σ vs)
    (ht : ∀ A H0, Rx [d] H H0 → Pen p S H0 → H0 A = none → ∀ (kv : PyData × PyData) (v : V) (H' : Hp), kv ∈ kvs → Rl false p H0 H' → Pen p (A :: S) H' → At (A :: S) H' v kv.1 → EvT false p (A :: S) tt ((wipe σ vs).set j (some v)) H' (Z kv.1))
    (he : ∀ A H0, Rx [d] H H0 → Pen p S H0 → H0 A = none → ∀ (kv : PyData × PyData) (v : V) (H' : Hp), kv ∈ kvs → Rl false p H0 H' → Pen p (A :: S) H' → At (A :: S) H' v kv.1 → Z kv.1 true → Ev false p (A :: S) te ((wipe σ vs).set j (some v)) H' (E kv.1)) :
    Ev false p S (tLockE (tLc (iNest P w (tVar i)) (gName j) tt te vs)) σ H (fun z => ∃ zs, z = .list zs ∧ Cmp Z E (kvs.map (·.1)) zs) := fun H1 e Pn Q q => by
  obtain ⟨xs, hx, rx⟩ := (n.rl e np Pn.mem).ex
  refine ⟨d, _, hx, trivial, fun od => ?_⟩
  have sub : ∀ x ∈ [d], x ∈ S := fun x hx => by rw [List.mem_singleton.mp hx]; exact hd
  have PL : Pen p S (upd H1 d (.frz od (DN P w d xs))) := Pn.put np np2
  have eL : Rx [d] H (upd H1 d (.frz od (DN P w d xs))) := (Rx.of0 e).trans (Rx.put List.mem_cons_self)
  have rL : Paired (EntOk S (upd H1 d (.frz od (DN P w d xs)))) xs kvs := ent_mono (fun _ _ a => a.put hd) rx
  have hL : (upd H1 d (.frz od (DN P w d xs))) d = some (.frz od (DN P w d xs)) := upd_same
  generalize hg : upd H1 d (.frz od (DN P w d xs)) = HL at PL eL rL hL
  have lx := ent_len rx
  refine ⟨.ref d, h0, d, od, xs, rfl, hL, fun A hA => ?_⟩
  refine ⟨fun i m H' => m + i = xs.length ∧ Cv false p S HL A Z E ((kvs.map (·.1)).take i) H', ⟨xs.length, by omega, by rw [List.take_zero]; exact cv_start hA PL⟩, fun i m H' ⟨hm, cv⟩ => ?_⟩
  have fr : H' d = some (.frz od (DN P w d xs)) := cv.1.same _ _ hL
  by_cases hi : i < xs.length
  · refine .inr ⟨⟨fr, hi⟩, fun H2 => Cv false p S HL A Z E ((kvs.map (·.1)).take (i + 1)) H2, fun H2 q => ⟨m - 1, by omega, by omega, q⟩, ?_⟩
    rintro _ HH ⟨e1, ent, hent, rfl⟩
    subst e1
    obtain ⟨kv, hkv, ek⟩ : ∃ kv, kvs[i]? = some kv ∧ EntOk S HL ent kv := by
      exact paired_getL rL hent
    have ad : At (A :: S) HH (.ref ent.2.1) kv.1 := ek.2.1.through Rl.refl PL hA cv.1
    refine ⟨hw _, ?_⟩
    rw [take_succ_of (show (kvs.map (·.1))[i]? = some kv.1 by rw [List.getElem?_map, hkv]; rfl)]
    exact cv_turn hA PL (by rw [List.length_take, List.length_map]; omega) cv (ht A HL eL PL hA kv _ HH (List.mem_of_getElem? hkv) cv.1 cv.2.1 ad) fun hzt H2 e2 P2 => he A HL eL PL hA kv _ H2 (List.mem_of_getElem? hkv) (cv.1.trans e2) P2 (ad.mono e2 P2.mem) hzt
  · rw [List.take_of_length_le (by rw [List.length_map]; omega)] at cv
    obtain ⟨g1, g2, zs, g3, g4⟩ := cv_end hA PL cv
    refine .inl ⟨⟨fr, by omega⟩, fr, ?_⟩
    have back : Rl false p H1 (upd H' d (DN P w d xs)) := fun c o _ hc => by
      by_cases e : c = d
      · subst e
        rw [hx] at hc
        rw [← hc]
        exact upd_same
      · rw [upd_ne e]
        exact g1.same _ _ (by rw [← hg, upd_ne e]; exact hc)
    exact q _ _ _ back (g2.put np np2) (g3.put hd) ⟨zs, rfl, g4⟩
end
end Mv
/-! # sorted(d), d a dict of nested keys; set(x), x a list -/
namespace Mv
open PySem PySem.Spec PyProof.Rows L2 He
def rSortN (P : Program) (w : World) : List V → Hp → VK → Prop := fun xs H Q => ∃ (S : List Addr) (d : Addr) (kvs : KVD), xs = [.ref d] ∧ NDict P w S H d kvs ∧ W.AllAlike (kvs.map (·.1)) ∧ W.Sortable (kvs.map (·.1)) ∧
  ∀ p vs ds', H p = none → Ats S H vs ds' → ds'.Perm (kvs.map (·.1)) → Q (.ref p) (upd H p (.lst vs))
theorem items_list {α : Type} {P : Nat → Value → Prop} {acc : Array Value} {l : List α} {f : α → Value} {n : Nat} (h : ItemsOf P acc n) (hn : n = l.length) (k : ∀ i v, P i v → ∃ x, l[i]? = some x ∧ v = f x) : acc.toList = l.map f := by
  apply List.ext_getElem?
  intro i
  rw [List.getElem?_map, Array.getElem?_toList]
  cases e : acc[i]? with
  | some v =>
    obtain ⟨x, hx, rfl⟩ := k i v (h.2 i v e)
    rw [hx]
    rfl
  | none =>
    have : acc.size ≤ i := Array.getElem?_eq_none_iff.mp e
    rw [h.1, hn] at this
    rw [List.getElem?_eq_none_iff.mpr this]
    rfl
section
variable {P : Program} {w : World} {A : Around} {E : Value → Shared → Prop} {s : Shared} {T : String} {r d : Addr} {n : Nat} {Pv : Nat → Value → Prop} {OK : Heap → Prop}
/-- the items of a dict (or of a view of it), collected; the heap has grown -/
theorem collect_src {R : List Value → Shared → Prop} (Ks : W.KdlSrc P w T r d n Pv OK) (hh : A.handled = none) (hok : OK s.heap) (hn : n ≤ sizeLine)
    (q : ∀ (hp : Heap) (tk : Nat) (acc : Array Value), (∀ b o, s.heap.get? b = some o → hp.get? b = some o) → s.heap.objs.size ≤ hp.objs.size → ItemsOf Pv acc n → R acc.toList { s with heap := hp, toks := tk }) :
    wpAny (model P w) A (collect (.ref r)) R E s := by
  have hlt := Ks.there _ hok
  unfold collect
  refine wpAny_bind (wpAny_runValue (codeAny_builtin entry_proto_collect' ?_))
  rw [Around.under_plainId PySem.F.plain_proto_collect _]
  show wpAny _ A.in1 (newList [] >>= fun z => again (.builtin "list.__iadd__" ⟨[z, .ref r], []⟩)) _ _ s
  refine wpAny_bind (wpAny_newObj_type ?_)
  refine wpAny_pure ⟨plainId_quiet PySem.F.plain_list_iadd _, codeAny_builtin entry_list_iadd' ?_⟩
  rw [Around.under_plainId PySem.F.plain_list_iadd _]
  have at0 : (s.heap.push { cls := .type "list", data := .seq ([] : List Value).toArray }).get? s.heap.objs.size = some { cls := .type "list", data := .seq #[] } := Heap.get?_push_size _ rfl
  show wpAny _ A.in1 (Builtin.List.listExtendWith (.ref s.heap.objs.size) (.ref r) (.ref s.heap.objs.size)) _ _ _
  have key := W.kdl_extend (A := A) (s := { s with heap := s.heap.push { cls := .type "list", data := .seq ([] : List Value).toArray } })
    (R := fun (x : Result) (s1 : Shared) => ∃ (hp : Heap) (tk : Nat) (ac : Array Value) (cc : Nat), x = .ok (.ret (.ref s.heap.objs.size)) ∧ s1 = { s with heap := hp, toks := tk } ∧
      (∀ b o, s.heap.get? b = some o → hp.get? b = some o) ∧ hp.get? s.heap.objs.size = some { cls := .type "list", dict := none, data := .seq ac cc, slots := #[] } ∧ ItemsOf Pv ac n)
    Ks hh (Ks.keep _ _ hok fun b _ o e => Heap.get?_push_of_some _ e) s.heap.objs.size (Nat.ne_of_gt hlt.1) (Nat.ne_of_gt hlt.2) (.ref s.heap.objs.size) 0 at0
    (fun hp tk ac cc kp at1 it => ⟨hp, tk, ac, cc, rfl, rfl, fun b o e => kp b o (Nat.ne_of_lt (Heap.lt_size e)) (Heap.get?_push_of_some _ e), at1, it⟩) hn
  refine wpAny_mono key (fun fin s1 x => ?_) fun e s1 x => ?_
  · cases fin with
    | done f =>
      obtain ⟨hp, tk, ac, cc, e, rfl, kp, at1, it⟩ := x
      cases e
      show wpAny _ A (load s.heap.objs.size >>= _) _ _ _
      exact wpAny_bind (wpAny_load at1 (wpAny_pure (q hp tk ac kp (Nat.le_of_lt (Heap.lt_size at1)) it)))
    | again c₁ =>
      refine ⟨x.1, codeAny_mono x.2 fun y s2 z => ?_⟩
      obtain ⟨hp, tk, ac, cc, rfl, rfl, kp, at1, it⟩ := z
      show wpAny _ A (load s.heap.objs.size >>= _) _ _ _
      exact wpAny_bind (wpAny_load at1 (wpAny_pure (q hp tk ac kp (Nat.le_of_lt (Heap.lt_size at1)) it)))
  · obtain ⟨_, _, _, _, e', _⟩ := x
    cases e'
end
section
variable {X : Cx}
theorem cr_sortN (hc : X.calm = true) (hu : X.A.units + 64 < cLine) : CallR X (.builtin "sorted") (rSortN X.prog X.w) := by
  intro pins s σ H xs us Q I r h
  obtain ⟨S, d, kvs, rfl, n, al, so, q⟩ := h
  rw [Vals.ref1 r]
  obtain ⟨xs, hx, rx⟩ := n.ex
  obtain ⟨z, m, ys, ry, o, es, ep, e1, e2, e3, e4, e5⟩ := (I.hok d _ hx).1
  have hl : es.size = ys.length := by rw [← Array.length_toList, e4, List.length_map]
  have lx := ent_len rx
  have ly := Paired.length ry
  let L : List El := ys.map fun y => (y.2.1, y.1)
  have hL : L.length = ys.length := List.length_map _
  have at_ : ∀ (i : Nat) (y : NestedKey × Addr × Value), ys[i]? = some y → ∃ kv : PyData × PyData, kvs[i]? = some kv ∧ At S H (.ref y.2.1) kv.1 ∧ y.1 = keyN kv.1 ∧ keyOkD kv.1 = true ∧ (keyN kv.1).depth ≤ 8 := fun i y hy => by
    obtain ⟨x, h1, r1⟩ := paired_get ry hy
    obtain ⟨kv, h2, r2⟩ := paired_getL rx h1
    exact ⟨kv, h2, r1.2.1 ▸ r2.2.1, r1.1.symm.trans r2.1, r2.2.2.2⟩
  have dat : L.map dataE = kvs.map (·.1) := by
    apply List.ext_getElem?
    intro i
    rw [List.getElem?_map, List.getElem?_map, List.getElem?_map]
    cases hy : ys[i]? with
    | none =>
      have : ys.length ≤ i := List.getElem?_eq_none_iff.mp hy
      rw [List.getElem?_eq_none_iff.mpr (show kvs.length ≤ i by omega)]
      rfl
    | some y =>
      obtain ⟨kv, h2, a, ek, ok, dp⟩ := at_ i y hy
      rw [h2]
      show some (y.1.data) = some kv.1
      rw [ek, keyN_data ok]
  have mem : ∀ p ∈ L, ∃ kv, At S H (.ref p.1) kv ∧ dataE p = kv ∧ kv.depth ≤ 8 := fun p hp => by
    obtain ⟨y, hy, rfl⟩ := List.mem_map.mp hp
    obtain ⟨i, hi⟩ := List.getElem?_of_mem hy
    obtain ⟨kv, h2, a, ek, ok, dp⟩ := at_ i y hi
    refine ⟨kv.1, a, by show y.1.data = kv.1; rw [ek, keyN_data ok], ?_⟩
    have := data_depth (keyN kv.1)
    rw [keyN_data ok] at this
    omega
  refine Calls.call_function_entry kind_sorted plain_sorted entry_sorted (args_sorted1 _) ?_
  unfold Builtin.«sorted»
  refine wpAny_bind (m := checkCount "sorted" 1 1 _) (wpAny_pure ?_)
  refine wpAny_bind (collect_src (A := X.A.in1) (PySem.KdlSrc.rawDict (es := es) (ep := ep) m) (I.ok.hd hc) ⟨o, e1, e2, e3⟩ (by omega) fun h' tk acc keep hsz hacc => ?_)
  have ea : acc.toList = L.map refE := by
    rw [List.map_map]
    refine items_list hacc hl fun i v ⟨hi, e⟩ => ?_
    have hi2 : i < ys.length := by omega
    refine ⟨ys[i], List.getElem?_eq_getElem hi2, ?_⟩
    have hy : es[i]? = some (entryOfKey (nestedKind X.prog X.w) ys[i]) := by rw [← Array.getElem?_toList, e4, List.getElem?_map, List.getElem?_eq_getElem hi2]; rfl
    rw [Array.getElem?_eq_getElem hi] at hy
    rw [e, Option.some.inj hy]
    rfl
  rw [ea]
  refine wpAny_bind (wpAny_newList ?_ (by rw [List.length_map, hL]; omega))
  refine wpAny_bind (wpAny_holding (sort_els (s := { s with heap := h', toks := tk }) (L := L) (fun p hp => ?_) (dat ▸ al) (dat ▸ so) (by omega) (fun p hp => ?_) fun out c L' h2 k2 hc2 e so => ?_))
  · obtain ⟨kv, a, e, _⟩ := mem p hp
    rw [e]
    obtain ⟨as, rd, _⟩ := a.reads I (show RelV (.ref p.1) (.ref p.1) from rfl)
    exact ⟨as, PyProof.Rows.Reads.keeps keep rd⟩
  · obtain ⟨kv, _, e, dp⟩ := mem p hp
    rw [e]
    simp only [Around.in1_units]
    omega
  · refine wpAny_pure ⟨_, rfl, ?_⟩
    have hn : H h'.objs.size = none := I.hok.fresh hsz
    have kk : ∀ b u, s.heap.get? b = some u → h2.get? b = some u := fun b u e => k2 b u (keep b u e)
    have hv : Vals (L'.map fun p => V.ref p.1) out.toList := by rw [e]; exact els_vals L'
    refine ⟨.ref h'.objs.size, upd H h'.objs.size (.lst (L'.map fun p => V.ref p.1)), I.laid (t' := tk) kk hsz ⟨by rw [List.length_map, so.perm.length_eq, hL]; omega, out.toList, c, hv, hc2⟩, rfl, q _ _ (L'.map dataE) hn ?_ (by rw [← dat]; exact so.perm.map _)⟩
    have : ∀ L1 : List El, (∀ p ∈ L1, p ∈ L) → Ats S H (L1.map fun p => V.ref p.1) (L1.map dataE) := fun L1 => by
      induction L1 with
      | nil => intro _; exact .nil
      | cons p L1 ih =>
        intro hL1
        obtain ⟨kv, a, e, _⟩ := mem p (hL1 p List.mem_cons_self)
        exact .cons (e ▸ a) (ih fun q hq => hL1 q (List.mem_cons_of_mem _ hq))
    exact this L' fun p hp => so.perm.mem_iff.mp hp
end
end Mv
/-! # set(x), x a list of elements -/
namespace Mv
open PySem PySem.Spec PyProof.Rows L2 He
section
variable {P : Program} {w : World} {A : Around} {E : Value → Shared → Prop} {s : Shared}
/-- set(x), x a list -/
theorem call_setKL {c : Addr} {items : Array Value} (ks : List El) {Q : Value → Shared → Prop} (hh : A.handled = none) (hl : s.heap.IsList c items) (hit : items.toList = ks.map fun p => Value.ref p.1)
    (he : ∀ p ∈ ks, IsK s.heap p.2 p.1) (few : ks.length < 64) (hu : A.units + 16 < cLine)
    (q : ∀ (h' : Heap) (tk : Nat) L es ep t, SetK P w h' s.heap.objs.size L es ep t → GotK ks ks.length L → (∀ b o, s.heap.get? b = some o → h'.get? b = some o) → Q (.ref s.heap.objs.size) { s with heap := h', toks := tk }) :
    wpAny (model P w) A (call (.type "set") [.ref c]) Q E s := by
  have isz : items.size = ks.length := by rw [← Array.length_toList, hit, List.length_map]
  obtain ⟨mc, mt, hmro⟩ := F.called_set.mro
  have f1 := F.called_set.made
  have f2 := F.called_set.sub
  refine wpAny_call (codeAny_of_tree ?_)
  show wpAny _ _ (callAny (.type "set") _) _ _ _
  refine wpAny_pure ⟨Code.quiet_builtin _ (by decide +kernel), codeAny_builtin F.entry_type_call ?_⟩
  rw [Around.under_plain (weight_type_call_type "set" [.ref c] []) rfl]
  have f3 := F.called_set.notType
  have f4 := F.called_set.canCreate
  have f5 := F.typeCall_set_1 (.ref c)
  repeat (any_goals (first | assumption | wp_step))
  refine codeAny_mono (code_set_led1 (.ref c) (E := E) (Q₁ := fun o s₁ => o = .ref s.heap.objs.size ∧ s₁ = { s with heap := s.heap.push (set0 w) }) ⟨rfl, rfl⟩) fun r s₁ hr => ?_
  cases r with
  | error e => exact hr
  | ok fl =>
    cases fl with
    | ret ob =>
      obtain ⟨rfl, rfl⟩ := hr
      have at0 : (s.heap.push (set0 w)).get? s.heap.objs.size = some (set0 w) := Heap.get?_push_size _ rfl
      have ty0 : Shared.TypeIs { s with heap := s.heap.push (set0 w) } (.ref s.heap.objs.size) "set" := ⟨_, at0, rfl⟩
      have g1 := F.called_set.init.lookup
      have g2 := F.called_set.init.bind (.ref s.heap.objs.size)
      repeat (any_goals (first | assumption | wp_step))
      refine codeAny_mono (codeAny_call_builtin (R := wants (fun r s₂ => r = .none ∧ ∃ h' tk L es ep t, s₂ = { s with heap := h', toks := tk } ∧ SetK P w h' s.heap.objs.size L es ep t ∧ GotK ks ks.length L ∧
          (∀ b o, s.heap.get? b = some o → h'.get? b = some o)) E) F.called_set.init.plain F.entry_set_init (check_set_init_1 ty0 ?_)) fun r₂ s₂ hr₂ => ?_
      · have hl1 : (s.heap.push (set0 w)).IsList c items := hl.push _
        have ty1 : Shared.TypeIs { s with heap := s.heap.push (set0 w) } (.ref c) "list" := hl1.typeIs
        obtain ⟨oc, hoc, hcl, nc, hdc⟩ := id hl1
        obtain ⟨ocls, odict, odata, oslots⟩ := oc
        simp only at hcl hdc
        subst hcl; subst hdc
        have k1 := F.sub_list_set
        have k2 := F.sub_list_frozenset
        have k3 : (Value.type "list" == Value.type "dict") = false := by decide
        unfold Builtin.«set.__init__» noKeywords Builtin.Frozenset.updateFrom
        generalize hIter : pyIter = It
        wp_walk
        subst hIter
        refine wpAny_pyIter_list hl1 ?_
        refine wpAny_bind (wpAny_runValue ?_)
        have cS : c < s.heap.objs.size := let ⟨_, e, _⟩ := hl; Heap.lt_size e
        have quiet3 : A.in1.in1.in1.handled = none := by simp [hh]
        have psz : (s.heap.push (set0 w)).objs.size = s.heap.objs.size + 1 := Heap.size_push ..
        have gone : ∀ b, s.heap.objs.size ≤ b → s.heap.get? b = none := fun b hb => by
          cases z : s.heap.get? b with
          | none => rfl
          | some o => exact absurd (Heap.lt_size z) (Nat.not_lt.mpr hb)
        have vals : ∀ (i : Nat) (v : Value), items[i]? = some v → ∃ p, ks[i]? = some p ∧ v = .ref p.1 := fun i v hv => by
          rw [← Array.getElem?_toList, hit, List.getElem?_map] at hv
          match z : ks[i]? with
          | none => rw [z] at hv; cases hv
          | some p => rw [z] at hv; exact ⟨p, rfl, (Option.some.inj hv).symm⟩
        refine updateK ((Walks.list quiet3 _ c (by rw [psz]; exact Nat.ne_of_lt (Nat.lt_succ_of_lt cS)) items).toS) s.heap.objs.size (by
            rw [psz]; simp only [List.mem_cons, List.not_mem_nil, or_false, not_or]; exact ⟨Nat.ne_of_lt (Nat.lt_succ_self _), Nat.ne_of_gt cS⟩) ks isz few vals s.heap he (gone _ (Nat.le_refl _))
          (fun b hb => gone b (by rw [List.mem_singleton.mp hb, psz]; exact Nat.le_succ _)) (by simp only [Around.in1_units]; omega) items.size 0 _ (Nat.zero_add _)
          ⟨⟨_, Heap.get?_push_size _ rfl, rfl, rfl⟩, hl1.push _⟩ (fun b o e => Heap.get?_push_of_some _ (Heap.get?_push_of_some _ e)) ⟨[], #[], 0, _, setK_new (Heap.get?_push_of_some _ at0), GotK.none ks⟩ ?_
        intro s' L es ep t mv hK g kp
        obtain ⟨h', g2, d', tk', os'⟩ := s'
        cases (mv.gens : g2 = _)
        cases (mv.drawn : d' = _)
        cases (mv.os : os' = _)
        show wpAny _ _ _ _ _ _
        refine wpAny_pure ?_
        show wpAny _ _ (ret Value.none) _ _ _
        rw [isz] at g
        exact wpAny_pure ⟨rfl, h', tk', L, es, ep, t, rfl, hK, g, kp⟩
      · cases r₂ with
        | error e => exact hr₂
        | ok fl₂ =>
          cases fl₂ with
          | ret r =>
            obtain ⟨rfl, h', tk, L, es, ep, t, rfl, hK, g, kp⟩ := hr₂
            repeat (any_goals (first | assumption | wp_step))
            exact q _ _ _ _ _ _ hK g kp
          | _ => exact hr₂.elim
    | _ => exact hr.elim
end
def rSetOfL (P : Program) (w : World) : List V → Hp → VK → Prop := fun xs H Q => ∃ (S : List Addr) (c : Addr) (ds : List PyData), xs = [.ref c] ∧ At S H (.ref c) (.list ds) ∧ (∀ d ∈ ds, EltOk d) ∧ ds.length < 64 ∧ ∀ a L, H a = none → OfSet S H ds L → Q (.ref a) (upd H a (SetH P w a L))
section
variable {X : Cx}
theorem cr_setOfL (hc : X.calm = true) (hu : X.A.units + 64 < cLine) : CallR X (.type "set") (rSetOfL X.prog X.w) := by
  intro pins s σ H xs us Q I r h
  obtain ⟨S, c, ds, rfl, ha, ok, few, q⟩ := h
  rw [Vals.ref1 r]
  obtain ⟨c', vs, e, _, hc', hds⟩ := ha.lst_inv
  cases e
  obtain ⟨its, rv, pl, hz⟩ := I.list (SqL.of (K := X.K) hc')
  obtain ⟨ks, e1, e2, e3⟩ := paired_of hds rv ok
  have len : ks.length = ds.length := by rw [← List.length_map (f := (·.2)), e2, List.length_map]
  have isk : ∀ p ∈ ks, IsK s.heap p.2 p.1 := fun p hp => by
    obtain ⟨d, m, a, e⟩ := e3 p hp
    rw [← e]
    exact ⟨a.nested I (ok d m).key rfl, (ok d m).deep, (ok d m).num⟩
  have fresh : H s.heap.objs.size = none := I.hok.fresh (Nat.le_refl _)
  refine call_setKL (P := X.prog) (w := X.w) ks (I.ok.hd hc) pl.isList (by simpa using e1) isk (by omega) (by omega) fun h' tk L es ep t R g k => ?_
  refine ⟨.ref s.heap.objs.size, upd H s.heap.objs.size (SetH X.prog X.w s.heap.objs.size L), I.laid (t' := tk) k (Nat.le_refl _) (setH_ok R.bare), rfl, q _ L fresh ⟨fun p hp => e3 p (List.mem_of_mem_take (g.sub p hp)), fun d hd => ?_, R.once⟩⟩
  have m : keyN d ∈ ks.map (·.2) := by rw [e2]; exact List.mem_map.mpr ⟨d, hd, rfl⟩
  obtain ⟨p, hp, e⟩ := List.mem_map.mp m
  rw [← e]
  exact g.all p (by rw [List.take_length]; exact hp)
end
/-- sorted(set(x)), x a list -/
theorem ev_sortSetL {P : Program} {w : World} {b : Bool} {p : Addr × Addr} {S : List Addr} {σ : L2.St} {H : Hp} {te : TE} {ds : List PyData} (h : Ev b p S te σ H fun z => z = .list ds) (ok : ∀ d ∈ ds, EltOk d) (few : ds.length < 64) (al : W.AllAlike ds) (so : W.Sortable ds) :
    Ev b p S (tCB (rSortOf P w) (tCons (tCB (rSetOfL P w) (tCons te tNil)) tNil)) σ H fun z => ∃ ds', z = .list ds' ∧ SortOf ds ds' := fun H1 e Pn Q q =>
  h H1 e Pn _ fun v H2 z e2 P2 a2 r => by
    subst r
    obtain ⟨c, xs, rfl, na, hc, ra⟩ := a2.lst_inv
    refine ⟨S, c, ds, rfl, a2, ok, few, fun a L hn of => ?_⟩
    have P3 : Pen p S (upd H2 a (SetH P w a L)) := P2.new hn
    have e3 : Rl false p H2 (upd H2 a (SetH P w a L)) := Rl.new hn
    refine ⟨S, a, ds, L, rfl, upd_same, ⟨fun x hx => ?_, of.all, of.once⟩, ok, al, so, fun l vs ds' hl at' st => ?_⟩
    · obtain ⟨d, m, y, k⟩ := of.sub x hx
      exact ⟨d, m, y.mono e3 P2.mem, k⟩
    · exact q _ _ _ ((e2.trans (Rl.new hn)).trans (Rl.new hl)) (P3.new hl) (at_new_lst P3 hl at') ⟨ds', rfl, st⟩
end Mv
/-! # A queue of keys whose costs fall: it ends, and it stays short -/
namespace Mv
def cLt (a b : Nat × Nat) : Prop := a.1 < b.1 ∨ a.1 = b.1 ∧ a.2 < b.2
instance (a b : Nat × Nat) : Decidable (cLt a b) := by unfold cLt; infer_instance
/-- none stands above all -/
def oLe : Option (Nat × Nat) → Option (Nat × Nat) → Prop
  | some a, some b => ¬ cLt b a
  | some _, none => True
  | none, none => True
  | none, some _ => False
def oLt : Option (Nat × Nat) → Option (Nat × Nat) → Prop
  | some a, some b => cLt a b
  | some _, none => True
  | _, _ => False
def oEnc : Option (Nat × Nat) → Nat × Nat × Nat
  | some a => (0, a.1, a.2)
  | none => (1, 0, 0)
theorem oLe.refl : ∀ a : Option (Nat × Nat), oLe a a
  | some a => by unfold oLe cLt; omega
  | none => trivial
theorem oLe.trans : ∀ {a b c : Option (Nat × Nat)}, oLe a b → oLe b c → oLe a c
  | some a, some b, some c, h, k => by unfold oLe cLt at *; omega
  | some _, some _, none, _, _ => trivial
  | some _, none, none, _, _ => trivial
  | none, none, none, _, _ => trivial
  | some _, none, some _, _, k => k.elim
  | none, some _, _, h, _ => h.elim
  | none, none, some _, _, k => k.elim
theorem oLt.lex : ∀ {a b : Option (Nat × Nat)}, oLt a b → Prod.Lex (· < ·) (Prod.Lex (· < ·) (· < ·)) (oEnc a) (oEnc b)
  | some a, some b, h => by
    unfold oLt cLt at h
    unfold oEnc
    refine .right _ ?_
    rcases h with h | ⟨e, h⟩
    · exact .left _ _ h
    · rw [e]
      exact .right _ h
  | some a, none, _ => .left _ _ Nat.zero_lt_one
  | none, some _, h => h.elim
  | none, none, h => h.elim
theorem oLe.cases : ∀ {a b : Option (Nat × Nat)}, oLe a b → oLt a b ∨ a = b
  | some (a1, a2), some (b1, b2), h => by
    unfold oLe cLt at h
    unfold oLt cLt
    simp only [Option.some.injEq, Prod.mk.injEq]
    simp only at h
    omega
  | some _, none, _ => .inl trivial
  | none, none, _ => .inr rfl
  | none, some _, h => h.elim
theorem oLe.lt : ∀ {a b c : Option (Nat × Nat)}, oLe a b → oLt b c → oLt a c
  | some a, some b, some c, h, k => by unfold oLe cLt at h; unfold oLt cLt at *; omega
  | some _, some _, none, _, _ => trivial
  | none, some _, _, h, _ => h.elim
  | _, none, _, _, k => (by cases k)
theorem oLt.irr : ∀ {a : Option (Nat × Nat)}, ¬ oLt a a
  | some a, h => by unfold oLt cLt at h; omega
  | none, h => h
/-- values of some keys have fallen -/
def Fell {κ : Type} (ks : List κ) (f g : κ → Option (Nat × Nat)) : Prop := (∀ k ∈ ks, oLe (f k) (g k)) ∧ ∃ k ∈ ks, oLt (f k) (g k)
theorem lex3 : WellFounded (Prod.Lex (α := Nat) (β := Nat × Nat) (· < ·) (Prod.Lex (· < ·) (· < ·))) := (Prod.lex ⟨_, Nat.lt_wfRel.wf⟩ (Prod.lex ⟨_, Nat.lt_wfRel.wf⟩ ⟨_, Nat.lt_wfRel.wf⟩)).wf
theorem fell_wf {κ : Type} : ∀ ks : List κ, WellFounded (Fell ks)
  | [] => ⟨fun f => ⟨f, fun g ⟨_, k, h, _⟩ => nomatch h⟩⟩
  | k :: ks => by
    have w := InvImage.wf (fun f : κ → Option (Nat × Nat) => (oEnc (f k), f)) (Prod.lex ⟨_, lex3⟩ ⟨_, fell_wf ks⟩).wf
    refine Subrelation.wf (fun {f g} h => ?_) w
    show Prod.Lex _ _ (oEnc (f k), f) (oEnc (g k), g)
    obtain ⟨h1, x, hx, h2⟩ := h
    rcases (h1 k List.mem_cons_self).cases with h | h
    · exact .left _ _ h.lex
    · rw [h]
      refine .right _ ⟨fun y hy => h1 y (List.mem_cons_of_mem _ hy), ?_⟩
      rcases List.mem_cons.mp hx with rfl | hx
      · rw [h] at h2
        exact (oLt.irr h2).elim
      · exact ⟨x, hx, h2⟩
structure Net (κ σ τ : Type) where
  all : List κ
  G : Nat
  val : σ → κ → Option (Nat × Nat)
  put : σ → κ → Nat × Nat → σ
  cls : κ → Bool
  side : Bool → σ → τ
  offs : τ → κ → List (κ × (Nat × Nat))
  Ok : σ → Prop
  put_ok : ∀ s k c, Ok s → k ∈ all → Ok (put s k c)
  val_same : ∀ s k c, k ∈ all → val (put s k c) k = some c
  val_ne : ∀ s k k' c, k ∈ all → k' ∈ all → k' ≠ k → val (put s k c) k' = val s k'
  side_put : ∀ s k c x, k ∈ all → cls k ≠ x → side x (put s k c) = side x s
  offs_ok : ∀ s k, Ok s → k ∈ all → (val s k).isSome = true → (offs (side (cls k) s) k).length ≤ G ∧ ∀ o ∈ offs (side (cls k) s) k, o.1 ∈ all ∧ cls o.1 ≠ cls k
namespace Net
variable {κ σ τ : Type} (M : Net κ σ τ)
def met (s : σ) (o : κ × (Nat × Nat)) : Prop := oLe (M.val s o.1) (some o.2)
/-- an offer -/
def fresh (s : σ) (o : κ × (Nat × Nat)) : Bool := match M.val s o.1 with
  | some c => decide (cLt o.2 c)
  | none => true
def offer (a : σ × List κ) (o : κ × (Nat × Nat)) : σ × List κ := if M.fresh a.1 o = true then (M.put a.1 o.1 o.2, a.2 ++ [o.1]) else a
theorem offer_no {s : σ} {q : List κ} {o : κ × (Nat × Nat)} (e : M.fresh s o = false) : M.offer (s, q) o = (s, q) := by
  unfold offer
  rw [if_neg (by rw [show M.fresh (s, q).1 o = false from e]; exact Bool.false_ne_true)]
theorem offer_yes {s : σ} {q : List κ} {o : κ × (Nat × Nat)} (e : M.fresh s o = true) : M.offer (s, q) o = (M.put s o.1 o.2, q ++ [o.1]) := by
  unfold offer
  rw [if_pos (show M.fresh (s, q).1 o = true from e)]
def pop (s : σ) (k : κ) (r : List κ) : σ × List κ := (M.offs (M.side (M.cls k) s) k).foldl M.offer (s, r)
theorem fresh_no {s : σ} {o : κ × (Nat × Nat)} : M.fresh s o = false ↔ M.met s o := by
  unfold fresh met
  cases M.val s o.1 with
  | none => exact ⟨fun h => (by cases h), fun h => h.elim⟩
  | some c =>
    show decide (cLt o.2 c) = false ↔ ¬ cLt o.2 c
    exact decide_eq_false_iff_not
structure Step (x : Bool) (os : List (κ × (Nat × Nat))) (s : σ) (q : List κ) (a : σ × List κ) : Prop where
  ok : M.Ok s → M.Ok a.1
  le : ∀ k ∈ M.all, oLe (M.val a.1 k) (M.val s k)
  alt : a = (s, q) ∨ Fell M.all (M.val a.1) (M.val s)
  met : ∀ o ∈ os, M.met a.1 o
  len : a.2.length ≤ q.length + os.length
  side : M.side x a.1 = M.side x s
  more : ∃ m, a.2 = q ++ m ∧ ∀ k ∈ m, k ∈ M.all ∧ M.cls k ≠ x ∧ (M.val a.1 k).isSome = true
theorem some_le {s s' : σ} {k : κ} (h : oLe (M.val s' k) (M.val s k)) (h1 : (M.val s k).isSome = true) : (M.val s' k).isSome = true := by
  cases e : M.val s k with
  | none => rw [e] at h1; cases h1
  | some c =>
    rw [e] at h
    cases e' : M.val s' k with
    | none => rw [e'] at h; exact h.elim
    | some d => rfl
theorem fold {x : Bool} : ∀ (os : List (κ × (Nat × Nat))) (s : σ) (q : List κ), (∀ o ∈ os, o.1 ∈ M.all ∧ M.cls o.1 ≠ x) → Step M x os s q (os.foldl M.offer (s, q))
  | [], s, q, _ => ⟨id, fun _ _ => oLe.refl _, .inl rfl, fun _ h => (nomatch h), Nat.le_refl _, rfl, [], (List.append_nil _).symm, fun _ h => (nomatch h)⟩
  | o :: os, s, q, h => by
    rw [List.foldl_cons]
    obtain ⟨h1, h2⟩ := h o List.mem_cons_self
    have hr := fun o' (ho : o' ∈ os) => h o' (List.mem_cons_of_mem _ ho)
    cases e : M.fresh s o with
    | false =>
      rw [M.offer_no e]
      have ih := fold os s q hr
      refine ⟨ih.ok, ih.le, ih.alt, fun o' ho => ?_, Nat.le_trans ih.len (by rw [List.length_cons]; omega), ih.side, ih.more⟩
      rcases List.mem_cons.mp ho with rfl | ho
      · exact (ih.le _ h1).trans (M.fresh_no.mp e)
      · exact ih.met o' ho
    | true =>
      rw [M.offer_yes e]
      have ih := fold os (M.put s o.1 o.2) (q ++ [o.1]) hr
      have le1 : ∀ k ∈ M.all, oLe (M.val (M.put s o.1 o.2) k) (M.val s k) := fun k hk => by
        by_cases ek : k = o.1
        · rw [ek, M.val_same _ _ _ h1]
          unfold fresh at e
          cases ev : M.val s o.1 with
          | none => trivial
          | some c =>
            rw [ev] at e
            have : cLt o.2 c := of_decide_eq_true e
            unfold oLe cLt at *
            omega
        · rw [M.val_ne s _ _ _ h1 hk ek]
          exact oLe.refl _
      have lt1 : oLt (M.val (M.put s o.1 o.2) o.1) (M.val s o.1) := by
        rw [M.val_same _ _ _ h1]
        unfold fresh at e
        cases ev : M.val s o.1 with
        | none => trivial
        | some c =>
          rw [ev] at e
          exact (of_decide_eq_true e : cLt o.2 c)
      refine ⟨fun k => ih.ok (M.put_ok _ _ _ k h1), fun k hk => (ih.le k hk).trans (le1 k hk), .inr ⟨fun k hk => (ih.le k hk).trans (le1 k hk), o.1, h1, ?_⟩, fun o' ho => ?_, Nat.le_trans ih.len (by simp; omega), ih.side.trans (M.side_put _ _ _ _ h1 h2), ?_⟩
      · exact (ih.le o.1 h1).lt lt1
      · rcases List.mem_cons.mp ho with rfl | ho
        · unfold Net.met
          have := ih.le _ h1
          rwa [M.val_same _ _ _ h1] at this
        · exact ih.met o' ho
      · obtain ⟨m, e1, e2⟩ := ih.more
        refine ⟨o.1 :: m, by rw [e1, List.append_assoc]; rfl, fun k hk => ?_⟩
        rcases List.mem_cons.mp hk with rfl | hk
        · exact ⟨h1, h2, M.some_le (ih.le _ h1) (by rw [M.val_same _ _ _ h1]; rfl)⟩
        · exact e2 k hk
/-- what is true while the keys of one kind are worked off: rest of that kind, next of the other; D: the keys done -/
structure Seg (x : Bool) (s : σ) (rest next D : List κ) : Prop where
  ok : M.Ok s
  r : ∀ k ∈ rest, k ∈ M.all ∧ M.cls k = x ∧ (M.val s k).isSome = true
  n : ∀ k ∈ next, k ∈ M.all ∧ M.cls k ≠ x ∧ (M.val s k).isSome = true
  nd : D.Nodup
  sub : ∀ k ∈ D, k ∈ M.all ∧ M.cls k = x ∧ (M.val s k).isSome = true
  met : ∀ k ∈ D, ∀ o ∈ M.offs (M.side x s) k, M.met s o
  len : next.length ≤ D.length * M.G
  rl : rest.length ≤ M.all.length * M.G + 1
theorem nodup_le : ∀ {D l : List κ}, D.Nodup → (∀ k ∈ D, k ∈ l) → D.length ≤ l.length
  | [], _, _, _ => Nat.zero_le _
  | a :: D, l, h, k => by
    obtain ⟨s, t, rfl⟩ := List.append_of_mem (k a List.mem_cons_self)
    have h' := List.nodup_cons.mp h
    have : D.length ≤ (s ++ t).length := nodup_le h'.2 fun y hy => by
      have := k y (List.mem_cons_of_mem _ hy)
      rcases List.mem_append.mp this with m | m
      · exact List.mem_append_left _ m
      · rcases List.mem_cons.mp m with rfl | m
        · exact (h'.1 hy).elim
        · exact List.mem_append_right _ m
    simp at this ⊢
    omega
variable {M} in
theorem Seg.nlen {x : Bool} {s : σ} {rest next D : List κ} (h : Seg M x s rest next D) : next.length ≤ M.all.length * M.G := Nat.le_trans h.len (Nat.mul_le_mul_right _ (nodup_le h.nd fun k hk => (h.sub k hk).1))
variable {M} in
theorem Seg.turn {x : Bool} {s : σ} {next D : List κ} (h : Seg M x s [] next D) : Seg M (!x) s next [] [] :=
  ⟨h.ok, fun k hk => let ⟨a, b, c⟩ := h.n k hk; ⟨a, by cases x <;> cases e : M.cls k <;> simp_all, c⟩, fun k hk => (nomatch hk), List.nodup_nil, fun k hk => (nomatch hk), fun k hk => (nomatch hk), Nat.zero_le _, Nat.le_trans h.nlen (Nat.le_succ _)⟩
variable {M} in
theorem Seg.pop {x : Bool} {s : σ} {k : κ} {r next D : List κ} (h : Seg M x s (k :: r) next D) : (∃ next' D', Seg M x (M.pop s k (r ++ next)).1 r next' D' ∧ (M.pop s k (r ++ next)).2 = r ++ next') ∧ (M.pop s k (r ++ next) = (s, r ++ next) ∨ Fell M.all (M.val (M.pop s k (r ++ next)).1) (M.val s)) := by
  obtain ⟨ka, kc, kv⟩ := h.r k List.mem_cons_self
  obtain ⟨g1, g2⟩ := M.offs_ok s k h.ok ka kv
  have st := M.fold (x := M.cls k) _ s (r ++ next) g2
  rw [show (M.offs (M.side (M.cls k) s) k).foldl M.offer (s, r ++ next) = M.pop s k (r ++ next) from rfl] at st
  refine ⟨?_, st.alt⟩
  rw [kc] at g1 g2 st
  have hm : ∀ k' ∈ D, ∀ o ∈ M.offs (M.side x (M.pop s k (r ++ next)).1) k', M.met (M.pop s k (r ++ next)).1 o := fun k' hk' o ho => by
    rw [st.side] at ho
    have m := h.met k' hk' o ho
    unfold Net.met at m ⊢
    obtain ⟨a, b, c⟩ := h.sub k' hk'
    have := (M.offs_ok s k' h.ok a c).2
    rw [b] at this
    exact (st.le _ (this o ho).1).trans m
  by_cases hk : k ∈ D
  · have e : M.pop s k (r ++ next) = (s, r ++ next) := by
      have : ∀ (os : List (κ × (Nat × Nat))) (q : List κ), (∀ o ∈ os, M.met s o) → os.foldl M.offer (s, q) = (s, q) := fun os => by
        induction os with
        | nil => intro q _; rfl
        | cons o os ih =>
          intro q ho
          rw [List.foldl_cons]
          rw [M.offer_no (M.fresh_no.mpr (ho o List.mem_cons_self))]
          exact ih q fun o' h' => ho o' (List.mem_cons_of_mem _ h')
      exact this _ _ (by rw [kc]; exact h.met k hk)
    rw [e]
    exact ⟨next, D, ⟨h.ok, fun k' h' => h.r k' (List.mem_cons_of_mem _ h'), h.n, h.nd, h.sub, h.met, h.len, Nat.le_trans (by simp) h.rl⟩, rfl⟩
  · obtain ⟨m, e1, e2⟩ := st.more
    refine ⟨next ++ m, k :: D, ⟨st.ok h.ok, fun k' h' => ?_, fun k' h' => ?_, List.nodup_cons.mpr ⟨hk, h.nd⟩, fun k' h' => ?_, fun k' h' o ho => ?_, ?_, Nat.le_trans (by simp) h.rl⟩, by rw [e1, List.append_assoc]⟩
    · obtain ⟨a, b, c⟩ := h.r k' (List.mem_cons_of_mem _ h')
      exact ⟨a, b, M.some_le (st.le _ a) c⟩
    · rcases List.mem_append.mp h' with h' | h'
      · obtain ⟨a, b, c⟩ := h.n k' h'
        exact ⟨a, b, M.some_le (st.le _ a) c⟩
      · exact e2 k' h'
    · rcases List.mem_cons.mp h' with rfl | h'
      · exact ⟨ka, kc, M.some_le (st.le _ ka) kv⟩
      · obtain ⟨a, b, c⟩ := h.sub k' h'
        exact ⟨a, b, M.some_le (st.le _ a) c⟩
    · rcases List.mem_cons.mp h' with rfl | h'
      · rw [st.side] at ho
        exact st.met o ho
      · exact hm k' h' o ho
    · have l := st.len
      rw [e1] at l
      simp only [List.length_append, List.length_cons] at l ⊢
      have := h.len
      rw [Nat.succ_mul]
      omega
/-- n turns empty the queue, which stays within B -/
inductive Runs (B : Nat) : σ → List κ → Nat → Prop
  | done {s : σ} {n : Nat} : Runs B s [] n
  | step {s : σ} {k : κ} {r : List κ} {n : Nat} : r.length ≤ B → M.Ok s → k ∈ M.all → (M.val s k).isSome = true → Runs B (M.pop s k r).1 (M.pop s k r).2 n → Runs B s (k :: r) (n + 1)
theorem runs (s : σ) : ∀ (m : Nat) (x : Bool) (rest next D : List κ), Seg M x s rest next D → (rest ++ next).length = m → ∃ n, Runs M (2 * (M.all.length * M.G) + 1) s (rest ++ next) n := by
  induction s using (InvImage.wf M.val (fell_wf M.all)).induction with
  | _ s ih =>
    intro m
    induction m using Nat.strongRecOn with
    | _ m ih2 =>
      have key : ∀ (x : Bool) (k : κ) (r next D : List κ), Seg M x s (k :: r) next D → (k :: r ++ next).length = m → ∃ n, Runs M (2 * (M.all.length * M.G) + 1) s (k :: r ++ next) n := fun x k r next D h hm => by
        obtain ⟨⟨next', D', h1, h2⟩, h3⟩ := h.pop
        obtain ⟨ka, kc, kv⟩ := h.r k List.mem_cons_self
        have hl : (r ++ next).length ≤ 2 * (M.all.length * M.G) + 1 := by
          have a := h.nlen
          have b := h.rl
          rw [List.length_cons] at b
          rw [List.length_append]
          omega
        rcases h3 with h3 | h3
        · rw [h3] at h1 h2
          simp only at h1 h2
          obtain ⟨n, hn⟩ := ih2 (r ++ next).length (by rw [← hm]; simp) x r next' D' h1 (by rw [← h2])
          refine ⟨n + 1, .step hl h.ok ka kv ?_⟩
          show Runs M _ (M.pop s k (r ++ next)).1 (M.pop s k (r ++ next)).2 n
          rw [h3]
          show Runs M _ s (r ++ next) n
          rw [h2]
          exact hn
        · obtain ⟨n, hn⟩ := ih _ h3 _ x r next' D' h1 rfl
          exact ⟨n + 1, .step hl h.ok ka kv (h2 ▸ hn)⟩
      intro x rest next D h hm
      cases rest with
      | cons k r => exact key x k r next D h hm
      | nil =>
        cases next with
        | nil => exact ⟨0, .done⟩
        | cons k r =>
          have := key (!x) k r [] [] h.turn (by simpa using hm)
          simpa using this
end Net
end Mv
/-! # What _law_least does, plainly -/
namespace Mv
open PySem PySem.Spec PyProof.Rows L2 He
/-! ### every content is listed -/
theorem mem_contL : ∀ (zs is : List Int) (acc : List (List Int)) (r : List Int), r ∈ acc → allNum (is.map PyData.int) zs = true → r ++ is ∈ zs.foldl cStep acc
  | [], [], acc, r, h, _ => by rw [List.append_nil]; exact h
  | [], _ :: _, _, _, _, h => by simp [allNum] at h
  | _ :: _, [], _, _, _, h => by simp [allNum] at h
  | z :: zs, i :: is, acc, r, h, k => by
    rw [List.map_cons, allNum, Bool.and_eq_true] at k
    have k1 : (decide (0 ≤ i) && decide (i < z)) = true := k.1
    rw [Bool.and_eq_true, decide_eq_true_eq, decide_eq_true_eq] at k1
    have := mem_contL zs is (cStep acc z) (r ++ [i]) (by
      unfold cStep
      refine List.mem_flatMap.mpr ⟨r, h, List.mem_map.mpr ⟨i.toNat, List.mem_range.mpr (by omega), ?_⟩⟩
      rw [show ((i.toNat : Nat) : Int) = i by omega]) k.2
    rw [List.foldl_cons]
    simpa using this
theorem cont_mem {zs : List Int} {c : PyData} (h : isCont zs c = true) : c ∈ conts zs := by
  obtain ⟨is, rfl, _⟩ := isCont_ints h
  have := mem_contL zs is [[]] [] (by simp) (by simpa [isCont] using h)
  exact List.mem_map.mpr ⟨is, by simpa [contL] using this, rfl⟩
/-! ### keys -/
def plK (a c : PyData) : PyData := .tuple [a, c]
def laK (i : Nat) (a c : PyData) : PyData := .tuple [.str (Str.ofString "moved"), .int (i : Int), a, c]
def thK (i : Nat) (a c : PyData) : PyData := .tuple [.int (i : Int), a, c]
section
variable (h : Hou)
def kP (k : PyData) : Prop := ∃ a c, k = plK a c ∧ isCont h.zs a = true ∧ isCont h.zs c = true
def kL (k : PyData) : Prop := ∃ (i : Nat) (a c : PyData), k = laK i a c ∧ i ≤ h.ks.length ∧ isCont h.zs a = true ∧ isCont h.zs c = true
def kT (k : PyData) : Prop := ∃ (i : Nat) (a c : PyData), k = thK i a c ∧ i ≤ h.ks.length ∧ isCont h.zs a = true ∧ isCont h.zs c = true
def prs : List (PyData × PyData) := (conts h.zs).flatMap fun a => (conts h.zs).map fun c => (a, c)
def allK : List PyData := (prs h).map (fun x => plK x.1 x.2) ++ ((List.range (h.ks.length + 1)).flatMap (fun i => (prs h).map fun x => laK i x.1 x.2) ++ (List.range (h.ks.length + 1)).flatMap (fun i => (prs h).map fun x => thK i x.1 x.2))
end
theorem flatMap_le {α β : Type} {f : α → List β} {m : Nat} : ∀ {l : List α}, (∀ a ∈ l, (f a).length ≤ m) → (l.flatMap f).length ≤ l.length * m
  | [], _ => by simp
  | a :: l, h => by
    rw [List.flatMap_cons, List.length_append, List.length_cons, Nat.succ_mul]
    have h1 := h a List.mem_cons_self
    have h2 := flatMap_le (f := f) (l := l) fun b hb => h b (List.mem_cons_of_mem _ hb)
    omega
section
variable {h : Hou}
theorem mem_prs {a c : PyData} (h1 : isCont h.zs a = true) (h2 : isCont h.zs c = true) : (a, c) ∈ prs h := List.mem_flatMap.mpr ⟨a, cont_mem h1, List.mem_map.mpr ⟨c, cont_mem h2, rfl⟩⟩
theorem of_prs (g : Good h) {x : PyData × PyData} (m : x ∈ prs h) : isCont h.zs x.1 = true ∧ isCont h.zs x.2 = true := by
  obtain ⟨a, h1, h2⟩ := List.mem_flatMap.mp m
  obtain ⟨c, h3, rfl⟩ := List.mem_map.mp h2
  exact ⟨conts_cont g.zs a h1, conts_cont g.zs c h3⟩
theorem mem_P {k : PyData} (m : kP h k) : k ∈ allK h := by
  obtain ⟨a, c, rfl, h1, h2⟩ := m
  exact List.mem_append_left _ (List.mem_map.mpr ⟨(a, c), mem_prs h1 h2, rfl⟩)
theorem mem_L {k : PyData} (m : kL h k) : k ∈ allK h := by
  obtain ⟨i, a, c, rfl, hi, h1, h2⟩ := m
  exact List.mem_append_right _ (List.mem_append_left _ (List.mem_flatMap.mpr ⟨i, List.mem_range.mpr (by omega), List.mem_map.mpr ⟨(a, c), mem_prs h1 h2, rfl⟩⟩))
theorem mem_T {k : PyData} (m : kT h k) : k ∈ allK h := by
  obtain ⟨i, a, c, rfl, hi, h1, h2⟩ := m
  exact List.mem_append_right _ (List.mem_append_right _ (List.mem_flatMap.mpr ⟨i, List.mem_range.mpr (by omega), List.mem_map.mpr ⟨(a, c), mem_prs h1 h2, rfl⟩⟩))
theorem of_all (g : Good h) {k : PyData} (m : k ∈ allK h) : kP h k ∨ kL h k ∨ kT h k := by
  rcases List.mem_append.mp m with m | m
  · obtain ⟨x, hx, rfl⟩ := List.mem_map.mp m
    exact .inl ⟨_, _, rfl, of_prs g hx⟩
  · rcases List.mem_append.mp m with m | m
    · obtain ⟨i, hi, m⟩ := List.mem_flatMap.mp m
      obtain ⟨x, hx, rfl⟩ := List.mem_map.mp m
      have := List.mem_range.mp hi
      exact .inr (.inl ⟨i, _, _, rfl, by omega, of_prs g hx⟩)
    · obtain ⟨i, hi, m⟩ := List.mem_flatMap.mp m
      obtain ⟨x, hx, rfl⟩ := List.mem_map.mp m
      have := List.mem_range.mp hi
      exact .inr (.inr ⟨i, _, _, rfl, by omega, of_prs g hx⟩)
theorem all_len (g : Good h) : (allK h).length ≤ 468 := by
  have hc := (conts_len g.zs).2
  have hk := g.k5
  have h1 : (prs h).length ≤ 36 := by
    have := flatMap_le (f := fun a => (conts h.zs).map fun c => (a, c)) (l := conts h.zs) (m := 6) fun a _ => by rw [List.length_map]; exact hc
    unfold prs
    omega
  have h2 := flatMap_le (f := fun i => (prs h).map fun x => laK i x.1 x.2) (l := List.range (h.ks.length + 1)) (m := 36) fun a _ => by rw [List.length_map]; exact h1
  have h3 := flatMap_le (f := fun i => (prs h).map fun x => thK i x.1 x.2) (l := List.range (h.ks.length + 1)) (m := 36) fun a _ => by rw [List.length_map]; exact h1
  unfold allK
  rw [List.length_append, List.length_append, List.length_map]
  rw [List.length_range] at h2 h3
  omega
/-- keys of all kinds are fit for keys -/
theorem key_ok (g : Good h) {k : PyData} (m : k ∈ allK h) : keyOkD k = true ∧ isT k = true ∧ (keyN k).depth ≤ 8 := by
  rcases of_all g m with ⟨a, c, rfl, h1, h2⟩ | ⟨i, a, c, rfl, hi, h1, h2⟩ | ⟨i, a, c, rfl, hi, h1, h2⟩
  all_goals
    have ka := cont_key h1
    have kc := cont_key h2
    refine ⟨?_, rfl, ?_⟩
    · simp [plK, laK, thK, keyOkD, keyOkDs, ka.1, kc.1]
    · simp [plK, laK, thK, keyN, keyNs, NestedKey.depth, NestedKey.depthAll, ka.2.2, kc.2.2]
end
/-! ### costs -/
def cD (c : Nat × Nat) : PyData := costD ((c.1 : Int), (c.2 : Int))
def unC : PyData → Nat × Nat
  | .tuple [.int a, .int c] => (a.toNat, c.toNat)
  | _ => (0, 0)
theorem unC_cD (c : Nat × Nat) : unC (cD c) = c := rfl
def addC (a c : Nat × Nat) : Nat × Nat := (a.1 + c.1, a.2 + c.2)
theorem lt_cD (a c : Nat × Nat) : W.dataLt (cD a) (cD c) = decide (cLt a c) := by
  unfold cD costD
  rw [W.dataLt_ii]
  refine decide_eq_decide.mpr ?_
  unfold cLt
  omega
/-- a dict of keys that are m, with costs -/
structure DOk (m : PyData → Prop) (kvs : KVD) : Prop where
  ok : ∀ kv ∈ kvs, m kv.1 ∧ ∃ c, kv.2 = cD c
  once : (kvs.map (·.1)).Nodup
theorem DOk.nil {m : PyData → Prop} : DOk m [] := ⟨fun _ h => (nomatch h), List.nodup_nil⟩
theorem kget_none {kvs : KVD} {k : PyData} (e : kget kvs k = none) : ∀ kv ∈ kvs, keyN kv.1 ≠ keyN k := fun kv hkv q => by
  unfold kget at e
  have := List.find?_eq_none.mp (Option.map_eq_none_iff.mp e) kv hkv
  exact this (decide_eq_true q)
theorem DOk.put {m : PyData → Prop} {kvs : KVD} {k : PyData} (d : DOk m kvs) (hk : m k) (c : Nat × Nat) : DOk m (kput kvs k (cD c)) := by
  refine ⟨fun kv hkv => ?_, ?_⟩
  · rcases kput_mem hkv with ⟨kv0, h0, e1, e2⟩ | rfl
    · obtain ⟨h1, c0, h2⟩ := d.ok kv0 h0
      rw [e1]
      refine ⟨h1, ?_⟩
      rcases e2 with e2 | e2
      · exact ⟨c0, e2.trans h2⟩
      · exact ⟨c, e2⟩
    · exact ⟨hk, c, rfl⟩
  · unfold kput
    cases e : kget kvs k with
    | some z =>
      rw [if_pos (show (some z).isSome = true from rfl)]
      have : (kvs.map (fun kv => if keyN kv.1 = keyN k then (kv.1, cD c) else kv)).map (·.1) = kvs.map (·.1) := by
        rw [List.map_map]
        refine List.map_congr_left fun kv _ => ?_
        show (if keyN kv.1 = keyN k then (kv.1, cD c) else kv).1 = kv.1
        split <;> rfl
      rw [this]
      exact d.once
    | none =>
      rw [if_neg (by simp)]
      rw [List.map_append]
      refine List.nodup_append.mpr ⟨d.once, by simp, fun a ha b hb q => ?_⟩
      obtain ⟨kv, h1, rfl⟩ := List.mem_map.mp ha
      simp at hb
      exact kget_none e kv h1 (by rw [q, hb])
theorem DOk.len {m : PyData → Prop} {kvs : KVD} (d : DOk m kvs) {l : List PyData} (h : ∀ k, m k → k ∈ l) : kvs.length ≤ l.length := by
  have := Net.nodup_le d.once fun k hk => by
    obtain ⟨kv, h1, rfl⟩ := List.mem_map.mp hk
    exact h _ (d.ok kv h1).1
  rwa [List.length_map] at this
theorem DOk.get {m : PyData → Prop} {kvs : KVD} {k z : PyData} (d : DOk m kvs) (e : kget kvs k = some z) : ∃ c, z = cD c := by
  unfold kget at e
  obtain ⟨kv, h1, rfl⟩ := Option.map_eq_some_iff.mp e
  exact (d.ok kv (List.mem_of_find?_eq_some h1)).2
theorem DOk.costs {m : PyData → Prop} {kvs : KVD} (d : DOk m kvs) : Mv.costs kvs := fun kv hkv => let ⟨c, e⟩ := (d.ok kv hkv).2; ⟨_, e⟩
/-- the cost of a key that is there -/
def cg (kvs : KVD) (k : PyData) : Nat × Nat := ((kget kvs k).map unC).getD (0, 0)
theorem DOk.cg {m : PyData → Prop} {kvs : KVD} {k : PyData} (d : DOk m kvs) (h : (kget kvs k).isSome = true) : kget kvs k = some (cD (cg kvs k)) := by
  cases e : kget kvs k with
  | none => rw [e] at h; cases h
  | some z =>
    obtain ⟨c, rfl⟩ := d.get e
    unfold Mv.cg
    rw [e]
    rfl
theorem kget_self {kvs : KVD} {kv : PyData × PyData} (h : kv ∈ kvs) : (kget kvs kv.1).isSome = true := by
  cases e : kget kvs kv.1 with
  | none => exact absurd rfl (kget_none e kv h)
  | some z => rfl
theorem offered_eq {m : PyData → Prop} {kvs : KVD} {k : PyData} (d : DOk m kvs) (c : Nat × Nat) : offered kvs k ((c.1 : Int), (c.2 : Int)) = (match (kget kvs k).map unC with | some o => decide (cLt c o) | none => true) := by
  unfold offered
  cases e : kget kvs k with
  | none => rfl
  | some z =>
    obtain ⟨o, rfl⟩ := d.get e
    show (false || W.dataLt (cD c) (cD o)) = decide (cLt c (unC (cD o)))
    rw [lt_cD, unC_cD, Bool.false_or]
/-! ### the machine -/
abbrev St3 := KVD × KVD × KVD
def kLen (k : PyData) : Nat := (items k).length
def pick (s : St3) (k : PyData) : KVD := if kLen k = 2 then s.1 else if kLen k = 4 then s.2.1 else s.2.2
def put3 (s : St3) (k : PyData) (c : Nat × Nat) : St3 := if kLen k = 2 then (kput s.1 k (cD c), s.2) else if kLen k = 4 then (s.1, kput s.2.1 k (cD c), s.2.2) else (s.1, s.2.1, kput s.2.2 k (cD c))
theorem put3_2 {s : St3} {k : PyData} {c : Nat × Nat} (e : kLen k = 2) : put3 s k c = (kput s.1 k (cD c), s.2) := if_pos e
theorem put3_4 {s : St3} {k : PyData} {c : Nat × Nat} (e : kLen k = 4) : put3 s k c = (s.1, kput s.2.1 k (cD c), s.2.2) := by unfold put3; rw [if_neg (by rw [e]; decide), if_pos e]
theorem put3_3 {s : St3} {k : PyData} {c : Nat × Nat} (e : kLen k = 3) : put3 s k c = (s.1, s.2.1, kput s.2.2 k (cD c)) := by unfold put3; rw [if_neg (by rw [e]; decide), if_neg (by rw [e]; decide)]
theorem pick_2 {s : St3} {k : PyData} (e : kLen k = 2) : pick s k = s.1 := if_pos e
theorem pick_4 {s : St3} {k : PyData} (e : kLen k = 4) : pick s k = s.2.1 := by unfold pick; rw [if_neg (by rw [e]; decide), if_pos e]
theorem pick_3 {s : St3} {k : PyData} (e : kLen k = 3) : pick s k = s.2.2 := by unfold pick; rw [if_neg (by rw [e]; decide), if_neg (by rw [e]; decide)]
def val3 (s : St3) (k : PyData) : Option (Nat × Nat) := (kget (pick s k) k).map unC
def wayN (ways : KVD) (a : PyData) (i : Nat) : PyData := nth ((kget ways a).getD .none) i
def isIn (xs : List PyData) (x : PyData) : Bool := xs.any fun z => PyData.eqv z x
section
variable (n : Nat) (ways : KVD) (rs spots : List PyData)
/-- what is offered for a place pair -/
def offP (P L : KVD) (k : PyData) : List (PyData × (Nat × Nat)) :=
  (List.range (n + 1)).map (fun (i : Nat) => (thK i (nth k 0) (nth k 1), cg P k)) ++
  ((L.map (·.1)).filter fun o => PyData.eqv (nth o 3) (nth k 0)).map fun o => (.tuple [nth o 1, nth o 2, nth k 1], addC (cg L o) (cg P k))
/-- for an item that has just landed -/
def offL (P L : KVD) (k : PyData) : List (PyData × (Nat × Nat)) :=
  ((P.map (·.1)).filter fun o => PyData.eqv (nth o 0) (nth k 3)).map fun o => (.tuple [nth k 1, nth k 2, nth o 1], addC (cg L k) (cg P o))
def goalOk (k r g : PyData) : Bool := PyData.eqv (nth r 0) (nth k 0) && (isIn (items (nth r 1)) (nth k 2) && isIn spots g)
def offR (T : KVD) (k r : PyData) : List (PyData × (Nat × Nat)) := ((items (nth r 2)).filter (goalOk spots k r)).map fun g => (.tuple [.str (Str.ofString "moved"), nth k 0, nth k 1, g], addC (cg T k) (1, 0))
def offS (T : KVD) (k : PyData) : List (PyData × (Nat × Nat)) := if unInt (nth k 0) < n then [(plK (wayN ways (nth k 1) (unInt (nth k 0)).toNat) (wayN ways (nth k 2) (unInt (nth k 0)).toNat), addC (cg T k) (0, 1))] else []
/-- for a thing pair -/
def offT (T : KVD) (k : PyData) : List (PyData × (Nat × Nat)) := offS n ways T k ++ rs.flatMap (offR spots T k)
end
structure Ok3 (h : Hou) (s : St3) : Prop where
  P : DOk (kP h) s.1
  L : DOk (kL h) s.2.1
  T : DOk (kT h) s.2.2
theorem put_get {kvs : KVD} {k : PyData} (c : Nat × Nat) : (kget (kput kvs k (cD c)) k).map unC = some c := by
  rw [kget_kput, if_pos rfl]
  rfl
section
variable {h : Hou}
theorem kP.len {k : PyData} (m : kP h k) : kLen k = 2 := by obtain ⟨a, c, rfl, _⟩ := m; rfl
theorem kL.len {k : PyData} (m : kL h k) : kLen k = 4 := by obtain ⟨i, a, c, rfl, _⟩ := m; rfl
theorem kT.len {k : PyData} (m : kT h k) : kLen k = 3 := by obtain ⟨i, a, c, rfl, _⟩ := m; rfl
theorem isWay_cont {z : PyData} {i : Nat} (w : isWay h z) (hi : i < h.ks.length) : isCont h.zs (nth z i) = true := by
  obtain ⟨l, rfl, hl, hc⟩ := w
  exact hc _ (List.mem_of_getElem? (nth_get (d := .list l) (i := i) (by show i < l.length; omega)))
theorem wayN_cont {ways : KVD} (wk : WaysOk h ways) {a : PyData} {i : Nat} (ha : isCont h.zs a = true) (hi : i < h.ks.length) : isCont h.zs (wayN ways a i) = true := by
  obtain ⟨z, e, w⟩ := wk a (cont_mem ha)
  unfold wayN
  rw [e]
  exact isWay_cont w hi
end
/-- the net of _law_least -/
def netOf (h : Hou) (g : Good h) (ways : KVD) (wk : WaysOk h ways) (rs spots : List PyData) (hr : rs.length ≤ 3 ∧ ∀ r ∈ rs, isRu h r) : Net PyData St3 (KVD × KVD) where
  all := allK h
  G := (allK h).length + 20
  val := val3
  put := put3
  cls := fun k => decide (kLen k = 3)
  side := fun x s => if x = true then (s.2.2, []) else (s.1, s.2.1)
  offs := fun t k => if kLen k = 2 then offP h.ks.length t.1 t.2 k else if kLen k = 4 then offL t.1 t.2 k else offT h.ks.length ways rs spots t.1 k
  Ok := Ok3 h
  put_ok := fun s k c o m => by
    unfold put3
    rcases of_all g m with m | m | m
    · rw [if_pos m.len]
      exact ⟨o.P.put m c, o.L, o.T⟩
    · rw [if_neg (by rw [m.len]; decide), if_pos m.len]
      exact ⟨o.P, o.L.put m c, o.T⟩
    · rw [if_neg (by rw [m.len]; decide), if_neg (by rw [m.len]; decide)]
      exact ⟨o.P, o.L, o.T.put m c⟩
  val_same := fun s k c m => by
    unfold val3 put3 pick
    rcases of_all g m with m | m | m
    · rw [if_pos m.len, if_pos m.len]
      exact put_get c
    · rw [if_neg (by rw [m.len]; decide), if_pos m.len, if_neg (by rw [m.len]; decide), if_pos m.len]
      exact put_get c
    · rw [if_neg (by rw [m.len]; decide), if_neg (by rw [m.len]; decide), if_neg (by rw [m.len]; decide), if_neg (by rw [m.len]; decide)]
      exact put_get c
  val_ne := fun s k k' c m m' ne => by
    have kk : ¬ keyN k' = keyN k := fun e => ne (keyN_inj (key_ok g m').1 (key_ok g m).1 e)
    have gg : ∀ kvs : KVD, kget (kput kvs k (cD c)) k' = kget kvs k' := fun kvs => by rw [kget_kput, if_neg kk]
    unfold val3 put3 pick
    by_cases h2 : kLen k = 2
    · rw [if_pos h2]
      by_cases e2 : kLen k' = 2
      · rw [if_pos e2, if_pos e2, gg]
      · rw [if_neg e2, if_neg e2]
    · rw [if_neg h2]
      by_cases h4 : kLen k = 4
      · rw [if_pos h4]
        by_cases e2 : kLen k' = 2
        · rw [if_pos e2, if_pos e2]
        · rw [if_neg e2, if_neg e2]
          by_cases e4 : kLen k' = 4
          · rw [if_pos e4, if_pos e4, gg]
          · rw [if_neg e4, if_neg e4]
      · rw [if_neg h4]
        by_cases e2 : kLen k' = 2
        · rw [if_pos e2, if_pos e2]
        · rw [if_neg e2, if_neg e2]
          by_cases e4 : kLen k' = 4
          · rw [if_pos e4, if_pos e4]
          · rw [if_neg e4, if_neg e4, gg]
  side_put := fun s k c x m hx => by
    rcases of_all g m with m | m | m
    · rw [put3_2 m.len]
      cases x with
      | true => rfl
      | false => exact absurd (decide_eq_false (by rw [m.len]; decide)) hx
    · rw [put3_4 m.len]
      cases x with
      | true => rfl
      | false => exact absurd (decide_eq_false (by rw [m.len]; decide)) hx
    · rw [put3_3 m.len]
      cases x with
      | true => exact absurd (decide_eq_true m.len) hx
      | false => rfl
  offs_ok := fun s k o m hv => by
    have lL : s.2.1.length ≤ (allK h).length := o.L.len fun _ => mem_L
    have lP : s.1.length ≤ (allK h).length := o.P.len fun _ => mem_P
    have k5 := g.k5
    have n3 : ∀ {i : Nat} {a c : PyData}, ¬ decide (kLen (thK i a c) = 3) = false := fun e => (of_decide_eq_false e) rfl
    rcases of_all g m with m | m | m
    · have hd : decide (kLen k = 3) = false := decide_eq_false (by rw [m.len]; decide)
      simp only [hd]
      rw [if_pos m.len]
      obtain ⟨a, c, rfl, ha, hc⟩ := m
      show (offP h.ks.length s.1 s.2.1 (plK a c)).length ≤ _ ∧ ∀ x ∈ offP h.ks.length s.1 s.2.1 (plK a c), _
      unfold offP
      refine ⟨?_, fun x hx => ?_⟩
      · rw [List.length_append, List.length_map, List.length_map, List.length_range]
        have := List.length_filter_le (fun o => PyData.eqv (nth o 3) (nth (plK a c) 0)) (s.2.1.map (·.1))
        rw [List.length_map] at this
        omega
      · rcases List.mem_append.mp hx with hx | hx
        · obtain ⟨i, hi, rfl⟩ := List.mem_map.mp hx
          have := List.mem_range.mp hi
          exact ⟨mem_T ⟨i, a, c, rfl, by omega, ha, hc⟩, n3⟩
        · obtain ⟨w, hw, rfl⟩ := List.mem_map.mp hx
          obtain ⟨kv, hkv, rfl⟩ := List.mem_map.mp (List.mem_filter.mp hw).1
          obtain ⟨⟨i, a', c', e, hi, ha', hc'⟩, _⟩ := o.L.ok kv hkv
          rw [e]
          exact ⟨mem_T ⟨i, a', c, rfl, hi, ha', hc⟩, n3⟩
    · have hd : decide (kLen k = 3) = false := decide_eq_false (by rw [m.len]; decide)
      simp only [hd]
      rw [if_neg (by rw [m.len]; decide), if_pos m.len]
      obtain ⟨i, a, c, rfl, hi, ha, hc⟩ := m
      show (offL s.1 s.2.1 (laK i a c)).length ≤ _ ∧ ∀ x ∈ offL s.1 s.2.1 (laK i a c), _
      unfold offL
      refine ⟨?_, fun x hx => ?_⟩
      · rw [List.length_map]
        have := List.length_filter_le (fun o => PyData.eqv (nth o 0) (nth (laK i a c) 3)) (s.1.map (·.1))
        rw [List.length_map] at this
        omega
      · obtain ⟨w, hw, rfl⟩ := List.mem_map.mp hx
        obtain ⟨kv, hkv, rfl⟩ := List.mem_map.mp (List.mem_filter.mp hw).1
        obtain ⟨⟨a', c', e, ha', hc'⟩, _⟩ := o.P.ok kv hkv
        rw [e]
        exact ⟨mem_T ⟨i, a, c', rfl, hi, ha, hc'⟩, n3⟩
    · have hd : decide (kLen k = 3) = true := decide_eq_true m.len
      simp only [hd]
      rw [if_neg (by rw [m.len]; decide), if_neg (by rw [m.len]; decide)]
      obtain ⟨i, a, c, rfl, hi, ha, hc⟩ := m
      show (offT h.ks.length ways rs spots s.2.2 (thK i a c)).length ≤ _ ∧ ∀ x ∈ offT h.ks.length ways rs spots s.2.2 (thK i a c), _
      unfold offT
      refine ⟨?_, fun x hx => ?_⟩
      · rw [List.length_append]
        have h1 : (offS h.ks.length ways s.2.2 (thK i a c)).length ≤ 1 := by
          unfold offS
          split <;> simp
        have h2 := flatMap_le (f := offR spots s.2.2 (thK i a c)) (l := rs) (m := 6) fun r hr' => by
          obtain ⟨m, x, y, rfl, _, _, _, hy, _⟩ := hr.2 r hr'
          unfold offR
          rw [List.length_map]
          exact Nat.le_trans (List.length_filter_le _ _) hy
        have := hr.1
        omega
      · rcases List.mem_append.mp hx with hx | hx
        · unfold offS at hx
          split at hx
          · rename_i hlt
            rw [List.mem_singleton.mp hx]
            have hi' : i < h.ks.length := by
              have : ((i : Nat) : Int) < h.ks.length := hlt
              omega
            exact ⟨mem_P ⟨_, _, rfl, wayN_cont wk ha hi', wayN_cont wk hc hi'⟩, fun e => by have : (2 : Nat) = 3 := of_decide_eq_true e; omega⟩
          · cases hx
        · obtain ⟨r, hr', hx⟩ := List.mem_flatMap.mp hx
          obtain ⟨m, x', y, rfl, _, hy, _⟩ := hr.2 r hr'
          unfold offR at hx
          obtain ⟨w, hw, rfl⟩ := List.mem_map.mp hx
          exact ⟨mem_L ⟨i, a, w, rfl, hi, ha, hy w (List.mem_filter.mp hw).1⟩, fun e => by have : (4 : Nat) = 3 := of_decide_eq_true e; omega⟩
end Mv
/-! # Lists that grow are read -/
namespace Mv
open PySem PySem.Spec PyProof.Rows L2 He
section
variable {K : PySem.W.Frag} {b : Bool} {p : Addr × Addr} {S : List Addr} {σ : L2.St} {H H' : Hp} {ta tb tc te tl : TE} {t : TT} {D : Ends} {body : TS} {ds es : List PyData} {d : PyData} {q : Addr} {i : Nat} {R : PyData → Prop} {Rs : List PyData → Prop}
theorem LstAt.rl (n : LstAt S H q ds) (e : Rl b p H H') (np : q ≠ p.1) (m : p.1 ∈ S) : LstAt S H' q ds := let ⟨xs, h, r⟩ := n.ex; ⟨xs, e _ _ (fun _ => np) h, r.mono e m⟩
theorem LstAt.rx {X : List Addr} (n : LstAt S H q ds) (e : Rx X H H') (hq : q ∉ X) (hX : ∀ x ∈ X, x ∈ S) : LstAt S H' q ds := let ⟨xs, h, r⟩ := n.ex; ⟨xs, e _ _ hq h, r.monoX e hX⟩
theorem LstAt.avoid {a : Addr} (n : LstAt S H q ds) (ha : H a = none) : LstAt (a :: S) H q ds := let ⟨xs, h, r⟩ := n.ex; ⟨xs, h, r.avoid ha⟩
theorem LstAt.less {a : Addr} (n : LstAt (a :: S) H q ds) : LstAt S H q ds := let ⟨xs, h, r⟩ := n.ex; ⟨xs, h, r.less⟩
theorem Own.lst (o : Own q p S H ds) : LstAt (q :: S) H q ds := ⟨o.ls⟩
theorem ev_at {v : V} (a : At S H v d) : Ev b p S (tC v) σ H fun z => z = d := fun H1 e P Q k => k v H1 d Rl.refl P (a.mono e P.mem) rfl
theorem ev_qlen (h0 : σ[i]? = some (some (.ref q))) (np : q ≠ p.1) (n : LstAt S H q ds) : Ev b p S (tCB (rLenX K) (tCons (tVar i) tNil)) σ H fun z => z = .int (ds.length : Int) := fun H1 e P Q k => by
  obtain ⟨xs, hx, rx⟩ := (n.rl e np P.mem).ex
  exact ⟨_, h0, .ref q, ds.length, rfl, .inl ⟨xs, SqL.of hx, rx.length.symm⟩, k _ H1 _ Rl.refl P (.int _) rfl⟩
theorem ev_qix {j : Nat} (h0 : σ[i]? = some (some (.ref q))) (np : q ≠ p.1) (n : LstAt S H q ds) (hj : Ev b p S te σ H fun z => z = .int (j : Int)) (hd : ds[j]? = some d) : Ev b p S (tOp (rIx K) (tVar i) te) σ H fun z => z = d := fun H1 e P Q k =>
  ⟨_, h0, hj H1 e P _ fun v H2 z e2 P2 a2 r => by
    subst r
    cases a2
    obtain ⟨xs, hx, rx⟩ := (n.rl (e.trans e2) np P.mem).ex
    obtain ⟨x, h1, h2⟩ := rx.getD hd
    exact .inl ⟨q, xs, j, x, rfl, rfl, SqL.of hx, atI_nat h1, k x H2 d e2 P2 h2 rfl⟩⟩
theorem LstAt.dp (n : LstAt S H q ds) (c : PyData.canLayAll0 ds = true) : Dp K H (.ref q) (.list ds) := let ⟨xs, h, r⟩ := n.ex; .lst (SqL.of h) (Ats.dp r c)
theorem canLay_list (se : SeqAt.shaped (.list ds) = true) : PyData.canLayAll0 ds = true := by
  have := SeqAt.canLay_of_shaped se
  simpa [PyData.canLay0] using this
theorem ev_qin {f : Bool → Bool} (ha : Ev b p S te σ H fun z => z = d) (h0 : σ[i]? = some (some (.ref q))) (np : q ≠ p.1) (n : LstAt S H q ds) (sd : SeqAt.shaped d = true) (se : SeqAt.shaped (.list ds) = true) : Ev b p S (tOp (rInS K f) te (tVar i)) σ H fun z => z = .bool (f (ds.any fun z => PyData.eqv z d)) := fun H1 e P Q k =>
  ha H1 e P _ fun v H2 z e2 P2 a2 r => ⟨_, h0, by
    subst r
    exact ⟨z, .list ds, a2.dp (SeqAt.canLay_of_shaped sd), (n.rl (e.trans e2) np P.mem).dp (canLay_list se), rfl, sd, se, k _ H2 _ e2 P2 (.bl _) rfl⟩⟩
theorem eqv_nil (ds : List PyData) : PyData.eqv (.list ds) (.list []) = ds.isEmpty := by
  rw [PyData.eqv]
  cases ds with
  | nil => simp [PyData.eqvAll]
  | cons => simp [PyData.eqvAll]
theorem et_qne (h0 : σ[i]? = some (some (.ref q))) (np : q ≠ p.1) (n : LstAt S H q ds) (se : SeqAt.shaped (.list ds) = true) : EvT b p S (tTest (tOp (rNeD K) (tVar i) (tLst tNil))) σ H fun x => x = !ds.isEmpty := fun H1 e P Q k =>
  ⟨_, h0, Nat.zero_le _, fun l hl => by
    have e2 : Rl b p H1 (upd H1 l (.lst [])) := Rl.new hl
    refine ⟨.list ds, .list [], (n.rl (e.trans e2) np P.mem).dp (canLay_list se), .lst (SqL.of upd_same) .nil, se, rfl, ?_⟩
    exact ⟨_, rfl, k _ _ e2 (P.new hl) (by rw [eqv_nil])⟩⟩
/-- a list that is only partly known -/
theorem ev_lcLR {tt : TT} {vs : List Nat} {j : Nat} {Z : PyData → Bool → Prop} {E : PyData → PyData → Prop} (h : Ev b p S tl σ H fun z => ∃ ds, z = .list ds ∧ Rs ds) (hz : ∀ ds, Rs ds → ds.length ≤ 100000) (hw : ∀ x, wipe ((wipe σ vs).set j (some x)) vs = wipe σ vs)
    (ht : ∀ ds, Rs ds → ∀ A H0, Rl b p H H0 → Pen p S H0 → H0 A = none → ∀ (d : PyData) (v : V) (H' : Hp), d ∈ ds → Rl b p H0 H' → Pen p (A :: S) H' → At (A :: S) H' v d → EvT b p (A :: S) tt ((wipe σ vs).set j (some v)) H' (Z d))
    (he : ∀ ds, Rs ds → ∀ A H0, Rl b p H H0 → Pen p S H0 → H0 A = none → ∀ (d : PyData) (v : V) (H' : Hp), d ∈ ds → Rl b p H0 H' → Pen p (A :: S) H' → At (A :: S) H' v d → Z d true → Ev b p (A :: S) te ((wipe σ vs).set j (some v)) H' (E d)) :
    Ev b p S (tLc (iList K tl) (gName j) tt te vs) σ H (fun z => ∃ ds zs, Rs ds ∧ z = .list zs ∧ Cmp Z E ds zs) := fun H0 e P Q k => h H0 e P _ fun v H1 z e1 P1 a1 r1 => by
  obtain ⟨ds, rfl, r⟩ := r1
  exact (ev_lcL (Z := Z) (E := E) (K := K) (te := te) (tt := tt) (ev_at (σ := σ) a1) (hz ds r) hw (fun A H0' e' P' hA i d v' H' hd => ht ds r A H0' ((e.trans e1).trans e') P' hA d v' H' (List.mem_of_getElem? hd)) fun A H0' e' P' hA i d v' H' hd => he ds r A H0' ((e.trans e1).trans e') P' hA d v' H' (List.mem_of_getElem? hd)) H1 Rl.refl P1 Q fun v2 H2 z2 e2 P2 a2 ⟨zs, e3, c⟩ => k v2 H2 z2 (e1.trans e2) P2 a2 ⟨ds, zs, r, e3, c⟩
/-- x.extend(e), e partly known -/
theorem s_extR {A : Addr} (hs : σ[i]? = some (some (.ref A))) (o : Own A p S H ds) (np : A ≠ p.1) (np2 : A ≠ p.2) (he : Ev b p (A :: S) te σ H fun z => ∃ es, z = .list es ∧ Rs es) (hl : ∀ es, Rs es → ds.length + es.length ≤ 100000) (k : ∀ H1 es, Rs es → Rx (A :: if b then [p.1] else []) H H1 → Own A p S H1 (ds ++ es) → D.nx σ H1) :
    tDrop (tBM K "list" rExtend (tVar i) (tCons te tNil)) D σ H := by
  obtain ⟨xs, h, r⟩ := o.ls
  refine ⟨_, hs, .inl ⟨rfl, xs, SqL.of h⟩, he H Rl.refl o.pen _ fun v H1 d e1 P1 a1 r1 => ?_⟩
  obtain ⟨es, rfl, re⟩ := r1
  obtain ⟨c, ys, rfl, nc, hc, rc⟩ := a1.lst_inv
  have h1 := e1 _ _ (fun _ => np) h
  have r' := r.mono e1 o.pen.mem
  refine ⟨A, c, xs, ys, rfl, rfl, h1, hc, by rw [r.length, rc.length]; exact Nat.le_trans (hl es re) (by decide), k _ es re (Rx.trans (Rx.of e1 fun z => ?_) (Rx.put List.mem_cons_self)) ⟨P1.put np np2, xs ++ ys, upd_same, Ats.put List.mem_cons_self (r'.append rc)⟩⟩
  subst z
  exact List.mem_cons_of_mem _ List.mem_cons_self
end
end Mv
namespace Mv
open PySem PySem.Spec PyProof.Rows L2 He
def spSpots (P : Program) (w : World) : Sp := fun vs H Q _ => ∃ (p : Addr × Addr) (S : List Addr) (d : Addr) (v : V) (kvs : KVD) (h : Hou), vs = [.ref d, v] ∧ At S H v h.bg ∧ Good h ∧ Pen p S H ∧ NDict P w S H d kvs ∧ WaysOk h kvs ∧ d ≠ p.1 ∧
  ∀ u H' sp, Rl false p H H' → Pen p S H' → At S H' u (.list sp) → (∀ x ∈ sp, isCont h.zs x = true) → sp.length ≤ 6 → Q u H'
theorem et_less {S : List Addr} {p : Addr × Addr} {A : Addr} {t : TT} {σ : L2.St} {H : Hp} {R : Bool → Prop} (h : EvT false p S t σ H R) (m : p.1 ∈ S) (m2 : p.2 ∈ S) : EvT false p (A :: S) t σ H R := fun H1 e P1 Q q =>
  h H1 e (P1.tail m m2) Q fun k H2 e2 P2 r => q k H2 e2 (P1.ff e2) r
theorem LstAt.through {S : List Addr} {b : Bool} {p : Addr × Addr} {H H0 H' : Hp} {A q : Addr} {ds : List PyData} (n : LstAt S H q ds) (e : Rl b p H H0) (P : Pen p S H0) (hA : H0 A = none) (np : q ≠ p.1) (e2 : Rl b p H0 H') : LstAt (A :: S) H' q ds :=
  ((n.rl e np P.mem).avoid hA).rl e2 np (List.mem_cons_of_mem _ P.mem)
theorem eqv_cont {zs : List Int} {c : PyData} (h : isCont zs c = true) : PyData.eqv c c = true := by
  obtain ⟨is, rfl, _⟩ := isCont_ints h
  rw [PyData.eqv, eqv_ints]
  exact decide_eq_true rfl
section
variable {P : Program} {w : World} {K : PySem.W.Frag} {mg : Str → Option Value} {base : Heap}

/-! ### _law_spots -/
abbrev N__law_spots : List Str := ["_law_ways_here", "_law_begin", "_law_found", "_law_at", "_law_newer"]
theorem sc__law_spots : FnScope N__law_spots ["_law_ways_here", "_law_begin"] (defScope (top 186)) := ⟨rfl, rfl, rfl, by decide +kernel, rfl, by decide +kernel, by decide +kernel⟩
theorem D__law_spots (T : Top K mg) : Dn P w K mg base "_law_spots" 1 ["_law_ways_here", "_law_begin"] (spSpots P w) := by
  refine T.dnS 34 rfl rfl sc__law_spots (fun _ _ _ _ _ _ us h => match us, h with | [_, _], _ => rfl) (fun vs H Q E h => ?_) fun f cdv A0 outer s H vs Q E hr h => ?_
  · obtain ⟨p, S, d, v, kvs, h, rfl, _⟩ := h
    rfl
  refine ⟨_, pss_cons (ps_asg (pe_tup (pa_cons (pe_lst (pa_cons (pv 1) pa_nil)) (pa_cons pe_int pa_nil))) (pg_tup rfl (pgs_cons (pg_name (i := 2) sc__law_spots.nd rfl (Or.inr rfl)) (pgs_cons (pg_name (i := 3) sc__law_spots.nd rfl (Or.inl rfl)) pgs_nil))))
    (pss_cons (ps_while PassesOwn.never (pt_cmpR op_lt (pv 3) (pe_len (by rfl) T.f_len (pv 2)) (nomark _))
      (pss_cons (ps_expr (pe_bm PySem.F.plainAttrs_list PySem.F.slot_list_extend PySem.F.type_list_extend mt_extend (pv 2) (pa_cons (pe_lc (own := [("_law_newer", 4)]) rfl sc__law_spots.nd (pi_list (pe_callB (cr_sortOf rfl (hu_64 hr)) (by rfl) T.f_sorted bb_sorted (pa_cons (pe_callTy (cr_setOfL rfl (hu_64 hr)) (by rfl) T.f_set bb_set (pa_cons (pe_nget (hu_64 hr) (pv 0) (pe_ix ix_seq (pv 2) (pv 3) (fun _ _ => rfl)) (fun _ _ => rfl)) pa_nil)) pa_nil))) (blkOk_by (N := N__law_spots) (sc := defScope (top 186)) (by decide +kernel)) (fun _ _ _ _ _ => (pg_name (i := 4) sc__law_spots.nd rfl (Or.inl rfl))) (fun _ _ _ _ _ => pts_one (pt_cmpR (op_ninSk (K := K) rfl (hu_65 hr)) (pv 4) (pv 2) (by rfl))) (fun _ _ _ _ _ => (pv 4))) pa_nil)))
      (pss_one (ps_set (i := 3) sc__law_spots.nd rfl (Or.inl rfl) (pe_op op_add (pv 3) pe_int)))))
    (pss_one (ps_ret (pv 2)))), ?_⟩
  obtain ⟨p, S, d, v, kvs, h, rfl, a1, g, Pn, n, wk, np, q⟩ := h
  refine ⟨v, rfl, (by show 1 ≤ sizeLine; decide), fun A hA => ⟨(by show 2 ≤ sizeLine; decide), fun t ht => ⟨t, _, rfl, SqT.of upd_same, rfl, .ref A, _, rfl, .int 0, [], rfl, rfl, ?_⟩⟩⟩
  have nA : A ∉ S := Pn.ne hA
  have npA : A ≠ p.1 := Pn.nep hA
  have npA2 : A ≠ p.2 := fun e => nA (e ▸ Pn.mem2)
  have e0 : Rl false p H (upd H A (.lst [v])) := Rl.new hA
  have o0 : Own A p S (upd H A (.lst [v])) [h.bg] := ⟨(Pn.new hA).more ⟨_, upd_same⟩, [v], upd_same, .cons ((a1.avoid hA).mono e0 (List.mem_cons_of_mem _ Pn.mem)) .nil⟩
  have cl := (conts_len g.zs).2
  have x0 : Rx [A] H (upd H A (.lst [v])) := Rx.new hA
  generalize upd H A (.lst [v]) = H01 at e0 o0 x0 ht ⊢
  have e01 : Rl false p H01 (upd H01 t (.tup [.ref A, .int 0])) := Rl.new ht
  have o1 := o0.rl npA e01 (o0.pen.new ht)
  have x1 : Rx [A] H (upd H01 t (.tup [.ref A, .int 0])) := x0.trans (Rx.of0 e01)
  clear o0 x0
  generalize upd H01 t (.tup [.ref A, .int 0]) = H1 at o1 x1 ⊢
  have nA' : d ≠ A := fun e => by
    obtain ⟨xs, hx, _⟩ := n.ex
    rw [e, hA] at hx
    cases hx
  refine ⟨fun m σ' H' => ∃ (at' : Nat) (x4 : Option V) (ds : List PyData), σ' = [some (.ref d), some v, some (.ref A), some (.int at'), x4] ∧ m = 6 - at' ∧ at' ≤ ds.length ∧ ds.Nodup ∧ (∀ x ∈ ds, isCont h.zs x = true) ∧ Rx [A] H H' ∧ Own A p S H' ds,
    ⟨6, 0, none, [h.bg], rfl, rfl, Nat.zero_le _, by simp, fun x hx => by rw [List.mem_singleton.mp hx]; exact g.bg, x1, o1⟩, ?_⟩
  rintro m σ' H' ⟨at', x4, ds, rfl, rfl, hat, nd, hc, ex, o⟩
  have l6 : ds.length ≤ 6 := Nat.le_trans (Net.nodup_le nd fun k hk => cont_mem (hc k hk)) cl
  have fl : ∀ x ∈ ds, Flat 1 x := fun x hx => isCont_flat (hc x hx)
  have shp : SeqAt.shaped (.list ds) = true := (Flat.lst fl).shaped (by decide)
  refine (et_c (b := false) (p := p) (S := A :: S) (ev_I0 (i := (at' : Int)) (j := (ds.length : Int)) (ev_var rfl (.int _)) (ev_qlen (i := 2) rfl npA o.lst) fun H => .bl _)) H' Rl.refl o.pen _ fun k H2 e2 P2 hk => ?_
  subst hk
  have ex2 : Rx [A] H H2 := ex.trans (Rx.of0 e2)
  have o2 := o.rl npA e2 P2
  by_cases hlt : at' < ds.length
  · rw [if_pos (decide_eq_true (by omega))]
    refine ⟨fun σ2 H3 => ∃ (x4 : Option V) (es : List PyData), σ2 = [some (.ref d), some v, some (.ref A), some (.int ((at' + 1 : Nat) : Int)), x4] ∧ at' + 1 ≤ es.length ∧ es.Nodup ∧ (∀ x ∈ es, isCont h.zs x = true) ∧ Rx [A] H H3 ∧ Own A p S H3 es, ?_, ?_⟩
    · rintro σ2 H3 ⟨x4, es, rfl, h1, h2, h3, h4, h5⟩
      exact ⟨6 - (at' + 1), by omega, at' + 1, x4, es, rfl, rfl, h1, h2, h3, h4, h5⟩
    · have n2 : NDict P w (A :: S) H2 d kvs := by
        refine (n.avoid hA).rx ex2 (fun z => nA' (List.mem_singleton.mp z)) fun x hx => by rw [List.mem_singleton.mp hx]; exact List.mem_cons_self
      obtain ⟨cur, hcur⟩ : ∃ cur, ds[at']? = some cur := ⟨_, List.getElem?_eq_getElem hlt⟩
      have ccur := hc cur (List.mem_of_getElem? hcur)
      obtain ⟨z, hz, l, rfl, hl, hlc⟩ := wk cur (cont_mem ccur)
      have ck := cont_key ccur
      have k5 := g.k5
      refine s_extR (b := false) (Rs := fun es => ∃ ds', SortOf l ds' ∧ es = ds'.filter fun x => !ds.any fun y => PyData.eqv y x) (i := 2) rfl o2 npA npA2 ((ev_lcLR (Rs := fun ds' => SortOf l ds') (Z := fun x k => k = !ds.any fun y => PyData.eqv y x) (E := fun x z => z = x)
        (ev_sortSetL (ev_nget (i := 0) (ev_qix (j := at') rfl npA o2.lst (ev_var rfl (.int _)) hcur) rfl np n2 ck.1 ck.2.1 (by rw [ck.2.2]; decide) hz) (fun x hx => cont_elt (hlc x hx)) (by omega) (fun x hx y hy => isCont_alike (hlc x hx) (hlc y hy)) (.inl fun x hx => cont_cons g.ok.ne (hlc x hx)))
        (fun ds' st => ?_) (fun _ => rfl) (fun ds' st A2 H3 e3 P3 hA2 x u H4 hx e4 P4 au => ?_) fun ds' st A2 H3 e3 P3 hA2 x u H4 hx e4 P4 au _ => ev_var rfl au).imp fun z ⟨ds', zs, st, e, c⟩ => ⟨zs, e, ds', st, by rw [Cmp.fn c]; simp⟩) (fun es ⟨ds', st, e⟩ => ?_) fun H3 es he e3 o3 => ?_
      · have := Net.nodup_le st.once fun k hk => (st.mem k).mp hk
        omega
      · exact et_c (ev_qin (f := fun k => !k) (i := 2) (ev_var rfl au) rfl npA (o2.lst.through e3 P3 hA2 npA e4) ((isCont_flat (hlc x ((st.mem x).mp hx))).shaped (by decide)) shp)
      · have := Net.nodup_le st.once fun k hk => (st.mem k).mp hk
        have h2 := List.length_filter_le (fun x => !ds.any fun y => PyData.eqv y x) ds'
        rw [e]
        omega
      · obtain ⟨ds', st, rfl⟩ := he
        refine (ev_I0 (b := false) (p := p) (S := A :: S) (i := (at' : Int)) (j := 1) (z := .int ((at' + 1 : Nat) : Int)) (ev_var rfl (.int _)) ev_int fun H => .int _) H3 Rl.refl o3.pen _ fun w3 H4 z e4 P4 a4 r4 => ?_
        subst r4
        cases a4
        refine ⟨_, _, rfl, by rw [List.length_append]; omega, ?_, fun x hx => ?_, (ex2.trans (by simpa using e3)).trans (Rx.of0 e4), o3.rl npA e4 P4⟩
        · refine List.nodup_append.mpr ⟨nd, st.once.sublist List.filter_sublist, fun x hx y hy e => ?_⟩
          have hy2 := (List.mem_filter.mp hy).2
          rw [← e] at hy2
          have : (ds.any fun y => PyData.eqv y x) = true := List.any_eq_true.mpr ⟨x, hx, eqv_cont (hc x hx)⟩
          rw [this] at hy2
          cases hy2
        · rcases List.mem_append.mp hx with hx | hx
          · exact hc x hx
          · exact hlc x ((st.mem x).mp (List.mem_filter.mp hx).1)
  · rw [if_neg (by rw [decide_eq_false (by omega)]; decide)]
    exact ⟨_, rfl, q _ _ ds (ex2.drop hA).nil (o2.pen.tail Pn.mem Pn.mem2) (o2.done nA) hc l6⟩

end
end Mv
namespace Mv
open PySem PySem.Spec PyProof.Rows L2 He
section
variable {h : Hou} {g : Good h} {ways : KVD} {wk : WaysOk h ways} {rs spots : List PyData} {hr : rs.length ≤ 3 ∧ ∀ r ∈ rs, isRu h r}
def setP3 (s : St3) (k : PyData) (kv : KVD) : St3 := if kLen k = 2 then (kv, s.2) else if kLen k = 4 then (s.1, kv, s.2.2) else (s.1, s.2.1, kv)
theorem setP3_pick (s : St3) (k : PyData) : setP3 s k (pick s k) = s := by
  unfold setP3 pick
  split
  · rfl
  · split <;> rfl
theorem pick_ok {s : St3} (o : Ok3 h s) (k : PyData) : ∃ m, DOk m (pick s k) := by
  unfold pick
  split
  · exact ⟨_, o.P⟩
  · split
    · exact ⟨_, o.L⟩
    · exact ⟨_, o.T⟩
theorem pick_len (g : Good h) {s : St3} (o : Ok3 h s) (k : PyData) : (pick s k).length ≤ 468 := by
  have := all_len g
  unfold pick
  split
  · exact Nat.le_trans (o.P.len fun _ => mem_P) this
  · split
    · exact Nat.le_trans (o.L.len fun _ => mem_L) this
    · exact Nat.le_trans (o.T.len fun _ => mem_T) this
theorem offer_of {s : St3} (o : Ok3 h s) (ds : List PyData) (k : PyData) (c : Nat × Nat) : (netOf h g ways wk rs spots hr).offer (s, ds) (k, c) = (setP3 s k (offK (pick s k) k ((c.1 : Int), (c.2 : Int))), offQ (pick s k) ds k ((c.1 : Int), (c.2 : Int))) := by
  obtain ⟨m, d⟩ := pick_ok o k
  have fe : (netOf h g ways wk rs spots hr).fresh s (k, c) = offered (pick s k) k ((c.1 : Int), (c.2 : Int)) := by
    rw [offered_eq d c]
    rfl
  unfold offK offQ
  rw [← fe]
  cases e : (netOf h g ways wk rs spots hr).fresh s (k, c) with
  | false => rw [Net.offer_no _ e, if_neg Bool.false_ne_true, if_neg Bool.false_ne_true, setP3_pick]
  | true =>
    rw [Net.offer_yes _ e, if_pos rfl, if_pos rfl]
    refine Prod.ext ?_ rfl
    show put3 s k c = setP3 s k (kput (pick s k) k (cD c))
    unfold put3 setP3 pick
    split
    · rfl
    · split <;> rfl
end
/-- the addresses of the three dicts and the queue -/
structure Ad (p : Addr × Addr) (S : List Addr) (dP dL dT q : Addr) : Prop where
  mP : dP ∈ S
  mL : dL ∈ S
  mT : dT ∈ S
  mq : q ∈ S
  PL : dP ≠ dL
  PT : dP ≠ dT
  LT : dL ≠ dT
  Pq : dP ≠ q
  Lq : dL ≠ q
  Tq : dT ≠ q
  P1 : dP ≠ p.1
  L1 : dL ≠ p.1
  T1 : dT ≠ p.1
  q1 : q ≠ p.1
  P2 : dP ≠ p.2
  L2 : dL ≠ p.2
  T2 : dT ≠ p.2
  q2 : q ≠ p.2
structure Led (P : Program) (w : World) (S : List Addr) (H : Hp) (dP dL dT q : Addr) (s : St3) (ds : List PyData) : Prop where
  nP : NDict P w S H dP s.1
  nL : NDict P w S H dL s.2.1
  nT : NDict P w S H dT s.2.2
  lq : LstAt S H q ds
def dOf (dP dL dT : Addr) (k : PyData) : Addr := if kLen k = 2 then dP else if kLen k = 4 then dL else dT
section
variable {P : Program} {w : World} {p : Addr × Addr} {S : List Addr} {H H' : Hp} {dP dL dT q : Addr} {s : St3} {ds : List PyData}
theorem Ad.sub (A : Ad p S dP dL dT q) : ∀ x ∈ [dP, dL, dT, q], x ∈ S := fun x hx => by
  simp only [List.mem_cons, List.not_mem_nil, or_false] at hx
  rcases hx with rfl | rfl | rfl | rfl
  · exact A.mP
  · exact A.mL
  · exact A.mT
  · exact A.mq
theorem Led.rl (L : Led P w S H dP dL dT q s ds) (A : Ad p S dP dL dT q) (e : Rl false p H H') (m : p.1 ∈ S) : Led P w S H' dP dL dT q s ds := ⟨L.nP.rl e A.P1 m, L.nL.rl e A.L1 m, L.nT.rl e A.T1 m, L.lq.rl e A.q1 m⟩
/-- _law_offer as a statement -/
theorem s_off0 {h : Hou} {g : Good h} {ways : KVD} {wk : WaysOk h ways} {rs spots : List PyData} {hr : rs.length ≤ 3 ∧ ∀ r ∈ rs, isRu h r} {σ : L2.St} {j : Nat} {td tk tc : TE} {D : Ends} {k : PyData} {c : Nat × Nat}
    (hd : ∀ Q : VK, Q (.ref (dOf dP dL dT k)) H → td σ H Q) (hq : σ[j]? = some (some (.ref q))) (hk : Ev false p S tk σ H fun z => z = k) (hc : Ev false p S tc σ H fun z => z = cD c)
    (L : Led P w S H dP dL dT q s ds) (o : Ok3 h s) (m : k ∈ allK h) (hl : ds.length < 1000000) (A : Ad p S dP dL dT q) (Pn : Pen p S H)
    (fin : ∀ H1, Rx [dP, dL, dT, q] H H1 → Pen p S H1 → Led P w S H1 dP dL dT q ((netOf h g ways wk rs spots hr).offer (s, ds) (k, c)).1 ((netOf h g ways wk rs spots hr).offer (s, ds) (k, c)).2 → D.nx σ H1) :
    tDrop (tCall (spOffer P w) [] E0 (tCons td (tCons (tVar j) (tCons tk (tCons tc tNil))))) D σ H := by
  refine hd _ ⟨_, hq, hk H Rl.refl Pn _ fun v H1 z e1 P1 a1 r1 => hc H1 e1 P1 _ fun u H2 z2 e2 P2 a2 r2 => ?_⟩
  subst r1 r2
  have e12 := e1.trans e2
  have Lx := L.rl A e12 Pn.mem
  obtain ⟨k1, k2, k3⟩ := key_ok g m
  have pl := pick_len g o z
  obtain ⟨mm, dk⟩ := pick_ok o z
  have sub := A.sub
  rw [offer_of (g := g) (ways := ways) (wk := wk) (rs := rs) (spots := spots) (hr := hr) o ds z c] at fin
  rcases of_all g m with mc | mc | mc
  · have e : dOf dP dL dT z = dP := if_pos mc.len
    refine ⟨p, S, dP, q, v, u, s.1, ds, z, ((c.1 : Int), (c.2 : Int)), by rw [e]; rfl, a1.mono e2 P1.mem, a2, P2, Lx.nP, Lx.lq, A.mP, A.mq, A.Pq, A.P1, A.P2, A.q1, A.q2, k1, k2, k3, o.P.costs, ?_, hl, fun H3 e3 P3 n3 l3 => fin H3 ((Rx.of0 e12).trans (e3.sub fun x hx => by simp only [List.mem_cons, List.not_mem_nil, or_false] at hx ⊢; rcases hx with rfl | rfl <;> simp)) P3 ?_⟩
    · rw [pick_2 mc.len] at pl; omega
    · unfold setP3
      rw [pick_2 mc.len, if_pos mc.len]
      exact ⟨n3, Lx.nL.rx e3 (by simp only [List.mem_cons, List.not_mem_nil, or_false, not_or]; exact ⟨Ne.symm A.PL, A.Lq⟩) fun x hx => sub x (by simp only [List.mem_cons, List.not_mem_nil, or_false] at hx ⊢; rcases hx with rfl | rfl <;> simp),
        Lx.nT.rx e3 (by simp only [List.mem_cons, List.not_mem_nil, or_false, not_or]; exact ⟨Ne.symm A.PT, A.Tq⟩) fun x hx => sub x (by simp only [List.mem_cons, List.not_mem_nil, or_false] at hx ⊢; rcases hx with rfl | rfl <;> simp), l3⟩
  · have e : dOf dP dL dT z = dL := by unfold dOf; rw [if_neg (by rw [mc.len]; decide), if_pos mc.len]
    refine ⟨p, S, dL, q, v, u, s.2.1, ds, z, ((c.1 : Int), (c.2 : Int)), by rw [e]; rfl, a1.mono e2 P1.mem, a2, P2, Lx.nL, Lx.lq, A.mL, A.mq, A.Lq, A.L1, A.L2, A.q1, A.q2, k1, k2, k3, o.L.costs, ?_, hl, fun H3 e3 P3 n3 l3 => fin H3 ((Rx.of0 e12).trans (e3.sub fun x hx => by simp only [List.mem_cons, List.not_mem_nil, or_false] at hx ⊢; rcases hx with rfl | rfl <;> simp)) P3 ?_⟩
    · rw [pick_4 mc.len] at pl; omega
    · unfold setP3
      rw [pick_4 mc.len, if_neg (by rw [mc.len]; decide), if_pos mc.len]
      exact ⟨Lx.nP.rx e3 (by simp only [List.mem_cons, List.not_mem_nil, or_false, not_or]; exact ⟨A.PL, A.Pq⟩) fun x hx => sub x (by simp only [List.mem_cons, List.not_mem_nil, or_false] at hx ⊢; rcases hx with rfl | rfl <;> simp), n3,
        Lx.nT.rx e3 (by simp only [List.mem_cons, List.not_mem_nil, or_false, not_or]; exact ⟨Ne.symm A.LT, A.Tq⟩) fun x hx => sub x (by simp only [List.mem_cons, List.not_mem_nil, or_false] at hx ⊢; rcases hx with rfl | rfl <;> simp), l3⟩
  · have e : dOf dP dL dT z = dT := by unfold dOf; rw [if_neg (by rw [mc.len]; decide), if_neg (by rw [mc.len]; decide)]
    refine ⟨p, S, dT, q, v, u, s.2.2, ds, z, ((c.1 : Int), (c.2 : Int)), by rw [e]; rfl, a1.mono e2 P1.mem, a2, P2, Lx.nT, Lx.lq, A.mT, A.mq, A.Tq, A.T1, A.T2, A.q1, A.q2, k1, k2, k3, o.T.costs, ?_, hl, fun H3 e3 P3 n3 l3 => fin H3 ((Rx.of0 e12).trans (e3.sub fun x hx => by simp only [List.mem_cons, List.not_mem_nil, or_false] at hx ⊢; rcases hx with rfl | rfl <;> simp)) P3 ?_⟩
    · rw [pick_3 mc.len] at pl; omega
    · unfold setP3
      rw [pick_3 mc.len, if_neg (by rw [mc.len]; decide), if_neg (by rw [mc.len]; decide)]
      exact ⟨Lx.nP.rx e3 (by simp only [List.mem_cons, List.not_mem_nil, or_false, not_or]; exact ⟨A.PT, A.Pq⟩) fun x hx => sub x (by simp only [List.mem_cons, List.not_mem_nil, or_false] at hx ⊢; rcases hx with rfl | rfl <;> simp),
        Lx.nL.rx e3 (by simp only [List.mem_cons, List.not_mem_nil, or_false, not_or]; exact ⟨A.LT, A.Lq⟩) fun x hx => sub x (by simp only [List.mem_cons, List.not_mem_nil, or_false] at hx ⊢; rcases hx with rfl | rfl <;> simp), n3, l3⟩
theorem s_off {h : Hou} {g : Good h} {ways : KVD} {wk : WaysOk h ways} {rs spots : List PyData} {hr : rs.length ≤ 3 ∧ ∀ r ∈ rs, isRu h r} {σ : L2.St} {i j : Nat} {tk tc : TE} {D : Ends} {k : PyData} {c : Nat × Nat}
    (hd : σ[i]? = some (some (.ref (dOf dP dL dT k)))) (hq : σ[j]? = some (some (.ref q))) (hk : Ev false p S tk σ H fun z => z = k) (hc : Ev false p S tc σ H fun z => z = cD c)
    (L : Led P w S H dP dL dT q s ds) (o : Ok3 h s) (m : k ∈ allK h) (hl : ds.length < 1000000) (A : Ad p S dP dL dT q) (Pn : Pen p S H)
    (fin : ∀ H1, Rx [dP, dL, dT, q] H H1 → Pen p S H1 → Led P w S H1 dP dL dT q ((netOf h g ways wk rs spots hr).offer (s, ds) (k, c)).1 ((netOf h g ways wk rs spots hr).offer (s, ds) (k, c)).2 → D.nx σ H1) :
    tDrop (tCall (spOffer P w) [] E0 (tCons (tVar i) (tCons (tVar j) (tCons tk (tCons tc tNil))))) D σ H := s_off0 (g := g) (ways := ways) (wk := wk) (rs := rs) (spots := spots) (hr := hr) (fun Q f => ⟨_, hd, f⟩) hq hk hc L o m hl A Pn fin
/-- _law_sum of costs -/
theorem ev_sumC {σ : L2.St} {ta tb : TE} {a c : Nat × Nat} (ha : Ev false p S ta σ H fun z => z = cD a) (hb : Ev false p S tb σ H fun z => z = cD c) : Ev false p S (tCall (spF false 2 f_sum Pre_sum) [] E0 (tCons ta (tCons tb tNil))) σ H fun z => z = cD (addC a c) :=
  ev_f (ea_two ha hb) rfl ⟨_, _, _, _, rfl⟩ (by show PyData.tuple [.int (_ + _), .int (_ + _)] = _; unfold cD costD addC; simp)
end

end Mv
namespace Mv
open PySem PySem.Spec PyProof.Rows L2 He
def spGo (P : Program) (w : World) : Sp := fun vs H Q _ => ∃ (p : Addr × Addr) (S : List Addr) (kn q dW dP dL dT : Addr) (v spv rv : V) (h : Hou) (g : Good h) (ways : KVD) (wk : WaysOk h ways) (rs spots : List PyData) (hr : rs.length ≤ 3 ∧ ∀ r ∈ rs, isRu h r) (s : St3) (ds : List PyData) (k : PyData),
  vs = [.ref kn, .ref q, v, spv, .ref dW, rv] ∧ At S H v k ∧ At S H spv (.list spots) ∧ At S H rv (.tuple rs) ∧ H kn = some (.tup [.ref dP, .ref dL, .ref dT]) ∧ Pen p S H ∧ Ad p S dP dL dT q ∧ NDict P w S H dW ways ∧ dW ∉ [dP, dL, dT, q] ∧ dW ≠ p.1 ∧
  Led P w S H dP dL dT q s ds ∧ Ok3 h s ∧ k ∈ allK h ∧ (val3 s k).isSome = true ∧ (∀ x ∈ spots, isCont h.zs x = true) ∧ spots.length ≤ 6 ∧ ds.length ≤ 460000 ∧
  ∀ H', Rx [dP, dL, dT, q] H H' → Pen p S H' → Led P w S H' dP dL dT q ((netOf h g ways wk rs spots hr).pop s k ds).1 ((netOf h g ways wk rs spots hr).pop s k ds).2 → Q .non H'
def pH (s : St3) (a c : PyData) (i : Nat) : PyData × (Nat × Nat) := (thK i a c, cg s.1 (plK a c))
def pF (s : St3) (a : PyData) : List PyData := (s.2.1.map (·.1)).filter fun o => PyData.eqv (nth o 3) a
def pO (s : St3) (a c : PyData) (o : PyData) : PyData × (Nat × Nat) := (.tuple [nth o 1, nth o 2, c], addC (cg s.2.1 o) (cg s.1 (plK a c)))
def lF (s : St3) (c : PyData) : List PyData := (s.1.map (·.1)).filter fun o => PyData.eqv (nth o 0) c
def lO (s : St3) (i : Nat) (a c : PyData) (o : PyData) : PyData × (Nat × Nat) := (.tuple [.int (i : Int), a, nth o 1], addC (cg s.2.1 (laK i a c)) (cg s.1 o))
def tO (s : St3) (i : Nat) (a c g : PyData) : PyData × (Nat × Nat) := (.tuple [.str (Str.ofString "moved"), .int (i : Int), a, g], addC (cg s.2.2 (thK i a c)) (1, 0))
theorem foldl_snoc {α β : Type} (f : β → α → β) (b : β) (l : List α) (x : α) : (l ++ [x]).foldl f b = f (l.foldl f b) x := by rw [List.foldl_append]; rfl
theorem kget_val {kvs : KVD} {k : PyData} (h : ((kget kvs k).map unC).isSome = true) : (kget kvs k).isSome = true := by
  cases e : kget kvs k with
  | none => rw [e] at h; cases h
  | some z => rfl
theorem keys_flat {h : Hou} (g : Good h) {k : PyData} (m : k ∈ allK h) : Flat 2 k := by
  rcases of_all g m with ⟨a, c, rfl, h1, h2⟩ | ⟨i, a, c, rfl, hi, h1, h2⟩ | ⟨i, a, c, rfl, hi, h1, h2⟩
  · exact Flat.tup fun d hd => by
      simp only [List.mem_cons, List.not_mem_nil, or_false] at hd
      rcases hd with rfl | rfl
      · exact isCont_flat h1
      · exact isCont_flat h2
  · exact Flat.tup fun d hd => by
      simp only [List.mem_cons, List.not_mem_nil, or_false] at hd
      rcases hd with rfl | rfl | rfl | rfl
      · exact (⟨by decide +kernel, Nat.zero_le _⟩ : Flat 1 (.str (Str.ofString "moved")))
      · exact flat_int 1 _
      · exact isCont_flat h1
      · exact isCont_flat h2
  · exact Flat.tup fun d hd => by
      simp only [List.mem_cons, List.not_mem_nil, or_false] at hd
      rcases hd with rfl | rfl | rfl
      · exact flat_int 1 _
      · exact isCont_flat h1
      · exact isCont_flat h2
section
variable {P : Program} {w : World} {K : PySem.W.Frag} {mg : Str → Option Value} {base : Heap}

/-! ### _law_go_on -/
abbrev N__law_go_on : List Str := ["_law_known", "_law_waiting", "_law_key", "_law_spots_here", "_law_ways_here", "_law_rules_here", "_law_places", "_law_landed", "_law_things", "_law_item_here", "_law_other", "_law_pair", "_law_some", "_law_one", "_law_two", "_law_mover", "_law_starts", "_law_goals", "_law_goal"]
theorem sc__law_go_on : FnScope N__law_go_on ["_law_known", "_law_waiting", "_law_key", "_law_spots_here", "_law_ways_here", "_law_rules_here"] (defScope (top 189)) := ⟨rfl, rfl, rfl, by decide +kernel, rfl, by decide +kernel, by decide +kernel⟩
theorem D__law_go_on (T : Top K mg) : Dn P w K mg base "_law_go_on" 2 ["_law_known", "_law_waiting", "_law_key", "_law_spots_here", "_law_ways_here", "_law_rules_here"] (spGo P w) := by
  refine T.dnS 37 rfl rfl sc__law_go_on (fun _ _ _ _ _ _ us h => match us, h with | [_, _, _, _, _, _], _ => rfl) (fun vs H Q E h => ?_) fun f cdv A0 outer s H vs Q E hr h => ?_
  · obtain ⟨p, S, kn, q, dW, dP, dL, dT, v, spv, rv, h, g, ways, wk, rs, spots, hr, s, ds, k, rfl, _⟩ := h
    rfl
  refine ⟨_, pss_cons (ps_asg (pv 0) (pg_tup rfl (pgs_cons (pg_name (i := 6) sc__law_go_on.nd rfl (Or.inl rfl)) (pgs_cons (pg_name (i := 7) sc__law_go_on.nd rfl (Or.inl rfl)) (pgs_cons (pg_name (i := 8) sc__law_go_on.nd rfl (Or.inl rfl)) pgs_nil)))))
    (pss_one (ps_if (pt_cmpR (op_eqD (hu_64 hr)) (pe_len (by rfl) T.f_len (pv 2)) pe_int (nomark _))
      (pss_cons (ps_for PassesOwn.never rfl (pi_range1 (by rfl) T.f_range (pa_cons (pe_op op_add (pe_len (by rfl) T.f_len (pe_nget (hu_64 hr) (pv 4) (pe_ix ix_seq (pv 2) pe_int (fun _ _ => rfl)) (fun _ _ => rfl))) pe_int) pa_nil)) (pg_name (i := 9) sc__law_go_on.nd rfl (Or.inr rfl))
        (pss_one (ps_expr (pe_dn ((D__law_offer T).up (by decide)) hr (by rfl) (pa_cons (pv 8) (pa_cons (pv 1) (pa_cons (pe_op op_catA (pe_tup (pa_cons (pv 9) pa_nil)) (pv 2)) (pa_cons (pe_nget (hu_64 hr) (pv 6) (pv 2) (fun _ _ => rfl)) pa_nil))))))))
      (pss_one (ps_for PassesOwn.never rfl (pi_list (pe_lock (pe_lc (own := [("_law_some", 12)]) rfl sc__law_go_on.nd (pi_nest (pv 7)) (blkOk_by (N := N__law_go_on) (sc := defScope (top 189)) (by decide +kernel)) (fun _ _ _ _ _ => (pg_name (i := 12) sc__law_go_on.nd rfl (Or.inl rfl))) (fun _ _ _ _ _ => pts_one (pt_cmpR (op_eqDk (K := K) rfl (hu_64 hr)) (pe_ix (ix_seqk (K := K) rfl) (pv 12) pe_int (fun _ _ => rfl)) (pe_ix (ix_seqk (K := K) rfl) (pv 2) pe_int (fun _ _ => rfl)) (nomark _))) (fun _ _ _ _ _ => (pv 12))))) (pg_name (i := 10) sc__law_go_on.nd rfl (Or.inl rfl))
        (pss_one (ps_expr (pe_dn ((D__law_offer T).up (by decide)) hr (by rfl) (pa_cons (pv 8) (pa_cons (pv 1) (pa_cons (pe_op op_catA (pe_slice sl_tupA (pv 10) (po_some pe_int) (po_some pe_int)) (pe_slice sl_tupA (pv 2) (po_some pe_int) po_none)) (pa_cons (pe_dn ((D__law_sum T).up (by decide)) hr (by rfl) (pa_cons (pe_nget (hu_64 hr) (pv 7) (pv 10) (fun _ _ => rfl)) (pa_cons (pe_nget (hu_64 hr) (pv 6) (pv 2) (fun _ _ => rfl)) pa_nil))) pa_nil))))))))))
      (pss_one (ps_if (pt_cmpR (op_eqD (hu_64 hr)) (pe_len (by rfl) T.f_len (pv 2)) pe_int (nomark _))
        (pss_one (ps_for PassesOwn.never rfl (pi_list (pe_lock (pe_lc (own := [("_law_some", 12)]) rfl sc__law_go_on.nd (pi_nest (pv 6)) (blkOk_by (N := N__law_go_on) (sc := defScope (top 189)) (by decide +kernel)) (fun _ _ _ _ _ => (pg_name (i := 12) sc__law_go_on.nd rfl (Or.inl rfl))) (fun _ _ _ _ _ => pts_one (pt_cmpR (op_eqDk (K := K) rfl (hu_64 hr)) (pe_ix (ix_seqk (K := K) rfl) (pv 12) pe_int (fun _ _ => rfl)) (pe_ix (ix_seqk (K := K) rfl) (pv 2) pe_int (fun _ _ => rfl)) (nomark _))) (fun _ _ _ _ _ => (pv 12))))) (pg_name (i := 11) sc__law_go_on.nd rfl (Or.inl rfl))
          (pss_one (ps_expr (pe_dn ((D__law_offer T).up (by decide)) hr (by rfl) (pa_cons (pv 8) (pa_cons (pv 1) (pa_cons (pe_op op_catA (pe_slice sl_tupA (pv 2) (po_some pe_int) (po_some pe_int)) (pe_slice sl_tupA (pv 11) (po_some pe_int) po_none)) (pa_cons (pe_dn ((D__law_sum T).up (by decide)) hr (by rfl) (pa_cons (pe_nget (hu_64 hr) (pv 7) (pv 2) (fun _ _ => rfl)) (pa_cons (pe_nget (hu_64 hr) (pv 6) (pv 11) (fun _ _ => rfl)) pa_nil))) pa_nil)))))))))
        (pss_cons (ps_asg (pv 2) (pg_tup rfl (pgs_cons (pg_name (i := 9) sc__law_go_on.nd rfl (Or.inr rfl)) (pgs_cons (pg_name (i := 13) sc__law_go_on.nd rfl (Or.inl rfl)) (pgs_cons (pg_name (i := 14) sc__law_go_on.nd rfl (Or.inr rfl)) pgs_nil)))))
        (pss_cons (ps_if (pt_cmpR op_lt (pv 9) (pe_len (by rfl) T.f_len (pe_nget (hu_64 hr) (pv 4) (pv 13) (fun _ _ => rfl))) (nomark _))
          (pss_one (ps_expr (pe_dn ((D__law_offer T).up (by decide)) hr (by rfl) (pa_cons (pv 6) (pa_cons (pv 1) (pa_cons (pe_tup (pa_cons (pe_ix ix_seq (pe_nget (hu_64 hr) (pv 4) (pv 13) (fun _ _ => rfl)) (pv 9) (fun _ _ => rfl)) (pa_cons (pe_ix ix_seq (pe_nget (hu_64 hr) (pv 4) (pv 14) (fun _ _ => rfl)) (pv 9) (fun _ _ => rfl)) pa_nil))) (pa_cons (pe_dn ((D__law_sum T).up (by decide)) hr (by rfl) (pa_cons (pe_nget (hu_64 hr) (pv 8) (pv 2) (fun _ _ => rfl)) (pa_cons (pe_tup (pa_cons pe_int (pa_cons pe_int pa_nil))) pa_nil))) pa_nil)))))))
          (pss_nil))
        (pss_one (ps_for PassesOwn.never rfl (pi_tup (pv 5)) (pg_tup rfl (pgs_cons (pg_name (i := 15) sc__law_go_on.nd rfl (Or.inr rfl)) (pgs_cons (pg_name (i := 16) sc__law_go_on.nd rfl (Or.inr rfl)) (pgs_cons (pg_name (i := 17) sc__law_go_on.nd rfl (Or.inl rfl)) pgs_nil))))
          (pss_one (ps_for PassesOwn.never rfl (pi_list (pe_lc (own := [("_law_some", 12)]) rfl sc__law_go_on.nd (pi_tup (pv 17)) (blkOk_by (N := N__law_go_on) (sc := defScope (top 189)) (by decide +kernel)) (fun _ _ _ _ _ => (pg_name (i := 12) sc__law_go_on.nd rfl (Or.inl rfl))) (fun _ _ _ _ _ => pts_one (PW.pt (pw_and (pt_cmpR (op_eqDk (K := K) rfl (hu_64 hr)) (pv 15) (pv 9) (nomark _)) (pw_and (pt_cmpR (op_inSk (K := K) rfl (hu_65 hr)) (pv 14) (pv 16) (by rfl)) (pw_and1 (pt_cmpR (op_inSk (K := K) rfl (hu_65 hr)) (pv 12) (pv 3) (by rfl))))))) (fun _ _ _ _ _ => (pv 12)))) (pg_name (i := 18) sc__law_go_on.nd rfl (Or.inl rfl))
            (pss_one (ps_expr (pe_dn ((D__law_offer T).up (by decide)) hr (by rfl) (pa_cons (pv 7) (pa_cons (pv 1) (pa_cons (pe_tup (pa_cons pe_str (pa_cons (pv 9) (pa_cons (pv 13) (pa_cons (pv 18) pa_nil))))) (pa_cons (pe_dn ((D__law_sum T).up (by decide)) hr (by rfl) (pa_cons (pe_nget (hu_64 hr) (pv 8) (pv 2) (fun _ _ => rfl)) (pa_cons (pe_tup (pa_cons pe_int (pa_cons pe_int pa_nil))) pa_nil))) pa_nil))))))))))))))))), ?_⟩
  obtain ⟨p, S, kn, q, dW, dP, dL, dT, v, spv, rv, h, g, ways, wk, rs, spots, hru, s, ds, k, rfl, ak, asp, aru, hkn, Pn, A, nW, nWX, nW1, L0, o, m, hv, hsc, hsl, hdl, fin⟩ := h
  refine ⟨.ref kn, rfl, kn, _, rfl, SqT.of hkn, rfl, .ref dP, _, rfl, .ref dL, _, rfl, .ref dT, [], rfl, rfl, ?_⟩
  dsimp only [gName]
  have k5 := g.k5
  have al := all_len g
  have sub := A.sub
  have kok := key_ok g m
  generalize hM : netOf h g ways wk rs spots hru = M at fin
  have Mok : M.Ok = Ok3 h := by rw [← hM]; rfl
  have Mall : M.all = allK h := by rw [← hM]; rfl
  have Mval : M.val = val3 := by rw [← hM]; rfl
  have Mside : ∀ x s, M.side x s = if x = true then (s.2.2, []) else (s.1, s.2.1) := by rw [← hM]; exact fun _ _ => rfl
  have Mcls : ∀ k, M.cls k = decide (kLen k = 3) := by rw [← hM]; exact fun _ => rfl
  obtain ⟨g1, g2⟩ := M.offs_ok s k (by rw [Mok]; exact o) (by rw [Mall]; exact m) (by rw [Mval]; exact hv)
  have MG : M.G = (allK h).length + 20 := by rw [← hM]; rfl
  have hpop : M.pop s k ds = (M.offs (M.side (M.cls k) s) k).foldl M.offer (s, ds) := rfl
  rw [hpop] at fin
  have pre : ∀ os' r, os' ++ r = M.offs (M.side (M.cls k) s) k → Ok3 h (os'.foldl M.offer (s, ds)).1 ∧ (os'.foldl M.offer (s, ds)).2.length < 1000000 ∧ M.side (M.cls k) (os'.foldl M.offer (s, ds)).1 = M.side (M.cls k) s ∧ ∀ x ∈ os', x.1 ∈ allK h := fun os' r e => by
    have st := M.fold (x := M.cls k) os' s ds fun x hx => g2 x (by rw [← e]; exact List.mem_append_left _ hx)
    have ln := st.len
    have : os'.length ≤ M.G := by
      rw [← e, List.length_append] at g1
      omega
    refine ⟨by have := st.ok; rw [Mok] at this; exact this o, by omega, st.side, fun x hx => ?_⟩
    have := (g2 x (by rw [← e]; exact List.mem_append_left _ hx)).1
    rwa [Mall] at this
  have step : ∀ os' x r, os' ++ x :: r = M.offs (M.side (M.cls k) s) k → x.1 ∈ allK h := fun os' x r e => (pre (os' ++ [x]) r (by rw [← e]; simp)).2.2.2 x (by simp)
  -- an offer as a statement
  have off : ∀ {σ : L2.St} {i : Nat} {tk tc : TE} {D : Ends} {H' : Hp} (os' : List (PyData × (Nat × Nat))) (x : PyData × (Nat × Nat)) (r : List (PyData × (Nat × Nat))), os' ++ x :: r = M.offs (M.side (M.cls k) s) k → σ[i]? = some (some (.ref (dOf dP dL dT x.1))) → σ[1]? = some (some (.ref q)) →
      Ev false p S tk σ H' (fun z => z = x.1) → Ev false p S tc σ H' (fun z => z = cD x.2) → Led P w S H' dP dL dT q (os'.foldl M.offer (s, ds)).1 (os'.foldl M.offer (s, ds)).2 → Pen p S H' →
      (∀ H1, Rx [dP, dL, dT, q] H' H1 → Pen p S H1 → Led P w S H1 dP dL dT q ((os' ++ [x]).foldl M.offer (s, ds)).1 ((os' ++ [x]).foldl M.offer (s, ds)).2 → D.nx σ H1) →
      tDrop (tCall (spOffer P w) [] E0 (tCons (tVar i) (tCons (tVar 1) (tCons tk (tCons tc tNil))))) D σ H' := fun {σ i tk tc D H'} os' x r e h1 h2 h3 h4 L P' f => by
    obtain ⟨o1, o2, _⟩ := pre os' (x :: r) e
    refine s_off (g := g) (ways := ways) (wk := wk) (rs := rs) (spots := spots) (hr := hru) (k := x.1) (c := x.2) h1 h2 h3 h4 L o1 (step os' x r e) o2 A P' fun H1 e1 P1 L1 => f H1 e1 P1 ?_
    rw [foldl_snoc]
    rw [hM] at L1
    exact L1
  have nWs : ∀ {H'}, Rx [dP, dL, dT, q] H H' → NDict P w S H' dW ways := fun e => nW.rx e nWX sub
  have aks : ∀ {H'}, Rx [dP, dL, dT, q] H H' → At S H' v k := fun e => ak.monoX e sub
  have eX : ∀ {d : Addr} {H1 H2 : Hp}, d ∈ [dP, dL, dT, q] → Rx [d] H1 H2 → Rx [dP, dL, dT, q] H1 H2 := fun hd e => e.sub fun x hx => by rw [List.mem_singleton.mp hx]; exact hd
  rcases of_all g m with mc | mc | mc
  · -- a place pair
    have cl : M.cls k = false := by rw [Mcls]; exact decide_eq_false (by rw [mc.len]; decide)
    obtain ⟨a, c, rfl, ha, hc⟩ := mc
    have hos : M.offs (M.side (M.cls (plK a c)) s) (plK a c) = offP h.ks.length s.1 s.2.1 (plK a c) := by rw [cl, ← hM]; rfl
    rw [hos] at pre off fin
    rw [cl] at pre
    have still : ∀ os' r, os' ++ r = offP h.ks.length s.1 s.2.1 (plK a c) → (os'.foldl M.offer (s, ds)).1.1 = s.1 ∧ (os'.foldl M.offer (s, ds)).1.2.1 = s.2.1 := fun os' r e => by
      have := (pre os' r e).2.2.1
      rw [Mside, Mside, if_neg Bool.false_ne_true, if_neg Bool.false_ne_true] at this
      exact ⟨(Prod.mk.inj this).1, (Prod.mk.inj this).2⟩
    have hkP : kget s.1 (plK a c) = some (cD (cg s.1 (plK a c))) := o.P.cg (kget_val hv)
    obtain ⟨z, hz, l, rfl, hl, hlc⟩ := wk a (cont_mem ha)
    have kc := cont_key ha
    refine s_ifK (b := false) (k := true) (et_c (ev_eq (ev_eqD (ev_len (ev_var rfl ak) rfl) ev_int rfl rfl) (by simp [PyData.eqv, items, plK]))) Pn (fun _ H1 e1 P1 => ?_) (fun k _ _ _ => by cases k)
    have os1 : ∀ i, i ≤ h.ks.length + 1 → ((List.range i).map (pH s a c)) ++ ((((List.range (h.ks.length + 1)).map (pH s a c)).drop i) ++ (pF s a).map (pO s a c)) = offP h.ks.length s.1 s.2.1 (plK a c) := fun i hi => by
      rw [← List.append_assoc]
      refine congrArg (· ++ _) ?_
      have := List.take_append_drop i ((List.range (h.ks.length + 1)).map (pH s a c))
      rw [← List.map_take, List.take_range, Nat.min_eq_left hi] at this
      exact this
    refine s_forRX (b := false) (Z := fun n => n = (h.ks.length : Int) + 1) ((ea_one (ev_I0 (i := (h.ks.length : Int)) (j := 1) (z := .int ((h.ks.length : Int) + 1)) (ev_eq (ev_len (ev_nget (i := 4) (ev_ixN (j := 0) (ev_var rfl (ak.mono e1 Pn.mem)) ev_int rfl rfl) rfl nW1 (nW.rl e1 nW1 Pn.mem) kc.1 kc.2.1 (by rw [kc.2.2]; decide) hz) rfl) (by show PyData.int (l.length : Int) = _; rw [hl])) ev_int fun H => .int _)).imp fun zs e => ⟨_, e, rfl⟩) (fun n e => by omega) P1
      (fun H2 n i σ' H' => (∃ x9, σ' = [some (.ref kn), some (.ref q), some v, some spv, some (.ref dW), some rv, some (.ref dP), some (.ref dL), some (.ref dT), x9, none, none, none, none, none, none, none, none, none]) ∧ Rx [dP, dL, dT, q] H H' ∧ Pen p S H' ∧
        Led P w S H' dP dL dT q (((List.range i).map (pH s a c)).foldl M.offer (s, ds)).1 (((List.range i).map (pH s a c)).foldl M.offer (s, ds)).2)
      (fun H2 n hn e2 P2 => ⟨⟨_, rfl⟩, Rx.of0 (e1.trans e2), P2, L0.rl A (e1.trans e2) Pn.mem⟩) (fun H2 n hn e2 P2 i σ' H' hi hI => ?_) fun H2 n σ' H' hn e2 hI => ?_
    · obtain ⟨⟨x, rfl⟩, e3, P3, L3⟩ := hI
      have hi' : i < h.ks.length + 1 := by omega
      dsimp only [gName]
      have e0 := os1 i (by omega)
      rw [List.drop_eq_getElem_cons (by rw [List.length_map, List.length_range]; exact hi'), List.getElem_map, List.getElem_range, List.cons_append] at e0
      obtain ⟨st1, st2⟩ := still _ _ e0
      have a3 := aks e3
      have nP := L3.nP
      rw [st1] at nP
      exact off _ _ _ e0 rfl rfl (ev_catT (ds := [.int (i : Int)]) (es := [a, c]) (ev_tupK (ea_one (ev_var rfl (.int _))) (by show 1 ≤ 100000; decide)) (ev_var rfl a3) (by show 1 + 2 ≤ 100000; decide)) (ev_nget (i := 6) (ev_var rfl a3) rfl A.P1 nP kok.1 kok.2.1 kok.2.2 hkP) L3 P3 fun H4 e4 P4 L4 => ⟨⟨_, rfl⟩, e3.trans e4, P4, by rw [List.range_succ, List.map_append]; exact L4⟩
    · obtain ⟨⟨x, rfl⟩, e3, P3, L3⟩ := hI
      have hn' : n.toNat = h.ks.length + 1 := by omega
      rw [hn'] at L3
      have e0 := os1 (h.ks.length + 1) (Nat.le_refl _)
      rw [List.drop_eq_nil_of_le (by rw [List.length_map, List.length_range]; exact Nat.le_refl _), List.nil_append] at e0
      generalize hL1 : ((List.range (h.ks.length + 1)).map (pH s a c)) = O1 at L3 e0
      obtain ⟨st1, st2⟩ := still _ _ e0
      have a3 := aks e3
      have nL := L3.nL
      rw [st2] at nL
      have lL := Nat.le_trans (o.L.len fun _ => mem_L) al
      dsimp only
      refine s_forLX (b := false) (X := [dP, dL, dT, q]) (S := S) (ds := pF s a) ((ev_lcN (Z := fun x k => k = PyData.eqv (nth x 3) a) (E := fun x z => z = x) (i := 7) rfl nL A.L1 A.L2 A.mL (by omega) (fun _ => rfl) (fun A2 H4 e4 P4 hA2 kv u H5 hkv e5 P5 au => ?_) fun A2 H4 e4 P4 hA2 kv u H5 hkv e5 P5 au _ => ev_var rfl au).imp fun z ⟨zs, e, c⟩ => by rw [e, Cmp.fn c]; simp [pF]) P3 sub
        (fun H4 i σ' H' => (∃ x10, σ' = [some (.ref kn), some (.ref q), some v, some spv, some (.ref dW), some rv, some (.ref dP), some (.ref dL), some (.ref dT), x, x10, none, none, none, none, none, none, none, none]) ∧ Rx [dP, dL, dT, q] H4 H' ∧ Rx [dP, dL, dT, q] H H' ∧ Pen p S H' ∧
          Led P w S H' dP dL dT q ((O1 ++ ((pF s a).take i).map (pO s a c)).foldl M.offer (s, ds)).1 ((O1 ++ ((pF s a).take i).map (pO s a c)).foldl M.offer (s, ds)).2)
        (fun H4 e4 P4 => ⟨⟨_, rfl⟩, Rx.refl, e3.trans (Rx.of0 e4), P4, by rw [List.take_zero, List.map_nil, List.append_nil]; exact L3.rl A e4 P3.mem⟩) (fun _ _ _ _ q => q.2.1) (fun H4 e4 P4 i x1 u σ' H' hx hI au => ?_) fun H4 σ' H' e4 hI => ?_
      · obtain ⟨⟨i', a', c', e', hi', ha', hc'⟩, _⟩ := o.L.ok kv hkv
        rw [e'] at au ⊢
        have w2 : At (A2 :: S) H5 v (plK a c) := ((a3.monoX e4 (fun x hx => by rw [List.mem_singleton.mp hx]; exact A.mL)).avoid hA2).mono e5 (List.mem_cons_of_mem _ P4.mem)
        exact et_c (ev_eqD (ev_ixN (j := 3) (ev_var rfl au) ev_int rfl rfl) (ev_ixN (j := 0) (ev_var rfl w2) ev_int rfl rfl) ((isCont_flat hc').shaped (by decide)) ((isCont_flat ha).shaped (by decide)))
      · obtain ⟨⟨x10, rfl⟩, e5, e6, P5, L5⟩ := hI
        obtain ⟨hm1, hm2⟩ := List.mem_filter.mp (List.mem_of_getElem? hx)
        obtain ⟨kv, hkv, ekv⟩ := List.mem_map.mp hm1
        obtain ⟨⟨i', a', c', e', hi', ha', hc'⟩, _⟩ := o.L.ok kv hkv
        have ex1 : x1 = laK i' a' c' := ekv.symm.trans e'
        have hkL : kget s.2.1 x1 = some (cD (cg s.2.1 x1)) := o.L.cg (by rw [← ekv]; exact kget_self hkv)
        have e7 : (O1 ++ ((pF s a).take i).map (pO s a c)) ++ pO s a c x1 :: ((pF s a).drop (i + 1)).map (pO s a c) = offP h.ks.length s.1 s.2.1 (plK a c) := by
          rw [← e0, List.append_assoc]
          refine congrArg (O1 ++ ·) ?_
          have := List.take_append_drop i (pF s a)
          rw [List.drop_eq_getElem_cons (List.getElem?_eq_some_iff.mp hx).1, (List.getElem?_eq_some_iff.mp hx).2] at this
          conv => rhs; rw [← this]
          rw [List.map_append, List.map_cons]
        obtain ⟨st3, st4⟩ := still _ _ e7
        have nP5 := L5.nP
        have nL5 := L5.nL
        rw [st3] at nP5
        rw [st4] at nL5
        have a5 := aks e6
        have kx := key_ok g (mem_L (h := h) ⟨i', a', c', rfl, hi', ha', hc'⟩)
        dsimp only [gName]
        refine off _ _ _ e7 rfl rfl ?_ (ev_sumC (ev_nget (i := 7) (ev_var rfl au) rfl A.L1 nL5 (by rw [ex1]; exact kx.1) (by rw [ex1]; exact kx.2.1) (by rw [ex1]; exact kx.2.2) hkL) (ev_nget (i := 6) (ev_var rfl a5) rfl A.P1 nP5 kok.1 kok.2.1 kok.2.2 hkP)) L5 P5 fun H6 e8 P6 L6 => ⟨⟨_, rfl⟩, e5.trans e8, e6.trans e8, P6, ?_⟩
        · rw [ex1] at au ⊢
          exact ev_eq (ev_catT (ev_slT (ev_var rfl au) (eo_some ev_int) (eo_some ev_int)) (ev_slT (ev_var rfl a5) (eo_some ev_int) eo_none) (by show 2 + 1 ≤ 100000; decide)) rfl
        · rw [take_succ_of hx, List.map_append, ← List.append_assoc]
          exact L6
      · obtain ⟨⟨x10, rfl⟩, e5, e6, P5, L5⟩ := hI
        rw [List.take_length, e0] at L5
        exact fin H' e6 P5 L5
  · -- an item that has landed
    have cl : M.cls k = false := by rw [Mcls]; exact decide_eq_false (by rw [mc.len]; decide)
    obtain ⟨i0, a, c, rfl, hi0, ha, hc⟩ := mc
    have hos : M.offs (M.side (M.cls (laK i0 a c)) s) (laK i0 a c) = (lF s c).map (lO s i0 a c) := by rw [cl, ← hM]; rfl
    rw [hos] at pre off fin
    rw [cl] at pre
    have still : ∀ os' r, os' ++ r = (lF s c).map (lO s i0 a c) → (os'.foldl M.offer (s, ds)).1.1 = s.1 ∧ (os'.foldl M.offer (s, ds)).1.2.1 = s.2.1 := fun os' r e => by
      have := (pre os' r e).2.2.1
      rw [Mside, Mside, if_neg Bool.false_ne_true, if_neg Bool.false_ne_true] at this
      exact ⟨(Prod.mk.inj this).1, (Prod.mk.inj this).2⟩
    have hkL : kget s.2.1 (laK i0 a c) = some (cD (cg s.2.1 (laK i0 a c))) := o.L.cg (kget_val hv)
    refine s_ifK (b := false) (k := false) (et_c (ev_eq (ev_eqD (ev_len (ev_var rfl ak) rfl) ev_int rfl rfl) (by simp [PyData.eqv, items, laK]))) Pn (fun k _ _ _ => by cases k) (fun _ H1 e1 P1 => ?_)
    refine s_ifK (b := false) (k := true) (et_c (ev_eq (ev_eqD (ev_len (ev_var rfl (ak.mono e1 Pn.mem)) rfl) ev_int rfl rfl) (by simp [PyData.eqv, items, laK]))) P1 (fun _ H2 e2 P2 => ?_) (fun k _ _ _ => by cases k)
    have e3 : Rx [dP, dL, dT, q] H H2 := Rx.of0 (e1.trans e2)
    have L3 := L0.rl A (e1.trans e2) Pn.mem
    have a3 := aks e3
    have lP := Nat.le_trans (o.P.len fun _ => mem_P) al
    refine s_forLX (b := false) (X := [dP, dL, dT, q]) (S := S) (ds := lF s c) ((ev_lcN (Z := fun x k => k = PyData.eqv (nth x 0) c) (E := fun x z => z = x) (i := 6) rfl L3.nP A.P1 A.P2 A.mP (by omega) (fun _ => rfl) (fun A2 H4 e4 P4 hA2 kv u H5 hkv e5 P5 au => ?_) fun A2 H4 e4 P4 hA2 kv u H5 hkv e5 P5 au _ => ev_var rfl au).imp fun z ⟨zs, e, c⟩ => by rw [e, Cmp.fn c]; simp [lF]) P2 sub
      (fun H4 i σ' H' => (∃ x11, σ' = [some (.ref kn), some (.ref q), some v, some spv, some (.ref dW), some rv, some (.ref dP), some (.ref dL), some (.ref dT), none, none, x11, none, none, none, none, none, none, none]) ∧ Rx [dP, dL, dT, q] H4 H' ∧ Rx [dP, dL, dT, q] H H' ∧ Pen p S H' ∧
        Led P w S H' dP dL dT q ((((lF s c).take i).map (lO s i0 a c)).foldl M.offer (s, ds)).1 ((((lF s c).take i).map (lO s i0 a c)).foldl M.offer (s, ds)).2)
      (fun H4 e4 P4 => ⟨⟨_, rfl⟩, Rx.refl, e3.trans (Rx.of0 e4), P4, L3.rl A e4 P2.mem⟩) (fun _ _ _ _ q => q.2.1) (fun H4 e4 P4 i x1 u σ' H' hx hI au => ?_) fun H4 σ' H' e4 hI => ?_
    · obtain ⟨⟨a', c', e', ha', hc'⟩, _⟩ := o.P.ok kv hkv
      rw [e'] at au ⊢
      have w2 : At (A2 :: S) H5 v (laK i0 a c) := ((a3.monoX e4 (fun x hx => by rw [List.mem_singleton.mp hx]; exact A.mP)).avoid hA2).mono e5 (List.mem_cons_of_mem _ P4.mem)
      exact et_c (ev_eqD (ev_ixN (j := 0) (ev_var rfl au) ev_int rfl rfl) (ev_ixN (j := 3) (ev_var rfl w2) ev_int rfl rfl) ((isCont_flat ha').shaped (by decide)) ((isCont_flat hc).shaped (by decide)))
    · obtain ⟨⟨x11, rfl⟩, e5, e6, P5, L5⟩ := hI
      obtain ⟨hm1, hm2⟩ := List.mem_filter.mp (List.mem_of_getElem? hx)
      obtain ⟨kv, hkv, ekv⟩ := List.mem_map.mp hm1
      obtain ⟨⟨a', c', e', ha', hc'⟩, _⟩ := o.P.ok kv hkv
      have ex1 : x1 = plK a' c' := ekv.symm.trans e'
      have hkP : kget s.1 x1 = some (cD (cg s.1 x1)) := o.P.cg (by rw [← ekv]; exact kget_self hkv)
      have e7 : (((lF s c).take i).map (lO s i0 a c)) ++ lO s i0 a c x1 :: ((lF s c).drop (i + 1)).map (lO s i0 a c) = (lF s c).map (lO s i0 a c) := by
        have := List.take_append_drop i (lF s c)
        rw [List.drop_eq_getElem_cons (List.getElem?_eq_some_iff.mp hx).1, (List.getElem?_eq_some_iff.mp hx).2] at this
        conv => rhs; rw [← this]
        rw [List.map_append, List.map_cons]
      obtain ⟨st3, st4⟩ := still _ _ e7
      have nP5 := L5.nP
      have nL5 := L5.nL
      rw [st3] at nP5
      rw [st4] at nL5
      have a5 := aks e6
      have kx := key_ok g (mem_P (h := h) ⟨a', c', rfl, ha', hc'⟩)
      dsimp only [gName]
      refine off _ _ _ e7 rfl rfl ?_ (ev_sumC (ev_nget (i := 7) (ev_var rfl a5) rfl A.L1 nL5 kok.1 kok.2.1 kok.2.2 hkL) (ev_nget (i := 6) (ev_var rfl au) rfl A.P1 nP5 (by rw [ex1]; exact kx.1) (by rw [ex1]; exact kx.2.1) (by rw [ex1]; exact kx.2.2) hkP)) L5 P5 fun H6 e8 P6 L6 => ⟨⟨_, rfl⟩, e5.trans e8, e6.trans e8, P6, ?_⟩
      · rw [ex1] at au ⊢
        exact ev_eq (ev_catT (ev_slT (ev_var rfl a5) (eo_some ev_int) (eo_some ev_int)) (ev_slT (ev_var rfl au) (eo_some ev_int) eo_none) (by show 2 + 1 ≤ 100000; decide)) rfl
      · rw [take_succ_of hx, List.map_append]
        exact L6
    · obtain ⟨⟨x11, rfl⟩, e5, e6, P5, L5⟩ := hI
      rw [List.take_length] at L5
      exact fin H' e6 P5 L5
  · -- a thing pair
    have cl : M.cls k = true := by rw [Mcls]; exact decide_eq_true mc.len
    obtain ⟨i0, a, c, rfl, hi0, ha, hc⟩ := mc
    have hos : M.offs (M.side (M.cls (thK i0 a c)) s) (thK i0 a c) = offS h.ks.length ways s.2.2 (thK i0 a c) ++ rs.flatMap (offR spots s.2.2 (thK i0 a c)) := by rw [cl, ← hM]; rfl
    rw [hos] at pre off fin
    rw [cl] at pre
    have still : ∀ os' r, os' ++ r = offS h.ks.length ways s.2.2 (thK i0 a c) ++ rs.flatMap (offR spots s.2.2 (thK i0 a c)) → (os'.foldl M.offer (s, ds)).1.2.2 = s.2.2 := fun os' r e => by
      have := (pre os' r e).2.2.1
      rw [Mside, Mside, if_pos rfl, if_pos rfl] at this
      exact (Prod.mk.inj this).1
    have hkT : kget s.2.2 (thK i0 a c) = some (cD (cg s.2.2 (thK i0 a c))) := o.T.cg (kget_val hv)
    obtain ⟨za, hza, la, rfl, hla, hlac⟩ := wk a (cont_mem ha)
    obtain ⟨zc, hzc, lc, rfl, hlc, hlcc⟩ := wk c (cont_mem hc)
    have ka := cont_key ha
    have kc := cont_key hc
    refine s_ifK (b := false) (k := false) (et_c (ev_eq (ev_eqD (ev_len (ev_var rfl ak) rfl) ev_int rfl rfl) (by simp [PyData.eqv, items, thK]))) Pn (fun k _ _ _ => by cases k) (fun _ H1 e1 P1 => ?_)
    refine s_ifK (b := false) (k := false) (et_c (ev_eq (ev_eqD (ev_len (ev_var rfl (ak.mono e1 Pn.mem)) rfl) ev_int rfl rfl) (by simp [PyData.eqv, items, thK]))) P1 (fun k _ _ _ => by cases k) (fun _ H2 e2 P2 => ?_)
    have e3 : Rx [dP, dL, dT, q] H H2 := Rx.of0 (e1.trans e2)
    have L3 := L0.rl A (e1.trans e2) Pn.mem
    obtain ⟨vk, xs, rfl, nvk, hvk, rvk⟩ := (aks e3).tup_inv
    obtain ⟨x1, x2, x3, rfl, b1, b2, b3⟩ := rvk.three
    cases b1
    refine ⟨.ref vk, rfl, vk, _, rfl, SqT.of hvk, rfl, .int (i0 : Int), _, rfl, x2, _, rfl, x3, [], rfl, rfl, ?_⟩
    dsimp only [gName]
    have L3n := L3
    refine s_joinS (fun σ' H' => σ' = [some (.ref kn), some (.ref q), some (.ref vk), some spv, some (.ref dW), some rv, some (.ref dP), some (.ref dL), some (.ref dT), some (.int (i0 : Int)), none, none, none, some x2, some x3, none, none, none, none] ∧ Rx [dP, dL, dT, q] H2 H' ∧ Pen p S H' ∧
      Led P w S H' dP dL dT q ((offS h.ks.length ways s.2.2 (thK i0 a c)).foldl M.offer (s, ds)).1 ((offS h.ks.length ways s.2.2 (thK i0 a c)).foldl M.offer (s, ds)).2) (fun σ' H' hJ => ?_) (fun done => ?_)
    · obtain ⟨rfl, e4, P4, L4⟩ := hJ
      have b24 := b2.monoX e4 sub
      have ak4 := aks (e3.trans e4)
      have spa : ∀ {H'}, Rx [dP, dL, dT, q] H H' → At S H' spv (.list spots) := fun e => asp.monoX e sub
      have pref : ∀ (i : Nat) (r : PyData), rs[i]? = some r → (offS h.ks.length ways s.2.2 (thK i0 a c) ++ (rs.take i).flatMap (offR spots s.2.2 (thK i0 a c))) ++ (offR spots s.2.2 (thK i0 a c) r ++ (rs.drop (i + 1)).flatMap (offR spots s.2.2 (thK i0 a c))) = offS h.ks.length ways s.2.2 (thK i0 a c) ++ rs.flatMap (offR spots s.2.2 (thK i0 a c)) := fun i r hx => by
        rw [List.append_assoc]
        refine congrArg (offS h.ks.length ways s.2.2 (thK i0 a c) ++ ·) ?_
        have := List.take_append_drop i rs
        rw [List.drop_eq_getElem_cons (List.getElem?_eq_some_iff.mp hx).1, (List.getElem?_eq_some_iff.mp hx).2] at this
        conv => rhs; rw [← this]
        rw [List.flatMap_append, List.flatMap_cons]
      refine s_forTX (b := false) (X := [dP, dL, dT, q]) (S := S) (ds := rs) (ev_var rfl (aru.monoX (e3.trans e4) sub)) P4 sub
        (fun H5 i σ' H' => (∃ x15 x16 x17 x18, σ' = [some (.ref kn), some (.ref q), some (.ref vk), some spv, some (.ref dW), some rv, some (.ref dP), some (.ref dL), some (.ref dT), some (.int (i0 : Int)), none, none, none, some x2, some x3, x15, x16, x17, x18]) ∧ Rx [dP, dL, dT, q] H5 H' ∧ Rx [dP, dL, dT, q] H2 H' ∧ Pen p S H' ∧
          Led P w S H' dP dL dT q ((offS h.ks.length ways s.2.2 (thK i0 a c) ++ (rs.take i).flatMap (offR spots s.2.2 (thK i0 a c))).foldl M.offer (s, ds)).1 ((offS h.ks.length ways s.2.2 (thK i0 a c) ++ (rs.take i).flatMap (offR spots s.2.2 (thK i0 a c))).foldl M.offer (s, ds)).2)
        (fun H5 e5 P5 => ⟨⟨_, _, _, _, rfl⟩, Rx.refl, e4.trans (Rx.of0 e5), P5, by rw [List.take_zero, List.flatMap_nil, List.append_nil]; exact L4.rl A e5 P4.mem⟩) (fun _ _ _ _ q => q.2.1) (fun H5 e5 P5 i r u σ' H6 hx hI au => ?_) fun H5 σ' H6 e5 hI => ?_
      · obtain ⟨⟨x15, x16, x17, x18, rfl⟩, e6, e7, P6, L6⟩ := hI
        obtain ⟨mv, ss, gs, rfl, hss, hgs, lss, lgs, _⟩ := hru.2 r (List.mem_of_getElem? hx)
        have hpf := pref i _ hx
        have hR : offR spots s.2.2 (thK i0 a c) (.tuple [.int mv, .tuple ss, .tuple gs]) = (gs.filter (goalOk spots (thK i0 a c) (.tuple [.int mv, .tuple ss, .tuple gs]))).map (tO s i0 a c) := rfl
        obtain ⟨cr, ys, rfl, ncr, hcr, rcr⟩ := au.tup_inv
        obtain ⟨y1, y2, y3, rfl, d1, d2, d3⟩ := rcr.three
        cases d1
        refine ⟨cr, _, rfl, SqT.of hcr, rfl, .int mv, _, rfl, y2, _, rfl, y3, [], rfl, rfl, ?_⟩
        dsimp only [gName]
        generalize hO : offS h.ks.length ways s.2.2 (thK i0 a c) ++ (rs.take i).flatMap (offR spots s.2.2 (thK i0 a c)) = O1 at L6 hpf
        refine s_forLX (b := false) (X := [dP, dL, dT, q]) (S := S) (ds := gs.filter (goalOk spots (thK i0 a c) (.tuple [.int mv, .tuple ss, .tuple gs]))) ((ev_lcT (Z := fun x k => k = goalOk spots (thK i0 a c) (.tuple [.int mv, .tuple ss, .tuple gs]) x) (E := fun x z => z = x) (ds := gs) (ev_var rfl d3) (by omega) (fun _ => rfl) (fun A2 H7 e8 P7 hA2 j x ux H8 hx2 e9 P8 aux => ?_) fun A2 H7 e8 P7 hA2 j x ux H8 hx2 e9 P8 aux _ => ev_var rfl aux).imp fun z ⟨zs, e, c⟩ => by rw [e, Cmp.fn c]; simp) P6 sub
          (fun H7 j σ' H' => (∃ x18, σ' = [some (.ref kn), some (.ref q), some (.ref vk), some spv, some (.ref dW), some rv, some (.ref dP), some (.ref dL), some (.ref dT), some (.int (i0 : Int)), none, none, none, some x2, some x3, some (.int mv), some y2, some y3, x18]) ∧ Rx [dP, dL, dT, q] H7 H' ∧ Rx [dP, dL, dT, q] H2 H' ∧ Pen p S H' ∧
            Led P w S H' dP dL dT q ((O1 ++ ((gs.filter (goalOk spots (thK i0 a c) (.tuple [.int mv, .tuple ss, .tuple gs]))).take j).map (tO s i0 a c)).foldl M.offer (s, ds)).1 ((O1 ++ ((gs.filter (goalOk spots (thK i0 a c) (.tuple [.int mv, .tuple ss, .tuple gs]))).take j).map (tO s i0 a c)).foldl M.offer (s, ds)).2)
          (fun H7 e8 P7 => ⟨⟨_, rfl⟩, Rx.refl, e7.trans (Rx.of0 e8), P7, by rw [List.take_zero, List.map_nil, List.append_nil]; exact L6.rl A e8 P6.mem⟩) (fun _ _ _ _ q => q.2.1) (fun H7 e8 P7 j x ux σ' H8 hx2 hI aux => ?_) fun H7 σ' H8 e8 hI => ?_
        · have hxc := hgs x (List.mem_of_getElem? hx2)
          have w3 : At (A2 :: S) H8 x3 c := ((b3.monoX e7 sub).through e8 P7 hA2 e9)
          have w16 : At (A2 :: S) H8 y2 (.tuple ss) := d2.through e8 P7 hA2 e9
          have wsp : At (A2 :: S) H8 spv (.list spots) := (spa (e3.trans e7)).through e8 P7 hA2 e9
          exact et_andK (et_c (ev_eqD (ev_var rfl (.int mv)) (ev_var rfl (.int (i0 : Int))) rfl rfl)) fun _ => et_andK (et_c (ev_inS (f := fun k => k) (ev_var rfl w3) (ev_var rfl w16) rfl ((isCont_flat hc).shaped (by decide)) ((Flat.tup fun d hd => isCont_flat (hss d hd)).shaped (by decide)))) fun _ =>
            et_c (ev_inS (f := fun k => k) (ev_var rfl aux) (ev_var rfl wsp) rfl ((isCont_flat hxc).shaped (by decide)) ((Flat.lst fun d hd => isCont_flat (hsc d hd)).shaped (by decide)))
        · obtain ⟨⟨x18', rfl⟩, e9, e10, P8, L8⟩ := hI
          have hfl := List.mem_filter.mp (List.mem_of_getElem? hx2)
          have hxc := hgs x hfl.1
          have e11 : (O1 ++ ((gs.filter (goalOk spots (thK i0 a c) (.tuple [.int mv, .tuple ss, .tuple gs]))).take j).map (tO s i0 a c)) ++ tO s i0 a c x :: (((gs.filter (goalOk spots (thK i0 a c) (.tuple [.int mv, .tuple ss, .tuple gs]))).drop (j + 1)).map (tO s i0 a c) ++ (rs.drop (i + 1)).flatMap (offR spots s.2.2 (thK i0 a c))) = offS h.ks.length ways s.2.2 (thK i0 a c) ++ rs.flatMap (offR spots s.2.2 (thK i0 a c)) := by
            rw [← hpf, hR, List.append_assoc]
            refine congrArg (O1 ++ ·) ?_
            have := List.take_append_drop j (gs.filter (goalOk spots (thK i0 a c) (.tuple [.int mv, .tuple ss, .tuple gs])))
            rw [List.drop_eq_getElem_cons (List.getElem?_eq_some_iff.mp hx2).1, (List.getElem?_eq_some_iff.mp hx2).2] at this
            conv => rhs; rw [← this]
            rw [List.map_append, List.map_cons, List.append_assoc, List.cons_append]
          have st3 := still _ _ e11
          have nT8 := L8.nT
          rw [st3] at nT8
          have a8 := aks (e3.trans e10)
          dsimp only [gName]
          refine off _ _ _ e11 rfl rfl (ev_tupK (ea_more ev_str (ea_more (ev_var rfl (.int (i0 : Int))) (ea_two (ev_var rfl (b2.monoX e10 sub)) (ev_var rfl aux)))) (by show 4 ≤ 100000; decide)) (ev_sumC (ev_nget (i := 8) (ev_var rfl a8) rfl A.T1 nT8 kok.1 kok.2.1 kok.2.2 hkT) (ev_tupK (ea_two ev_int ev_int))) L8 P8 fun H9 e12 P9 L9 => ⟨⟨_, rfl⟩, e9.trans e12, e10.trans e12, P9, ?_⟩
          rw [take_succ_of hx2, List.map_append, ← List.append_assoc]
          exact L9
        · obtain ⟨⟨x18', rfl⟩, e9, e10, P8, L8⟩ := hI
          refine ⟨⟨_, _, _, _, rfl⟩, e6.trans ((Rx.of0 e8).trans e9), e10, P8, ?_⟩
          rw [List.take_length] at L8
          rw [take_succ_of hx, List.flatMap_append, ← List.append_assoc, hO, List.flatMap_cons, List.flatMap_nil, List.append_nil, hR]
          exact L8
      · obtain ⟨⟨x15, x16, x17, x18, rfl⟩, e6, e7, P6, L6⟩ := hI
        rw [List.take_length] at L6
        exact fin H6 (e3.trans e7) P6 L6
    · refine s_ifK (b := false) (k := decide ((i0 : Int) < (h.ks.length : Int))) (et_c (ev_I0 (i := (i0 : Int)) (j := (h.ks.length : Int)) (ev_var rfl (.int _)) (ev_eq (ev_len (ev_nget (i := 4) (ev_var rfl b2) rfl nW1 (nWs e3) ka.1 ka.2.1 (by rw [ka.2.2]; decide) hza) rfl) (by show PyData.int (la.length : Int) = _; rw [hla])) fun H => .bl _)) P2 (fun hk H3 e4 P3 => ?_) (fun hk H3 e4 P3 => ?_)
      · have hlt : i0 < h.ks.length := by have := of_decide_eq_true hk; omega
        have hS : offS h.ks.length ways s.2.2 (thK i0 a c) = [(plK (wayN ways a i0) (wayN ways c i0), addC (cg s.2.2 (thK i0 a c)) (0, 1))] := by
          unfold offS
          rw [if_pos (show unInt (nth (thK i0 a c) 0) < (h.ks.length : Int) from of_decide_eq_true hk)]
          rfl
        have wa : wayN ways a i0 = nth (.list la) i0 := by unfold wayN; rw [hza]; rfl
        have wc : wayN ways c i0 = nth (.list lc) i0 := by unfold wayN; rw [hzc]; rfl
        have e5 : Rx [dP, dL, dT, q] H H3 := e3.trans (Rx.of0 e4)
        have L4 := L3.rl A e4 P2.mem
        have b23 := b2.mono e4 P2.mem
        have b33 := b3.mono e4 P2.mem
        rw [hS] at off
        dsimp only
        refine off [] _ _ rfl rfl rfl (ev_tupK (ds := [wayN ways a i0, wayN ways c i0]) (ea_two (ev_eq (ev_ixN (j := i0) (ev_nget (i := 4) (ev_var rfl b23) rfl nW1 (nWs e5) ka.1 ka.2.1 (by rw [ka.2.2]; decide) hza) (ev_var rfl (.int _)) rfl (nth_get (d := .list la) (by show i0 < la.length; omega))) wa.symm)
          (ev_eq (ev_ixN (j := i0) (ev_nget (i := 4) (ev_var rfl b33) rfl nW1 (nWs e5) kc.1 kc.2.1 (by rw [kc.2.2]; decide) hzc) (ev_var rfl (.int _)) rfl (nth_get (d := .list lc) (by show i0 < lc.length; omega))) wc.symm)) (by show 2 ≤ 100000; decide))
          (ev_sumC (ev_nget (i := 8) (ev_var rfl (aks e5)) rfl A.T1 L4.nT kok.1 kok.2.1 kok.2.2 hkT) (ev_tupK (ea_two ev_int ev_int))) L4 P3 fun H4 e6 P4 L5 => done _ H4 ⟨rfl, (Rx.of0 e4).trans e6, P4, by rw [hS]; exact L5⟩
      · have hS : offS h.ks.length ways s.2.2 (thK i0 a c) = [] := by
          unfold offS
          rw [if_neg (show ¬ unInt (nth (thK i0 a c) 0) < (h.ks.length : Int) from of_decide_eq_false hk)]
        exact done _ H3 ⟨rfl, Rx.of0 e4, P3, by rw [hS]; exact L3.rl A e4 P2.mem⟩

end
end Mv
namespace Mv
open PySem PySem.Spec PyProof.Rows L2 He
section
variable {h : Hou} {g : Good h} {ways : KVD} {wk : WaysOk h ways} {rs spots : List PyData} {hr : rs.length ≤ 3 ∧ ∀ r ∈ rs, isRu h r}
theorem some_of_le {a : Option (Nat × Nat)} {c : Nat × Nat} (e : oLe a (some c)) : a.isSome = true := by
  cases a with
  | none => exact e.elim
  | some x => rfl
theorem inv_pop {s : St3} {k : PyData} (r : List PyData) (o : Ok3 h s) (m : k ∈ allK h) (hv : (val3 s k).isSome = true) (st : k = plK h.bg h.bg ∨ ∀ i ≤ h.ks.length, (val3 s (thK i h.bg h.bg)).isSome = true) :
    Ok3 h ((netOf h g ways wk rs spots hr).pop s k r).1 ∧ ∀ i ≤ h.ks.length, (val3 ((netOf h g ways wk rs spots hr).pop s k r).1 (thK i h.bg h.bg)).isSome = true := by
  have g2 := ((netOf h g ways wk rs spots hr).offs_ok s k o m hv).2
  have sp := (netOf h g ways wk rs spots hr).fold (x := (netOf h g ways wk rs spots hr).cls k) _ s r g2
  refine ⟨sp.ok o, fun i hi => ?_⟩
  have mt : thK i h.bg h.bg ∈ allK h := mem_T ⟨i, _, _, rfl, hi, g.bg, g.bg⟩
  rcases st with rfl | st
  · refine some_of_le (sp.met (thK i h.bg h.bg, cg s.1 (plK h.bg h.bg)) ?_)
    show (thK i h.bg h.bg, cg s.1 (plK h.bg h.bg)) ∈ offP h.ks.length s.1 s.2.1 (plK h.bg h.bg)
    exact List.mem_append_left _ (List.mem_map.mpr ⟨i, List.mem_range.mpr (by omega), rfl⟩)
  · exact Net.some_le (netOf h g ways wk rs spots hr) (sp.le _ mt) (st i hi)
/-- behind the first offer -/
def s1 (h : Hou) : St3 := ([(plK h.bg h.bg, cD (0, 0))], [], [])
theorem s1_ok (g : Good h) : Ok3 h (s1 h) := ⟨⟨fun kv hkv => by rw [List.mem_singleton.mp hkv]; exact ⟨⟨_, _, rfl, g.bg, g.bg⟩, _, rfl⟩, by simp [s1]⟩, DOk.nil, DOk.nil⟩
theorem off1 : (netOf h g ways wk rs spots hr).offer (([], [], []), []) (plK h.bg h.bg, (0, 0)) = (s1 h, [plK h.bg h.bg]) := by
  rw [Net.offer_yes _ (by rfl)]
  rfl
theorem s1_val : (val3 (s1 h) (plK h.bg h.bg)).isSome = true := by
  show ((kget [(plK h.bg h.bg, cD (0, 0))] (plK h.bg h.bg)).map unC).isSome = true
  unfold kget
  rw [List.find?_cons, decide_eq_true rfl]
  rfl
theorem runs1 : ∃ n, Net.Runs (netOf h g ways wk rs spots hr) 460000 (s1 h) [plK h.bg h.bg] n := by
  have m1 : plK h.bg h.bg ∈ allK h := mem_P ⟨_, _, rfl, g.bg, g.bg⟩
  obtain ⟨n, hn⟩ := Net.runs (netOf h g ways wk rs spots hr) (s1 h) _ false [plK h.bg h.bg] [] [] ⟨s1_ok g, fun k hk => by rw [List.mem_singleton.mp hk]; exact ⟨m1, rfl, s1_val⟩, fun k hk => (nomatch hk), List.nodup_nil, fun k hk => (nomatch hk), fun k hk => (nomatch hk), Nat.zero_le _, Nat.le_add_left _ _⟩ rfl
  refine ⟨n, ?_⟩
  have al := all_len g
  have hB : 2 * ((netOf h g ways wk rs spots hr).all.length * (netOf h g ways wk rs spots hr).G) + 1 ≤ 460000 := by
    show 2 * ((allK h).length * ((allK h).length + 20)) + 1 ≤ 460000
    have : (allK h).length * ((allK h).length + 20) ≤ 468 * 488 := Nat.mul_le_mul al (by omega)
    omega
  have up : ∀ {s : St3} {q : List PyData} {n : Nat}, Net.Runs (netOf h g ways wk rs spots hr) (2 * ((netOf h g ways wk rs spots hr).all.length * (netOf h g ways wk rs spots hr).G) + 1) s q n → Net.Runs (netOf h g ways wk rs spots hr) 460000 s q n := fun x => by
    induction x with
    | done => exact .done
    | step a b c d _ ih => exact .step (Nat.le_trans a hB) b c d ih
  simpa using up hn
end
def spLeast (P : Program) (w : World) : Sp := fun vs H Q _ => ∃ (p : Addr × Addr) (S : List Addr) (v rv : V) (h : Hou) (rs : List PyData), vs = [v, rv] ∧ At S H v h.d ∧ At S H rv (.tuple rs) ∧ Good h ∧ (rs.length ≤ 3 ∧ ∀ r ∈ rs, isRu h r) ∧ Pen p S H ∧
  ∀ kn dP dL dT H' (T : KVD), Rl false p H H' → Pen p S H' → H' kn = some (.tup [.ref dP, .ref dL, .ref dT]) → kn ≠ p.1 → NDict P w S H' dT T → dT ≠ p.1 → DOk (kT h) T → (∀ i ≤ h.ks.length, (kget T (thK i h.bg h.bg)).isSome = true) → Q (.ref kn) H'
theorem t_ndict {K : PySem.W.Frag} {P : Program} {w : World} {p : Addr × Addr} {S : List Addr} {σ : L2.St} {H : Hp} {Q : VK} (Pn : Pen p S H) (k : ∀ d H1, H d = none → Rx [] H H1 → Pen p (d :: S) H1 → NDict P w (d :: S) H1 d [] → d ∉ S → Q (.ref d) H1) : tCB (rDict0 K P w) (tCons (tLst tNil) tNil) σ H Q :=
  ⟨Nat.zero_le _, fun l hl => ⟨l, rfl, SqL.of upd_same, fun d hd => k d _ (by
    unfold upd at hd
    split at hd
    · cases hd
    · exact hd) ((Rx.new hl).trans (Rx.new hd)) (((Pn.new hl).new hd).more ⟨_, upd_same⟩) ⟨[], upd_same, .nil⟩ ((Pn.new hl).ne hd)⟩⟩
theorem NDict.emp {P : Program} {w : World} {S S' : List Addr} {H H' : Hp} {d : Addr} (n : NDict P w S H d []) (e : Rx [] H H') : NDict P w S' H' d [] := by
  obtain ⟨xs, hx, r⟩ := n.ex
  cases r
  exact ⟨[], e _ _ (fun m => nomatch m) hx, .nil⟩
theorem NDict.there {P : Program} {w : World} {S : List Addr} {H : Hp} {d : Addr} {kvs : KVD} (n : NDict P w S H d kvs) : ∃ o, H d = some o := let ⟨_, h, _⟩ := n.ex; ⟨_, h⟩
theorem nil_sub {S : List Addr} : ∀ x ∈ ([] : List Addr), x ∈ S := fun x hx => nomatch hx
theorem Rx.at' {H H1 : Hp} {a : Addr} (e : Rx [] H H1) (h : ∃ o, H a = some o) : ∃ o, H1 a = some o := let ⟨o, q⟩ := h; ⟨o, e _ _ (fun m => nomatch m) q⟩
theorem ne_new {H : Hp} {a c : Addr} (h : ∃ o, H a = some o) (n : H c = none) : a ≠ c := let ⟨_, q⟩ := h; ne_of_none q n
theorem Rx.up {X : List Addr} {H H1 : Hp} (a : Rx [] H H1) : Rx X H H1 := a.sub fun x hx => nomatch hx
theorem Rx.none {H H1 : Hp} {a : Addr} (e : Rx [] H H1) (h : H1 a = none) : H a = none := by
  cases q : H a with
  | none => rfl
  | some o => rw [e a o (fun m => nomatch m) q] at h; cases h
section
variable {P : Program} {w : World} {K : PySem.W.Frag} {mg : Str → Option Value} {base : Heap}

/-! ### _law_least -/
abbrev N__law_least : List Str := ["_law_house", "_law_rules_here", "_law_spots_here", "_law_ways_here", "_law_known", "_law_waiting"]
theorem sc__law_least : FnScope N__law_least ["_law_house", "_law_rules_here"] (defScope (top 190)) := ⟨rfl, rfl, rfl, by decide +kernel, rfl, by decide +kernel, by decide +kernel⟩
theorem D__law_least (T : Top K mg) : Dn P w K mg base "_law_least" 4 ["_law_house", "_law_rules_here"] (spLeast P w) := by
  refine T.dnS 38 rfl rfl sc__law_least (fun _ _ _ _ _ _ us h => match us, h with | [_, _], _ => rfl) (fun vs H Q E h => ?_) fun f cdv A0 outer s H vs Q E hr h => ?_
  · obtain ⟨p, S, v, rv, h, rs, rfl, _⟩ := h
    rfl
  refine ⟨_, pss_cons (ps_par3 (i := 3) (j := 4) (l := 5) (by rfl) sc__law_least.nd rfl rfl rfl (by decide) (by decide) (by decide) rfl rfl rfl (pa_cons (pe_dn ((D__law_ways T).up (by decide)) hr (by rfl) (pa_cons (pv 0) pa_nil)) (pa_cons (pe_tup (pa_cons (pe_callTy (cr_dict0 rfl) (by rfl) T.f_dict bb_dict (pa_cons (pe_lst pa_nil) pa_nil)) (pa_cons (pe_callTy (cr_dict0 rfl) (by rfl) T.f_dict bb_dict (pa_cons (pe_lst pa_nil) pa_nil)) (pa_cons (pe_callTy (cr_dict0 rfl) (by rfl) T.f_dict bb_dict (pa_cons (pe_lst pa_nil) pa_nil)) pa_nil)))) (pa_cons (pe_lst pa_nil) pa_nil))) (by rfl))
    (pss_cons (ps_set (i := 2) sc__law_least.nd rfl (Or.inl rfl) (pe_dn ((D__law_spots T).up (by decide)) hr (by rfl) (pa_cons (pv 3) (pa_cons (pe_ix ix_seq (pv 0) pe_int (fun _ _ => rfl)) pa_nil))))
    (pss_cons (ps_expr (pe_dn ((D__law_offer T).up (by decide)) hr (by rfl) (pa_cons (pe_ix ix_seq (pv 4) pe_int (fun _ _ => rfl)) (pa_cons (pv 5) (pa_cons (pe_tup (pa_cons (pe_ix ix_seq (pv 0) pe_int (fun _ _ => rfl)) (pa_cons (pe_ix ix_seq (pv 0) pe_int (fun _ _ => rfl)) pa_nil))) (pa_cons (pe_tup (pa_cons pe_int (pa_cons pe_int pa_nil))) pa_nil))))))
    (pss_cons (ps_while PassesOwn.never (pt_cmpR (op_neD (hu_64 hr)) (pv 5) (pe_lst pa_nil) (nomark _))
      (pss_one (ps_expr (pe_dn ((D__law_go_on T).up (by decide)) hr (by rfl) (pa_cons (pv 4) (pa_cons (pv 5) (pa_cons (pe_bm PySem.F.plainAttrs_list PySem.F.slot_list_pop PySem.F.type_list_pop mt_popAt (pv 5) (pa_cons pe_int pa_nil)) (pa_cons (pv 2) (pa_cons (pv 3) (pa_cons (pv 1) pa_nil))))))))))
    (pss_one (ps_ret (pv 4)))))), ?_⟩
  obtain ⟨p, S, v, rv, h, rs, rfl, a1, aru, g, hr, Pn, q⟩ := h
  refine ⟨v, rfl, p, S, v, h, rfl, a1, g, Pn, fun dW H1 ways e1 P1 nw nW wk hdW => ?_⟩
  refine t_ndict P1 fun dP H2 hP e2 P2 nP sP => ?_
  refine t_ndict P2 fun dL H3 hL e3 P3 nL sL => ?_
  refine t_ndict P3 fun dT H4 hT e4 P4 nT sT => ?_
  refine ⟨by show 3 ≤ sizeLine; decide, fun kn hkn => ⟨Nat.zero_le _, fun qa hq => ⟨.ref dW, .ref kn, .ref qa, rfl, ?_⟩⟩⟩
  have P5 := P4.new (o := .tup [.ref dP, .ref dL, .ref dT]) hkn
  have sq := P5.ne hq
  have P6 : Pen p (qa :: dT :: dL :: dP :: S) _ := (P5.new (o := .lst []) hq).more ⟨_, upd_same⟩
  have e5 : Rx [] H4 (upd H4 kn (.tup [.ref dP, .ref dL, .ref dT])) := Rx.new hkn
  have e6 : Rx [] (upd H4 kn (.tup [.ref dP, .ref dL, .ref dT])) (upd (upd H4 kn (.tup [.ref dP, .ref dL, .ref dT])) qa (.lst [])) := Rx.new hq
  have hkn6 : (upd (upd H4 kn (.tup [.ref dP, .ref dL, .ref dT])) qa (.lst [])) kn = some (.tup [.ref dP, .ref dL, .ref dT]) := e6 _ _ (fun m => nomatch m) upd_same
  have hq6 : (upd (upd H4 kn (.tup [.ref dP, .ref dL, .ref dT])) qa (.lst [])) qa = some (.lst []) := upd_same
  have knp : kn ≠ p.1 := P4.nep hkn
  generalize upd H4 kn (.tup [.ref dP, .ref dL, .ref dT]) = H5 at P5 P6 e5 e6 hkn6 hq6 hq ⊢
  generalize upd H5 qa (.lst []) = H6 at P6 e6 hkn6 hq6 ⊢
  have tr : ∀ {v d}, At S H1 v d → At (qa :: dT :: dL :: dP :: S) H6 v d := fun a =>
    (((((((a.avoid hP).monoX e2 nil_sub).avoid hL).monoX e3 nil_sub).avoid hT).monoX e4 nil_sub).monoX e5 nil_sub |>.avoid hq).monoX e6 nil_sub
  have nW6 : NDict P w (qa :: dT :: dL :: dP :: S) H6 dW ways :=
    (((((((nW.avoid hP).rx e2 (fun m => nomatch m) nil_sub).avoid hL).rx e3 (fun m => nomatch m) nil_sub).avoid hT).rx e4 (fun m => nomatch m) nil_sub).rx e5 (fun m => nomatch m) nil_sub |>.avoid hq).rx e6 (fun m => nomatch m) nil_sub
  have tW := nW.there
  have tP := nP.there
  have tL := nL.there
  have tT := nT.there
  have A : Ad p (qa :: dT :: dL :: dP :: S) dP dL dT qa := {
    mP := by simp
    mL := by simp
    mT := by simp
    mq := by simp
    PL := ne_new tP hL
    PT := ne_new (e3.at' tP) hT
    LT := ne_new tL hT
    Pq := ne_new (e5.at' (e4.at' (e3.at' tP))) hq
    Lq := ne_new (e5.at' (e4.at' tL)) hq
    Tq := ne_new (e5.at' tT) hq
    P1 := P1.nep hP
    L1 := P2.nep hL
    T1 := P3.nep hT
    q1 := P5.nep hq
    P2 := fun e => sP (e ▸ Pn.mem2)
    L2 := fun e => sL (List.mem_cons_of_mem _ (e ▸ Pn.mem2))
    T2 := fun e => sT (List.mem_cons_of_mem _ (List.mem_cons_of_mem _ (e ▸ Pn.mem2)))
    q2 := fun e => sq (List.mem_cons_of_mem _ (List.mem_cons_of_mem _ (List.mem_cons_of_mem _ (e ▸ Pn.mem2)))) }
  have nWX : dW ∉ [dP, dL, dT, qa] := by
    simp only [List.mem_cons, List.not_mem_nil, or_false, not_or]
    exact ⟨ne_new tW hP, ne_new (e2.at' tW) hL, ne_new (e3.at' (e2.at' tW)) hT, ne_new (e5.at' (e4.at' (e3.at' (e2.at' tW)))) hq⟩
  have nW1 : dW ≠ p.1 := fun e => nw (e ▸ Pn.mem)
  have L6 : Led P w (qa :: dT :: dL :: dP :: S) H6 dP dL dT qa ([], [], []) [] := ⟨nP.emp (((e3.trans e4).trans e5).trans e6), nL.emp ((e4.trans e5).trans e6), nT.emp (e5.trans e6), [], hq6, .nil⟩
  have e06 : Rx [] H H6 := ((((e1.trans e2).trans e3).trans e4).trans e5).trans e6
  have b1 := tr (a1.monoX e1 nil_sub)
  have bru := tr (aru.monoX e1 nil_sub)
  have z1 : H dP = none := Rx.none e1 hP
  have z2 : H dL = none := Rx.none e1 (Rx.none e2 hL)
  have z3 : H dT = none := Rx.none e1 (Rx.none e2 (Rx.none e3 hT))
  have z4 : H qa = none := Rx.none e1 (Rx.none e2 (Rx.none e3 (Rx.none e4 (Rx.none e5 hq))))
  clear e1 e2 e3 e4 e5 e6 nP nL nT tP tL tT tW nW tr hP hL hT hkn hq hq6 P1 P2 P3 P4 P5
  dsimp only [gName]
  refine ⟨.ref dW, rfl, (ev_ixN (b := false) (p := p) (S := qa :: dT :: dL :: dP :: S) (j := 1) (z := h.bg) (ev_var rfl b1) ev_int rfl rfl) H6 Rl.refl P6 _ fun u H7 z e7 P7 a7 r7 => ?_⟩
  subst r7
  refine ⟨p, _, dW, u, ways, h, rfl, a7, g, P7, nW6.rl e7 nW1 P6.mem, wk, nW1, fun spv H8 sp e8 P8 asp hsc hsl => ?_⟩
  have e78 := e7.trans e8
  have c1 := b1.mono e78 P6.mem
  have cru := bru.mono e78 P6.mem
  have hkn8 := e78 _ _ (fun _ => knp) hkn6
  have nW8 := nW6.rl e78 nW1 P6.mem
  have L8 := L6.rl A e78 P6.mem
  have e08 : Rl false p H H8 := e06.nil.trans e78
  clear e06 b1 bru hkn6 nW6 L6 e7 e8 P6 P7 e78 a7
  have m1 : plK h.bg h.bg ∈ allK h := mem_P ⟨_, _, rfl, g.bg, g.bg⟩
  have Hb : Ev false p (qa :: dT :: dL :: dP :: S) (tOp (rIx K) (tVar 0) (tC (.int 1))) [some v, some rv, some spv, some (.ref dW), some (.ref kn), some (.ref qa)] H8 fun z => z = h.bg := ev_ixN (j := 1) (ev_var rfl c1) ev_int rfl rfl
  refine s_off0 (g := g) (ways := ways) (wk := wk) (rs := rs) (spots := sp) (hr := hr) (s := ([], [], [])) (ds := []) (k := plK h.bg h.bg) (c := (0, 0)) (j := 5) (td := tOp (rIx K) (tVar 4) (tC (.int 0))) (fun Q f => ⟨_, rfl, .inr (.inl ⟨kn, _, 0, .ref dP, rfl, rfl, SqT.of hkn8, rfl, f⟩)⟩) rfl (ev_tupK (ea_two Hb Hb) (by show 2 ≤ 100000; decide)) (ev_tupK (ea_two ev_int ev_int)) L8 ⟨DOk.nil, DOk.nil, DOk.nil⟩ m1 (by show 0 < 1000000; decide) A P8 fun H9 e9 P9 L9 => ?_
  rw [off1] at L9
  obtain ⟨n0, hn0⟩ := runs1 (g := g) (ways := ways) (wk := wk) (rs := rs) (spots := sp) (hr := hr)
  have sub := A.sub
  refine ⟨fun m σ' H' => ∃ s ds, σ' = [some v, some rv, some spv, some (.ref dW), some (.ref kn), some (.ref qa)] ∧ Net.Runs (netOf h g ways wk rs sp hr) 460000 s ds m ∧ Ok3 h s ∧ (ds = [plK h.bg h.bg] ∨ ∀ i ≤ h.ks.length, (val3 s (thK i h.bg h.bg)).isSome = true) ∧ (∀ k ∈ ds, k ∈ allK h) ∧ Rx [dP, dL, dT, qa] H8 H' ∧ Pen p (qa :: dT :: dL :: dP :: S) H' ∧ Led P w (qa :: dT :: dL :: dP :: S) H' dP dL dT qa s ds,
    ⟨n0, s1 h, _, rfl, hn0, s1_ok g, .inl rfl, fun k hk => by rw [List.mem_singleton.mp hk]; exact m1, e9, P9, L9⟩, ?_⟩
  rintro m σ' H' ⟨s, ds, rfl, hn, ok, st, hall, ex, P', L'⟩
  refine (et_qne (b := false) (p := p) (S := qa :: dT :: dL :: dP :: S) (i := 5) rfl A.q1 L'.lq ((Flat.lst fun d hd => keys_flat g (hall d hd)).shaped (by decide))) H' Rl.refl P' _ fun k H10 e10 P10 hk => ?_
  subst hk
  have L10 := L'.rl A e10 P'.mem
  have ex10 : Rx [dP, dL, dT, qa] H8 H10 := ex.trans (Rx.of0 e10)
  have kX : kn ∉ [dP, dL, dT, qa] := by
    simp only [List.mem_cons, List.not_mem_nil, or_false, not_or]
    obtain ⟨_, hxP, _⟩ := L8.nP.ex
    obtain ⟨_, hxL, _⟩ := L8.nL.ex
    obtain ⟨_, hxT, _⟩ := L8.nT.ex
    obtain ⟨_, hxq, _⟩ := L8.lq.ex
    exact ⟨fun e => (by rw [e, hxP] at hkn8; cases hkn8), fun e => (by rw [e, hxL] at hkn8; cases hkn8), fun e => (by rw [e, hxT] at hkn8; cases hkn8), fun e => (by rw [e, hxq] at hkn8; cases hkn8)⟩
  cases hn with
  | done =>
    have T : ∀ i ≤ h.ks.length, (kget s.2.2 (thK i h.bg h.bg)).isSome = true := fun i hi => by
      rcases st with st | st
      · cases st
      · have := st i hi
        unfold val3 at this
        rw [pick_3 (show kLen (thK i h.bg h.bg) = 3 from rfl)] at this
        exact kget_val this
    have e0 : Rl false p H H10 := by
      have : Rx [dP, dL, dT, qa] H H10 := (Rx.of0 e08).trans ex10
      exact ((((this.drop z1).drop z2).drop z3).drop z4).nil
    refine ⟨.ref kn, rfl, q kn dP dL dT H10 s.2.2 e0 ((((P10.tail ?_ ?_).tail ?_ ?_).tail ?_ ?_).tail Pn.mem Pn.mem2) (ex10 _ _ kX hkn8) knp L10.nT.less.less.less.less A.T1 ok.T T⟩ <;> simp [Pn.mem, Pn.mem2]
  | step hlr hok hka hkv hrun =>
    rename_i k r n
    refine ⟨fun σ2 H2 => ∃ s' ds', σ2 = [some v, some rv, some spv, some (.ref dW), some (.ref kn), some (.ref qa)] ∧ Net.Runs (netOf h g ways wk rs sp hr) 460000 s' ds' n ∧ Ok3 h s' ∧ (ds' = [plK h.bg h.bg] ∨ ∀ i ≤ h.ks.length, (val3 s' (thK i h.bg h.bg)).isSome = true) ∧ (∀ k ∈ ds', k ∈ allK h) ∧ Rx [dP, dL, dT, qa] H8 H2 ∧ Pen p (qa :: dT :: dL :: dP :: S) H2 ∧ Led P w (qa :: dT :: dL :: dP :: S) H2 dP dL dT qa s' ds', fun σ2 H2 hw => ⟨n, Nat.lt_succ_self _, hw⟩, ?_⟩
    obtain ⟨xs, hx, rx⟩ := L10.lq.ex
    cases rx with
    | cons ay ry =>
      rename_i y ys
      have st' : k = plK h.bg h.bg ∨ ∀ i ≤ h.ks.length, (val3 s (thK i h.bg h.bg)).isSome = true := st.imp (fun e => (List.cons.inj e).1) id
      have ip := inv_pop (g := g) (ways := ways) (wk := wk) (rs := rs) (spots := sp) (hr := hr) r ok hka hkv st'
      have g2 := ((netOf h g ways wk rs sp hr).offs_ok s k ok hka hkv).2
      have sp2 := (netOf h g ways wk rs sp hr).fold (x := (netOf h g ways wk rs sp hr).cls k) _ s r g2
      have eP : Rx [qa] H10 (upd H10 qa (.lst ys)) := Rx.put List.mem_cons_self
      have subq : ∀ x ∈ [qa], x ∈ qa :: dT :: dL :: dP :: S := fun x hx => by rw [List.mem_singleton.mp hx]; exact List.mem_cons_self
      have eX : Rx [dP, dL, dT, qa] H10 (upd H10 qa (.lst ys)) := eP.sub fun x hx => by rw [List.mem_singleton.mp hx]; simp
      have e8a := ex10.trans eX
      refine ⟨_, rfl, _, rfl, _, rfl, .inl ⟨rfl, _, SqL.of hx⟩, ⟨qa, _, 0, 0, y, rfl, rfl, hx, by decide, by decide, by simp [seqIndex?], rfl, ⟨_, rfl, _, rfl, _, rfl, ?_⟩⟩⟩
      refine ⟨p, _, kn, qa, dW, dP, dL, dT, y, spv, rv, h, g, ways, wk, rs, sp, hr, s, r, k, rfl, ay.monoX eP subq, asp.monoX e8a sub, cru.monoX e8a sub, e8a _ _ kX hkn8, P10.put A.q1 A.q2, A, nW8.rx e8a nWX sub, nWX, nW1,
        ⟨L10.nP.rx eP (fun m => A.Pq (List.mem_singleton.mp m)) subq, L10.nL.rx eP (fun m => A.Lq (List.mem_singleton.mp m)) subq, L10.nT.rx eP (fun m => A.Tq (List.mem_singleton.mp m)) subq, ys, upd_same, ry.monoX eP subq⟩, ok, hka, hkv, hsc, hsl, hlr, fun H12 e12 P12 L12 => ?_⟩
      refine ⟨_, _, rfl, hrun, ip.1, .inr ip.2, fun k' hk' => ?_, e8a.trans e12, P12, L12⟩
      obtain ⟨mm, em, hm⟩ := sp2.more
      have hk2 : k' ∈ r ++ mm := by
        rw [← em]
        exact hk'
      rcases List.mem_append.mp hk2 with h1 | h1
      · exact hall k' (List.mem_cons_of_mem _ h1)
      · exact (hm k' h1).1

end
end Mv
namespace Mv
open PySem PySem.Spec PyProof.Rows L2 He
/-- what _law_least has told stands at kn -/
def Kno (P : Program) (w : World) (p : Addr × Addr) (S : List Addr) (H : Hp) (h : Hou) (kn : Addr) : Prop := ∃ dP dL dT T, H kn = some (.tup [.ref dP, .ref dL, .ref dT]) ∧ kn ≠ p.1 ∧ NDict P w S H dT T ∧ dT ≠ p.1 ∧ DOk (kT h) T ∧ ∀ i ≤ h.ks.length, (kget T (thK i h.bg h.bg)).isSome = true
theorem Kno.rl {P : Program} {w : World} {b : Bool} {p : Addr × Addr} {S : List Addr} {H H' : Hp} {h : Hou} {kn : Addr} (k : Kno P w p S H h kn) (e : Rl b p H H') (m : p.1 ∈ S) : Kno P w p S H' h kn :=
  let ⟨dP, dL, dT, T, h1, h2, h3, h4, h5, h6⟩ := k
  ⟨dP, dL, dT, T, e _ _ (fun _ => h2) h1, h2, h3.rl e h4 m, h4, h5, h6⟩
def isPrs (h : Hou) (z : PyData) : Prop := ∃ zs, z = .tuple zs ∧ zs ≠ [] ∧ zs.length ≤ 36 ∧ ∀ x ∈ zs, kP h x
theorem prs_len {h : Hou} (g : Good h) : (prs h).length ≤ 36 := by
  have hc := (conts_len g.zs).2
  have := flatMap_le (f := fun a => (conts h.zs).map fun c => (a, c)) (l := conts h.zs) (m := 6) fun a _ => by rw [List.length_map]; exact hc
  unfold prs
  omega
def spPO (P : Program) (w : World) : Sp := fun vs H Q _ => ∃ (p : Addr × Addr) (S : List Addr) (kn : Addr) (h : Hou) (i : Nat), vs = [.ref kn, .int (i : Int)] ∧ Kno P w p S H h kn ∧ Good h ∧ i ≤ h.ks.length ∧ Pen p S H ∧ ∀ v H' z, Rl false p H H' → Pen p S H' → At S H' v z → isPrs h z → Q v H'
theorem kget_key {kvs : KVD} {k : PyData} (h : (kget kvs k).isSome = true) : ∃ kv ∈ kvs, keyN kv.1 = keyN k := by
  unfold kget at h
  cases e : kvs.find? fun kv => decide (keyN kv.1 = keyN k) with
  | none => rw [e] at h; cases h
  | some kv => exact ⟨kv, List.mem_of_find?_eq_some e, of_decide_eq_true (List.find?_some (p := fun kv : PyData × PyData => decide (keyN kv.1 = keyN k)) e)⟩
theorem thK_alike {h : Hou} {k k' : PyData} (m : kT h k) (m' : kT h k') : W.alike k k' = true := by
  obtain ⟨i, a, c, rfl, _, ha, hc⟩ := m
  obtain ⟨i', a', c', rfl, _, ha', hc'⟩ := m'
  unfold thK
  rw [W.alike, W.alikeAll, W.alikeAll, W.alikeAll, isCont_alike ha ha', isCont_alike hc hc']
  rfl
theorem nodup_map_on {α β : Type} {f : α → β} : ∀ {l : List α}, l.Nodup → (∀ x ∈ l, ∀ y ∈ l, f x = f y → x = y) → (l.map f).Nodup
  | [], _, _ => List.nodup_nil
  | a :: l, h, k => by
    obtain ⟨h1, h2⟩ := List.nodup_cons.mp h
    rw [List.map_cons]
    refine List.nodup_cons.mpr ⟨fun m => ?_, nodup_map_on h2 fun x hx y hy => k x (List.mem_cons_of_mem _ hx) y (List.mem_cons_of_mem _ hy)⟩
    obtain ⟨x, hx, e⟩ := List.mem_map.mp m
    exact h1 (k x (List.mem_cons_of_mem _ hx) a List.mem_cons_self e ▸ hx)
theorem pairs_ok {h : Hou} (g : Good h) {T : KVD} {ds zs : List PyData} {i : Nat} (d : DOk (kT h) T) (all : ∀ i ≤ h.ks.length, (kget T (thK i h.bg h.bg)).isSome = true) (hi : i ≤ h.ks.length) (pm : ds.Perm (T.map (·.1)))
    (c : Cmp (fun x k => k = PyData.eqv (nth x 0) (.int (i : Int))) (fun x z => z = .tuple [nth x 1, nth x 2]) ds zs) : isPrs h (.tuple zs) := by
  have hk : ∀ x ∈ ds, kT h x := fun x hx => by
    obtain ⟨kv, h1, rfl⟩ := List.mem_map.mp (pm.mem_iff.mp hx)
    exact (d.ok kv h1).1
  have nd : ds.Nodup := pm.nodup_iff.mpr d.once
  have e := Cmp.fn c
  subst e
  have hz : ∀ x ∈ (ds.filter fun x => PyData.eqv (nth x 0) (.int (i : Int))).map (fun x => PyData.tuple [nth x 1, nth x 2]), kP h x := fun x hx => by
    obtain ⟨y, hy, rfl⟩ := List.mem_map.mp hx
    obtain ⟨j, a, c, rfl, _, ha, hc⟩ := hk y (List.mem_filter.mp hy).1
    exact ⟨a, c, rfl, ha, hc⟩
  refine ⟨_, rfl, fun e => ?_, ?_, hz⟩
  · obtain ⟨kv, h1, h2⟩ := kget_key (all i hi)
    have mT := (d.ok kv h1).1
    have ek : kv.1 = thK i h.bg h.bg := keyN_inj (key_ok g (mem_T mT)).1 (key_ok g (mem_T ⟨i, _, _, rfl, hi, g.bg, g.bg⟩)).1 h2
    have hm : thK i h.bg h.bg ∈ ds := pm.mem_iff.mpr (List.mem_map.mpr ⟨kv, h1, ek⟩)
    have : thK i h.bg h.bg ∈ ds.filter fun x => PyData.eqv (nth x 0) (.int (i : Int)) := List.mem_filter.mpr ⟨hm, by simp [thK, nth, items, PyData.eqv]⟩
    rw [List.map_eq_nil_iff.mp e] at this
    cases this
  · have nd2 : ((ds.filter fun x => PyData.eqv (nth x 0) (.int (i : Int))).map (fun x => PyData.tuple [nth x 1, nth x 2])).Nodup := nodup_map_on (nd.sublist List.filter_sublist) fun x hx y hy e => by
      obtain ⟨hx1, hx2⟩ := List.mem_filter.mp hx
      obtain ⟨hy1, hy2⟩ := List.mem_filter.mp hy
      obtain ⟨j, a, c, rfl, _⟩ := hk x hx1
      obtain ⟨j', a', c', rfl, _⟩ := hk y hy1
      have e1 : (j : Int) = i := by simpa [thK, nth, items, PyData.eqv] using hx2
      have e2 : (j' : Int) = i := by simpa [thK, nth, items, PyData.eqv] using hy2
      have e3 := PyData.tuple.inj e
      obtain ⟨e4, e5⟩ := List.cons.inj e3
      obtain ⟨e5, _⟩ := List.cons.inj e5
      have e4' : a = a' := e4
      have e5' : c = c' := e5
      rw [e4', e5']
      unfold thK
      rw [e1, e2]
    have := Net.nodup_le nd2 (l := (prs h).map fun x => plK x.1 x.2) fun x hx => by
      obtain ⟨a, c, rfl, ha, hc⟩ := hz x hx
      exact List.mem_map.mpr ⟨(a, c), mem_prs ha hc, rfl⟩
    rw [List.length_map (f := fun x : PyData × PyData => plK x.1 x.2)] at this
    exact Nat.le_trans this (prs_len g)
section
variable {P : Program} {w : World} {K : PySem.W.Frag} {mg : Str → Option Value} {base : Heap}

/-! ### _law_pairs_of -/
abbrev N__law_pairs_of : List Str := ["_law_known", "_law_item_here", "_law_key"]
theorem sc__law_pairs_of : FnScope N__law_pairs_of ["_law_known", "_law_item_here"] (defScope (top 191)) := ⟨rfl, rfl, rfl, by decide +kernel, rfl, by decide +kernel, by decide +kernel⟩
theorem D__law_pairs_of (T : Top K mg) : Dn P w K mg base "_law_pairs_of" 1 ["_law_known", "_law_item_here"] (spPO P w) := by
  refine T.dnS 39 rfl rfl sc__law_pairs_of (fun _ _ _ _ _ _ us h => match us, h with | [_, _], _ => rfl) (fun vs H Q E h => ?_) fun f cdv A0 outer s H vs Q E hr h => ?_
  · obtain ⟨p, S, kn, h, i, rfl, _⟩ := h
    rfl
  refine ⟨_, pss_one (ps_ret (pe_callTy cr_tupOf (by rfl) T.f_tuple bb_tuple (pa_cons (pe_lc (own := [("_law_key", 2)]) rfl sc__law_pairs_of.nd (pi_list (pe_callB (cr_sortN rfl (hu_64 hr)) (by rfl) T.f_sorted bb_sorted (pa_cons (pe_ix ix_seq (pv 0) pe_int (fun _ _ => rfl)) pa_nil))) (blkOk_by (N := N__law_pairs_of) (sc := defScope (top 191)) (by decide +kernel)) (fun _ _ _ _ _ => (pg_name (i := 2) sc__law_pairs_of.nd rfl (Or.inl rfl))) (fun _ _ _ _ _ => pts_one (pt_cmpR (op_eqDk (K := K) rfl (hu_64 hr)) (pe_ix (ix_seqk (K := K) rfl) (pv 2) pe_int (fun _ _ => rfl)) (pv 1) (nomark _))) (fun _ _ _ _ _ => (pe_slice (sl_tupAk (K := K) rfl) (pv 2) (po_some pe_int) po_none))) pa_nil))), ?_⟩
  obtain ⟨p, S, kn, h, i, rfl, kno, g, hi, Pn, q⟩ := h
  obtain ⟨dP, dL, dT, T, h1, h2, n, h4, d, all⟩ := id kno
  have tm : ∀ x ∈ T.map (·.1), kT h x := fun x hx => by
    obtain ⟨kv, h1, rfl⟩ := List.mem_map.mp hx
    exact (d.ok kv h1).1
  have tl : T.length ≤ 468 := Nat.le_trans (d.len fun _ => mem_T) (all_len g)
  refine s_ret (b := false) (R := isPrs h) ((ev_tupR (Rs := fun zs => isPrs h (.tuple zs)) ((ev_lcLR (Rs := fun ds => ds.Perm (T.map (·.1))) (Z := fun x k => k = PyData.eqv (nth x 0) (.int (i : Int))) (E := fun x z => z = .tuple [nth x 1, nth x 2])
    (fun H1 e P1 Q1 q1 => ⟨_, rfl, .inr (.inl ⟨kn, _, 2, .ref dT, rfl, rfl, SqT.of (e _ _ (fun _ => h2) h1), rfl, S, dT, T, rfl, n.rl e h4 Pn.mem, fun a ha c hc => thK_alike (tm a ha) (tm c hc), .inl fun x hx => (by obtain ⟨j, a, c, rfl, _⟩ := tm x hx; exact ⟨_, _, rfl⟩), fun l vs ds' hl at' pm => q1 _ _ _ (Rl.new hl) (P1.new hl) (at_new_lst P1 hl at') ⟨ds', rfl, pm⟩⟩)⟩)
    (fun ds pm => by have := pm.length_eq; rw [List.length_map] at this; omega) (fun _ => rfl) (fun ds pm A2 H3 e3 P3 hA2 x u H4 hx e4 P4 au => ?_) fun ds pm A2 H3 e3 P3 hA2 x u H4 hx e4 P4 au _ => ?_).imp fun z ⟨ds, zs, pm, e, c⟩ => ⟨zs, e, pairs_ok g d all hi pm c⟩)).imp fun z ⟨zs, e, r⟩ => e ▸ r) Pn fun v H1 z e1 P1 a1 r => q v H1 z e1 P1 a1 r
  · obtain ⟨j, a, c, rfl, _⟩ := tm x (pm.mem_iff.mp hx)
    exact et_c (ev_eqD (ev_ixN (j := 0) (ev_var rfl au) ev_int rfl rfl) (ev_var rfl (.int _)) rfl rfl)
  · obtain ⟨j, a, c, rfl, _⟩ := tm x (pm.mem_iff.mp hx)
    exact ev_eq (ev_slT (ev_var rfl au) (eo_some ev_int) eo_none) rfl

/-- pairs_of, called -/
theorem ev_prs {b : Bool} {p : Addr × Addr} {S : List Addr} {σ : L2.St} {H : Hp} {te : TE} {h : Hou} {kn : Addr} {i j : Nat} (h0 : σ[j]? = some (some (.ref kn))) (hk : Kno P w p S H h kn) (g : Good h) (hi : i ≤ h.ks.length) (ht : Ev b p S te σ H fun z => z = .int (i : Int)) (m : p.1 ∈ S) :
    Ev b p S (tCall (spPO P w) [] E0 (tCons (tVar j) (tCons te tNil))) σ H (isPrs h) := fun H1 e P1 Q q => ⟨_, h0, ht H1 e P1 _ fun v H2 z e2 P2 a2 r => by
  subst r
  cases a2
  exact ⟨p, S, kn, h, i, rfl, hk.rl (e.trans e2) m, g, hi, P2, fun v H3 z e3 P3 a3 r => q v H3 z (e2.trans e3.of) P3 a3 r⟩⟩
theorem et_gt0 {b : Bool} {p : Addr × Addr} {S : List Addr} {σ : L2.St} {H : Hp} {te : TE} {m : Int} (h : Ev b p S te σ H (isDr m)) : EvT b p S (tTest (tOp (rI0 fun i j => .bl (decide (i > j))) te (tC (.int 0)))) σ H fun _ => True :=
  et_test ((ev_op (R := fun z => ∃ k, z = .bool k) h ev_int fun d e h1 h2 x y H1 P a1 a2 Q q => by
    obtain ⟨i, rfl, _⟩ := h1
    subst h2
    cases a1
    cases a2
    exact ⟨i, 0, rfl, rfl, q _ H1 _ Rl.refl P (.bl _) ⟨_, rfl⟩⟩).imp fun z ⟨k, e⟩ => ⟨k, e, trivial⟩)
def spSP (P : Program) (w : World) (R : Hou → PyData → Prop) : Sp := fun vs H Q _ => ∃ (p : Addr × Addr) (S : List Addr) (kn : Addr) (h : Hou) (hv : V) (i : Nat), vs = [.ref p.1, hv, .ref kn, .int (i : Int)] ∧ At S H hv h.d ∧ Kno P w p S H h kn ∧ Good h ∧ i ≤ h.ks.length ∧ Pen p S H ∧ ∀ v H' z, Rl true p H H' → Pen p S H' → At S H' v z → R h z → Q v H'
def isCP (h : Hou) (z : PyData) : Prop := ∃ zs, z = .tuple zs ∧ zs.length ≤ 37 ∧ ∀ x ∈ zs, kP h x
theorem kP_elt {h : Hou} {x : PyData} (m : kP h x) : EltOk x := by
  obtain ⟨a, c, rfl, ha, hc⟩ := m
  have ea := cont_elt ha
  have ec := cont_elt hc
  have ka := cont_key ha
  have kc := cont_key hc
  refine ⟨?_, rfl, ?_, ?_⟩
  · simp [plK, keyOkD, keyOkDs, ea.key, ec.key]
  · simp [plK, keyN, keyNs, numK, numKs, ea.num, ec.num]
  · simp [plK, keyN, keyNs, NestedKey.depth, NestedKey.depthAll, ka.2.2, kc.2.2]
theorem kP_alike {h : Hou} {k k' : PyData} (m : kP h k) (m' : kP h k') : W.alike k k' = true := by
  obtain ⟨a, c, rfl, ha, hc⟩ := m
  obtain ⟨a', c', rfl, ha', hc'⟩ := m'
  unfold plK
  rw [W.alike, W.alikeAll, W.alikeAll, isCont_alike ha ha', isCont_alike hc hc']
  rfl
theorem kP_cons {h : Hou} {k : PyData} (m : kP h k) : ∃ x r, k = .tuple (x :: r) := by
  obtain ⟨a, c, rfl, _⟩ := m
  exact ⟨_, _, rfl⟩
theorem ev_more {p : Addr × Addr} {S : List Addr} {σ : L2.St} {H : Hp} {te : TE} {h : Hou} (hv : Ev true p S te σ H fun z => z = h.d) (g : Good h) (h0 : σ[0]? = some (some (.ref p.1))) :
    Ev true p S (tTup (tCons (tCall (spP 1 R_one Pre_one) [] E0 (tCons (tVar 0) (tCons (tCall (spF false 1 f_conts PreZ) [] E0 (tCons te tNil)) tNil))) (tCons (tCall (spP 1 R_one Pre_one) [] E0 (tCons (tVar 0) (tCons (tCall (spF false 1 f_conts PreZ) [] E0 (tCons te tNil)) tNil))) tNil))) σ H (kP h) :=
  (ev_tup (Rs := fun l => ∃ a c, l = [a, c] ∧ isCont h.zs a = true ∧ isCont h.zs c = true) ((ea_m (ev_oneC hv g.zs h0) (ea_1 (ev_oneC hv g.zs h0))).imp fun l ⟨a, r, e, ha, c, e2, hc⟩ => ⟨a, c, by rw [e, e2], ha, hc⟩) fun l ⟨_, _, e, _⟩ => by rw [e]; simp).imp fun z ⟨l, e, a, c, e2, ha, hc⟩ => ⟨a, c, by rw [e, e2]; rfl, ha, hc⟩

/-! ### _law_some_pair -/
abbrev N__law_some_pair : List Str := ["_law_pen_here", "_law_house", "_law_known", "_law_item_here"]
theorem sc__law_some_pair : FnScope N__law_some_pair ["_law_pen_here", "_law_house", "_law_known", "_law_item_here"] (defScope (top 194)) := ⟨rfl, rfl, rfl, by decide +kernel, rfl, by decide +kernel, by decide +kernel⟩
theorem D__law_some_pair (T : Top K mg) : Dn P w K mg base "_law_some_pair" 4 ["_law_pen_here", "_law_house", "_law_known", "_law_item_here"] (spSP P w kP) := by
  refine T.dnS 42 rfl rfl sc__law_some_pair (fun _ _ _ _ _ _ us h => match us, h with | [_, _, _, _], _ => rfl) (fun vs H Q E h => ?_) fun f cdv A0 outer s H vs Q E hr h => ?_
  · obtain ⟨p, S, kn, h, hv, i, rfl, _⟩ := h
    rfl
  refine ⟨_, pss_cons (ps_if (pt_cmpR op_gt (pe_dn ((D__law_draw T).up (by decide)) hr (by rfl) (pa_cons (pv 0) (pa_cons pe_int pa_nil))) pe_int (nomark _))
      (pss_one (ps_ret (pe_dn ((D__law_one_of T).up (by decide)) hr (by rfl) (pa_cons (pv 0) (pa_cons (pe_dn ((D__law_pairs_of T).up (by decide)) hr (by rfl) (pa_cons (pv 2) (pa_cons (pv 3) pa_nil))) pa_nil)))))
      (pss_nil))
    (pss_one (ps_ret (pe_tup (pa_cons (pe_dn ((D__law_one_of T).up (by decide)) hr (by rfl) (pa_cons (pv 0) (pa_cons (pe_dn ((D__law_contents T).up (by decide)) hr (by rfl) (pa_cons (pv 1) pa_nil)) pa_nil))) (pa_cons (pe_dn ((D__law_one_of T).up (by decide)) hr (by rfl) (pa_cons (pv 0) (pa_cons (pe_dn ((D__law_contents T).up (by decide)) hr (by rfl) (pa_cons (pv 1) pa_nil)) pa_nil))) pa_nil))))), ?_⟩
  obtain ⟨p, S, kn, h, hv, i, rfl, ah, kno, g, hi, Pn, q⟩ := h
  refine s_if (b := true) (et_gt0 (ev_draw (m := 3) ev_int rfl (by decide) (by decide))) Pn (fun _ H1 e1 P1 => ?_) (fun _ H1 e1 P1 => ?_)
  · refine s_ret (b := true) (R := kP h) (fun H2 e2 P2 Q2 q2 => ⟨_, rfl, (ev_prs (b := true) (p := p) (S := S) (j := 2) rfl (kno.rl e1 Pn.mem) g hi (ev_var rfl (.int _)) Pn.mem) H2 e2 P2 _ fun v3 H3 z e3 P3 a3 r3 => ?_⟩) P1 fun v2 H2 z e2 P2 a2 r2 => q _ _ _ (e1.trans e2) P2 a2 r2
    obtain ⟨zs, rfl, ne, l36, hz⟩ := r3
    have l1 : 1 ≤ zs.length := by
      cases zs with
      | nil => exact absurd rfl ne
      | cons => simp
    exact ⟨p, S, [v3], [.tuple zs], rfl, .cons a3 .nil, rfl, P3, ⟨_, rfl, rfl, l1, by show zs.length < 1000000; omega⟩, fun v4 H4 z4 e4 P4 a4 ⟨d, ed, hd⟩ => q2 v4 H4 z4 (e3.trans e4) P4 a4 (by cases ed; exact hz z4 hd)⟩
  · exact s_ret (b := true) (ev_more (ev_var rfl (ah.mono e1 Pn.mem)) g rfl) P1 fun v2 H2 z e2 P2 a2 r2 => q _ _ _ (e1.trans e2) P2 a2 r2

/-! ### _law_claimed_pairs -/
abbrev N__law_claimed_pairs : List Str := ["_law_pen_here", "_law_house", "_law_known", "_law_item_here", "_law_more", "_law_pairs", "_law_option", "_law_at", "_law_pair"]
theorem sc__law_claimed_pairs : FnScope N__law_claimed_pairs ["_law_pen_here", "_law_house", "_law_known", "_law_item_here"] (defScope (top 203)) := ⟨rfl, rfl, rfl, by decide +kernel, rfl, by decide +kernel, by decide +kernel⟩
theorem D__law_claimed_pairs (T : Top K mg) : Dn P w K mg base "_law_claimed_pairs" 4 ["_law_pen_here", "_law_house", "_law_known", "_law_item_here"] (spSP P w isCP) := by
  refine T.dnS 51 rfl rfl sc__law_claimed_pairs (fun _ _ _ _ _ _ us h => match us, h with | [_, _, _, _], _ => rfl) (fun vs H Q E h => ?_) fun f cdv A0 outer s H vs Q E hr h => ?_
  · obtain ⟨p, S, kn, h, hv, i, rfl, _⟩ := h
    rfl
  refine ⟨_, pss_cons (ps_par (i := 5) (j := 6) (by rfl) sc__law_claimed_pairs.nd rfl rfl (by decide) rfl rfl (pa_cons (pe_dn ((D__law_pairs_of T).up (by decide)) hr (by rfl) (pa_cons (pv 2) (pa_cons (pv 3) pa_nil))) (pa_cons (pe_dn ((D__law_draw T).up (by decide)) hr (by rfl) (pa_cons (pv 0) (pa_cons pe_int pa_nil))) pa_nil)) (by rfl))
    (pss_cons (ps_set (i := 4) sc__law_claimed_pairs.nd rfl (Or.inl rfl) (pe_tup (pa_cons (pe_dn ((D__law_one_of T).up (by decide)) hr (by rfl) (pa_cons (pv 0) (pa_cons (pe_dn ((D__law_contents T).up (by decide)) hr (by rfl) (pa_cons (pv 1) pa_nil)) pa_nil))) (pa_cons (pe_dn ((D__law_one_of T).up (by decide)) hr (by rfl) (pa_cons (pv 0) (pa_cons (pe_dn ((D__law_contents T).up (by decide)) hr (by rfl) (pa_cons (pv 1) pa_nil)) pa_nil))) pa_nil))))
    (pss_cons (ps_if (pt_cmpR (op_eqD (hu_64 hr)) (pv 6) pe_int (nomark _))
      (pss_one (ps_ret (pe_callTy cr_tupOf (by rfl) T.f_tuple bb_tuple (pa_cons (pe_lc (own := [("_law_pair", 8)]) rfl sc__law_claimed_pairs.nd (pi_tup (pv 5)) (blkOk_by (N := N__law_claimed_pairs) (sc := defScope (top 203)) (by decide +kernel)) (fun _ _ _ _ _ => (pg_name (i := 8) sc__law_claimed_pairs.nd rfl (Or.inl rfl))) (fun _ _ _ _ _ => pts_one (pt_cmpR op_gt (pe_dn ((D__law_draw T).up (by decide)) hr (by rfl) (pa_cons (pv 0) (pa_cons pe_int pa_nil))) pe_int (nomark _))) (fun _ _ _ _ _ => (pv 8))) pa_nil))))
      (pss_nil))
    (pss_cons (ps_if (pt_cmpR (op_eqD (hu_64 hr)) (pv 6) pe_int (nomark _))
      (pss_cons (ps_set (i := 7) sc__law_claimed_pairs.nd rfl (Or.inl rfl) (pe_dn ((D__law_draw T).up (by decide)) hr (by rfl) (pa_cons (pv 0) (pa_cons (pe_len (by rfl) T.f_len (pv 5)) pa_nil))))
      (pss_one (ps_ret (pe_callTy cr_tupOf (by rfl) T.f_tuple bb_tuple (pa_cons (pe_callB (cr_sortOf rfl (hu_64 hr)) (by rfl) T.f_sorted bb_sorted (pa_cons (pe_callTy (cr_setOf rfl (hu_64 hr)) (by rfl) T.f_set bb_set (pa_cons (pe_op op_catA (pe_op op_catA (pe_slice sl_tupA (pv 5) po_none (po_some (pv 7))) (pe_slice sl_tupA (pv 5) (po_some (pe_op op_add (pv 7) pe_int)) po_none)) (pe_tup (pa_cons (pv 4) pa_nil))) pa_nil)) pa_nil)) pa_nil)))))
      (pss_nil))
    (pss_one (ps_ret (pe_ifExp (pt_cmpR (op_eqD (hu_64 hr)) (pv 6) pe_int (nomark _)) (pe_callTy cr_tupOf (by rfl) T.f_tuple bb_tuple (pa_cons (pe_callB (cr_sortOf rfl (hu_64 hr)) (by rfl) T.f_sorted bb_sorted (pa_cons (pe_callTy (cr_setOf rfl (hu_64 hr)) (by rfl) T.f_set bb_set (pa_cons (pe_op op_catA (pv 5) (pe_tup (pa_cons (pv 4) pa_nil))) pa_nil)) pa_nil)) pa_nil)) (pv 5))))))), ?_⟩
  obtain ⟨p, S, kn, h, hv, i, rfl, ah, kno, g, hi, Pn, q⟩ := h
  refine s_par (b := true) (R1 := isPrs h) (R2 := isDr 4) (ev_prs (j := 2) rfl kno g hi (ev_var rfl (.int _)) Pn.mem) (ev_draw (m := 4) ev_int rfl (by decide) (by decide)) Pn fun v5 v6 H1 d5 d6 e1 P1 b5 b6 r5 r6 => ?_
  obtain ⟨zs, rfl, ne, l36, hz⟩ := r5
  obtain ⟨o, rfl, o1, o2⟩ := r6
  cases b6
  have l1 : 1 ≤ zs.length := by
    cases zs with
    | nil => exact absurd rfl ne
    | cons => simp
  dsimp only
  refine s_asg (b := true) (ev_more (ev_var rfl (ah.mono e1 Pn.mem)) g rfl) P1 fun v4 H2 m e2 P2 b4 hm => ?_
  have e02 := e1.trans e2
  have b5' := b5.mono e2 P1.mem
  dsimp only
  have fin : ∀ {v : V} {H' : Hp} {z : PyData}, Rl true p H2 H' → Pen p S H' → At S H' v z → isCP h z → Q v H' := fun e' P' a' r => q _ _ _ (e02.trans e') P' a' r
  have srt : ∀ {b : Bool} {te : TE} {σ : L2.St} {H' : Hp} (ds : List PyData), (∀ x ∈ ds, kP h x) → ds.length ≤ 37 → Ev b p S te σ H' (fun z => z = .tuple ds) → Ev b p S (tCB (rTupOf K) (tCons (tCB (rSortOf P w) (tCons (tCB (rSetOf P w) (tCons te tNil)) tNil)) tNil)) σ H' (isCP h) := fun {b te σ H'} ds hk hl ht =>
    (ev_tupR (ev_sortSet ht (fun d hd => kP_elt (hk d hd)) (by omega) (fun d hd d' hd' => kP_alike (hk d hd) (hk d' hd')) (.inl fun d hd => kP_cons (hk d hd)))).imp fun z ⟨ds', e, st⟩ => ⟨ds', e, Nat.le_trans (Net.nodup_le st.once fun k hk => (st.mem k).mp hk) hl, fun x hx => hk x ((st.mem x).mp hx)⟩
  refine s_ifK (b := true) (et_c (ev_eqD (ev_var rfl (.int o)) ev_int rfl rfl)) P2 (fun _ H3 e3 P3 => ?_) (fun _ H3 e3 P3 => ?_)
  · exact s_ret (b := true) (R := isCP h) ((ev_tupR (Rs := fun l => isCP h (.tuple l)) ((ev_lcT (Z := fun _ _ => True) (E := fun d z => z = d) (ds := zs) (ev_var rfl (b5'.mono e3 P2.mem)) (by omega) (fun _ => rfl) (fun A H0 e P hA i d v H' hd e2 P2 a2 => et_gt0 (ev_draw (m := 4) ev_int rfl (by decide) (by decide))) fun A H0 e P hA i d v H' hd e2 P2 a2 _ => ev_var rfl a2).imp fun z ⟨l, e, c⟩ => ⟨l, e, l, rfl, Nat.le_trans c.le (by omega), fun x hx => (by
      obtain ⟨d, hd, _, e⟩ := c.all x hx
      rw [e]
      exact hz d hd)⟩)).imp fun z ⟨l, e, r⟩ => e ▸ r) P3 fun v H4 z e4 P4 a4 r => fin (e3.trans e4) P4 a4 r
  · dsimp only [tNext]
    have b53 := b5'.mono e3 P2.mem
    have b43 := b4.mono e3 P2.mem
    refine s_ifK (b := true) (et_c (ev_eqD (ev_var rfl (.int o)) ev_int rfl rfl)) P3 (fun _ H4 e4 P4 => ?_) (fun _ H4 e4 P4 => ?_)
    · refine s_asg (b := true) (ev_draw (m := (zs.length : Int)) (ev_len (ev_var rfl (b53.mono e4 P3.mem)) rfl) rfl (by omega) (by omega)) P4 fun v7 H5 z e5 P5 a5 r5 => ?_
      obtain ⟨t, rfl, ht⟩ := isDr_nat r5
      cases a5
      dsimp only
      have H5v : Ev true p S (tVar 5) [some (.ref p.1), some hv, some (.ref kn), some (.int (i : Int)), some v4, some v5, some (.int o), some (.int (t : Int)), none] H5 fun z => z = .tuple zs := ev_var rfl (b53.mono (e4.trans e5) P3.mem)
      refine s_ret (b := true) (srt (zs.take t ++ zs.drop (t + 1) ++ [m]) (fun x hx => ?_) ?_ (ev_catT (ev_catT (ev_eq (ev_slT H5v eo_none (eo_some (ev_var rfl (.int _)))) (by rw [cut_to (by omega)])) (ev_eq (ev_slT H5v (eo_some (ev_I0 (i := (t : Int)) (j := 1) (z := .int ((t + 1 : Nat) : Int)) (ev_var rfl (.int _)) ev_int fun H => .int _)) eo_none) (by rw [cut_from (by omega)])) ?_) (ev_tupK (ea_one (ev_var rfl (b43.mono (e4.trans e5) P3.mem))) (by show 1 ≤ 100000; decide)) ?_)) P5 fun v H6 z e6 P6 a6 r => fin (((e3.trans e4).trans e5).trans e6) P6 a6 r
      · rcases List.mem_append.mp hx with hx | hx
        · rcases List.mem_append.mp hx with hx | hx
          · exact hz x (List.mem_of_mem_take hx)
          · exact hz x (List.mem_of_mem_drop hx)
        · rw [List.mem_singleton.mp hx]
          exact hm
      · rw [List.length_append, List.length_append, List.length_take, List.length_drop]
        show _ + 1 ≤ 37
        omega
      · rw [List.length_take, List.length_drop]; omega
      · rw [List.length_append, List.length_take, List.length_drop]
        show _ + 1 ≤ 100000
        omega
    · dsimp only [tNext]
      refine s_ret (b := true) (R := isCP h) (ev_ifK (et_c (ev_eqD (ev_var rfl (.int o)) ev_int rfl rfl)) (fun _ => srt (zs ++ [m]) (fun x hx => ?_) ?_ (ev_catT (ev_var rfl (b53.mono e4 P3.mem)) (ev_tupK (ea_one (ev_var rfl (b43.mono e4 P3.mem))) (by show 1 ≤ 100000; decide)) ?_)) fun _ => (ev_var rfl (b53.mono e4 P3.mem)).imp fun z e => ⟨zs, e, by omega, hz⟩) P4 fun v H6 z e6 P6 a6 r => fin ((e3.trans e4).trans e6) P6 a6 r
      · rcases List.mem_append.mp hx with hx | hx
        · exact hz x hx
        · rw [List.mem_singleton.mp hx]
          exact hm
      · rw [List.length_append]
        show _ + 1 ≤ 37
        omega
      · show zs.length + 1 ≤ 100000
        omega

end
end Mv
/-! # Claims are of bounded data -/
namespace Mv
open PySem PySem.Spec PyProof.Rows L2 He
theorem bulk_le {N : Nat} : ∀ {ds : List PyData}, (∀ d ∈ ds, d.bulk ≤ N) → PyData.bulkAll ds ≤ ds.length * (N + 1)
  | [], _ => Nat.zero_le _
  | d :: ds, h => by
    have h1 := h d List.mem_cons_self
    have h2 := bulk_le fun x hx => h x (List.mem_cons_of_mem _ hx)
    rw [List.length_cons, Nat.succ_mul]
    show d.bulk + 1 + PyData.bulkAll ds ≤ _
    omega
theorem Bd.ofTup {L I D N : Nat} {ds : List PyData} (hl : ds.length ≤ L) (h : ∀ d ∈ ds, Bd L I D N d) : Bd L I (D + 1) (ds.length * (N + 1)) (.tuple ds) :=
  Bd.tup.mpr ⟨hl, fun d hd => (h d hd).ok, depAll_of fun d hd => (h d hd).dp, bulk_le fun d hd => (h d hd).bk⟩
theorem Bd.ofLst {L I D N : Nat} {ds : List PyData} (hl : ds.length ≤ L) (h : ∀ d ∈ ds, Bd L I D N d) : Bd L I (D + 1) (ds.length * (N + 1)) (.list ds) :=
  ⟨okD_lst.mpr ⟨hl, fun d hd => (h d hd).ok⟩, by rw [PyData.depth]; have := depAll_of (ds := ds) (n := D) fun d hd => (h d hd).dp; omega, bulk_le fun d hd => (h d hd).bk⟩
theorem Bd.int {L I : Nat} {i : Int} (h : i.natAbs ≤ I) : Bd L I 0 0 (.int i) := ⟨by rw [okD]; exact decide_eq_true h, Nat.le_refl _, Nat.le_refl _⟩
theorem allNum_bd {L I : Nat} : ∀ {ds : List PyData} {zs : List Int}, allNum ds zs = true → (∀ z ∈ zs, z ≤ I) → ∀ d ∈ ds, Bd L I 0 0 d
  | [], _, _, _, _, h => nomatch h
  | _ :: _, [], h, _, _, _ => by simp [allNum] at h
  | x :: ds, z :: zs, h, k, d, hd => by
    rw [allNum, Bool.and_eq_true] at h
    rcases List.mem_cons.mp hd with rfl | hd
    · cases d with
      | int i =>
        have h1 : (decide (0 ≤ i) && decide (i < z)) = true := h.1
        rw [Bool.and_eq_true, decide_eq_true_eq, decide_eq_true_eq] at h1
        have := k z List.mem_cons_self
        exact Bd.int (by omega)
      | _ => exact absurd h.1 (by simp [isNum])
    · exact allNum_bd h.2 (fun y hy => k y (List.mem_cons_of_mem _ hy)) d hd
theorem cont_bd {zs : List Int} {c : PyData} (hz : zs ∈ okZ) (h : isCont zs c = true) : Bd 40 (10 ^ 70 + 1) 1 2 c := by
  cases c with
  | tuple ds =>
    have hl := allNum_len (show allNum ds zs = true from h)
    have z2 := okZ_len hz
    have := Bd.ofTup (L := 40) (I := 10 ^ 70 + 1) (ds := ds) (by omega) (allNum_bd h fun z m => by have := (okZ_pos hz z m).2; omega)
    exact this.mono (Nat.le_refl _) (Nat.le_refl _) (Nat.le_refl _) (by omega)
  | _ => cases h
theorem side_bd {zs : List Int} {d : PyData} (hz : zs ∈ okZ) (h : isSide zs d) : Bd 40 (10 ^ 70 + 1) 2 18 d := by
  obtain ⟨l, rfl, hc, h6, _⟩ := h
  exact (Bd.ofTup (by omega) fun x hx => cont_bd hz (hc x hx)).mono (Nat.le_refl _) (Nat.le_refl _) (Nat.le_refl _) (by omega)
theorem row_bd {zs : List Int} {l : List PyData} (hz : zs ∈ okZ) (hc : ∀ x ∈ l, isCont zs x = true) (h6 : l.length ≤ 6) : Bd 40 (10 ^ 70 + 1) 2 18 (.tuple l) := (Bd.ofTup (by omega) fun x hx => cont_bd hz (hc x hx)).mono (Nat.le_refl _) (Nat.le_refl _) (Nat.le_refl _) (by omega)
theorem mem3 {x a b c : PyData} (h : x ∈ [a, b, c]) : x = a ∨ x = b ∨ x = c := by simpa using h
theorem rule_bd {h : Hou} (g : Good h) {r : PyData} (hr : isRu h r) : Bd 40 (10 ^ 70 + 1) 3 57 r := by
  obtain ⟨m, a, c, rfl, ha, hc, la, lc, m0, m5⟩ := hr
  have k5 := g.k5
  refine (Bd.ofTup (D := 2) (N := 18) (by show 3 ≤ 40; decide) fun x hx => ?_).mono (Nat.le_refl _) (Nat.le_refl _) (Nat.le_refl _) (by show 3 * 19 ≤ 57; decide)
  rcases mem3 hx with rfl | rfl | rfl
  · exact (Bd.int (L := 40) (I := 10 ^ 70 + 1) (by omega)).mono (Nat.le_refl _) (Nat.le_refl _) (by decide) (by decide)
  · exact row_bd g.zs ha la
  · exact row_bd g.zs hc lc
theorem rules_bd {h : Hou} (g : Good h) {rs : List PyData} (hr : ∀ r ∈ rs, isRu h r) (l7 : rs.length ≤ 7) : Bd 40 (10 ^ 70 + 1) 4 406 (.tuple rs) :=
  (Bd.ofTup (by omega) fun x hx => rule_bd g (hr x hx)).mono (Nat.le_refl _) (Nat.le_refl _) (Nat.le_refl _) (by omega)
theorem pair_bd {h : Hou} (g : Good h) {x : PyData} (m : kP h x) : Bd 40 (10 ^ 70 + 1) 2 6 x := by
  obtain ⟨a, c, rfl, ha, hc⟩ := m
  refine (Bd.ofTup (D := 1) (N := 2) (by show 2 ≤ 40; decide) fun x hx => ?_).mono (Nat.le_refl _) (Nat.le_refl _) (Nat.le_refl _) (by show 2 * 3 ≤ 6; decide)
  have : x = a ∨ x = c := by simpa using hx
  rcases this with rfl | rfl
  · exact cont_bd g.zs ha
  · exact cont_bd g.zs hc
theorem pairs_bd {h : Hou} (g : Good h) {z : PyData} (m : isCP h z) : Bd 40 (10 ^ 70 + 1) 3 259 z := by
  obtain ⟨zs, rfl, l, hz⟩ := m
  exact (Bd.ofTup (by omega) fun x hx => pair_bd g (hz x hx)).mono (Nat.le_refl _) (Nat.le_refl _) (Nat.le_refl _) (by omega)
/-- a part of a claim -/
def Part (d : PyData) : Prop := Bd 40 (10 ^ 70 + 1) 5 500 d
theorem Bd.part {D N : Nat} {d : PyData} (h : Bd 40 (10 ^ 70 + 1) D N d) (a : D ≤ 5 := by decide) (c : N ≤ 500 := by decide) : Part d := h.mono (Nat.le_refl _) (Nat.le_refl _) a c
theorem part_int {i : Int} (h : i.natAbs ≤ 10 ^ 70 + 1) : Part (.int i) := (Bd.int (L := 40) h).part
theorem part_word {x : Str} (h : x ∈ wordL) : Part (.str x) := by
  have : ∀ x ∈ wordL, x.cps.size ≤ 500 := by decide +kernel
  exact ⟨by rw [okD]; exact decide_eq_true h, Nat.zero_le _, this x h⟩
/-- a claim as the law makes it -/
def isClm (c : PyData) : Prop := ∃ ds, c = .tuple ds ∧ 3 ≤ ds.length ∧ ds.length ≤ 6 ∧ ∀ d ∈ ds, Part d
theorem clm_bd {ds : List PyData} (l : ds.length ≤ 7) (h : ∀ d ∈ ds, Part d) : Bd 40 (10 ^ 70 + 1) 6 3507 (.tuple ds) := (Bd.ofTup (by omega) h).mono (Nat.le_refl _) (Nat.le_refl _) (Nat.le_refl _) (by omega)
/-! ### what may be said of bounded data -/
mutual
theorem okD_sm {L I : Nat} (h : L ≤ 60) : ∀ d : PyData, okD L I d = true → sm d = true
  | .none, _ => rfl
  | .bool _, _ => rfl
  | .int _, _ => rfl
  | .str _, _ => rfl
  | .list ds, k => by
    rw [okD, Bool.and_eq_true, decide_eq_true_iff] at k
    rw [sm, Bool.and_eq_true, decide_eq_true_iff]
    exact ⟨Nat.le_trans k.1 h, okDs_sm h ds k.2⟩
  | .tuple ds, k => by
    rw [okD, Bool.and_eq_true, decide_eq_true_iff] at k
    rw [sm, Bool.and_eq_true, decide_eq_true_iff]
    exact ⟨Nat.le_trans k.1 h, okDs_sm h ds k.2⟩
  | .dict _, _ => rfl
theorem okDs_sm {L I : Nat} (h : L ≤ 60) : ∀ ds : List PyData, okDs L I ds = true → smAll ds = true
  | [], _ => rfl
  | d :: ds, k => by
    rw [okDs, Bool.and_eq_true] at k
    rw [smAll, okD_sm h d k.1, okDs_sm h ds k.2]
    rfl
end
mutual
theorem okD_show {L I : Nat} (h : I ≤ 10 ^ 71) : ∀ d : PyData, okD L I d = true → d.showable = true ∧ d.leavesShort 80 = true
  | .none, _ => ⟨rfl, rfl⟩
  | .bool _, _ => ⟨rfl, rfl⟩
  | .int i, k => by
    rw [okD, decide_eq_true_iff] at k
    have h1 : i.natAbs < 10 ^ 72 := Nat.lt_of_le_of_lt (Nat.le_trans k h) (by decide)
    constructor
    · rw [PyData.showable, decide_eq_true_iff]
      by_cases z : i.natAbs = 0
      · rw [z]; decide
      · exact (Nat.log2_lt z).mpr (Nat.lt_of_lt_of_le h1 (Nat.le_trans (by decide : 10 ^ 72 ≤ 2 ^ 250) (Nat.pow_le_pow_right (by decide) (by decide))))
    · rw [PyData.leavesShort, decide_eq_true_iff]
      have := int_text_length_le10 (a := i) (k := 72) (by decide) h1
      show (Str.ofString (toString i)).length ≤ 80
      rw [PySem.ofString_length]
      omega
  | .str x, k => by
    rw [okD, decide_eq_true_iff] at k
    have : ∀ x ∈ wordL, (x.cps.toList.all fun c => decide (c < 16 ^ 8)) = true := by decide +kernel
    exact ⟨rfl, this x k⟩
  | .list ds, k => by
    rw [okD, Bool.and_eq_true] at k
    exact okDs_show h ds k.2
  | .tuple ds, k => by
    rw [okD, Bool.and_eq_true] at k
    exact okDs_show h ds k.2
  | .dict kvs, k => by
    rw [okD] at k
    cases kvs with
    | nil => exact ⟨rfl, rfl⟩
    | cons => cases k
theorem okDs_show {L I : Nat} (h : I ≤ 10 ^ 71) : ∀ ds : List PyData, okDs L I ds = true → PyData.showableAll ds = true ∧ PyData.leavesShortAll 80 ds = true
  | [], _ => ⟨rfl, rfl⟩
  | d :: ds, k => by
    rw [okDs, Bool.and_eq_true] at k
    have h1 := okD_show h d k.1
    have h2 := okDs_show h ds k.2
    rw [PyData.showableAll, PyData.leavesShortAll, h1.1, h1.2, h2.1, h2.2]
    exact ⟨rfl, rfl⟩
end
structure Fit (d : PyData) : Prop where
  sm : sm d = true
  gw : GoodW d
  sh : d.showable = true
  ln : d.shown.length ≤ sizeLine
  dp : d.depth ≤ 50
theorem fit_of {d : PyData} (h : Bd 60 (10 ^ 71) 50 100000 d) : Fit d := by
  have hs := okD_show (Nat.le_refl _) d h.ok
  refine ⟨okD_sm (Nat.le_refl _) d h.ok, fun x hx => ?_, hs.1, ?_, h.dp⟩
  · have hw : x ∈ wordL := by
      have key : ∀ ds : List PyData, (∀ e ∈ ds, okD 60 (10 ^ 71) e = true) → ds.getD 0 .none = .str x → x ∈ wordL := fun ds k e => by
        cases ds with
        | nil => cases e
        | cons y r =>
          have e' : y = .str x := e
          have := k y List.mem_cons_self
          rw [e', okD, decide_eq_true_iff] at this
          exact this
      cases d with
      | tuple ds => exact key ds (okD_tup.mp h.ok).2 hx
      | list ds => exact key ds (okD_lst.mp h.ok).2 hx
      | _ => cases hx
    have : ∀ x ∈ wordL, PyData.strOk x = true ∧ x ≠ Str.ofString "comes" ∧ x ≠ Str.ofString "never" ∧ x ≠ Str.ofString "withdraw" ∧ x ≠ Str.ofString "lost" := by decide +kernel
    exact this x hw
  · have := PyData.shown_le_bulk 80 (by decide) d hs.2
    have hb := h.bk
    rw [sizeLine_eq]
    omega
end Mv
namespace Mv
open PySem PySem.Spec PyProof.Rows L2 He
section
variable {P : Program} {w : World} {K : PySem.W.Frag} {mg : Str → Option Value} {base : Heap}
def spClm : Sp := fun vs H Q _ => ∃ (p : Addr × Addr) (S : List Addr) (h : Hou) (hv rv : V) (rs : List PyData), vs = [.ref p.1, hv, rv] ∧ At S H hv h.d ∧ At S H rv (.tuple rs) ∧ Good h ∧ (rs.length ≤ 3 ∧ ∀ r ∈ rs, isRu h r) ∧ Pen p S H ∧
  ∀ v H' cs, Rl true p H H' → Pen p S H' → At S H' v (.list cs) → cs.length = 10 → (∀ c ∈ cs, isClm c) → Q v H'
section
variable {b : Bool} {p : Addr × Addr} {S : List Addr} {σ : L2.St} {H : Hp} {te : TE} {tr : TA}
/-- parts of a claim, evaluated -/
def Parts (n : Nat) (l : List PyData) : Prop := l.length = n ∧ ∀ d ∈ l, Part d
theorem ep_nil : EvA b p S tNil σ H (Parts 0) := ea_nil.imp fun l e => by rw [e]; exact ⟨rfl, fun d hd => nomatch hd⟩
theorem ep_more {n : Nat} (h : Ev b p S te σ H Part) (hr : EvA b p S tr σ H (Parts n)) : EvA b p S (tCons te tr) σ H (Parts (n + 1)) := ea_cons h hr fun d ds h1 h2 => ⟨by rw [List.length_cons, h2.1], fun x hx => by
  rcases List.mem_cons.mp hx with rfl | hx
  · exact h1
  · exact h2.2 x hx⟩
theorem ev_clm {n : Nat} (h : EvA b p S tr σ H (Parts n)) (h3 : 3 ≤ n := by decide) (h6 : n ≤ 6 := by decide) : Ev b p S (tTup tr) σ H isClm := (ev_tup h fun l ⟨e, _⟩ => by omega).imp fun z ⟨l, e, hl, hp⟩ => ⟨l, e, by omega, by omega, hp⟩
theorem ev_wd {x : Str} (h : x ∈ wordL) : Ev b p S (tC (.str x)) σ H Part := ev_str.imp fun z e => by rw [e]; exact part_word h
theorem ev_pt {d : PyData} (h : Ev b p S te σ H fun z => z = d) (k : Part d) : Ev b p S te σ H Part := h.imp fun z e => by rw [e]; exact k
theorem ea_2 {R1 R2 : PyData → Prop} {ta tb : TE} (h1 : Ev b p S ta σ H R1) (h2 : Ev b p S tb σ H R2) : EvA b p S (tCons ta (tCons tb tNil)) σ H fun zs => ∃ x y, zs = [x, y] ∧ R1 x ∧ R2 y := (ea_m h1 (ea_1 h2)).imp fun l ⟨x, r, e, hx, y, e2, hy⟩ => ⟨x, y, by rw [e, e2], hx, hy⟩
end
/-- x = x + y, a new list of one's own -/
theorem s_catO {b : Bool} {p : Addr × Addr} {S : List Addr} {σ : L2.St} {H : Hp} {ta tb : TE} {D : Ends} {i : Nat} {ds : List PyData} {Re : List PyData → Prop} (ha : Ev b p S ta σ H fun z => z = .list ds) (hb : Ev b p S tb σ H fun z => ∃ es, z = .list es ∧ Re es) (hl : ∀ es, Re es → ds.length + es.length ≤ 100000) (P : Pen p S H)
    (k : ∀ A H7 es H8, Rl b p H H7 → Pen p S H7 → H7 A = none → Rx [] H7 H8 → Own A p S H8 (ds ++ es) → Re es → D.nx (σ.set i (some (.ref A))) H8) : tAsg (tOp rCat ta tb) (gName i) D σ H :=
  ha H Rl.refl P _ fun v6 H6 z6 e6 P6 a6 r6 => hb H6 e6 P6 _ fun v7 H7 z7 e7 P7 a7 r7 => by
    subst r6
    obtain ⟨es, rfl, re⟩ := r7
    obtain ⟨f1, ys1, rfl, nf1, hf1, rf1⟩ := (a6.mono e7 P6.mem).lst_inv
    obtain ⟨f2, ys2, rfl, nf2, hf2, rf2⟩ := a7.lst_inv
    refine ⟨f1, f2, ys1, ys2, rfl, rfl, hf1, hf2, by rw [rf1.length, rf2.length]; exact Nat.le_trans (hl es re) (by decide), fun A hA => ?_⟩
    have eA : Rx [] H7 (upd H7 A (.lst (ys1 ++ ys2))) := Rx.new hA
    exact k A H7 es _ (e6.trans e7) P7 hA eA ⟨(P7.new hA).more ⟨_, upd_same⟩, _, upd_same, ((rf1.append rf2).avoid hA).monoX eA nil_sub⟩ re
theorem wd_can : Str.ofString "can" ∈ wordL := by decide
theorem wd_least : Str.ofString "least" ∈ wordL := by decide
theorem wd_safe : Str.ofString "safe" ∈ wordL := by decide
theorem wd_pairs : Str.ofString "pairs" ∈ wordL := by decide

/-! ### _law_some_claims -/
abbrev N__law_some_claims : List Str := ["_law_pen_here", "_law_house", "_law_rules_here", "_law_leak", "_law_found", "_law_number", "_law_known", "_law_item_here", "_law_one", "_law_two"]
theorem sc__law_some_claims : FnScope N__law_some_claims ["_law_pen_here", "_law_house", "_law_rules_here"] (defScope (top 207)) := ⟨rfl, rfl, rfl, by decide +kernel, rfl, by decide +kernel, by decide +kernel⟩
theorem D__law_some_claims (T : Top K mg) : Dn P w K mg base "_law_some_claims" 5 ["_law_pen_here", "_law_house", "_law_rules_here"] spClm := by
  refine T.dnS 55 rfl rfl sc__law_some_claims (fun _ _ _ _ _ _ us h => match us, h with | [_, _, _], _ => rfl) (fun vs H Q E h => ?_) fun f cdv A0 outer s H vs Q E hr h => ?_
  · obtain ⟨p, S, h, hv, rv, rs, rfl, _⟩ := h
    rfl
  refine ⟨_, pss_cons (ps_par (i := 6) (j := 7) (by rfl) sc__law_some_claims.nd rfl rfl (by decide) rfl rfl (pa_cons (pe_dn ((D__law_least T).up (by decide)) hr (by rfl) (pa_cons (pv 1) (pa_cons (pv 2) pa_nil))) (pa_cons (pe_dn ((D__law_item T).up (by decide)) hr (by rfl) (pa_cons (pv 0) (pa_cons (pv 1) pa_nil))) pa_nil)) (by rfl))
    (pss_cons (ps_asg (pe_dn ((D__law_some_pair T).up (by decide)) hr (by rfl) (pa_cons (pv 0) (pa_cons (pv 1) (pa_cons (pv 6) (pa_cons (pv 7) pa_nil))))) (pg_tup rfl (pgs_cons (pg_name (i := 8) sc__law_some_claims.nd rfl (Or.inl rfl)) (pgs_cons (pg_name (i := 9) sc__law_some_claims.nd rfl (Or.inl rfl)) pgs_nil))))
    (pss_cons (ps_set (i := 3) sc__law_some_claims.nd rfl (Or.inl rfl) (pe_tup (pa_cons (pv 7) (pa_cons (pe_dn ((D__law_side T).up (by decide)) hr (by rfl) (pa_cons (pv 0) (pa_cons (pv 1) pa_nil))) (pa_cons (pe_dn ((D__law_side T).up (by decide)) hr (by rfl) (pa_cons (pv 0) (pa_cons (pv 1) pa_nil))) pa_nil)))))
    (pss_cons (ps_set (i := 4) sc__law_some_claims.nd rfl (Or.inl rfl) (pe_lst (pa_cons (pe_tup (pa_cons pe_str (pa_cons (pv 2) (pa_cons (pv 7) (pa_cons (pv 8) (pa_cons (pv 9) pa_nil)))))) (pa_cons (pe_tup (pa_cons pe_str (pa_cons (pv 2) (pa_cons (pv 7) (pa_cons (pv 8) (pa_cons (pv 9) (pa_cons (pe_dn ((D__law_draw T).up (by decide)) hr (by rfl) (pa_cons (pv 0) (pa_cons pe_int pa_nil))) pa_nil))))))) pa_nil))))
    (pss_cons (ps_set (i := 4) sc__law_some_claims.nd rfl (Or.inl rfl) (pe_op op_cat (pv 4) (pe_lst (pa_cons (pe_tup (pa_cons pe_str (pa_cons (pv 2) (pa_cons (pv 3) pa_nil)))) (pa_cons (pe_tup (pa_cons pe_str (pa_cons (pv 2) (pa_cons (pv 7) (pa_cons (pe_dn ((D__law_claimed_pairs T).up (by decide)) hr (by rfl) (pa_cons (pv 0) (pa_cons (pv 1) (pa_cons (pv 6) (pa_cons (pv 7) pa_nil))))) pa_nil))))) pa_nil)))))
    (pss_cons (ps_for PassesOwn.never rfl (pi_tup (pe_tup (pa_cons pe_int (pa_cons (pe_op op_mul (pe_op op_pow pe_int pe_int) (pe_op op_pow pe_int pe_int)) (pa_cons (pe_op op_add (pe_op op_mul (pe_op op_pow pe_int pe_int) (pe_op op_pow pe_int pe_int)) pe_int) (pa_cons (pe_un un_neg pe_int) (pa_cons pe_bl (pa_cons pe_non pa_nil)))))))) (pg_name (i := 5) sc__law_some_claims.nd rfl (Or.inl rfl))
      (pss_one (ps_expr (pe_bm PySem.F.plainAttrs_list PySem.F.slot_list_append PySem.F.type_list_append mt_append (pv 4) (pa_cons (pe_tup (pa_cons pe_str (pa_cons (pv 2) (pa_cons (pv 7) (pa_cons (pv 8) (pa_cons (pv 9) (pa_cons (pv 5) pa_nil))))))) pa_nil)))))
    (pss_one (ps_ret (pv 4)))))))), ?_⟩
  obtain ⟨p, S, h, hv, rv, rs, rfl, ah, ar, g, hrs, Pn, q⟩ := h
  have k5 := g.k5
  refine ⟨hv, rfl, rv, rfl, p, S, hv, rv, h, rs, rfl, ah, ar, g, hrs, Pn, fun kn dP dL dT H1 T' e1 P1 k1 k2 k3 k4 k6 k7 => ?_⟩
  have kno : Kno P w p S H1 h kn := ⟨dP, dL, dT, T', k1, k2, k3, k4, k6, k7⟩
  refine (ev_p (ds := [h.d]) (R := R_item) (Pre := PreG) (ep_cons (i := 0) rfl (ea_one (ev_var (i := 1) rfl (ah.mono e1 Pn.mem)))) rfl ⟨h, rfl, g⟩) H1 Rl.refl P1 _ fun v7 H2 z e2 P2 a2 r2 => ⟨.ref kn, v7, rfl, ?_⟩
  obtain ⟨h', eh, r2⟩ := r2
  have := hou_inj (List.cons.inj eh).1
  subst this
  obtain ⟨i, rfl, hi⟩ := isDr_nat (n := h.ks.length + 1) r2
  cases a2
  have e12 : Rl true p H H2 := e1.of.trans e2
  dsimp only
  refine ⟨_, rfl, _, rfl, _, rfl, _, rfl, p, S, kn, h, hv, i, rfl, ah.mono e12 Pn.mem, kno.rl e2 P1.mem, g, by omega, P2, fun v3 H3 z e3 P3 a3 r3 => ?_⟩
  obtain ⟨a, c, rfl, ha, hc⟩ := r3
  obtain ⟨cc, xs, rfl, ncc, hcc, rcc⟩ := a3.tup_inv
  obtain ⟨x8, x9, rfl, b8, b9⟩ := rcc.two
  refine ⟨cc, _, rfl, SqT.of hcc, rfl, x8, _, rfl, x9, [], rfl, rfl, ?_⟩
  dsimp only [gName]
  have e13 : Rl true p H H3 := e12.trans e3
  have ah3 := ah.mono e13 Pn.mem
  have ar3 := ar.mono e13 Pn.mem
  have kno3 := (kno.rl e2 P1.mem).rl e3 P2.mem
  have pi : Part (.int (i : Int)) := part_int (by omega)
  have pr : Part (.tuple rs) := (rules_bd g hrs.2 (by have := hrs.1; omega)).part
  have pa : Part a := (cont_bd g.zs ha).part
  have pc : Part c := (cont_bd g.zs hc).part
  clear ah ar kno k1 k2 k3 k4 k6 k7 a3 hcc rcc e1 e2 e3 P1 P2
  have sd : Ev true p S (tCall (spP 1 R_side PreG) [] E0 (tCons (tVar 0) (tCons (tVar 1) tNil))) [some (.ref p.1), some hv, some rv, none, none, none, some (.ref kn), some (.int (i : Int)), some x8, some x9] H3 (Bd 40 (10 ^ 70 + 1) 2 18) :=
    (ev_p (ds := [h.d]) (ep_cons (i := 0) rfl (ea_one (ev_var (i := 1) rfl ah3))) rfl ⟨h, rfl, g⟩).imp fun z ⟨h', e, hz⟩ => by
      have := hou_inj (List.cons.inj e).1
      subst this
      exact side_bd g.zs hz
  refine s_asg (b := true) (R := Part) ((ev_tup (Rs := fun l => ∃ x y, l = [.int (i : Int), x, y] ∧ Bd 40 (10 ^ 70 + 1) 2 18 x ∧ Bd 40 (10 ^ 70 + 1) 2 18 y) ((ea_m (R := fun z => z = .int (i : Int)) (ev_var rfl (.int _)) (ea_2 sd sd)).imp fun l ⟨d, r, e, hd, x, y, e2, hx, hy⟩ => ⟨x, y, by rw [e, hd, e2], hx, hy⟩) fun l ⟨_, _, e, _⟩ => by rw [e]; simp).imp fun z ⟨l, e, x, y, e2, hx, hy⟩ => ?_) P3 fun v3 H4 lk e4 P4 a4 r4 => ?_
  · rw [e, e2]
    refine (Bd.ofTup (D := 2) (N := 18) (by show 3 ≤ 40; decide) fun d hd => ?_).part (by decide) (by show 3 * 19 ≤ 500; decide)
    rcases mem3 hd with rfl | rfl | rfl
    · exact (Bd.int (L := 40) (I := 10 ^ 70 + 1) (by omega)).mono (Nat.le_refl _) (Nat.le_refl _) (by decide) (by decide)
    · exact hx
    · exact hy
  dsimp only
  have Vr : ∀ {σ : L2.St} {S' : List Addr} {H' : Hp} {b : Bool}, σ[2]? = some (some rv) → At S' H' rv (.tuple rs) → Ev b p S' (tVar 2) σ H' Part := fun h a => ev_pt (ev_var h a) pr
  have b84 := b8.mono e4 P3.mem
  have b94 := b9.mono e4 P3.mem
  have ar4 := ar3.mono e4 P3.mem
  have ah4 := ah3.mono e4 P3.mem
  have kno4 := kno3.rl e4 P3.mem
  have e14 := e13.trans e4
  clear b8 b9 ar3 ah3 kno3 sd
  refine s_asg (b := true) (R := fun z => ∃ x y, z = .list [x, y] ∧ isClm x ∧ isClm y) ((ev_lst (Rs := fun l => ∃ x y, l = [x, y] ∧ isClm x ∧ isClm y) (ea_2
    (ev_clm (ep_more (ev_wd wd_can) (ep_more (Vr rfl ar4) (ep_more (ev_pt (ev_var rfl (.int _)) pi) (ep_more (ev_pt (ev_var rfl b84) pa) (ep_more (ev_pt (ev_var rfl b94) pc) ep_nil))))))
    (ev_clm (ep_more (ev_wd wd_least) (ep_more (Vr rfl ar4) (ep_more (ev_pt (ev_var rfl (.int _)) pi) (ep_more (ev_pt (ev_var rfl b84) pa) (ep_more (ev_pt (ev_var rfl b94) pc) (ep_more ((ev_draw (m := 9) ev_int rfl (by decide) (by decide)).imp fun z ⟨j, e, j1, j2⟩ => by rw [e]; exact part_int (by omega)) ep_nil)))))))) fun l ⟨_, _, e, _⟩ => by rw [e]; simp).imp fun z ⟨l, e, x, y, e2, hx, hy⟩ => ⟨x, y, by rw [e, e2], hx, hy⟩) P4 fun v4 H5 fd e5 P5 a5 r5 => ?_
  obtain ⟨c1, c2, rfl, q1, q2⟩ := r5
  dsimp only
  have b85 := b84.mono e5 P4.mem
  have b95 := b94.mono e5 P4.mem
  have ar5 := ar4.mono e5 P4.mem
  have ah5 := ah4.mono e5 P4.mem
  have lk5 := a4.mono e5 P4.mem
  have kno5 := kno4.rl e5 P4.mem
  have e15 := e14.trans e5
  clear b84 b94 ar4 ah4 kno4 a4
  refine s_catO (b := true) (Re := fun l => ∃ x y, l = [x, y] ∧ isClm x ∧ isClm y) (ev_var rfl a5) ((ev_lst (Rs := fun l => ∃ x y, l = [x, y] ∧ isClm x ∧ isClm y) (ea_2 (ev_clm (ep_more (ev_wd wd_safe) (ep_more (Vr rfl ar5) (ep_more (ev_pt (ev_var rfl lk5) r4) ep_nil))))
    (ev_clm (ep_more (ev_wd wd_pairs) (ep_more (Vr rfl ar5) (ep_more (ev_pt (ev_var rfl (.int _)) pi) (ep_more (te := tCall (spSP P w isCP) [] E0 (tCons (tVar 0) (tCons (tVar 1) (tCons (tVar 6) (tCons (tVar 7) tNil))))) ?_ ep_nil)))))) fun l ⟨_, _, e, _⟩ => by rw [e]; simp).imp fun z ⟨l, e, r⟩ => ⟨l, e, r⟩) (fun es ⟨_, _, e, _⟩ => by rw [e]; show 2 + 2 ≤ 100000; decide) P5 fun A H7 es H8 e6 P7 hA eA o8 re => ?_
  · exact fun H7 e7 P7 Q7 q7 => ⟨_, rfl, _, rfl, _, rfl, _, rfl, p, S, kn, h, hv, i, rfl, ah5.mono e7 P5.mem, kno5.rl e7 P5.mem, g, by omega, P7, fun v8 H8 z8 e8 P8 a8 r8 => q7 v8 H8 z8 e8 P8 a8 ((pairs_bd g r8).part)⟩
  obtain ⟨c3, c4, rfl, q3, q4⟩ := re
  have nA : A ∉ S := P7.ne hA
  have np : A ≠ p.1 := P7.nep hA
  have np2 : A ≠ p.2 := fun e => nA (e ▸ P7.mem2)
  have b88 := ((b85.mono e6 P5.mem).avoid hA).monoX eA nil_sub
  have b98 := ((b95.mono e6 P5.mem).avoid hA).monoX eA nil_sub
  have ar8 := ((ar5.mono e6 P5.mem).avoid hA).monoX eA nil_sub
  have e18 : Rx [p.1] H H8 := (Rx.of (e15.trans e6) fun _ => by simp).trans eA.up
  have hAH : H A = none := by
    cases hq : H A with
    | none => rfl
    | some o' =>
      have := (e15.trans e6) A o' (fun _ => np) hq
      rw [hA] at this
      cases this
  clear b85 b95 ar5 ah5 lk5 kno5 a5 eA
  dsimp only [gName]
  have big : ∀ {σ : L2.St} {H' : Hp}, Ev false p (A :: S) (tOp (rI CMul fun i j => .int (i * j)) (tOp (rI CPow fun i j => .int (i ^ j.toNat)) (tC (.int 10)) (tC (.int 60))) (tOp (rI CPow fun i j => .int (i ^ j.toNat)) (tC (.int 10)) (tC (.int 10)))) σ H' fun z => z = .int (10 ^ 70) :=
    ev_I (i := 10 ^ 60) (j := 10 ^ 10) (ev_I (i := 10) (j := 60) ev_int ev_int ⟨by decide, by decide, by decide⟩ fun H => .int _) (ev_I (i := 10) (j := 10) ev_int ev_int ⟨by decide, by decide, by decide⟩ fun H => .int _) (.inr (by decide)) fun H => .int _
  refine s_forTX (b := false) (X := [A]) (S := A :: S) (ds := [.int 0, .int (10 ^ 70), .int (10 ^ 70 + 1), .int (-1), .bool true, .none]) (ev_tupK (ea_more ev_int (ea_more big (ea_more (ev_I0 big ev_int fun H => .int _) (ea_more (ev_neg ev_int) (ea_two ev_bl ev_non))))) (by decide)) o8.pen (fun x hx => by rw [List.mem_singleton.mp hx]; exact List.mem_cons_self)
    (fun H9 j σ' H' => (∃ x5, σ' = [some (.ref p.1), some hv, some rv, some v3, some (.ref A), x5, some (.ref kn), some (.int (i : Int)), some x8, some x9]) ∧ Rx [A] H9 H' ∧ ∃ cs, Own A p S H' cs ∧ cs.length = 4 + j ∧ ∀ c ∈ cs, isClm c)
    (fun H9 e9 P9 => ⟨⟨_, rfl⟩, Rx.refl, _, o8.rl np e9 P9, rfl, fun x hx => ?_⟩) (fun _ _ _ _ q => q.2.1) (fun H9 e9 P9 j d v5 σ' H10 hd hI a5 => ?_) fun H9 σ' H10 e9 hI => ?_
  · have : x = c1 ∨ x = c2 ∨ x = c3 ∨ x = c4 := by simpa using hx
    rcases this with rfl | rfl | rfl | rfl
    · exact q1
    · exact q2
    · exact q3
    · exact q4
  · obtain ⟨⟨x5, rfl⟩, e10, cs, o10, hl, hcs⟩ := hI
    have pd : Part d := by
      have hm := List.mem_of_getElem? hd
      have : d = .int 0 ∨ d = .int (10 ^ 70) ∨ d = .int (10 ^ 70 + 1) ∨ d = .int (-1) ∨ d = .bool true ∨ d = .none := by simpa using hm
      rcases this with rfl | rfl | rfl | rfl | rfl | rfl
      · exact part_int (by decide)
      · exact part_int (by decide)
      · exact part_int (by decide)
      · exact part_int (by decide)
      · exact ⟨rfl, Nat.zero_le _, Nat.zero_le _⟩
      · exact ⟨rfl, Nat.zero_le _, Nat.zero_le _⟩
    have sA : ∀ x ∈ [A], x ∈ A :: S := fun x hx => by rw [List.mem_singleton.mp hx]; exact List.mem_cons_self
    have tr : ∀ {v d}, At (A :: S) H8 v d → At (A :: S) H10 v d := fun a => (a.mono e9 o8.pen.mem).monoX e10 sA
    have j6 : j < 6 := (List.getElem?_eq_some_iff.mp hd).1
    dsimp only [gName]
    refine s_appL (b := false) (R := isClm) (i := 4) rfl o10 np np2 (by omega) (ev_clm (ep_more (ev_wd wd_least) (ep_more (Vr rfl (tr ar8)) (ep_more (ev_pt (ev_var rfl (.int _)) pi) (ep_more (ev_pt (ev_var rfl (tr b88)) pa) (ep_more (ev_pt (ev_var rfl (tr b98)) pc) (ep_more (ev_pt (ev_var rfl a5) pd) ep_nil))))))) fun H11 c e11 o11 hc => ⟨⟨_, rfl⟩, e10.trans (by simpa using e11), _, o11, by rw [List.length_append, hl]; rfl, fun x hx => ?_⟩
    rcases List.mem_append.mp hx with hx | hx
    · exact hcs x hx
    · rw [List.mem_singleton.mp hx]
      exact hc
  · obtain ⟨⟨x5, rfl⟩, e10, cs, o10, hl, hcs⟩ := hI
    have e110 : Rx [A, p.1] H H10 := ((e18.trans (Rx.of0 e9)).sub fun x hx => by rw [List.mem_singleton.mp hx]; simp).trans (e10.sub fun x hx => by rw [List.mem_singleton.mp hx]; simp)
    exact ⟨_, rfl, q _ H10 cs (e110.drop hAH).one (o10.pen.tail Pn.mem Pn.mem2) (o10.done nA) hl hcs⟩

end
end Mv
/-! # _law_outcome, which calls what it got -/
namespace Mv
open PySem PySem.Spec PyProof.Rows L2 He LamX
theorem bb_ValueError : bootBuiltins "ValueError" = some (.type "ValueError") := by decide +kernel
abbrev N__law_outcome : List Str := ["_law_call", "e"]
theorem sc__law_outcome : FnScope N__law_outcome ["_law_call"] (defScope (top 206)) := ⟨rfl, rfl, rfl, by decide +kernel, rfl, by decide +kernel, by decide +kernel⟩
/-- what it makes of a reading: the error, caught, tells "claim" -/
def TTO (C : Addr) : (XK → Hp → VK → Prop) → Hp → VK → Prop := fun tl H Q => tl (fun cls d H' => cls = .ref C ∧ d = none ∧ Q (.str (Str.ofString "claim")) H') H Q
section
variable {X : Cx} {C fI g : Addr} {cdg : Value} {q : Str}
theorem outcome_gives (T : Top X.K X.mg) (I : Icl X.K X.mg C fI) : GivesTo X N__law_outcome "_law_outcome" (defScope (top 206)) g cdg (defBody (top 206)) "_law_call" q (TTO C) := by
  intro f c' s H Q tl act hc h
  refine ⟨_, pss_one (ps_try_as (X := (cxOf C8.CX0 X.prog X.w X.K X.mg X.base N__law_outcome "_law_outcome" (defScope (top 206)) g cdg X.A X.stack s H C8.E0).nox) (c := .ref C) (i := 1)
      (tb := fun W D σ H => ∃ Ech : XK, (∀ cls d σ' H', Ech cls d H' → W cls d σ' H') ∧ σ[0]? = some (some (.ref f)) ∧ H c' = some (CodeO c' q) ∧ tl Ech H D.rt)
      (ts := fun a cls d D σ H => cls = .ref C ∧ d = none ∧ (∃ σ0 : L2.St, σ = σ0.set 1 (some (.ref a))) ∧ D.rt (.str (Str.ofString "claim")) H)
      rfl rfl sc__law_outcome.nd rfl rfl ⟨by rfl, by decide, .inl I.glo⟩ L2.takes0 (fun W pn xe tk _ => ?_) (fun a oe cls d pn hz hf => ?_)), ?_⟩
  · refine ⟨fun pins s' σ H' D I' h' => ?_⟩
    obtain ⟨Ech, hW, h1, h2, h3⟩ := h'
    exact (pss_one (ps_ret (act W pn xe Ech _ _ tk hW))).run pins s' σ H' D I' ⟨h1, h2, h3⟩
  · refine ⟨fun pins s' σ H' D I' h' => ?_⟩
    obtain ⟨e1, e2, ⟨σ0, e5⟩, e4⟩ := h'
    subst e1 e2
    have hl : σ.length = 2 := I'.len
    have e3 : σ[1]? = some (some (.ref a)) := by
      rw [e5, List.length_set] at hl
      rw [e5, List.getElem?_set_self (by omega)]
    exact (pss_one (ps_ret (pe_ifExp (pt_val (pe_callB (call_isE (X := (cxOf C8.CX0 X.prog X.w X.K X.mg X.base N__law_outcome "_law_outcome" (defScope (top 206)) g cdg X.A X.stack s H C8.E0).nox) (pn := pn) (a := a) (oe := oe) I.ec hz hf) (by rfl) T.f_isinstance (by decide +kernel) (pa_cons (pv 1) (pa_cons (pe_bltn (v := .ty "ValueError") (by rfl) T.f_ValueError bb_ValueError rfl) pa_nil)))) pe_str pe_str))).run pins s' σ H' D I'
      ⟨_, e3, .ty "ValueError", .type "ValueError", true, rfl, fun u r => r, I.kit, ⟨true, rfl, e4⟩⟩
  · refine ⟨fun cls d H' => cls = .ref C ∧ d = none ∧ Q (.str (Str.ofString "claim")) H', fun cls d σ' H' ⟨e1, e2, e3⟩ => ?_, rfl, hc, h⟩
    subst e1 e2
    exact ⟨true, I.exm, fun _ a ha => ⟨rfl, rfl, ⟨σ', rfl⟩, e3⟩, fun z => nomatch z⟩
end
end Mv
/-! # t * k, t a tuple that may be empty -/
namespace Mv
open PySem PySem.Spec PyProof.Rows L2 He
theorem emp_mul (l : Addr) (n : Nat) (dd : Option Addr) (sl : Array (Option Value)) (x : Int) (u : Tok) (small : (decide (x < -(2 ^ 63)) || decide (x ≥ 2 ^ 63)) = false) :
    Meets (Builtin.«tuple.__mul__» ⟨[.ref l, .int x u], []⟩) (fun _ R s => s.heap.get? l = some { cls := .type "tuple", dict := dd, data := .seq #[] n, slots := sl } ∧ R (.ok (.ret (.ref l))) s) :=
  .of_wp fun prog w A R s h => by
    obtain ⟨hp, g, d, tk, os⟩ := s
    obtain ⟨at0, q⟩ := h
    have isx := AutoSeq1.idx_int
    have emp : ((#[] : Array Value).isEmpty || x == 1) = true := rfl
    wp_walk using wpAny_loadPart' at0
    repeat (first
      | (refine wpAny_ite_false (decide_eq_false (by rw [small]; exact Bool.false_ne_true)) ?_; wp_walk using wpAny_loadPart' at0)
      | (refine wpAny_ite_true (decide_eq_true emp) ?_; wp_walk using wpAny_loadPart' at0))
    exact ⟨_, rfl, q⟩
def rRepT0 (K : PySem.W.Frag) : R2 := fun x y H Q => ∃ l k xs, x = .ref l ∧ y = .int k ∧ SqT K H l xs ∧ 2 ≤ k ∧ k ≤ 1000 ∧ xs.length ≤ 1000 ∧ (xs = [] → Q (.ref l) H) ∧ (xs ≠ [] → ∀ p, H p = none → Q (.ref p) (upd H p (.tup (List.replicate k.toNat xs).flatten)))
theorem op_repT0 {X : Cx} : OpR X (binaryOp .Mult) (rRepT0 X.K) := by
  intro pins s σ H x y v u Q I rx ry h
  obtain ⟨l, k, xs, ex, ey, sq, k2, k3, few, h0, h1⟩ := h
  by_cases e : xs = []
  · subst e ex ey
    cases rx
    obtain ⟨t, rfl⟩ := ry
    obtain ⟨its, r, ⟨⟨cls, dd, dat, sl⟩, at0, hc, n, hd⟩, _⟩ := I.tuple sq
    cases r
    simp only at hc hd
    subst hc hd
    have small : (decide (k < -(2 ^ 63)) || decide (k ≥ 2 ^ 63)) = false := by
      rw [Bool.or_eq_false_iff]
      exact ⟨decide_eq_false (by omega), decide_eq_false (by omega)⟩
    exact wpAny_binaryOp_repeat_ref (T := "tuple") (U := "int") (by decide) ⟨_, at0, rfl⟩ (fun s' => typeIs_int s' k t) noFill_tuple_mul F.fills_int_mul F.slot_int_rmul repeat_tuple F.slot_int_index.lookup
      (call_meets F.slot_int_rmul (typeIs_int s k t) F.entry_int_rmul (F.args_int_rmul_2 _ _) (int_rmul_tuple k t l #[] n dd sl) ⟨at0, rfl, ⟨_, at0, rfl⟩, call_meets F.slot_tuple_mul ⟨_, at0, rfl⟩ F.entry_tuple_mul (F.args_tuple_mul_2 _ _) (emp_mul l n dd sl k t small) ⟨at0, .ref l, H, I, rfl, h0 rfl⟩⟩)
  · exact op_repT pins s σ H x y v u Q I rx ry ⟨l, k, xs, ex, ey, sq, e, k2, k3, few, h1 e⟩
section
variable {K : PySem.W.Frag} {b : Bool} {p : Addr × Addr} {S : List Addr} {σ : L2.St} {H : Hp} {ta tb : TE}
theorem ats_rep {H : Hp} {vs : List V} {ds : List PyData} (r : Ats S H vs ds) : ∀ n : Nat, Ats S H (List.replicate n vs).flatten (List.replicate n ds).flatten
  | 0 => .nil
  | n + 1 => by
    rw [List.replicate_succ, List.replicate_succ, List.flatten_cons, List.flatten_cons]
    exact r.append (ats_rep r n)
theorem ev_rep {ds : List PyData} {k : Nat} (ha : Ev b p S ta σ H fun z => z = .tuple ds) (hb : Ev b p S tb σ H fun z => z = .int (k : Int)) (k2 : 2 ≤ k) (k3 : k ≤ 1000) (few : ds.length ≤ 1000) : Ev b p S (tOp (rRepT0 K) ta tb) σ H fun z => z = .tuple (List.replicate k ds).flatten :=
  ev_op ha hb fun d1 e1 h1 h2 x y H1 P a1 a2 Q q => by
    subst h1 h2
    cases a2
    obtain ⟨a, xs, rfl, na, hx, ra⟩ := id a1.tup_inv
    refine ⟨a, k, xs, rfl, rfl, SqT.of hx, by omega, by omega, by rw [ra.length]; exact few, fun e => ?_, fun _ l hl => ?_⟩
    · subst e
      cases ra
      refine q _ H1 _ Rl.refl P a1 ?_
      rw [List.flatten_replicate_nil]
    · exact q _ _ _ (Rl.new hl) (P.new hl) (at_new_tup P hl (ats_rep ra _)) rfl
end
end Mv
/-! # law: lemmas -/
namespace Mv
open PySem PySem.Spec PyProof.Rows L2 He LamX
theorem nt_lst {xs : List V} : ∀ ps, HO.lst xs ≠ .tbl ps := fun _ z => nomatch z
theorem nt_tup {xs : List V} : ∀ ps, HO.tup xs ≠ .tbl ps := fun _ z => nomatch z
theorem nt_dK {xs : List (Key × V)} : ∀ ps, HO.dK xs ≠ .tbl ps := fun _ z => nomatch z
/-- all but tables stay, and but the objects at X -/
def Rt (X : List Addr) (H H' : Hp) : Prop := ∀ c o, c ∉ X → (∀ ps, o ≠ .tbl ps) → H c = some o → H' c = some o
section
variable {X : List Addr} {b : Bool} {p : Addr × Addr} {S : List Addr} {H H1 H2 H' : Hp}
theorem Rt.refl : Rt X H H := fun _ _ _ _ h => h
theorem Rt.trans (a : Rt X H H1) (c : Rt X H1 H2) : Rt X H H2 := fun x o n t h => c x o n t (a x o n t h)
theorem Rt.ofRl (a : Rl false p H H1) : Rt X H H1 := fun x o _ _ h => a.same x o h
theorem Rt.ofN (a : ExtN H H1) : Rt X H H1 := fun x o _ t h => a x o h t
mutual
theorem At.monoT (e : Rt X H H') (h : ∀ x ∈ X, x ∈ S) : ∀ {v : V} {d : PyData}, At S H v d → At S H' v d
  | _, _, .non => .non
  | _, _, .bl k => .bl k
  | _, _, .int i => .int i
  | _, _, .str x => .str x
  | _, _, .lst n q r => .lst n (e _ _ (fun m => n (h _ m)) nt_lst q) (Ats.monoT e h r)
  | _, _, .tup n q r => .tup n (e _ _ (fun m => n (h _ m)) nt_tup q) (Ats.monoT e h r)
  | _, _, .emp n q => .emp n (e _ _ (fun m => n (h _ m)) nt_dK q)
theorem Ats.monoT (e : Rt X H H') (h : ∀ x ∈ X, x ∈ S) : ∀ {vs : List V} {ds : List PyData}, Ats S H vs ds → Ats S H' vs ds
  | _, _, .nil => .nil
  | _, _, .cons q r => .cons (At.monoT e h q) (Ats.monoT e h r)
end
theorem Pen.extN (P : Pen p [p.1, p.2] H) (e : ExtN H H') : Pen p [p.1, p.2] H' := by
  obtain ⟨⟨ns, i, j, h1, h2, h3⟩, n, m, m2, t⟩ := P
  have g1 := e _ _ h1 fun _ z => nomatch z
  have g2 := e _ _ h2 fun _ z => nomatch z
  refine ⟨⟨ns, i, j, g1, g2, h3⟩, n, m, m2, fun s hs => ?_⟩
  rcases List.mem_cons.mp hs with rfl | hs
  · exact ⟨_, g1⟩
  · rw [List.mem_singleton.mp hs]
    exact ⟨_, g2⟩
theorem tabs_rl {T : List (Addr × Str)} (t : Tabs T H) (P : Pen p S H) (e : Rl b p H H') : Tabs T H' := fun x hx => by
  obtain ⟨ns, i, j, h1, _⟩ := P.pen
  obtain ⟨ps, g1, g2, g3⟩ := t x hx
  have ne : ∀ {c : Addr} {o : HO}, H c = some o → (∀ xs, o ≠ .lst xs) → c ≠ p.1 := fun {c o} q k z => by
    rw [z, h1] at q
    exact k _ (Option.some.inj q).symm
  refine ⟨ps, e _ _ (fun _ => ne g1 fun _ z => nomatch z) g1, g2, fun pos cv hc => ?_⟩
  obtain ⟨c, e1, e2⟩ := g3 pos cv hc
  exact ⟨c, e1, e _ _ (fun _ => ne e2 fun _ z => nomatch z) e2⟩
end
section
variable {K : PySem.W.Frag} {b : Bool} {p : Addr × Addr} {S X : List Addr} {σ : L2.St} {H H' : Hp} {te tl : TE} {tr : TA} {D : Ends} {body : TS} {ds : List PyData} {R : PyData → Prop} {Rs : List PyData → Prop} {i : Nat}
theorem s_asgG {g : TG} (h : Ev b p S te σ H R) (P : Pen p S H) (k : ∀ v H1 d, Rl b p H H1 → Pen p S H1 → At S H1 v d → R d → g v σ H1 D.nx) : tAsg te g D σ H := h H Rl.refl P _ k
/-- x = [..], a list of one's own -/
theorem s_newE (h : EvA b p S tr σ H Rs) (hl : ∀ ds, Rs ds → ds.length ≤ 100000) (P : Pen p S H) (k : ∀ A H7 ds H8, Rl b p H H7 → Pen p S H7 → H7 A = none → Rx [] H7 H8 → Own A p S H8 ds → Rs ds → D.nx (σ.set i (some (.ref A))) H8) : tAsg (tLst tr) (gName i) D σ H :=
  h H Rl.refl P _ fun vs H7 ds e7 P7 a7 r7 => ⟨Nat.le_trans (by rw [a7.length]; exact hl ds r7) (by decide), fun A hA => by
    have eA : Rx [] H7 (upd H7 A (.lst vs)) := Rx.new hA
    exact k A H7 ds _ e7 P7 hA eA ⟨(P7.new hA).more ⟨_, upd_same⟩, _, upd_same, (a7.avoid hA).monoX eA nil_sub⟩ r7⟩
theorem s_forTXR {n : Nat} {G : PyData → Prop} {g : TG} (h : Ev b p S tl σ H fun z => ∃ ds, z = .tuple ds ∧ (ds.length = n ∧ ∀ d ∈ ds, G d)) (P : Pen p S H) (hX : ∀ x ∈ X, x ∈ S) (I : Hp → Nat → L2.St → Hp → Prop) (h0 : ∀ H1, Rl b p H H1 → Pen p S H1 → I H1 0 σ H1) (hk : ∀ H1 i σ' H', I H1 i σ' H' → Rx X H1 H')
    (hs : ∀ H1, Rl b p H H1 → Pen p S H1 → ∀ (i : Nat) (d : PyData) (v : V) (σ' : L2.St) (H' : Hp), i < n → G d → I H1 i σ' H' → At S H' v d → g v σ' H' fun σ2 H2 => body { D with nx := I H1 (i + 1), ct := I H1 (i + 1), bk := D.nx } σ2 H2)
    (hd : ∀ H1 σ' H', Rl b p H H1 → I H1 n σ' H' → D.nx σ' H') : tFor (iTup K tl) g body D σ H :=
  h H Rl.refl P _ fun v H1 z e1 P1 a1 r1 => by
    obtain ⟨ds, rfl, hl, hG⟩ := r1
    exact (show tFor (iTup K (tC v)) g body D σ H1 from s_forTX (b := b) (X := X) (ds := ds) (ev_at a1) P1 hX I (fun H2 e2 P2 => h0 H2 (e1.trans e2) P2) hk (fun H2 e2 P2 i d u σ' H' hd' hI au => hs H2 (e1.trans e2) P2 i d u σ' H' (by rw [← hl]; exact (List.getElem?_eq_some_iff.mp hd').1) (hG d (List.mem_of_getElem? hd')) hI au) fun H2 σ' H' e2 hI => hd H2 σ' H' (e1.trans e2) (hl ▸ hI))
theorem s_forLT {g : TG} (h : Ev b p S tl σ H fun z => z = .list ds) (P : Pen p S H) (hX : ∀ x ∈ X, x ∈ S) (I : Hp → Nat → L2.St → Hp → Prop) (h0 : ∀ H1, Rl b p H H1 → Pen p S H1 → I H1 0 σ H1) (hk : ∀ H1 i σ' H', I H1 i σ' H' → Rt X H1 H')
    (hs : ∀ H1, Rl b p H H1 → Pen p S H1 → ∀ (i : Nat) (d : PyData) (v : V) (σ' : L2.St) (H' : Hp), ds[i]? = some d → I H1 i σ' H' → At S H' v d → g v σ' H' fun σ2 H2 => body { D with nx := I H1 (i + 1), ct := I H1 (i + 1), bk := D.nx } σ2 H2)
    (hd : ∀ H1 σ' H', Rl b p H H1 → I H1 ds.length σ' H' → D.nx σ' H') : tFor (iList K tl) g body D σ H := by
  refine h H Rl.refl P _ fun v H1 d e1 P1 a1 r1 => ?_
  subst r1
  obtain ⟨a, xs, rfl, na, ha, ra⟩ := a1.lst_inv
  have nx : a ∉ X := fun q => na (hX _ q)
  have stays : ∀ i σ' H', I H1 i σ' H' → SqL K H' a xs := fun i σ' H' q => SqL.of (hk _ _ _ _ q _ _ nx (fun _ z => nomatch z) ha)
  refine ⟨a, rfl, ⟨xs, SqL.of ha⟩, for_list (K := K) (a := a) (xs := xs) (I H1) (h0 H1 e1 P1) (fun i σ' H' _ q => stays i σ' H' q) (fun i x σ' H' hx q => ?_) fun σ' H' q => hd H1 σ' H' e1 (ra.length ▸ q)⟩
  obtain ⟨d, hd', ad⟩ := ra.get hx
  exact hs H1 e1 P1 i d x σ' H' hd' q (ad.monoT (hk _ _ _ _ q) hX)
/-! bounded data, evaluated -/
def BigB (d : PyData) : Prop := Bd 60 (10 ^ 71) 50 100000 d
def Bigs (n : Nat) (l : List PyData) : Prop := l.length = n ∧ ∀ d ∈ l, BigB d
theorem eb_nil : EvA b p S tNil σ H (Bigs 0) := ea_nil.imp fun l e => by rw [e]; exact ⟨rfl, fun d hd => nomatch hd⟩
theorem eb_more {n : Nat} (h : Ev b p S te σ H BigB) (hr : EvA b p S tr σ H (Bigs n)) : EvA b p S (tCons te tr) σ H (Bigs (n + 1)) := ea_cons h hr fun d ds h1 h2 => ⟨by rw [List.length_cons, h2.1], fun x hx => by
  rcases List.mem_cons.mp hx with rfl | hx
  · exact h1
  · exact h2.2 x hx⟩
theorem big_of {L I D N : Nat} {d : PyData} (h : Bd L I D N d) (a : L ≤ 60) (c : I ≤ 10 ^ 71) (e : D ≤ 50) (f : N ≤ 100000) : BigB d := h.mono a c e f
theorem wide_big {l : List PyData} (h20 : l.length ≤ 20) (h : ∀ d ∈ l, Part d) : BigB (.tuple l) := big_of (Bd.ofTup (L := 40) (I := 10 ^ 70 + 1) (D := 5) (N := 500) (by omega) h) (by decide) (by decide) (by decide) (by omega)
theorem wide_bigL {l : List PyData} (h20 : l.length ≤ 20) (h : ∀ d ∈ l, Part d) : BigB (.list l) := big_of (Bd.ofLst (L := 40) (I := 10 ^ 70 + 1) (D := 5) (N := 500) (by omega) h) (by decide) (by decide) (by decide) (by omega)
theorem cut_mem {lo hi : Option Int} {x : PyData} (h : x ∈ cutD ds lo hi) : x ∈ ds := List.mem_of_mem_drop (List.mem_of_mem_take h)
theorem cut_le {lo hi : Option Int} : (cutD ds lo hi).length ≤ ds.length := by
  unfold cutD
  rw [List.length_take, List.length_drop]
  omega
theorem rep_mem {n : Nat} {x : PyData} (h : x ∈ (List.replicate n ds).flatten) : x ∈ ds := by
  obtain ⟨l, hl, hx⟩ := List.mem_flatten.mp h
  rw [List.eq_of_mem_replicate hl] at hx
  exact hx
theorem cut_to_le {k : Nat} : (cutD ds none (some (k : Int))).length ≤ k := by
  unfold cutD
  rw [HT.sIx_none, HT.sIx_nat, List.length_take]
  omega
end
end Mv
/-! # law: the walk -/
namespace Mv
open PySem PySem.Spec PyProof.Rows L2 He LamX
abbrev N_law : List Str := ["_law_script", "_law_pen_here", "_law_turn", "_law_some", "_law_odd", "_law_claim", "_law_house", "_law_rules_here", "_law_given", "_law_lap", "_law_told", "_law_newer", "_law_before", "_law_is_valid_here"]
theorem sc_law : FnScope N_law ["_law_script"] (defScope (top 208)) := ⟨rfl, rfl, rfl, by decide +kernel, rfl, by decide +kernel, by decide +kernel⟩
section
variable {P : Program} {w : World} {K : PySem.W.Frag} {mg : Str → Option Value} {base : Heap} {C fI : Addr}

theorem law_body (T : Top K mg) (I : Icl K mg C fI) (hsys : (K.lookup sysModules).isSome = true) {c Pt f : Addr} (TB : TabB base mg c Pt) {s : Shared} {H : Hp} (hr : Room 12 (callerA.deeper (envOfC "law" (defScope (top 208)) s.heap.objs.size f (.ref c)))) {a : Addr} {ns : List Int} (hS : SqL K H a (ns.map V.int)) (l63 : ns.length ≤ 63) (hP : H Pt = some (.tbl #[])) {Q : VK} (fin : ∀ H', Q (.bl true) H') :
    ∃ t, PSs (cxOf CX0 P w K mg base N_law "law" (defScope (top 208)) f (.ref c) callerA [] s H E0).nox (defBody (top 208)) t ∧ t { nx := fun _ H' => Q .non H', rt := Q } (start N_law [.ref a]) H := by
  obtain ⟨fR, fdR, FR, mR, kR, bR⟩ := (D_require_claim (P := P) (w := w) (base := base) T I).ex
  obtain ⟨fD, fdD, FD, mD, kD, bD⟩ := (D_decide (P := P) (w := w) (base := base) T I).ex
  obtain ⟨fdO, FO⟩ := T.defs 54 (dfn "_law_outcome" 206) rfl
  have gO := T.glo 55 "_law_outcome" rfl
  have kO := FO.kp
  have bO := FunD.bindsN (ps := ["_law_call"]) FO fun _ _ _ _ _ _ us h => match us, h with | [_], _ => rfl
  obtain ⟨ocO, odO, dVO, kVO, docO, pmO, anO, cdvO, ctO, oslO, rfl, lkO, cdO, _, _⟩ := FO.ex
  have hgu : (callerA.deeper (envOfC "law" (defScope (top 208)) s.heap.objs.size f (.ref c))).guards = some [] := rfl
  let qL : Str := (cxOf CX0 P w K mg base N_law "law" (defScope (top 208)) f (.ref c) callerA [] s H E0).nox.env.qual ++ "<lambda>"
  refine ⟨_, pss_cons (ps_set (i := 1) sc_law.nd rfl (Or.inl rfl) (pe_dn ((D__law_pen T).up (by decide)) hr (by rfl) (pa_cons (pv 0) pa_nil)))
    (pss_cons (ps_for PassesOwn.never rfl (pi_range1 (by rfl) T.f_range (pa_cons (pe_callB (cr_max2 rfl) (by rfl) T.f_max bb_max (pa_cons pe_int (pa_cons (pe_callB (cr_min2 rfl) (by rfl) T.f_min bb_min (pa_cons pe_int (pa_cons (pe_len (by rfl) T.f_len (pv 0)) pa_nil))) pa_nil))) pa_nil)) (pg_name (i := 2) sc_law.nd rfl (Or.inl rfl))
      (pss_cons (ps_asg (pe_dn ((D__law_small_pair T).up (by decide)) hr (by rfl) (pa_cons (pv 1) pa_nil)) (pg_tup rfl (pgs_cons (pg_name (i := 6) sc_law.nd rfl (Or.inr rfl)) (pgs_cons (pg_name (i := 7) sc_law.nd rfl (Or.inl rfl)) pgs_nil))))
      (pss_cons (ps_set (i := 3) sc_law.nd rfl (Or.inl rfl) (pe_dn ((D__law_some_claims T).up (by decide)) hr (by rfl) (pa_cons (pv 1) (pa_cons (pv 6) (pa_cons (pv 7) pa_nil)))))
      (pss_cons (ps_set (i := 4) sc_law.nd rfl (Or.inl rfl) (pe_lst (pa_cons (pe_dn ((D__law_thing T).up (by decide)) hr (by rfl) (pa_cons (pv 1) pa_nil)) (pa_cons (pe_callTy cr_listOf (by rfl) T.f_list bb_list (pa_cons (pe_ix ix_seq (pv 3) pe_int (fun _ _ => rfl)) pa_nil)) (pa_cons (pe_slice sl_tupA (pe_ix ix_seq (pv 3) pe_int (fun _ _ => rfl)) po_none (po_some pe_int)) (pa_cons (pe_op op_catA (pe_ix ix_seq (pv 3) pe_int (fun _ _ => rfl)) (pe_tup (pa_cons pe_int pa_nil))) (pa_cons (pe_tup (pa_cons pe_str (pa_cons (pv 7) pa_nil))) (pa_cons (pe_tup (pa_cons pe_str (pa_cons (pv 7) (pa_cons pe_int (pa_cons (pe_lst pa_nil) pa_nil))))) pa_nil))))))))
      (pss_cons (ps_for PassesOwn.never rfl (pi_list (pe_slice sl_list (pv 3) po_none (po_some pe_int))) (pg_name (i := 5) sc_law.nd rfl (Or.inr rfl))
        (pss_cons (ps_for PassesOwn.never rfl (pi_tup (pe_tup (pa_cons (pe_slice sl_tupA (pe_op op_repT0 (pv 7) pe_int) po_none (po_some pe_int)) (pa_cons (pe_slice sl_tupA (pe_op op_repT0 (pv 7) pe_int) po_none (po_some pe_int)) (pa_cons (pe_op op_catA (pe_slice sl_tupA (pe_op op_repT0 (pv 7) pe_int) po_none (po_some pe_int)) (pe_tup (pa_cons pe_non pa_nil))) (pa_cons (pe_callTy cr_listOf (by rfl) T.f_list bb_list (pa_cons (pv 7) pa_nil)) pa_nil)))))) (pg_name (i := 8) sc_law.nd rfl (Or.inl rfl))
          (pss_one (ps_expr (pe_bm PySem.F.plainAttrs_list PySem.F.slot_list_append PySem.F.type_list_append mt_append (pv 4) (pa_cons (pe_op op_catA (pe_op op_catA (pe_slice sl_tupA (pv 5) po_none (po_some pe_int)) (pe_tup (pa_cons (pv 8) pa_nil))) (pe_slice sl_tupA (pv 5) (po_some pe_int) po_none)) pa_nil)))))
        (pss_one (ps_for PassesOwn.never rfl (pi_range1 (by rfl) T.f_range (pa_cons pe_int pa_nil)) (pg_name (i := 9) sc_law.nd rfl (Or.inl rfl))
          (pss_cons (ps_set (i := 11) sc_law.nd rfl (Or.inl rfl) (pe_dn ((D__law_bent T 5).up (by decide)) hr (by rfl) (pa_cons (pv 1) (pa_cons (pv 5) (pa_cons pe_int pa_nil)))))
          (pss_one (ps_expr (pe_bm PySem.F.plainAttrs_list PySem.F.slot_list_append PySem.F.type_list_append mt_append (pv 4) (pa_cons (pe_ifExp (pt_cmpR (op_eqD (hu_64 hr)) (pe_dn ((D__law_draw T).up (by decide)) hr (by rfl) (pa_cons (pv 1) (pa_cons pe_int pa_nil))) pe_int (nomark _)) (pe_dn ((D__law_bent T 5).up (by decide)) hr (by rfl) (pa_cons (pv 1) (pa_cons (pv 11) (pa_cons pe_int pa_nil)))) (pv 11)) pa_nil)))))))))
      (pss_one (ps_for PassesOwn.never rfl (pi_list (pe_op op_cat (pv 3) (pv 4))) (pg_name (i := 5) sc_law.nd rfl (Or.inr rfl))
        (pss_cons (ps_par (i := 12) (j := 13) (by rfl) sc_law.nd rfl rfl (by decide) rfl rfl (pa_cons (pe_callB (cr_repr hgu (hu_64 hr) hsys) (by rfl) T.f_repr bb_repr (pa_cons (pv 5) pa_nil)) (pa_cons (pe_dn ((D__law_is_valid T).up (by decide)) hr (by rfl) (pa_cons (pv 6) (pa_cons (pv 5) pa_nil))) pa_nil)) (by rfl))
        (pss_cons (ps_set (i := 10) sc_law.nd rfl (Or.inl rfl) (pe_lamcall (x := "_law_outcome") (a := "_law_call") (Ng := N__law_outcome) (sg := defScope (top 206)) (TT := TTO C) (P := Pt) (T := [(Pt, qL)]) (k := 10) (by rfl) gO kO lkO cdO bO sc__law_outcome rfl (Or.inl rfl) (outcome_gives (C := C) T I) TB rfl (List.mem_singleton_self _) (fun q hq _ => by rw [List.mem_singleton.mp hq]) (hr.mono (by decide)) (lamS_by (sc := defScope (top 208)) (by decide +kernel)) (by rfl) (fun _ _ _ _ _ => by rfl) (fun A outer s H E f c' hr2 => pe_callS FR (hr2.mono (by decide)) (by rfl) mR kR bR (fun σ => passAt (L2.takes_of rfl rfl rfl rfl) σ) (pa_cons (pv 6) (pa_cons (pv 5) pa_nil)))))
        (pss_cons (ps_if (PW.pt (pw_or (pt_cmpR op_ne (pv 10) (pe_ifExp (pt_val (pv 13)) pe_non pe_str) (nomark _)) (pw_or1 (pt_cmpR op_ne (pe_callB (cr_repr hgu (hu_64 hr) hsys) (by rfl) T.f_repr bb_repr (pa_cons (pv 5) pa_nil)) (pv 12) (nomark _)))))
          (pss_one (ps_ret pe_bl))
          (pss_nil))
        (pss_cons (ps_if (pt_val (pv 13))
          (pss_one (ps_continue))
          (pss_nil))
        (pss_cons (ps_if (PW.pt (pw_or (pt_cmpR op_ne (pe_lamcall (x := "_law_outcome") (a := "_law_call") (Ng := N__law_outcome) (sg := defScope (top 206)) (TT := TTO C) (P := Pt) (T := [(Pt, qL)]) (k := 10) (by rfl) gO kO lkO cdO bO sc__law_outcome rfl (Or.inl rfl) (outcome_gives (C := C) T I) TB rfl (List.mem_singleton_self _) (fun q hq _ => by rw [List.mem_singleton.mp hq]) (hr.mono (by decide)) (lamS_by (sc := defScope (top 208)) (by decide +kernel)) (by rfl) (fun _ _ _ _ _ => by rfl) (fun A outer s H E f c' hr2 => pe_callS FD (hr2.mono (by decide)) (by rfl) mD kD bD (fun σ => passAt (L2.takes_of rfl rfl rfl rfl) σ) (pa_cons (pv 6) (pa_cons (pv 5) pa_nil)))) pe_str (nomark _)) (pw_or1 (pt_cmpR op_ne (pe_callB (cr_repr hgu (hu_64 hr) hsys) (by rfl) T.f_repr bb_repr (pa_cons (pv 5) pa_nil)) (pv 12) (nomark _)))))
          (pss_one (ps_ret pe_bl))
          (pss_nil))
        (pss_one (ps_if (pt_cmpR (op_neD (hu_64 hr)) (pe_dn ((D_first_fault T).up (by decide)) hr (by rfl) (pa_cons (pv 6) (pa_cons (pe_tup (pa_cons pe_str (pa_cons (pv 5) (pa_cons (pe_tup pa_nil) pa_nil)))) pa_nil))) (pe_tup (pa_cons pe_str pa_nil)) (nomark _))
          (pss_one (ps_ret pe_bl))
          (pss_nil)))))))))))))))
    (pss_one (ps_ret pe_bl))), ?_⟩
  refine ⟨.ref a, rfl, a, ns, rfl, hS, fun r q H1 e1 P1 => ?_⟩
  have tabs1 : Tabs [(Pt, qL)] H1 := fun x hx => by
    rw [List.mem_singleton.mp hx]
    exact TabS.nil (e1 _ _ (fun m => nomatch m) hP)
  have hS1 : ∀ {H' : Hp}, Rl false (r, q) H1 H' → SqL K H' a (ns.map V.int) := fun e => by
    rcases hS with (h | ⟨o, h⟩) | h
    · exact .inl (.inl (e.same _ _ (e1 _ _ (fun m => nomatch m) h)))
    · exact .inl (.inr ⟨o, e.same _ _ (e1 _ _ (fun m => nomatch m) h)⟩)
    · exact .inr h
  dsimp only
  refine s_forRX (b := false) (p := (r, q)) (S := [r, q]) (Z := fun n => 0 ≤ n ∧ n ≤ 3) (fun H2 e2 P2 Q2 q2 => ⟨_, rfl, .ref a, (ns.map V.int).length, rfl, .inl ⟨_, hS1 e2, rfl⟩, 3, _, rfl, 2, _, rfl, q2 _ H2 _ Rl.refl P2 (.cons (.int _) .nil) ⟨_, rfl, ?_⟩⟩) (fun n hn => ⟨by omega, by omega⟩) P1
    (fun H2 n i σ' H' => (∃ x2 x3 x4 x5 x6 x7 x8 x9 x10 x11 x12 x13, σ' = [some (.ref a), some (.ref r), x2, x3, x4, x5, x6, x7, x8, x9, x10, x11, x12, x13]) ∧ Pen (r, q) [r, q] H' ∧ Tabs [(Pt, qL)] H')
    (fun H2 n hn e2 P2 => ⟨⟨_, _, _, _, _, _, _, _, _, _, _, _, rfl⟩, P2, tabs_rl tabs1 P1 e2⟩) (fun H2 n hn e2 P2 i σ' H3 hi hI => ?_) fun H2 n σ' H3 hn e2 hI => ?_
  · constructor
    · split <;> split <;> omega
    · split <;> split <;> omega
  · obtain ⟨⟨x2, x3, x4, x5, x6, x7, x8, x9, x10, x11, x12, x13, rfl⟩, P3, tabs3⟩ := hI
    dsimp only [gName]
    refine s_asgG (b := true) (p := (r, q)) (S := [r, q]) (ev_p (ds := []) (R := R_pair) (Pre := fun _ => True) (ep_cons (i := 1) rfl ea_nilK) rfl trivial) P3 fun v4 H4 z e4 P4 a4 r4 => ?_
    obtain ⟨h, ru, rfl, g, rs, rfl, rl, hru⟩ := r4
    obtain ⟨cc, xs, rfl, ncc, hcc, rcc⟩ := a4.tup_inv
    obtain ⟨v6, v7, rfl, b6, b7⟩ := rcc.two
    refine ⟨cc, _, rfl, SqT.of hcc, rfl, v6, _, rfl, v7, [], rfl, rfl, ?_⟩
    dsimp only [gName]
    have tabs4 := tabs_rl tabs3 P3 e4
    refine ⟨_, rfl, _, rfl, _, rfl, (r, q), [r, q], h, v6, v7, rs, rfl, b6, b7, g, ⟨rl, hru⟩, P4, fun v3 H5 cs e5 P5 a5 cl hcs => ?_⟩
    have b65 := b6.mono e5 P4.mem
    have b75 := b7.mono e5 P4.mem
    have tabs5 := tabs_rl tabs4 P4 e5
    clear b6 b7 a4 hcc rcc
    have pru : Part (.tuple rs) := (rules_bd g hru (by omega)).part
    obtain ⟨c0, hc0⟩ : ∃ c0, cs[0]? = some c0 := ⟨_, List.getElem?_eq_getElem (by omega)⟩
    obtain ⟨c1, hc1⟩ : ∃ c1, cs[1]? = some c1 := ⟨_, List.getElem?_eq_getElem (by omega)⟩
    obtain ⟨l0, rfl, l03, l06, hl0⟩ := hcs c0 (List.mem_of_getElem? hc0)
    obtain ⟨l1, rfl, l13, l16, hl1⟩ := hcs c1 (List.mem_of_getElem? hc1)
    have pw : ∀ {x : Str}, x ∈ wordL → Part (.str x) := fun h => part_word h
    have p0 : Part (.int 0) := part_int (by decide)
    have pe : Part (.list []) := ⟨rfl, by decide, Nat.zero_le _⟩
    have pn : Part .none := ⟨rfl, Nat.zero_le _, Nat.zero_le _⟩
    dsimp only
    have Vs : ∀ {σ : L2.St} {H' : Hp}, σ[3]? = some (some v3) → At [r, q] H' v3 (.list cs) → Ev true (r, q) [r, q] (tVar 3) σ H' fun z => z = .list cs := fun h a => ev_var h a
    have Vr : ∀ {σ : L2.St} {H' : Hp}, σ[7]? = some (some v7) → At [r, q] H' v7 (.tuple rs) → Ev true (r, q) [r, q] (tVar 7) σ H' fun z => z = .tuple rs := fun h a => ev_var h a
    refine s_newE (b := true) (p := (r, q)) (S := [r, q]) (Rs := Bigs 6) (eb_more ((ev_p (ds := []) (R := R_thing) (Pre := fun _ => True) (ep_cons (i := 1) rfl ea_nilK) rfl trivial).imp fun z hz => big_of hz (by decide) (by decide) (by decide) (by decide))
      (eb_more ((ev_listOf (ev_ixN (j := 0) (Vs rfl a5) ev_int rfl hc0) rfl).imp fun z e => by rw [e]; exact wide_bigL (by show l0.length ≤ 20; omega) hl0)
      (eb_more ((ev_slT (ev_ixN (j := 0) (Vs rfl a5) ev_int rfl hc0) eo_none (eo_some ev_int)).imp fun z e => by rw [e]; exact wide_big (Nat.le_trans cut_le (by omega)) fun d hd => hl0 d (cut_mem hd))
      (eb_more ((ev_catT (ev_ixN (j := 1) (Vs rfl a5) ev_int rfl hc1) (ev_tupK (ea_one ev_int) (by show 1 ≤ 100000; decide)) (by show l1.length + 1 ≤ 100000; omega)).imp fun z e => by
        rw [e]
        refine wide_big (by rw [List.length_append]; show l1.length + 1 ≤ 20; omega) fun d hd => ?_
        rcases List.mem_append.mp hd with hd | hd
        · exact hl1 d hd
        · rw [List.mem_singleton.mp hd]; exact p0)
      (eb_more ((ev_tupK (ea_two ev_str (Vr rfl b75)) (by show 2 ≤ 100000; decide)).imp fun z e => by
        rw [e]
        refine wide_big (by show 2 ≤ 20; decide) fun d hd => ?_
        rcases List.mem_cons.mp hd with rfl | hd
        · exact pw wd_safe
        · rw [List.mem_singleton.mp hd]; exact pru)
      (eb_more ((ev_tupK (ea_more ev_str (ea_more (Vr rfl b75) (ea_two ev_int (ev_lstK ea_nilK (by show 0 ≤ 100000; decide))))) (by show 4 ≤ 100000; decide)).imp fun z e => by
        rw [e]
        refine wide_big (by show 4 ≤ 20; decide) fun d hd => ?_
        simp only [List.mem_cons, List.not_mem_nil, or_false] at hd
        rcases hd with rfl | rfl | rfl | rfl
        · exact pw wd_pairs
        · exact pru
        · exact p0
        · exact pe) eb_nil)))))) (fun ds hd => by rw [hd.1]; decide) P5 fun A H6 ds H7 e6 P6 hA eA o7 hds => ?_
    have nA : A ∉ [r, q] := P6.ne hA
    have np : A ≠ r := P6.nep hA
    have np2 : A ≠ q := fun e => nA (by rw [e]; simp)
    have up : ∀ {v d}, At [r, q] H5 v d → At (A :: [r, q]) H7 v d := fun a => ((a.mono e6 P5.mem).avoid hA).monoX eA nil_sub
    have c37 := up a5
    have c67 := up b65
    have c77 := up b75
    have tabs6 := tabs_rl tabs5 P5 e6
    have tabs7 : Tabs [(Pt, qL)] H7 := tabs_rl (b := false) tabs6 P6 (Rx.nil eA)
    have hAn : H6 A = none := hA
    have eA67 : Rx [A, r] H6 H7 := eA.up
    clear a5 b65 b75 tabs3 tabs4 tabs5 up
    dsimp only
    have sub1 : ∀ x ∈ [A], x ∈ A :: [r, q] := fun x hx => by rw [List.mem_singleton.mp hx]; simp
    have sub2 : ∀ x ∈ [A, r], x ∈ A :: [r, q] := fun x hx => by
      simp only [List.mem_cons, List.not_mem_nil, or_false] at hx ⊢
      rcases hx with rfl | rfl <;> simp
    refine s_forLX (b := false) (p := (r, q)) (X := [A, r]) (S := A :: [r, q]) (ds := cutD cs none (some 4)) (ev_slL (ev_var rfl c37) eo_none (eo_some ev_int)) o7.pen sub2
      (fun H8 i σ' H' => (∃ y5 y8 y9 y11, σ' = [some (.ref a), some (.ref r), some (.int _), some v3, some (.ref A), y5, some v6, some v7, y8, y9, x10, y11, x12, x13]) ∧ Rx [A, r] H8 H' ∧ ∃ ds, Own A (r, q) [r, q] H' ds ∧ ds.length ≤ 6 + 9 * i ∧ ∀ d ∈ ds, BigB d)
      (fun H8 e8 P8 => ⟨⟨_, _, _, _, rfl⟩, Rx.refl, ds, o7.rl np e8 P8, by rw [hds.1]; omega, hds.2⟩) (fun _ _ _ _ q => q.2.1) (fun H8 e8 P8 i d v5 σ' H9 hd hI a9 => ?_) fun H8 σ' H9 e8 hI => ?_
    · obtain ⟨⟨y5, y8, y9, y11, rfl⟩, e9, ds9, o9, l9, h9⟩ := hI
      have hi10 : i < 10 := by
        have := (List.getElem?_eq_some_iff.mp hd).1
        have := cut_le (ds := cs) (lo := none) (hi := some 4)
        omega
      obtain ⟨ld, rfl, ld3, ld6, hld⟩ := hcs d (cut_mem (List.mem_of_getElem? hd))
      have c79 : At (A :: [r, q]) H9 v7 (.tuple rs) := (c77.mono e8 o7.pen.mem).monoX e9 sub2
      dsimp only [gName]
      have Vr9 : ∀ {σ : L2.St} {H' : Hp}, σ[7]? = some (some v7) → At (A :: [r, q]) H' v7 (.tuple rs) → Ev false (r, q) (A :: [r, q]) (tVar 7) σ H' fun z => z = .tuple rs := fun h a => ev_var h a
      refine s_forTXR (b := false) (p := (r, q)) (X := [A]) (S := A :: [r, q]) (n := 4) (G := Part) ((ev_tup (Rs := Parts 4) (ep_more ((ev_slT (ev_rep (k := 7) (Vr9 rfl c79) ev_int (by decide) (by decide) (by omega)) eo_none (eo_some ev_int)).imp fun z e => by rw [e]; exact (rules_bd g (fun x hx => hru x (rep_mem (cut_mem hx))) (cut_to_le (k := 7))).part)
        (ep_more ((ev_slT (ev_rep (k := 6) (Vr9 rfl c79) ev_int (by decide) (by decide) (by omega)) eo_none (eo_some ev_int)).imp fun z e => by rw [e]; exact (rules_bd g (fun x hx => hru x (rep_mem (cut_mem hx))) (Nat.le_trans (cut_to_le (k := 6)) (by decide))).part)
        (ep_more ((ev_catT (ev_slT (ev_rep (k := 6) (Vr9 rfl c79) ev_int (by decide) (by decide) (by omega)) eo_none (eo_some ev_int)) (ev_tupK (ea_one ev_non) (by show 1 ≤ 100000; decide)) ?_).imp fun z e => ?_)
        (ep_more ((ev_listOf (Vr9 rfl c79) rfl).imp fun z e => ?_) ep_nil)))) fun l hl => by rw [hl.1]; decide).imp fun z ⟨l, e, h⟩ => ⟨l, e, h⟩) o9.pen sub1
        (fun H10 j σ' H' => (∃ y8, σ' = [some (.ref a), some (.ref r), some (.int _), some v3, some (.ref A), some v5, some v6, some v7, y8, y9, x10, y11, x12, x13]) ∧ Rx [A] H10 H' ∧ ∃ ds, Own A (r, q) [r, q] H' ds ∧ ds.length ≤ 6 + 9 * i + j ∧ ∀ d ∈ ds, BigB d)
        (fun H10 e10 P10 => ⟨⟨_, rfl⟩, Rx.refl, ds9, o9.rl np e10 P10, by omega, h9⟩) (fun _ _ _ _ q => q.2.1) (fun H10 e10 P10 j gv v8 σ' H11 hj hg hI a11 => ?_) fun H10 σ' H11 e10 hI => ?_
      · have := cut_to_le (ds := (List.replicate 6 rs).flatten) (k := 5)
        show (cutD (List.replicate 6 rs).flatten none (some ((5 : Nat) : Int))).length + 1 ≤ 100000
        omega
      · rw [e]
        have := cut_to_le (ds := (List.replicate 6 rs).flatten) (k := 5)
        refine (Bd.ofTup (L := 40) (I := 10 ^ 70 + 1) (D := 3) (N := 57) ?_ fun x hx => ?_).part (by decide) ?_
        · rw [List.length_append]
          show (cutD (List.replicate 6 rs).flatten none (some ((5 : Nat) : Int))).length + 1 ≤ 40
          omega
        · rcases List.mem_append.mp hx with hx | hx
          · exact rule_bd g (hru x (rep_mem (cut_mem hx)))
          · rw [List.mem_singleton.mp hx]; exact ⟨rfl, Nat.zero_le _, Nat.zero_le _⟩
        · rw [List.length_append]
          show ((cutD (List.replicate 6 rs).flatten none (some ((5 : Nat) : Int))).length + 1) * 58 ≤ 500
          omega
      · rw [e]
        exact (Bd.ofLst (L := 40) (I := 10 ^ 70 + 1) (D := 3) (N := 57) (ds := rs) (by omega) fun x hx => rule_bd g (hru x hx)).part (by decide) (by omega)
      · obtain ⟨⟨y8', rfl⟩, e11, ds11, o11, l11, h11⟩ := hI
        have a11' : At (A :: [r, q]) H11 v5 (.tuple ld) := (a9.mono e10 o9.pen.mem).monoX e11 sub1
        dsimp only [gName]
        refine s_appL (b := false) (p := (r, q)) (R := BigB) (i := 4) rfl o11 np np2 (by omega) ((ev_catT (ev_catT (ev_slT (ev_var rfl a11') eo_none (eo_some ev_int)) (ev_tupK (ea_one (ev_var rfl a11)) (by show 1 ≤ 100000; decide)) ?_) (ev_slT (ev_var rfl a11') (eo_some ev_int) eo_none) ?_).imp fun z e => ?_) fun H12 d12 e12 o12 hd12 => ⟨⟨_, rfl⟩, e11.trans (by simpa using e12), _, o12, by rw [List.length_append]; show ds11.length + 1 ≤ _; omega, fun x hx => ?_⟩
        · have := cut_le (ds := ld) (lo := none) (hi := some 1)
          show (cutD ld none (some 1)).length + 1 ≤ 100000
          omega
        · have := cut_le (ds := ld) (lo := none) (hi := some 1)
          have := cut_le (ds := ld) (lo := some 2) (hi := none)
          rw [List.length_append]
          show (cutD ld none (some 1)).length + 1 + (cutD ld (some 2) none).length ≤ 100000
          omega
        · rw [e]
          have := cut_le (ds := ld) (lo := none) (hi := some 1)
          have := cut_le (ds := ld) (lo := some 2) (hi := none)
          refine wide_big ?_ fun x hx => ?_
          · rw [List.length_append, List.length_append]
            show (cutD ld none (some 1)).length + 1 + (cutD ld (some 2) none).length ≤ 20
            omega
          · rcases List.mem_append.mp hx with hx | hx
            · rcases List.mem_append.mp hx with hx | hx
              · exact hld x (cut_mem hx)
              · rw [List.mem_singleton.mp hx]; exact hg
            · exact hld x (cut_mem hx)
        · rcases List.mem_append.mp hx with hx | hx
          · exact h11 x hx
          · rw [List.mem_singleton.mp hx]; exact hd12
      · obtain ⟨⟨y8', rfl⟩, e11, ds11, o11, l11, h11⟩ := hI
        have a11' : At (A :: [r, q]) H11 v5 (.tuple ld) := (a9.mono e10 o9.pen.mem).monoX e11 sub1
        have e911 : Rx [A, r] H9 H11 := (Rx.of0 e10).trans (e11.sub fun x hx => by rw [List.mem_singleton.mp hx]; simp)
        dsimp only
        have bent0 : Bd 40 (10 ^ 70 + 1) 6 3507 (.tuple ld) := clm_bd (by omega) hld
        refine s_forRX (b := false) (p := (r, q)) (S := A :: [r, q]) (Z := fun n => n = 5) ((ea_one ev_int).imp fun l e => ⟨5, e, rfl⟩) (fun n hn => ⟨by omega, by omega⟩) o11.pen
          (fun H12 n j σ' H' => (∃ y9 y11, σ' = [some (.ref a), some (.ref r), some (.int _), some v3, some (.ref A), some v5, some v6, some v7, y8', y9, x10, y11, x12, x13]) ∧ Rx [A, r] H12 H' ∧ ∃ ds, Own A (r, q) [r, q] H' ds ∧ ds.length ≤ 6 + 9 * i + 4 + j ∧ ∀ d ∈ ds, BigB d)
          (fun H12 n hn e12 P12 => ⟨⟨_, _, rfl⟩, Rx.refl, ds11, o11.rl np e12 P12, by omega, h11⟩) (fun H12 n hn e12 P12 j σ' H13 hj hI => ?_) fun H12 n σ' H13 hn e12 hI => ?_
        · obtain ⟨⟨y9', y11', rfl⟩, e13, ds13, o13, l13', h13⟩ := hI
          have a13 : At (A :: [r, q]) H13 v5 (.tuple ld) := (a11'.mono e12 o11.pen.mem).monoX e13 sub2
          dsimp only [gName]
          refine s_asg (b := true) (p := (r, q)) (S := A :: [r, q]) (R := Bd 41 (10 ^ 70 + 101) 9 7054) ((ev_p (ds := [.tuple ld, .int 5]) (R := R_bent) (Pre := Pre_bent 5) (ep_cons (i := 1) rfl (ea_two (ev_var rfl a13) ev_int)) rfl ⟨_, rfl, _, _, _, _, bent0, by decide⟩).imp fun z ⟨d0, n0, e0, k0⟩ => ?_) o13.pen fun v11 H14 nw e14 P14 a14 hnw => ?_
          · obtain ⟨e1', _⟩ := List.cons.inj e0
            subst e1'
            exact k0 _ _ _ _ (by decide) (by decide) bent0
          · have o14 := o13.rl np e14 P14
            dsimp only
            refine s_appL (b := true) (p := (r, q)) (R := BigB) (i := 4) rfl o14 np np2 (by omega) (ev_if (Z := fun _ => True) (et_any (m := 3) ((ev_p (ds := [.int 3]) (R := R_draw) (Pre := Pre_draw) (ep_cons (i := 1) rfl (ea_one ev_int)) rfl ⟨3, rfl, by decide, by decide⟩).imp fun z ⟨d0, m0, e0, ez, l1', l2'⟩ => by cases e0; exact ⟨d0, ez, l1', l2'⟩))
              (fun _ => (ev_p (ds := [nw, .int 5]) (R := R_bent) (Pre := Pre_bent 5) (ep_cons (i := 1) rfl (ea_two (ev_var rfl a14) ev_int)) rfl ⟨_, rfl, _, _, _, _, hnw, by decide⟩).imp fun z ⟨d0, n0, e0, k0⟩ => ?_) fun _ => (ev_var rfl a14).imp fun z e => ?_) fun H15 d15 e15 o15 hd15 => ⟨⟨_, _, rfl⟩, (e13.trans (Rx.of e14 fun _ => by simp)).trans (by simpa using e15), _, o15, by rw [List.length_append]; show ds13.length + 1 ≤ _; omega, fun x hx => ?_⟩
            · obtain ⟨e1', _⟩ := List.cons.inj e0
              subst e1'
              exact big_of (k0 _ _ _ _ (by decide) (by decide) hnw) (by decide) (by decide) (by decide) (by decide)
            · rw [e]
              exact big_of hnw (by decide) (by decide) (by decide) (by decide)
            · rcases List.mem_append.mp hx with hx | hx
              · exact h13 x hx
              · rw [List.mem_singleton.mp hx]; exact hd15
        · obtain ⟨⟨y9', y11', rfl⟩, e13, ds13, o13, l13', h13⟩ := hI
          exact ⟨⟨_, _, _, _, rfl⟩, (e9.trans e911).trans ((Rx.of0 e12).trans e13), ds13, o13, by omega, h13⟩
    · obtain ⟨⟨y5, y8, y9, y11, rfl⟩, e9, ds9, o9, l9, h9⟩ := hI
      have l10 : (cutD cs none (some 4)).length ≤ 10 := by
        have := cut_le (ds := cs) (lo := none) (hi := some 4)
        omega
      have e79 : Rx [A, r] H7 H9 := (Rx.of0 e8).trans e9
      have c39 := (c37.monoX e79 sub2).less
      have c69 := (c67.monoX e79 sub2).less
      have e69 : Rl true (r, q) H6 H9 := ((eA67.trans e79).drop hAn).one
      have tabs9 : Tabs [(Pt, qL)] H9 := tabs_rl tabs6 P6 e69
      have P9 : Pen (r, q) [r, q] H9 := o9.pen.tail (by simp) (by simp)
      have d9 : At [r, q] H9 (.ref A) (.list ds9) := o9.done nA
      dsimp only
      refine s_forLT (b := false) (p := (r, q)) (X := []) (S := [r, q]) (ds := cs ++ ds9) (ev_catL (ev_var rfl c39) (ev_var rfl d9) (by omega)) P9 (fun x hx => nomatch hx)
        (fun H10 i σ' H' => (∃ y5 y10 y12 y13, σ' = [some (.ref a), some (.ref r), some (.int _), some v3, some (.ref A), y5, some v6, some v7, y8, y9, y10, y11, y12, y13]) ∧ Rt [] H10 H' ∧ Pen (r, q) [r, q] H' ∧ Tabs [(Pt, qL)] H')
        (fun H10 e10 P10 => ⟨⟨_, _, _, _, rfl⟩, Rt.refl, P10, tabs_rl tabs9 P9 e10⟩) (fun _ _ _ _ q => q.2.1) (fun H10 e10 P10 i d v5 σ' H11 hd hI a11 => ?_) fun H10 σ' H11 e10 hI => ?_
      · obtain ⟨⟨y5, y10, y12, y13, rfl⟩, e11, P11, tabs11⟩ := hI
        have bd : BigB d := by
          rcases List.mem_append.mp (List.mem_of_getElem? hd) with hm | hm
          · obtain ⟨l, rfl, _, l6, hl⟩ := hcs d hm
            exact wide_big (by omega) hl
          · exact h9 d hm
        have ft := fit_of bd
        have c6 : At [r, q] H11 v6 h.d := (c69.mono e10 P9.mem).monoT e11 nil_sub
        dsimp only [gName]
        refine s_par (b := false) (p := (r, q)) (S := [r, q]) (R1 := fun z => z = .str d.shown) (R2 := fun z => z = .bool (isClaim h d)) (ev_repr (ev_var rfl a11) ft.sh ft.ln ft.dp) (ev_f (ea_two (ev_var rfl c6) (ev_var rfl a11)) rfl ⟨h, d, rfl, g.ok, ft.sm, fun x hx => (ft.gw x hx).1⟩ (by rw [f_is_claim, hou_d])) P11 fun v12 v13 H12 d12 d13 e12 P12 a12 a13 r12 r13 => ?_
        subst r12 r13
        cases a12
        cases a13
        have tabs12 := tabs_rl tabs11 P11 e12
        have c62 := c6.mono e12 P11.mem
        have a112 := a11.mono e12 P11.mem
        dsimp only
        -- the check of a told word, and of the text
        have chk : ∀ {σ : L2.St} {H' : Hp}, σ[5]? = some (some v5) → σ[12]? = some (some (.str d.shown)) → At [r, q] H' v5 d → EvT false (r, q) [r, q] (tTest (tOp rNe (tCB rRepr (tCons (tVar 5) tNil)) (tVar 12))) σ H' fun x => x = false := fun h5 h12 a5 =>
          et_c (k := false) (ev_eq (ev_neS (ev_repr (ev_var h5 a5) ft.sh ft.ln ft.dp) (ev_var h12 (.str _)) rfl) (by simp [eqS]))
        refine ⟨tabs12, fun H13 x13' tabs13 => ⟨v6, rfl, v5, rfl, (r, q), [r, q], h, d, .cons (c62.monoT (Rt.ofN x13') nil_sub) (.cons (a112.monoT (Rt.ofN x13') nil_sub) .nil), g.ok, ft.sm, ft.gw, P12.extN x13', fun H14 e14 P14 => ⟨fun hv => ?_, fun hv => ⟨rfl, rfl, ?_⟩⟩⟩⟩
        · have t12 : Rt [] H12 H14 := (Rt.ofN x13').trans (Rt.ofRl e14)
          have c64 := c62.monoT t12 nil_sub
          have a14 := a112.monoT t12 nil_sub
          have tabs14 := tabs_rl tabs13 (P12.extN x13') e14
          dsimp only
          rw [hv]
          refine s_ifK (b := false) (p := (r, q)) (S := [r, q]) (k := false) (et_orK (k := false) (l := false) (et_c (k := false) (ev_eq (ev_neS (d := .none) (e := .none) (ev_var rfl .non) (ev_ifK (k := true) (et_k (ev_var rfl (.bl true))) (fun _ => ev_non) fun k => by cases k) rfl) (by simp [eqS]))) fun _ => chk rfl rfl a14) P14 (fun k _ _ _ => by cases k) (fun _ H15 e15 P15 => ?_)
          dsimp only [tNext]
          refine s_ifK (b := false) (p := (r, q)) (S := [r, q]) (k := true) (et_k (ev_var rfl (.bl true))) P15 (fun _ H16 e16 P16 => ?_) (fun k _ _ _ => by cases k)
          exact ⟨⟨_, _, _, _, rfl⟩, ((e11.trans (Rt.ofRl e12)).trans t12).trans (Rt.ofRl (e15.trans e16)), P16, tabs_rl tabs14 P14 (e15.trans e16)⟩
        · have t12 : Rt [] H12 H14 := (Rt.ofN x13').trans (Rt.ofRl e14)
          have c64 := c62.monoT t12 nil_sub
          have a14 := a112.monoT t12 nil_sub
          have tabs14 := tabs_rl tabs13 (P12.extN x13') e14
          dsimp only
          rw [hv]
          refine s_ifK (b := false) (p := (r, q)) (S := [r, q]) (k := false) (et_orK (k := false) (l := false) (et_c (k := false) (ev_eq (ev_neS (d := .str (Str.ofString "claim")) (e := .str (Str.ofString "claim")) (ev_var rfl (.str _)) (ev_ifK (k := false) (et_k (ev_var rfl (.bl false))) (fun k => by cases k) fun _ => ev_str) rfl) (by simp [eqS]))) fun _ => chk rfl rfl a14) P14 (fun k _ _ _ => by cases k) (fun _ H15 e15 P15 => ?_)
          dsimp only [tNext]
          refine s_ifK (b := false) (p := (r, q)) (S := [r, q]) (k := false) (et_k (ev_var rfl (.bl false))) P15 (fun k _ _ _ => by cases k) (fun _ H16 e16 P16 => ?_)
          dsimp only [tNext]
          have e46 := e15.trans e16
          have c66 := c64.mono e46 P14.mem
          have a16 := a14.mono e46 P14.mem
          have tabs16 := tabs_rl tabs14 P14 e46
          refine ⟨tabs16, fun H17 x17 tabs17 => ⟨v6, rfl, v5, rfl, (r, q), [r, q], h, d, .cons (c66.monoT (Rt.ofN x17) nil_sub) (.cons (a16.monoT (Rt.ofN x17) nil_sub) .nil), g.ok, ft.sm, ft.gw, P16.extN x17, hv, fun H18 e18 P18 => ⟨rfl, rfl, ?_⟩⟩⟩
          have t16 : Rt [] H16 H18 := (Rt.ofN x17).trans (Rt.ofRl e18)
          have c68 := c66.monoT t16 nil_sub
          have a18 := a16.monoT t16 nil_sub
          have tabs18 := tabs_rl tabs17 (P16.extN x17) e18
          refine ⟨rfl, false, by simp, ?_⟩
          refine (chk rfl rfl a18) H18 Rl.refl P18 _ fun k H19 e19 P19 hk => ?_
          subst hk
          rw [if_neg Bool.false_ne_true]
          dsimp only [tNext]
          have c69' := c68.mono e19 P18.mem
          have a19 := a18.mono e19 P18.mem
          refine s_ifK (b := false) (p := (r, q)) (S := [r, q]) (k := false) (et_c (k := false) (ev_eq (ev_neD (d := .tuple [.str (Str.ofString "claim")]) (e := .tuple [.str (Str.ofString "claim")]) (ev_f (ea_two (ev_var rfl c69') (ev_tupK (ea_more ev_str (ea_two (ev_var rfl a19) (ev_tupK ea_nilK (by show 0 ≤ 100000; decide)))) (by show 3 ≤ 100000; decide))) rfl ⟨h, _, d, _, rfl, g.ok, ft.sm, ft.gw, hv⟩ rfl) (ev_tupK (ea_one ev_str) (by show 1 ≤ 100000; decide)) (by decide +kernel) (by decide +kernel)) (by simp [PyData.eqv, PyData.eqvAll]))) P19 (fun k _ _ _ => by cases k) (fun _ H20 e20 P20 => ?_)
          dsimp only [tNext]
          exact ⟨⟨_, _, _, _, rfl⟩, (((e11.trans (Rt.ofRl e12)).trans t12).trans (Rt.ofRl e46)).trans (t16.trans (Rt.ofRl (e19.trans e20))), P20, tabs_rl tabs18 P18 (e19.trans e20)⟩
      · obtain ⟨⟨y5, y10, y12, y13, rfl⟩, e11, P11, tabs11⟩ := hI
        exact ⟨⟨_, _, _, _, _, _, _, _, _, _, _, _, rfl⟩, P11, tabs11⟩
  · exact fin H3

end
end Mv
/-! # The call of law itself: from the caller, whose guards are known; one table of code objects -/
namespace Mv
open PySem PySem.Spec PyProof.Rows L2 He LamX
/-- what is tracked at first: the table, and the scr's list unless K holds it -/
def first (K : PySem.W.Frag) (Pt a : Addr) (lo : Obj) (ns : List Int) : Hp := fun b => if b = Pt then some (.tbl #[]) else if b = a ∧ (K.lookup a).isNone = true then some (.frz lo (.lst (ns.map V.int))) else none
section
variable {K : PySem.W.Frag} {Pt a : Addr} {lo : Obj} {ns : List Int}
theorem first_tab : first K Pt a lo ns Pt = some (.tbl #[]) := if_pos rfl
theorem first_cases {b : Addr} {u : HO} (h : first K Pt a lo ns b = some u) : (b = Pt ∧ u = .tbl #[]) ∨ (b = a ∧ (K.lookup a).isNone = true ∧ u = .frz lo (.lst (ns.map V.int))) := by
  unfold first at h
  by_cases e : b = Pt
  · rw [if_pos e] at h
    exact .inl ⟨e, (Option.some.inj h).symm⟩
  · rw [if_neg e] at h
    by_cases e2 : b = a ∧ (K.lookup a).isNone = true
    · rw [if_pos e2] at h
      exact .inr ⟨e2.1, e2.2, (Option.some.inj h).symm⟩
    · rw [if_neg e2] at h
      cases h
end
abbrev emptyT : Obj := { cls := .none, data := .fields #[] }
theorem law_go {P : Program} {w : World} {K : PySem.W.Frag} {mg mb : Str → Option Value} {fa a c Pt : Addr} {z : Shared} {vs : List Value} {ns : List Int}
    (kin : K.In z.heap) (main : z.heap.Ns mainGlobals mg) (blt : z.heap.Ns builtinsNs mb) (boot : ∀ x : Str, x ≠ "__name__" → mb x = bootBuiltins x) (free : z.heap.NoLimit) (bare : z.gens = #[])
    (tab : z.heap.get? Pt = some emptyT) (out : K.lookup Pt = none) (hd : PySem.W.CodeHd z.heap c Pt)
    (bm : ∃ (m : Addr) (o : Obj), mg "__builtins__" = some (.ref m) ∧ m ≠ builtinsNs ∧ z.heap.get? m = some o ∧ o.cls = .type "module" ∧ o.dict = some builtinsNs ∧ o.data = .plain)
    (scr : z.heap.get? a = some { cls := .type "list", data := .seq vs.toArray }) (isI : IntsAre vs ns) (few : ns.length ≤ sizeLine)
    (go : ∀ (base : Heap) (H : Hp), K.In base → base.Ns mainGlobals mg → TabB base mg c Pt → H Pt = some (.tbl #[]) → SqL K H a (ns.map V.int) → Env0 P w K mg base callerA [] z H →
      codeAny (model P w) callerA (.call (.ref fa) ⟨[.ref a], []⟩) (CR CX0 [] P w H z (fun v _ => v = .bl true) (fun _ _ _ => False)) z) :
    codeAny (model P w) callerA (.call (.ref fa) ⟨[.ref a], []⟩) (fun r z' => r = .ok (.ret (.bool true)) ∧ OldK z.heap z'.heap ∧ z'.os = z.os ∧ AllBare z'.gens) z := by
  have vi := vals_ints isI
  have vl := isI.length
  let lo : Obj := { cls := .type "list", data := .seq vs.toArray }
  have apart : a ≠ Pt := fun e => by
    rw [e, tab] at scr
    cases scr
  let F : Hp := first K Pt a lo ns
  have Ft : F Pt = some (.tbl #[]) := first_tab
  have sq : SqL K F a (ns.map V.int) := by
    cases lk : K.lookup a with
    | none =>
      refine .inl (.inr ⟨lo, ?_⟩)
      show first K Pt a lo ns a = _
      unfold first
      rw [if_neg apart, if_pos ⟨rfl, by rw [lk]; rfl⟩]
    | some o =>
      have e := kin a o lk
      rw [scr] at e
      cases e
      exact .inr ⟨_, vs.toArray, _, lk, rfl, rfl, rfl, by rw [List.size_toArray, vl]; exact few, by simpa using vi⟩
  have good : HOk P w F z.heap := fun b u h => by
    rcases first_cases h with ⟨e1, e2⟩ | ⟨e1, _, e2⟩
    · subst e1 e2
      exact tab
    · subst e1 e2
      exact ⟨scr, by rw [List.length_map]; exact few, vs, _, vi, scr⟩
  -- what is neither a list nor an empty row is not tracked
  have un : ∀ {b : Addr} {o : Obj}, z.heap.get? b = some o → (∀ x n, o.data ≠ .seq x n) → o.data ≠ .fields #[] → F b = none := fun {b o} e n1 n2 => by
    cases q : F b with
    | none => rfl
    | some u =>
      rcases first_cases q with ⟨e1, _⟩ | ⟨e1, _, _⟩
      · rw [e1, tab] at e
        exact absurd (congrArg Obj.data (Option.some.inj e)).symm n2
      · rw [e1, scr] at e
        exact absurd (congrArg Obj.data (Option.some.inj e)).symm (n1 _ _)
  have ins : ∀ {b : Addr} {o : Obj}, z.heap.get? b = some o → F b = none → (hidT z.heap F).get? b = some o := hidT_get
  have unD : ∀ {b : Addr} {o : Obj} {es : Array DictEntry} {ep : Nat}, z.heap.get? b = some o → o.data = .dict es ep → F b = none := fun e d => un e (fun _ _ y => by rw [d] at y; cases y) fun y => by rw [d] at y; cases y
  have unP : ∀ {b : Addr} {o : Obj}, z.heap.get? b = some o → o.data = .plain → F b = none := fun e d => un e (fun _ _ y => by rw [d] at y; cases y) fun y => by rw [d] at y; cases y
  have nsB : ∀ {b : Addr} {m : Str → Option Value}, z.heap.Ns b m → (hidT z.heap F).Ns b m := fun ⟨o, es, ep, e, d, r⟩ => ⟨o, es, ep, ins e (unD e d), d, r⟩
  have kb : K.In (hidT z.heap F) := fun b o e => ins (kin b o e) (by
    cases q : F b with
    | none => rfl
    | some u =>
      rcases first_cases q with ⟨e1, _⟩ | ⟨e1, e2, _⟩
      · rw [e1, out] at e; cases e
      · rw [← e1, e] at e2; cases e2)
  have md : L2.Mod K mg (hidT z.heap F) := ⟨kb, nsB main, ⟨mb, nsB blt, boot⟩, let ⟨x, h1, h2⟩ := free; ⟨x, nsB h1, h2⟩⟩
  have notPt : ∀ {b : Addr} {o : Obj} {es : Array DictEntry} {ep : Nat}, z.heap.get? b = some o → o.data = .dict es ep → b ≠ Pt := fun e d y => by
    rw [y, tab] at e
    cases e
    cases d
  have tb : TabB (hidT z.heap F) mg c Pt := by
    refine ⟨?_, ?_, ?_⟩
    · obtain ⟨o, us, file, tf, flags, tg, inF, text, tt, e1, r1, r2, r3, rest⟩ := id hd
      refine ⟨o, us, file, tf, flags, tg, inF, text, tt, ins e1 (un e1 (fun _ _ y => ?_) fun y => ?_), r1, r2, r3, rest⟩
      · rw [r2] at y; cases y
      · rw [r2] at y
        cases y
        simp at r3
    · obtain ⟨m, o, b1, b2, b3, b4, b5, b6⟩ := bm
      refine ⟨m, o, b1, b2, fun y => ?_, fun y => ?_, ins b3 (unP b3 b6), b4, b5, b6⟩
      · obtain ⟨o2, es, ep, e, d, _⟩ := main
        rw [← y, b3] at e
        cases e
        rw [b6] at d
        cases d
      · rw [y, tab] at b3
        cases b3
        cases b6
    · obtain ⟨o2, es, ep, e, d, _⟩ := main
      exact notPt e d
  have e0 : Env0 P w K mg (hidT z.heap F) callerA [] z F := ⟨rfl, md, fun b o e => of_hidT e, Nat.le_of_eq (hidT_size _ _), trivial, fun b hb => (nomatch hb), good, .of_eq bare⟩
  refine codeAny_mono (go _ F kb (nsB main) tb Ft sq e0) fun r z' h => ?_
  cases r with
  | error e => exact False.elim h
  | ok fl =>
    cases fl with
    | next => exact False.elim h
    | brk => exact False.elim h
    | cont => exact False.elim h
    | ret u =>
      obtain ⟨v, H', os, gs, un', good', rv, ev⟩ := h
      have ev' : v = .bl true := ev
      subst ev'
      have eu : u = Value.bool true := rv
      subst eu
      obtain ⟨more, gm⟩ := un'.tbls Pt #[] Ft
      have grown : z'.heap.get? Pt = some { cls := .none, data := .fields (#[] ++ more) } := good' Pt _ gm
      have stays : ∀ b o, b ≠ Pt → z.heap.get? b = some o → z'.heap.get? b = some o := fun b o nb e => by
        cases q : F b with
        | none => exact un'.keep b o e q (fun y => (nomatch y)) (fun y => (nomatch y))
        | some y =>
          rcases first_cases q with ⟨e1, _⟩ | ⟨e1, _, e2⟩
          · exact absurd e1 nb
          · subst e1 e2
            have h1 := un'.frzs b lo _ q
            obtain ⟨h2, _⟩ := good' b _ h1
            rw [scr] at e
            cases e
            exact h2
      refine ⟨rfl, ⟨fun b o e => ?_, fun b o e => ?_⟩, os, gs⟩
      · by_cases y : b = Pt
        · subst y
          rw [tab] at e
          cases e
          exact .inr (.inl ⟨(hd.tab tab).isCodeTable, rfl, #[], more, rfl, grown⟩)
        · exact .inl (stays b o y e)
      · by_cases y : b = Pt
        · subst y
          exact ⟨_, grown⟩
        · exact ⟨o, stays b o y e⟩
end Mv
/-! # What the head has told -/
namespace Mv
open PySem PySem.Spec PyProof.Rows L2 He LamX
section
variable {h : Heap} {K : PySem.W.Frag} {mg : Str → Option Value}
theorem topK (X : K.In h) (G : h.Ns mainGlobals mg) (c : SaysM h K) : Top K mg where
  defs := fun j d hj => c.d.def_ j (d := d) hj
  glo := fun j x hj => glo_ok X G (c.d.fact j (f := .glo x) hj)
  cost := int_ok X G (c.d.fact 75 (f := .int "MOST_COST" (10 ^ 70)) rfl)
  rules := int_ok X G (c.d.fact 76 (f := .int "MOST_RULES" 6) rfl)
  f_len := free_ok X G (c.d.fact 58 (f := .free "len") rfl)
  f_isinstance := free_ok X G (c.d.fact 59 (f := .free "isinstance") rfl)
  f_bool := free_ok X G (c.d.fact 60 (f := .free "bool") rfl)
  f_int := free_ok X G (c.d.fact 61 (f := .free "int") rfl)
  f_tuple := free_ok X G (c.d.fact 62 (f := .free "tuple") rfl)
  f_list := free_ok X G (c.d.fact 63 (f := .free "list") rfl)
  f_str := free_ok X G (c.d.fact 64 (f := .free "str") rfl)
  f_dict := free_ok X G (c.d.fact 65 (f := .free "dict") rfl)
  f_zip := free_ok X G (c.d.fact 66 (f := .free "zip") rfl)
  f_sorted := free_ok X G (c.d.fact 67 (f := .free "sorted") rfl)
  f_set := free_ok X G (c.d.fact 68 (f := .free "set") rfl)
  f_all := free_ok X G (c.d.fact 69 (f := .free "all") rfl)
  f_range := free_ok X G (c.d.fact 70 (f := .free "range") rfl)
  f_max := free_ok X G (c.d.fact 71 (f := .free "max") rfl)
  f_min := free_ok X G (c.d.fact 72 (f := .free "min") rfl)
  f_repr := free_ok X G (c.d.fact 73 (f := .free "repr") rfl)
  f_ValueError := free_ok X G (c.d.fact 74 (f := .free "ValueError") rfl)
theorem ex_at (c : SaysM h K) (i : Nat) {b : Bool} (e : (exL K)[i]? = some b) : b = true := List.all_eq_true.mp c.more b (List.mem_of_getElem? e)
theorem valOf_ok {x : Option PySem.W.CFound} {v : Value} (e : valOf x = some v) : x = some (.val v) := by
  unfold valOf at e
  split at e
  · rw [Option.some.inj e]
  · cases e
theorem iclK (X : K.In h) (G : h.Ns mainGlobals mg) (c : SaysM h K) : Icl K mg (ga K "InvalidClaim") (ma K (ga K "InvalidClaim") "__init__") where
  glo := glo_ok X G (c.d.fact 0 (f := .glo "InvalidClaim") rfl)
  ox := ⟨oexB_ok (ex_at c 0 rfl), eqO_ok (ex_at c 1 rfl), of_decide_eq_true (ex_at c 2 rfl), of_decide_eq_true (ex_at c 3 rfl), ex_at c 4 rfl⟩
  ec := ⟨eqO_ok (ex_at c 9 rfl), eqO_ok (ex_at c 10 rfl), of_decide_eq_true (ex_at c 2 rfl), ex_at c 11 rfl, eqO_ok (ex_at c 12 rfl), eqO_ok (ex_at c 13 rfl), of_decide_eq_true (ex_at c 14 rfl), of_decide_eq_true (ex_at c 15 rfl)⟩
  iC := eqO_ok (ex_at c 5 rfl)
  tI := of_decide_eq_true (ex_at c 6 rfl)
  fd := DefD.funD (K := K) (d := dInit) c.init (ex_at c 18 rfl)
  vV := valOf_ok (of_decide_eq_true (ex_at c 7 rfl))
  exm := of_decide_eq_true (ex_at c 8 rfl)
  kit := of_decide_eq_true (ex_at c 16 rfl)
theorem sysK (c : SaysM h K) : (K.lookup sysModules).isSome = true := ex_at c 17 rfl
end
end Mv
/-! # The law, called behind the head -/
namespace Mv
open PySem PySem.Spec PyProof.Rows L2 He LamX
abbrev Rw : PySem.W.OpenLaw := PySem.Challenge.rw_movedfolders_k35_claims_of_things_requir
theorem law_walk : PySem.W.WalkO qv loose (PySem.W.XL qv []) hk.says R.toRowW dLaw [] fun f vs => PySem.call f vs := by
  refine Att.attach_callB (l := Rw) (n := 63) rfl (by kernel_rfl) fun w s₀ s₁ mg mb fa o pm cd doc a vs ns G Y ho hd hcd hmg hobj hints hlen hbits hg => ?_
  obtain ⟨K, KX, c⟩ := Y
  have T := topK KX G.T.g c
  have I := iclK KX G.T.g c
  obtain ⟨fdL, FL⟩ := T.defs 56 (dfn "law" 208) rfl
  have gL := T.glo 57 "law" rfl
  have nm : dLaw.name = ("law" : Str) := by kernel_rfl
  rw [nm, gL] at hmg
  have ef : ga K "law" = fa := by cases hmg; rfl
  subst ef
  have bL := FunD.bindsA (ps := ["_law_script"]) FL fun _ _ _ _ _ _ us hl => match us, hl with | [_], _ => rfl
  obtain ⟨oc, od, dV, kV, doc', pm', an, cdv, ct, osl, rfl, lk, cin, _, _⟩ := FL.ex
  obtain ⟨cc, rfl⟩ := codeIn_ref cin
  have tfm : (("law" : Str), none) ∈ tf := List.mem_singleton_self _
  have ecc : (cT K (("law" : Str), none)).1 = cc := codeOf_eq lk rfl
  have hdr := PySem.W.codeHd_of_K KX (c.hd _ tfm)
  rw [ecc] at hdr
  refine law_go KX G.T.g G.T.b G.T.builtins G.T.nolimit hg (c.empty _ tfm) (c.out _ tfm) hdr G.T.bmain hobj hints (Nat.le_trans hlen (by decide)) fun base H kb nb tb Ht sq e0 => ?_
  refine LamX.run_ofS (N := N_law) (ps := ["_law_script"]) (us := [.ref a]) (vs := [.ref a]) (k := 12) lk cin sc_law ⟨rfl, by decide, by decide⟩ e0 (bL s₁ [.ref a] rfl) (.cons rfl .nil) rfl fun hr' => ?_
  obtain ⟨t, h1, h2⟩ := law_body (P := R.prog) (w := w) (base := base) T I (sysK c) tb hr' sq hlen Ht (Q := fun v _ => v = .bl true) fun _ => rfl
  exact ⟨t, h1.nox, h2⟩
end Mv
/-! # The run's equation, from its parts -/
namespace Mv
open PySem PySem.Spec PyProof.Rows L2 He LamX
open PySem.Calls PySem.W
theorem names_all (l : List Str) (n : Nat) (f : Str → Bool) (h1 : (l.take n).all f = true) (h2 : (l.drop n).all f = true) : l.all f = true := by
  rw [← List.take_append_drop n l, List.all_append, h1, h2]
  rfl
theorem runAll (w : World) : HandSHeadRun.RunEq R qv hk ob 12000 loose w := by
  intro os
  have hA := headA w os
  have hB := headB w os
  have hC := headC w os
  have hD1 := headD1 w os
  have hD2 := headD2 w os
  have hE1 := headE1 w os
  have hE2 := headE2 w os
  have hF := headF w os
  show (endR w os).map _ = _
  generalize endR w os = e at hA hB hC hD1 hD2 hE1 hE2 hF
  cases e with
  | none => cases hE1
  | some s =>
    simp only [Option.map_some, Option.some.injEq] at hA hB hC hD1 hD2 hE1 hE2 hF ⊢
    have hD := Prod.ext hD1 hD2
    have hE := Prod.ext hE1 hE2
    simp only [Bool.and_eq_true] at hA hB
    obtain ⟨⟨a1, a2⟩, a3⟩ := hA
    obtain ⟨b1, b2⟩ := hB
    have nb : namesBound R.prog s.abs.heap = true := by
      unfold namesBound
      rw [b1, names_all _ 120 _ b2 hC]
      rfl
    have lk : HandSHeadRun.looksF R.prog (PySem.W.boot_heap w.params) s.abs = true := by
      unfold HandSHeadRun.looksF
      rw [a1, nb, a2, a3]
      rfl
    have eo : ob s = hk.val w := by
      show (obsD fa fn (frT (HandSHeadRun.getT s) (asM (HandSHeadRun.getT s))), (ex (frT (HandSHeadRun.getT s) (asM (HandSHeadRun.getT s))) && tabsB (HandSHeadRun.getT s) tf (frT (HandSHeadRun.getT s) (asM (HandSHeadRun.getT s))), fnI (frT (HandSHeadRun.getT s) (asM (HandSHeadRun.getT s))))) = valM
      rw [hE, hF]
      rfl
    refine Prod.ext lk (Prod.ext ?_ eo)
    exact hD
end Mv
open PySem PySem.W PySem.Calls PyProof.Rows
theorem PySem.Challenge.cw_movedfolders_k35_claims_of_things_requir_holds : PySem.Challenge.rw_movedfolders_k35_claims_of_things_requir.Holds := by
  exact Mv.law_top fun said => Mv.row_holds said Mv.runAll Mv.law_walk
