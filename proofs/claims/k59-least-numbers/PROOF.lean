import PyProof.Rows.All
import Wide.All
import OpenK.AllK
import Wide.FinOn
import HandS.ForMost
import HandS.IsInst
import HandS.Conv
import HandS.Deep
import HandS.Style
import HandS.NoneIn
import HandS.DictComp
import HandS.Star
import KE.SortData
import KE.KTupSum
import PyProof.Rows.ReprR
import PyProof.Rows.NestShow
import KE.GoesEnum
import PyProof.ReprLen
import HandS.HeadEnd
import HandS.Head2
import HandS.HeadHook2
import PySem.Challenge.RW_doublecut_k59_whole_least_numbers_measur
set_option Elab.async false
set_option linter.all false
set_option maxRecDepth 100000
set_option maxHeartbeats 4000000
/-! Own layer, part A: symbolic running over data (Dp) with a base heap of what never changes. -/
namespace Dc
open PySem PySem.Spec PyProof.Rows L2

/-! ### readings by meaning -/
def WE (X : Cx) (e : Expr) (σ : L2.St) (H : Hp) (Q : VK) : Prop := ∀ (pins : List (Addr × Obj)) (s : Shared), Inv X pins σ H s → wpAny (model X.prog X.w) X.A (eval e X.env) (EP X pins σ Q) X.xe s
def WT (X : Cx) (e : Expr) (σ : L2.St) (H : Hp) (Q : Bool → Hp → Prop) : Prop := ∀ (pins : List (Addr × Obj)) (s : Shared), Inv X pins σ H s → wpAny (model X.prog X.w) X.A (isTrue e X.env (eval e X.env)) (TP X pins σ Q) X.xe s
def WA (X : Cx) (es : List Expr) (σ : L2.St) (H : Hp) (Q : List V → Hp → Prop) : Prop := ∀ (pos : Pos) (pins : List (Addr × Obj)) (s : Shared), Inv X pins σ H s → wpAny (model X.prog X.w) X.A (spliced (backTo pos (starEach es X.env))) (AP X pins σ Q) X.xe s
def WB (X : Cx) (sts : List Stmt) (D : Ends) (σ : L2.St) (H : Hp) : Prop := ∀ (pins : List (Addr × Obj)) (s : Shared), Inv X pins σ H s → wpAny (model X.prog X.w) X.A (execs sts X.env) (SP X pins D) X.xe s
def WI (X : Cx) (tg iter : Expr) (σ : L2.St) (H : Hp) (R : It → Hp → Prop) : Prop := ∀ (pins : List (Addr × Obj)) (s : Shared), Inv X pins σ H s → wpAny (model X.prog X.w) X.A (eval iter X.env) (fun v s1 => wpAny (model X.prog X.w) X.A (pyIter v) (PIE X pins σ tg R) X.xe s1) X.xe s
theorem pe (X : Cx) (e : Expr) : PE X e (WE X e) := ⟨fun pins s _ _ _ I h => h pins s I⟩
theorem pt (X : Cx) (e : Expr) : PT X e (WT X e) := ⟨fun pins s _ _ _ I h => h pins s I⟩
theorem pa (X : Cx) (es : List Expr) : PA X es (WA X es) := ⟨fun pos pins s _ _ _ I h => h pos pins s I⟩
theorem pb (X : Cx) (sts : List Stmt) : PSs X sts (fun D σ H => WB X sts D σ H) := ⟨fun pins s _ _ _ I h => h pins s I⟩
theorem pii (X : Cx) (tg iter : Expr) : PI X tg iter (WI X tg iter) := ⟨fun pins s _ _ _ I h => h pins s I⟩
section
variable {X : Cx} {σ : L2.St} {H : Hp}
theorem we_of {e : Expr} {t : TE} {Q : VK} (h : PE X e t) (q : t σ H Q) : WE X e σ H Q := fun pins s I => h.run pins s σ H Q I q
theorem wt_of {e : Expr} {t : TT} {Q : Bool → Hp → Prop} (h : PT X e t) (q : t σ H Q) : WT X e σ H Q := fun pins s I => h.run pins s σ H Q I q
theorem wa_of {es : List Expr} {t : TA} {Q : List V → Hp → Prop} (h : PA X es t) (q : t σ H Q) : WA X es σ H Q := fun pos pins s I => h.run pos pins s σ H Q I q
theorem wb_of {sts : List Stmt} {t : TS} {D : Ends} (h : PSs X sts t) (q : t D σ H) : WB X sts D σ H := fun pins s I => h.run pins s σ H D I q
theorem wi_of {tg iter : Expr} {t : TI} {R : It → Hp → Prop} (h : PI X tg iter t) (q : t σ H R) : WI X tg iter σ H R := fun pins s I => h.run pins s σ H R I q
end

/-! ### heaps that grow -/
theorem Same.seqT {K : PySem.W.Frag} {H H' : Hp} {a : Addr} {xs : List V} (e : Same H H') (h : SqT K H a xs) : SqT K H' a xs := by
  rcases h with (h | ⟨o, h⟩) | h
  · exact .inl (.inl (e _ _ h))
  · exact .inl (.inr ⟨o, e _ _ h⟩)
  · exact .inr h
mutual
theorem dp_mono {K : PySem.W.Frag} {H H' : Hp} (e : Same H H') : ∀ {v : V} {d : PyData}, Dp K H v d → Dp K H' v d
  | _, _, .non => .non
  | _, _, .bl b => .bl b
  | _, _, .int i => .int i
  | _, _, .str x => .str x
  | _, _, .lst h a => .lst (e.seq h) (dps_mono e a)
  | _, _, .tup h a => .tup (Same.seqT e h) (dps_mono e a)
theorem dps_mono {K : PySem.W.Frag} {H H' : Hp} (e : Same H H') : ∀ {vs : List V} {ds : List PyData}, DpAll K H vs ds → DpAll K H' vs ds
  | _, _, .nil => .nil
  | _, _, .cons h t => .cons (dp_mono e h) (dps_mono e t)
end
theorem dps_len {K : PySem.W.Frag} {H : Hp} : ∀ {vs : List V} {ds : List PyData}, DpAll K H vs ds → vs.length = ds.length
  | _, _, .nil => rfl
  | _, _, .cons _ t => by simp [dps_len t]
theorem dps_get {K : PySem.W.Frag} {H : Hp} : ∀ {vs : List V} {ds : List PyData} {i : Nat} {d : PyData}, DpAll K H vs ds → ds[i]? = some d → ∃ v, vs[i]? = some v ∧ Dp K H v d
  | _, _, _, _, .nil, h => by simp at h
  | _, _, 0, _, .cons h _, e => by simp at e; subst e; exact ⟨_, rfl, h⟩
  | _, _, i + 1, _, .cons _ t, e => by
    obtain ⟨v, h1, h2⟩ := dps_get t (i := i) (by simpa using e)
    exact ⟨v, by simpa using h1, h2⟩
theorem dps_getV {K : PySem.W.Frag} {H : Hp} : ∀ {vs : List V} {ds : List PyData} {i : Nat} {v : V}, DpAll K H vs ds → vs[i]? = some v → ∃ d, ds[i]? = some d ∧ Dp K H v d
  | _, _, _, _, .nil, h => by simp at h
  | _, _, 0, _, .cons h _, e => by simp at e; subst e; exact ⟨_, rfl, h⟩
  | _, _, i + 1, _, .cons _ t, e => by
    obtain ⟨v, h1, h2⟩ := dps_getV t (i := i) (by simpa using e)
    exact ⟨v, by simpa using h1, h2⟩
theorem dps_app {K : PySem.W.Frag} {H : Hp} : ∀ {vs ws : List V} {ds es : List PyData}, DpAll K H vs ds → DpAll K H ws es → DpAll K H (vs ++ ws) (ds ++ es)
  | _, _, _, _, .nil, h => h
  | _, _, _, _, .cons a t, h => .cons a (dps_app t h)
theorem dps_set {K : PySem.W.Frag} {H : Hp} {v : V} {d : PyData} (h : Dp K H v d) : ∀ {vs : List V} {ds : List PyData} (i : Nat), DpAll K H vs ds → DpAll K H (vs.set i v) (ds.set i d)
  | _, _, _, .nil => .nil
  | _, _, 0, .cons _ t => .cons h t
  | _, _, i + 1, .cons a t => .cons a (dps_set h i t)
theorem dps_take {K : PySem.W.Frag} {H : Hp} : ∀ {vs : List V} {ds : List PyData} (n : Nat), DpAll K H vs ds → DpAll K H (vs.take n) (ds.take n)
  | _, _, 0, _ => .nil
  | _, _, _ + 1, .nil => .nil
  | _, _, n + 1, .cons a t => .cons a (dps_take n t)
theorem dps_drop {K : PySem.W.Frag} {H : Hp} : ∀ {vs : List V} {ds : List PyData} (n : Nat), DpAll K H vs ds → DpAll K H (vs.drop n) (ds.drop n)
  | _, _, 0, h => h
  | _, _, _ + 1, .nil => .nil
  | _, _, n + 1, .cons _ t => dps_drop n t
theorem dps_rev {K : PySem.W.Frag} {H : Hp} : ∀ {vs : List V} {ds : List PyData}, DpAll K H vs ds → DpAll K H vs.reverse ds.reverse
  | _, _, .nil => .nil
  | _, _, .cons a t => by
    rw [List.reverse_cons, List.reverse_cons]
    exact dps_app (dps_rev t) (.cons a .nil)
theorem dps_rep {K : PySem.W.Frag} {H : Hp} {v : V} {d : PyData} (h : Dp K H v d) : ∀ n : Nat, DpAll K H (List.replicate n v) (List.replicate n d)
  | 0 => .nil
  | n + 1 => .cons h (dps_rep h n)
theorem dp_int {K : PySem.W.Frag} {H : Hp} {v : V} {i : Int} (h : Dp K H v (.int i)) : v = .int i := by cases h; rfl
theorem dp_bl {K : PySem.W.Frag} {H : Hp} {v : V} {i : Bool} (h : Dp K H v (.bool i)) : v = .bl i := by cases h; rfl
theorem dp_str {K : PySem.W.Frag} {H : Hp} {v : V} {i : Str} (h : Dp K H v (.str i)) : v = .str i := by cases h; rfl
theorem dp_non {K : PySem.W.Frag} {H : Hp} {v : V} (h : Dp K H v .none) : v = .non := by cases h; rfl
theorem dps_ints {K : PySem.W.Frag} {H : Hp} : ∀ {vs : List V} {ns : List Int}, DpAll K H vs (ns.map PyData.int) → vs = ns.map V.int
  | _, [], h => by cases h; rfl
  | _, n :: ns, h => by
    cases h with
    | cons a t => rw [dp_int a, dps_ints t]; rfl
theorem ints_dps {K : PySem.W.Frag} {H : Hp} : ∀ ns : List Int, DpAll K H (ns.map V.int) (ns.map PyData.int)
  | [] => .nil
  | n :: ns => .cons (.int n) (ints_dps ns)
theorem dps_bls {K : PySem.W.Frag} {H : Hp} : ∀ {vs : List V} {ns : List Bool}, DpAll K H vs (ns.map PyData.bool) → vs = ns.map V.bl
  | _, [], h => by cases h; rfl
  | _, n :: ns, h => by
    cases h with
    | cons a t => rw [dp_bl a, dps_bls t]; rfl

/-- B: what never changes from here on; H: the whole heap -/
structure Grow (B H B2 H2 : Hp) : Prop where
  b : Same B B2
  h : Same H H2
  bh : Same B2 H2
  out : ∀ a o, H a = some o → B a = none → B2 a = none
theorem Grow.refl {B H : Hp} (s : Same B H) : Grow B H B H := ⟨Same.refl B, Same.refl H, s, fun _ _ _ h => h⟩
theorem Grow.trans {B H B1 H1 B2 H2 : Hp} (a : Grow B H B1 H1) (b : Grow B1 H1 B2 H2) : Grow B H B2 H2 :=
  ⟨a.b.trans b.b, a.h.trans b.h, b.bh, fun x o h n => b.out x o (a.h x o h) (a.out x o h n)⟩
theorem same_new {H : Hp} {p : Addr} {o : HO} (h : H p = none) : Same H (upd H p o) := fun a u e => by
  rw [upd_ne (ne_of_none e h)]
  exact e
theorem same_mut {H H' : Hp} {p : Addr} {o : HO} (e : Same H H') (h : H p = none) : Same H (upd H' p o) := fun a u ha => by
  rw [upd_ne (ne_of_none ha h)]
  exact e a u ha
/-- a new object of the base -/
theorem Grow.new {B H : Hp} {p : Addr} {o : HO} (s : Same B H) (h : H p = none) : Grow B H (upd B p o) (upd H p o) := by
  have hb : B p = none := s.free h
  refine ⟨same_new hb, same_new h, fun a u e => ?_, fun a u e n => ?_⟩
  · by_cases q : a = p
    · subst q
      rw [upd_same] at e ⊢
      exact e
    · rw [upd_ne q] at e ⊢
      exact s a u e
  · rw [upd_ne (ne_of_none e h)]
    exact n
/-- a new object that may change -/
theorem Grow.newM {B H : Hp} {p : Addr} {o : HO} (s : Same B H) (h : H p = none) : Grow B H B (upd H p o) :=
  ⟨Same.refl B, same_new h, same_mut s (s.free h), fun _ _ _ n => n⟩
/-- what was made since H and may change is from here on fixed -/
theorem Grow.fix {B H B2 H2 : Hp} {p : Addr} {o : HO} (g : Grow B H B2 H2) (h : H p = none) (h2 : H2 p = some o) (hb : B2 p = none) : Grow B H (upd B2 p o) H2 := by
  refine ⟨g.b.trans (same_new hb), g.h, fun a u e => ?_, fun a u e n => ?_⟩
  · by_cases q : a = p
    · subst q
      rw [upd_same] at e
      rw [h2]
      exact e
    · rw [upd_ne q] at e
      exact g.bh a u e
  · rw [upd_ne (ne_of_none e h)]
    exact g.out a u e n

/-! ### what is known of the slots -/
inductive Sl where
  | unk | dat (d : PyData) | raw (v : V) | lst (ds : List PyData)
def SlOk (K : PySem.W.Frag) (B : Hp) (o : Option (Option V)) : Sl → Prop
  | .unk => True
  | .dat d => ∃ v, o = some (some v) ∧ Dp K B v d
  | .raw v => o = some (some v)
  | .lst ds => ∃ l xs, o = some (some (.ref l)) ∧ B l = some (.lst xs) ∧ DpAll K B xs ds
structure Good (K : PySem.W.Frag) (Γ : List Sl) (σ : L2.St) (B H : Hp) : Prop where
  same : Same B H
  len : σ.length = Γ.length
  ok : ∀ (i : Nat) (s : Sl), Γ[i]? = some s → SlOk K B σ[i]? s
theorem SlOk.mono {K : PySem.W.Frag} {B B' : Hp} {o : Option (Option V)} (e : Same B B') : ∀ {s : Sl}, SlOk K B o s → SlOk K B' o s
  | .unk, h => h
  | .dat _, ⟨v, a, b⟩ => ⟨v, a, dp_mono e b⟩
  | .raw _, h => h
  | .lst _, ⟨l, xs, a, b, c⟩ => ⟨l, xs, a, e _ _ b, dps_mono e c⟩
theorem Good.grow {K : PySem.W.Frag} {Γ : List Sl} {σ : L2.St} {B H B2 H2 : Hp} (g : Good K Γ σ B H) (w : Grow B H B2 H2) : Good K Γ σ B2 H2 :=
  ⟨w.bh, g.len, fun i s h => (g.ok i s h).mono w.b⟩
theorem Good.to {K : PySem.W.Frag} {Γ : List Sl} {σ : L2.St} {B H B2 H2 : Hp} (g : Good K Γ σ B H) (b : Same B B2) (bh : Same B2 H2) : Good K Γ σ B2 H2 :=
  ⟨bh, g.len, fun i s h => (g.ok i s h).mono b⟩
theorem Good.set {K : PySem.W.Frag} {Γ : List Sl} {σ : L2.St} {B H : Hp} (g : Good K Γ σ B H) (i : Nat) {v : V} {s : Sl} (h : SlOk K B (some (some v)) s) : Good K (Γ.set i s) (σ.set i (some v)) B H := by
  refine ⟨g.same, by rw [List.length_set, List.length_set, g.len], fun j t e => ?_⟩
  by_cases q : i = j
  · subst q
    have hl : i < (Γ.set i s).length := (List.getElem?_eq_some_iff.mp e).1
    rw [List.length_set] at hl
    rw [List.getElem?_set_self hl] at e
    cases e
    rw [List.getElem?_set_self (by rw [g.len]; exact hl)]
    exact h
  · rw [List.getElem?_set_ne q] at e ⊢
    exact g.ok j t e
inductive Weak : List Sl → List Sl → Prop
  | nil : Weak [] []
  | same {s : Sl} {a b : List Sl} : Weak a b → Weak (s :: a) (s :: b)
  | drop {s : Sl} {a b : List Sl} : Weak a b → Weak (s :: a) (.unk :: b)
theorem Weak.len : ∀ {a b : List Sl}, Weak a b → a.length = b.length
  | _, _, .nil => rfl
  | _, _, .same h => by simp [Weak.len h]
  | _, _, .drop h => by simp [Weak.len h]
theorem Weak.at : ∀ {a b : List Sl}, Weak a b → ∀ (i : Nat) (s : Sl), b[i]? = some s → s = .unk ∨ a[i]? = some s
  | _, _, .nil, _, _, e => by simp at e
  | _, _, .same _, 0, _, e => .inr (by simpa using e)
  | _, _, .same h, i + 1, s, e => by
    rcases Weak.at h i s (by simpa using e) with q | q
    · exact .inl q
    · exact .inr (by simpa using q)
  | _, _, .drop _, 0, _, e => by
    simp at e
    exact .inl e.symm
  | _, _, .drop h, i + 1, s, e => by
    rcases Weak.at h i s (by simpa using e) with q | q
    · exact .inl q
    · exact .inr (by simpa using q)
theorem Weak.refl : ∀ a : List Sl, Weak a a
  | [] => .nil
  | _ :: t => .same (Weak.refl t)
theorem Good.weak {K : PySem.W.Frag} {Γ Γ' : List Sl} {σ : L2.St} {B H : Hp} (g : Good K Γ σ B H) (w : Weak Γ Γ') : Good K Γ' σ B H := by
  refine ⟨g.same, g.len.trans w.len, fun i s e => ?_⟩
  rcases w.at i s e with q | q
  · subst q
    trivial
  · exact g.ok i s q

/-! ### expressions -/
/-- e gives a v of which R v, the heap before, the base and the heap behind -/
def EV (X : Cx) (Γ : List Sl) (B H : Hp) (e : Expr) (R : V → Hp → Hp → Hp → Prop) : Prop :=
  ∀ (σ : L2.St) (B1 H1 : Hp), Grow B H B1 H1 → Good X.K Γ σ B1 H1 → ∀ Q : VK, (∀ v B2 H2, Grow B1 H1 B2 H2 → R v H1 B2 H2 → Q v H2) → WE X e σ H1 Q
def isD (K : PySem.W.Frag) (d : PyData) : V → Hp → Hp → Hp → Prop := fun v _ B2 _ => Dp K B2 v d
/-- e gives the data d -/
abbrev ED (X : Cx) (Γ : List Sl) (B H : Hp) (e : Expr) (d : PyData) : Prop := EV X Γ B H e (isD X.K d)
/-- e gives some data of which P -/
abbrev ES (X : Cx) (Γ : List Sl) (B H : Hp) (e : Expr) (P : PyData → Prop) : Prop := EV X Γ B H e fun v _ B2 _ => ∃ d, P d ∧ Dp X.K B2 v d
def isL (K : PySem.W.Frag) (ds : List PyData) : V → Hp → Hp → Hp → Prop := fun v H1 B2 H2 => ∃ l xs, v = .ref l ∧ H1 l = none ∧ H2 l = some (.lst xs) ∧ B2 l = none ∧ DpAll K B2 xs ds
/-- e gives a new list -/
abbrev EL (X : Cx) (Γ : List Sl) (B H : Hp) (e : Expr) (ds : List PyData) : Prop := EV X Γ B H e (isL X.K ds)
def isM (K : PySem.W.Frag) (ds : List PyData) : V → Hp → Hp → Hp → Prop := fun v _ B2 H2 => ∃ l xs, v = .ref l ∧ H2 l = some (.lst xs) ∧ DpAll K B2 xs ds
/-- e gives a list that is tracked -/
abbrev EM (X : Cx) (Γ : List Sl) (B H : Hp) (e : Expr) (ds : List PyData) : Prop := EV X Γ B H e (isM X.K ds)
/-- the test e is b -/
def ET (X : Cx) (Γ : List Sl) (B H : Hp) (e : Expr) (b : Bool) : Prop :=
  ∀ (σ : L2.St) (B1 H1 : Hp), Grow B H B1 H1 → Good X.K Γ σ B1 H1 → ∀ Q : Bool → Hp → Prop, (∀ B2 H2, Grow B1 H1 B2 H2 → Q b H2) → WT X e σ H1 Q
def EA (X : Cx) (Γ : List Sl) (B H : Hp) (es : List Expr) (ds : List PyData) : Prop :=
  ∀ (σ : L2.St) (B1 H1 : Hp), Grow B H B1 H1 → Good X.K Γ σ B1 H1 → ∀ Q : List V → Hp → Prop, (∀ vs B2 H2, Grow B1 H1 B2 H2 → DpAll X.K B2 vs ds → Q vs H2) → WA X es σ H1 Q
section
variable {X : Cx} {Γ : List Sl} {B H : Hp} {e a b : Expr} {es : List Expr} {pos : Pos} {d da db : PyData} {ds : List PyData}
theorem EV.mono {R : V → Hp → Hp → Hp → Prop} {B' H' : Hp} (g : Grow B H B' H') (h : EV X Γ B H e R) : EV X Γ B' H' e R := fun σ B1 H1 g1 ok Q q => h σ B1 H1 (g.trans g1) ok Q q
theorem ET.mono {c : Bool} {B' H' : Hp} (g : Grow B H B' H') (h : ET X Γ B H e c) : ET X Γ B' H' e c := fun σ B1 H1 g1 ok Q q => h σ B1 H1 (g.trans g1) ok Q q
theorem EV.imp {R R' : V → Hp → Hp → Hp → Prop} (h : EV X Γ B H e R) (i : ∀ v H1 B2 H2, R v H1 B2 H2 → R' v H1 B2 H2) : EV X Γ B H e R' := fun σ B1 H1 g ok Q q => h σ B1 H1 g ok Q fun v B2 H2 g2 r => q v B2 H2 g2 (i _ _ _ _ r)
/-- a new list is fixed -/
theorem EL.ed (h : EL X Γ B H e ds) : ED X Γ B H e (.list ds) := fun σ B1 H1 g ok Q q => h σ B1 H1 g ok Q fun v B2 H2 g2 r => by
  obtain ⟨l, xs, rfl, h0, h2, hb, hd⟩ := r
  exact q _ _ _ (g2.fix h0 h2 hb) (.lst (.inl (.inl upd_same)) (dps_mono (same_new hb) hd))
theorem ed_name (i : Nat) {x : Str} (hd : Γ[i]? = some (.dat d)) (hN : X.N[i]? = some x := by rfl) (hv : Vis X.env.scope x := by first | exact Or.inl rfl | exact Or.inr (Or.inl rfl) | exact Or.inr (Or.inr rfl))
    (h1 : (x == ("__debug__" : Str)) = false := by decide) (h2 : (x == ("__classdict__" : Str)) = false := by decide) : ED X Γ B H (.Name x pos) d := fun σ B1 H1 g ok Q q => by
  obtain ⟨v, e1, e2⟩ := ok.ok i _ hd
  exact we_of (pe_var hN hv h1 h2) ⟨v, e1, q v _ _ (Grow.refl ok.same) e2⟩
theorem ed_nameL (i : Nat) {x : Str} (hd : Γ[i]? = some (.lst ds)) (hN : X.N[i]? = some x := by rfl) (hv : Vis X.env.scope x := by first | exact Or.inl rfl | exact Or.inr (Or.inl rfl) | exact Or.inr (Or.inr rfl))
    (h1 : (x == ("__debug__" : Str)) = false := by decide) (h2 : (x == ("__classdict__" : Str)) = false := by decide) : ED X Γ B H (.Name x pos) (.list ds) := fun σ B1 H1 g ok Q q => by
  obtain ⟨l, xs, e1, e2, e3⟩ := ok.ok i _ hd
  exact we_of (pe_var hN hv h1 h2) ⟨_, e1, q _ _ _ (Grow.refl ok.same) (.lst (.inl (.inl e2)) e3)⟩
theorem em_name (i : Nat) {x : Str} (hd : Γ[i]? = some (.lst ds)) (hN : X.N[i]? = some x := by rfl) (hv : Vis X.env.scope x := by first | exact Or.inl rfl | exact Or.inr (Or.inl rfl) | exact Or.inr (Or.inr rfl))
    (h1 : (x == ("__debug__" : Str)) = false := by decide) (h2 : (x == ("__classdict__" : Str)) = false := by decide) : EM X Γ B H (.Name x pos) ds := fun σ B1 H1 g ok Q q => by
  obtain ⟨l, xs, e1, e2, e3⟩ := ok.ok i _ hd
  exact we_of (pe_var hN hv h1 h2) ⟨_, e1, q _ _ _ (Grow.refl ok.same) ⟨l, xs, rfl, ok.same _ _ e2, e3⟩⟩
theorem EL.em (h : EL X Γ B H e ds) : EM X Γ B H e ds := h.imp fun v H1 B2 H2 ⟨l, xs, e, _, h2, _, hd⟩ => ⟨l, xs, e, h2, hd⟩
theorem ev_raw (i : Nat) {x : Str} {v : V} (hd : Γ[i]? = some (.raw v)) (hN : X.N[i]? = some x := by rfl) (hv : Vis X.env.scope x := by first | exact Or.inl rfl | exact Or.inr (Or.inl rfl) | exact Or.inr (Or.inr rfl))
    (h1 : (x == ("__debug__" : Str)) = false := by decide) (h2 : (x == ("__classdict__" : Str)) = false := by decide) : EV X Γ B H (.Name x pos) (fun u _ _ _ => u = v) := fun σ B1 H1 g ok Q q =>
  we_of (pe_var hN hv h1 h2) ⟨v, ok.ok i _ hd, q v _ _ (Grow.refl ok.same) rfl⟩
theorem ed_int {i : Int} {j p} : ED X Γ B H (.Constant (.int i) j p) (.int i) := fun σ B1 H1 g ok Q q => we_of pe_int (q _ _ _ (Grow.refl ok.same) (.int i))
theorem ed_bl {i : Bool} {j p} : ED X Γ B H (.Constant (.bool i) j p) (.bool i) := fun σ B1 H1 g ok Q q => we_of pe_bl (q _ _ _ (Grow.refl ok.same) (.bl i))
theorem ed_str {i : Str} {j p} : ED X Γ B H (.Constant (.str i) j p) (.str i) := fun σ B1 H1 g ok Q q => we_of pe_str (q _ _ _ (Grow.refl ok.same) (.str i))
theorem ed_non {j p} : ED X Γ B H (.Constant .none j p) .none := fun σ B1 H1 g ok Q q => we_of pe_non (q _ _ _ (Grow.refl ok.same) .non)
theorem ed_glob {x : Str} {v : V} {u : Value} (hm : X.mg x = some u) (r : RelV v u) (h : Dp X.K B v d) (hg : Gl X x := by rfl) (hd : (x == ("__debug__" : Str)) = false := by decide) : ED X Γ B H (.Name x pos) d := fun σ B1 H1 g ok Q q =>
  we_of (pe_glob hg hm r hd) (q _ _ _ (Grow.refl ok.same) (dp_mono g.b h))
/-- two values, then an operation on them -/
def OpD (X : Cx) (B H : Hp) (r : R2) (da db : PyData) (R : V → Hp → Hp → Hp → Prop) : Prop :=
  ∀ (va vb : V) (B1 H1 : Hp), Grow B H B1 H1 → Dp X.K B1 va da → Dp X.K B1 vb db → ∀ Q : VK, (∀ v B2 H2, Grow B1 H1 B2 H2 → R v H1 B2 H2 → Q v H2) → r va vb H1 Q
theorem two {r : R2} {R : V → Hp → Hp → Hp → Prop} (hR : ∀ v H1 H1' B2 H2, Same H1 H1' → R v H1' B2 H2 → R v H1 B2 H2) (ha : ED X Γ B H a da) (hb : ED X Γ B H b db) (hr : OpD X B H r da db R) {σ : L2.St} {B1 H1 : Hp} (g : Grow B H B1 H1) (ok : Good X.K Γ σ B1 H1) {Q : VK}
    (q : ∀ v B2 H2, Grow B1 H1 B2 H2 → R v H1 B2 H2 → Q v H2) : WE X a σ H1 fun x H2 => WE X b σ H2 fun y H3 => r x y H3 Q :=
  ha σ B1 H1 g ok _ fun va B2 H2 g2 da2 => hb σ B2 H2 (g.trans g2) (ok.grow g2) _ fun vb B3 H3 g3 db3 => hr va vb B3 H3 ((g.trans g2).trans g3) (dp_mono g3.b da2) db3 Q fun v B4 H4 g4 r4 => q v B4 H4 ((g2.trans g3).trans g4) (hR _ _ _ _ _ (g2.trans g3).h r4)
theorem isD_back {K : PySem.W.Frag} : ∀ v H1 H1' B2 H2, Same H1 H1' → isD K d v H1' B2 H2 → isD K d v H1 B2 H2 := fun _ _ _ _ _ _ h => h
theorem isL_back {K : PySem.W.Frag} : ∀ v H1 H1' B2 H2, Same H1 H1' → isL K ds v H1' B2 H2 → isL K ds v H1 B2 H2 := fun _ _ _ _ _ s ⟨l, xs, e, h0, h⟩ => ⟨l, xs, e, s.free h0, h⟩
theorem ed_op {op : Operator} {r : R2} (ho : OpR X (binaryOp op) r) (hr : OpD X B H r da db (isD X.K d)) (ha : ED X Γ B H a da) (hb : ED X Γ B H b db) : ED X Γ B H (.BinOp a op b pos) d := fun σ B1 H1 g ok Q q =>
  we_of (pe_op ho (pe X a) (pe X b)) (two isD_back ha hb hr g ok q)
theorem el_op {op : Operator} {r : R2} (ho : OpR X (binaryOp op) r) (hr : OpD X B H r da db (isL X.K ds)) (ha : ED X Γ B H a da) (hb : ED X Γ B H b db) : EL X Γ B H (.BinOp a op b pos) ds := fun σ B1 H1 g ok Q q =>
  we_of (pe_op ho (pe X a) (pe X b)) (two isL_back ha hb hr g ok q)
theorem ed_cmp {op : CmpOp} {r : R2} (ho : OpR X (compareOp op) r) (hm : behindInMarks op b = false) (hr : OpD X B H r da db (isD X.K d)) (ha : ED X Γ B H a da) (hb : ED X Γ B H b db) : ED X Γ B H (.Compare a [op] [b] pos) d := fun σ B1 H1 g ok Q q =>
  we_of (pe_cmpR ho (pe X a) (pe X b) hm) (two isD_back ha hb hr g ok q)
theorem et_cmp {op : CmpOp} {r : R2} {c : Bool} (ho : OpR X (compareOp op) r) (hm : behindInMarks op b = false) (hr : OpD X B H r da db (isD X.K (.bool c))) (ha : ED X Γ B H a da) (hb : ED X Γ B H b db) : ET X Γ B H (.Compare a [op] [b] pos) c := fun σ B1 H1 g ok Q q =>
  wt_of (pt_cmpR ho (pe X a) (pe X b) hm) (two isD_back ha hb hr g ok fun v B2 H2 g2 r2 => ⟨c, dp_bl r2, q B2 H2 g2⟩)
theorem opd_I0 {f : Int → Int → V} {i j : Int} {d : PyData} (h : ∀ B2 : Hp, Dp X.K B2 (f i j) d) : OpD X B H (rI0 f) (.int i) (.int j) (isD X.K d) := fun va vb B1 H1 g ha hb Q q =>
  ⟨i, j, dp_int ha, dp_int hb, q _ _ _ (Grow.refl g.bh) (h B1)⟩
theorem opd_I {C : Int → Int → Prop} {f : Int → Int → V} {i j : Int} {d : PyData} (hc : C i j) (h : ∀ B2 : Hp, Dp X.K B2 (f i j) d) : OpD X B H (rI C f) (.int i) (.int j) (isD X.K d) := fun va vb B1 H1 g ha hb Q q =>
  ⟨i, j, dp_int ha, dp_int hb, hc, q _ _ _ (Grow.refl g.bh) (h B1)⟩
end
end Dc
/-! Own layer, part B: rules for expressions. -/
namespace Dc
open PySem PySem.Spec PyProof.Rows L2
section
variable {X : Cx} {Γ : List Sl} {B H : Hp} {e a b c : Expr} {es : List Expr} {pos : Pos} {d da db : PyData} {ds es' : List PyData} {i j : Int}
/-! ### ints -/
theorem ed_add (ha : ED X Γ B H a (.int i)) (hb : ED X Γ B H b (.int j)) : ED X Γ B H (.BinOp a .Add b pos) (.int (i + j)) := ed_op op_add (opd_I0 fun _ => .int _) ha hb
theorem ed_sub (ha : ED X Γ B H a (.int i)) (hb : ED X Γ B H b (.int j)) : ED X Γ B H (.BinOp a .Sub b pos) (.int (i - j)) := ed_op op_sub (opd_I0 fun _ => .int _) ha hb
theorem ed_mul (hc : CMul i j) (ha : ED X Γ B H a (.int i)) (hb : ED X Γ B H b (.int j)) : ED X Γ B H (.BinOp a .Mult b pos) (.int (i * j)) := ed_op op_mul (opd_I hc fun _ => .int _) ha hb
theorem ed_fdiv (hc : CDiv i j) (ha : ED X Γ B H a (.int i)) (hb : ED X Γ B H b (.int j)) : ED X Γ B H (.BinOp a .FloorDiv b pos) (.int (i / j)) := ed_op op_fdiv (opd_I hc fun _ => .int _) ha hb
theorem ed_mod (hc : 0 < j) (ha : ED X Γ B H a (.int i)) (hb : ED X Γ B H b (.int j)) : ED X Γ B H (.BinOp a .Mod b pos) (.int (i % j)) := ed_op op_mod (opd_I hc fun _ => .int _) ha hb
theorem ed_pow (hc : CPow i j) (ha : ED X Γ B H a (.int i)) (hb : ED X Γ B H b (.int j)) : ED X Γ B H (.BinOp a .Pow b pos) (.int (i ^ j.toNat)) := ed_op op_pow (opd_I hc fun _ => .int _) ha hb
theorem ed_xor (ha : ED X Γ B H a (.int i)) (hb : ED X Γ B H b (.int j)) : ED X Γ B H (.BinOp a .BitXor b pos) (.int (Builtin.bitXor i j)) := ed_op op_xor (opd_I0 fun _ => .int _) ha hb
theorem ed_to (h : ED X Γ B H e da) (q : da = db) : ED X Γ B H e db := q ▸ h
theorem ed_i (h : ED X Γ B H e (.int i)) (q : i = j) : ED X Γ B H e (.int j) := q ▸ h
theorem et_to {k l : Bool} (h : ET X Γ B H e k) (q : k = l) : ET X Γ B H e l := q ▸ h
theorem ed_neg (ha : ED X Γ B H a (.int i)) : ED X Γ B H (.UnaryOp .USub a pos) (.int (-i)) := fun σ B1 H1 g ok Q q =>
  we_of (pe_un un_neg (pe X a)) (ha σ B1 H1 g ok _ fun v B2 H2 g2 r => ⟨i, dp_int r, q _ _ _ g2 (.int _)⟩)
/-! ### comparisons of ints, scalars; as tests, as values -/
theorem et_lt (ha : ED X Γ B H a (.int i)) (hb : ED X Γ B H b (.int j)) : ET X Γ B H (.Compare a [.Lt] [b] pos) (decide (i < j)) := et_cmp op_lt (nomark _) (opd_I0 fun _ => .bl _) ha hb
theorem et_le (ha : ED X Γ B H a (.int i)) (hb : ED X Γ B H b (.int j)) : ET X Γ B H (.Compare a [.LtE] [b] pos) (decide (i ≤ j)) := et_cmp op_le (nomark _) (opd_I0 fun _ => .bl _) ha hb
theorem et_gt (ha : ED X Γ B H a (.int i)) (hb : ED X Γ B H b (.int j)) : ET X Γ B H (.Compare a [.Gt] [b] pos) (decide (j < i)) := et_cmp op_gt (nomark _) (opd_I0 fun _ => .bl _) ha hb
theorem et_ge (ha : ED X Γ B H a (.int i)) (hb : ED X Γ B H b (.int j)) : ET X Γ B H (.Compare a [.GtE] [b] pos) (decide (j ≤ i)) := et_cmp op_ge (nomark _) (opd_I0 fun _ => .bl _) ha hb
theorem ed_lt (ha : ED X Γ B H a (.int i)) (hb : ED X Γ B H b (.int j)) : ED X Γ B H (.Compare a [.Lt] [b] pos) (.bool (decide (i < j))) := ed_cmp op_lt (nomark _) (opd_I0 fun _ => .bl _) ha hb
/-- scalars as values -/
def scV : PyData → Option V
  | .none => some .non
  | .bool b => some (.bl b)
  | .int i => some (.int i)
  | .str x => some (.str x)
  | _ => none
theorem scV_dp {K : PySem.W.Frag} {H : Hp} {v u : V} (h : Dp K H v d) (s : scV d = some u) : v = u := by
  cases h <;> simp [scV] at s <;> exact s
theorem opd_eq {x y : V} {k : Bool} (hx : scV da = some x) (hy : scV db = some y) (hs : scal x y = true) (hk : decide (x = y) = k) : OpD X B H rEq da db (isD X.K (.bool k)) := fun va vb B1 H1 g ha hb Q q => by
  rw [scV_dp ha hx, scV_dp hb hy]
  exact ⟨hs, q _ _ _ (Grow.refl g.bh) (hk ▸ .bl _)⟩
theorem opd_ne {x y : V} {k : Bool} (hx : scV da = some x) (hy : scV db = some y) (hs : scal x y = true) (hk : (!decide (x = y)) = k) : OpD X B H rNe da db (isD X.K (.bool k)) := fun va vb B1 H1 g ha hb Q q => by
  rw [scV_dp ha hx, scV_dp hb hy]
  exact ⟨hs, q _ _ _ (Grow.refl g.bh) (hk ▸ .bl _)⟩
theorem dI (i j : Int) : decide (V.int i = V.int j) = decide (i = j) := by
  by_cases h : i = j
  · subst h; simp
  · rw [decide_eq_false h, decide_eq_false fun q => h (V.int.inj q)]
theorem dS (i j : Str) : decide (V.str i = V.str j) = decide (i = j) := by
  by_cases h : i = j
  · subst h; simp
  · rw [decide_eq_false h, decide_eq_false fun q => h (V.str.inj q)]
theorem dB (i j : Bool) : decide (V.bl i = V.bl j) = decide (i = j) := by
  by_cases h : i = j
  · subst h; simp
  · rw [decide_eq_false h, decide_eq_false fun q => h (V.bl.inj q)]
theorem et_eqI (ha : ED X Γ B H a (.int i)) (hb : ED X Γ B H b (.int j)) : ET X Γ B H (.Compare a [.Eq] [b] pos) (decide (i = j)) := et_cmp op_eq (nomark _) (opd_eq rfl rfl rfl (dI i j)) ha hb
theorem et_neI (ha : ED X Γ B H a (.int i)) (hb : ED X Γ B H b (.int j)) : ET X Γ B H (.Compare a [.NotEq] [b] pos) (!decide (i = j)) := et_cmp op_ne (nomark _) (opd_ne rfl rfl rfl (by rw [dI])) ha hb
theorem ed_eqI (ha : ED X Γ B H a (.int i)) (hb : ED X Γ B H b (.int j)) : ED X Γ B H (.Compare a [.Eq] [b] pos) (.bool (decide (i = j))) := ed_cmp op_eq (nomark _) (opd_eq rfl rfl rfl (dI i j)) ha hb
theorem et_eqS {x y : Str} (ha : ED X Γ B H a (.str x)) (hb : ED X Γ B H b (.str y)) : ET X Γ B H (.Compare a [.Eq] [b] pos) (decide (x = y)) := et_cmp op_eq (nomark _) (opd_eq rfl rfl rfl (dS x y)) ha hb
theorem ed_eqS {x y : Str} (ha : ED X Γ B H a (.str x)) (hb : ED X Γ B H b (.str y)) : ED X Γ B H (.Compare a [.Eq] [b] pos) (.bool (decide (x = y))) := ed_cmp op_eq (nomark _) (opd_eq rfl rfl rfl (dS x y)) ha hb
theorem et_neB {x y : Bool} (ha : ED X Γ B H a (.bool x)) (hb : ED X Γ B H b (.bool y)) : ET X Γ B H (.Compare a [.NotEq] [b] pos) (!decide (x = y)) := et_cmp op_ne (nomark _) (opd_ne rfl rfl rfl (by rw [dB])) ha hb
def isNone : PyData → Bool
  | .none => true
  | _ => false
theorem isNone_dp {K : PySem.W.Frag} {H : Hp} {v : V} (h : Dp K H v d) : decide (v = V.non) = isNone d := by
  cases h <;> rfl
theorem et_isN {j' p'} (ha : ED X Γ B H a d) : ET X Γ B H (.Compare a [.Is] [.Constant .none j' p'] pos) (isNone d) := fun σ B1 H1 g ok Q q =>
  wt_of (pt_cmp (pc_isN (pe X a))) (ha σ B1 H1 g ok _ fun v B2 H2 g2 r => ⟨_, rfl, by rw [isNone_dp r]; exact q _ _ g2⟩)
theorem et_notN {j' p'} (ha : ED X Γ B H a d) : ET X Γ B H (.Compare a [.IsNot] [.Constant .none j' p'] pos) (!isNone d) := fun σ B1 H1 g ok Q q =>
  wt_of (pt_cmp (pc_notN (pe X a))) (ha σ B1 H1 g ok _ fun v B2 H2 g2 r => ⟨_, rfl, by rw [isNone_dp r]; exact q _ _ g2⟩)
/-! ### and, or, not, if -/
theorem et_and2 {x y : Bool} {p : Pos} (ha : ET X Γ B H a x) (hb : x = true → ET X Γ B H b y) : ET X Γ B H (.BoolOp .And [a, b] p) (x && y) := fun σ B1 H1 g ok Q q =>
  wt_of (PW.pt (pw_and (pt X a) (pw_and1 (pt X b)))) (ha σ B1 H1 g ok _ fun B2 H2 g2 => by
    cases x with
    | true => exact iteT (hb rfl σ B2 H2 (g.trans g2) (ok.grow g2) _ fun B3 H3 g3 => q _ _ (g2.trans g3))
    | false => exact iteF (q _ _ g2))
theorem et_or2 {x y : Bool} {p : Pos} (ha : ET X Γ B H a x) (hb : x = false → ET X Γ B H b y) : ET X Γ B H (.BoolOp .Or [a, b] p) (x || y) := fun σ B1 H1 g ok Q q =>
  wt_of (PW.pt (pw_or (pt X a) (pw_or1 (pt X b)))) (ha σ B1 H1 g ok _ fun B2 H2 g2 => by
    cases x with
    | false => exact iteF (hb rfl σ B2 H2 (g.trans g2) (ok.grow g2) _ fun B3 H3 g3 => q _ _ (g2.trans g3))
    | true => exact iteT (q _ _ g2))
theorem et_and3 {x y z : Bool} {p : Pos} (ha : ET X Γ B H a x) (hb : x = true → ET X Γ B H b y) (hc : x = true → y = true → ET X Γ B H c z) : ET X Γ B H (.BoolOp .And [a, b, c] p) (x && (y && z)) := fun σ B1 H1 g ok Q q =>
  wt_of (PW.pt (pw_and (pt X a) (pw_and (pos := p) (pt X b) (pw_and1 (pt X c))))) (ha σ B1 H1 g ok _ fun B2 H2 g2 => by
    cases x with
    | true =>
      refine iteT (hb rfl σ B2 H2 (g.trans g2) (ok.grow g2) _ fun B3 H3 g3 => ?_)
      cases y with
      | true => exact iteT (hc rfl rfl σ B3 H3 ((g.trans g2).trans g3) ((ok.grow g2).grow g3) _ fun B4 H4 g4 => q _ _ ((g2.trans g3).trans g4))
      | false => exact iteF (q _ _ (g2.trans g3))
    | false => exact iteF (q _ _ g2))
theorem et_or3 {x y z : Bool} {p : Pos} (ha : ET X Γ B H a x) (hb : x = false → ET X Γ B H b y) (hc : x = false → y = false → ET X Γ B H c z) : ET X Γ B H (.BoolOp .Or [a, b, c] p) (x || (y || z)) := fun σ B1 H1 g ok Q q =>
  wt_of (PW.pt (pw_or (pt X a) (pw_or (pos := p) (pt X b) (pw_or1 (pt X c))))) (ha σ B1 H1 g ok _ fun B2 H2 g2 => by
    cases x with
    | false =>
      refine iteF (hb rfl σ B2 H2 (g.trans g2) (ok.grow g2) _ fun B3 H3 g3 => ?_)
      cases y with
      | false => exact iteF (hc rfl rfl σ B3 H3 ((g.trans g2).trans g3) ((ok.grow g2).grow g3) _ fun B4 H4 g4 => q _ _ ((g2.trans g3).trans g4))
      | true => exact iteT (q _ _ (g2.trans g3))
    | true => exact iteT (q _ _ g2))
theorem et_or4 {dd : Expr} {x y z w : Bool} {p : Pos} (ha : ET X Γ B H a x) (hb : x = false → ET X Γ B H b y) (hc : x = false → y = false → ET X Γ B H c z) (hd : x = false → y = false → z = false → ET X Γ B H dd w) : ET X Γ B H (.BoolOp .Or [a, b, c, dd] p) (x || (y || (z || w))) := fun σ B1 H1 g ok Q q =>
  wt_of (PW.pt (pw_or (pt X a) (pw_or (pos := p) (pt X b) (pw_or (pos := p) (pt X c) (pw_or1 (pt X dd)))))) (ha σ B1 H1 g ok _ fun B2 H2 g2 => by
    cases x with
    | false =>
      refine iteF (hb rfl σ B2 H2 (g.trans g2) (ok.grow g2) _ fun B3 H3 g3 => ?_)
      cases y with
      | false =>
        refine iteF (hc rfl rfl σ B3 H3 ((g.trans g2).trans g3) ((ok.grow g2).grow g3) _ fun B4 H4 g4 => ?_)
        cases z with
        | false => exact iteF (hd rfl rfl rfl σ B4 H4 (((g.trans g2).trans g3).trans g4) (((ok.grow g2).grow g3).grow g4) _ fun B5 H5 g5 => q _ _ (((g2.trans g3).trans g4).trans g5))
        | true => exact iteT (q _ _ ((g2.trans g3).trans g4))
      | true => exact iteT (q _ _ (g2.trans g3))
    | true => exact iteT (q _ _ g2))
theorem et_not {x : Bool} (ha : ET X Γ B H a x) : ET X Γ B H (.UnaryOp .Not a pos) (!x) := fun σ B1 H1 g ok Q q => wt_of (pt_not (pt X a)) (ha σ B1 H1 g ok _ fun B2 H2 g2 => q _ _ g2)
theorem et_val {x : Bool} (he : ∀ whole, isTrue e X.env whole = (do let v ← whole; standAt e.pos; holding [v] (truthy v))) (ha : ED X Γ B H e (.bool x)) : ET X Γ B H e x := fun σ B1 H1 g ok Q q =>
  wt_of (pt_val (pe X e) he) (ha σ B1 H1 g ok _ fun v B2 H2 g2 r => ⟨x, dp_bl r, q _ _ g2⟩)
theorem ed_and2 {x y : Bool} (ha : ED X Γ B H a (.bool x)) (hb : x = true → ED X Γ B H b (.bool y)) : ED X Γ B H (.BoolOp .And [a, b] pos) (.bool (x && y)) := fun σ B1 H1 g ok Q q =>
  we_of (pe_and (pe X a) (pe_one (pe X b))) (ha σ B1 H1 g ok _ fun v B2 H2 g2 r => ⟨x, dp_bl r, by
    cases x with
    | true => exact iteT (hb rfl σ B2 H2 (g.trans g2) (ok.grow g2) _ fun v3 B3 H3 g3 r3 => q _ _ _ (g2.trans g3) r3)
    | false => exact iteF (q _ _ _ g2 (.bl _))⟩)
theorem ed_and3 {x y z : Bool} (ha : ED X Γ B H a (.bool x)) (hb : x = true → ED X Γ B H b (.bool y)) (hc : x = true → y = true → ED X Γ B H c (.bool z)) : ED X Γ B H (.BoolOp .And [a, b, c] pos) (.bool (x && (y && z))) := fun σ B1 H1 g ok Q q =>
  we_of (pe_and (pe X a) (pe_and (pos := pos) (pe X b) (pe_one (pe X c)))) (ha σ B1 H1 g ok _ fun v B2 H2 g2 r => ⟨x, dp_bl r, by
    cases x with
    | true =>
      refine iteT (hb rfl σ B2 H2 (g.trans g2) (ok.grow g2) _ fun v3 B3 H3 g3 r3 => ⟨y, dp_bl r3, ?_⟩)
      cases y with
      | true => exact iteT (hc rfl rfl σ B3 H3 ((g.trans g2).trans g3) ((ok.grow g2).grow g3) _ fun v4 B4 H4 g4 r4 => q _ _ _ ((g2.trans g3).trans g4) r4)
      | false => exact iteF (q _ _ _ (g2.trans g3) (.bl _))
    | false => exact iteF (q _ _ _ g2 (.bl _))⟩)
theorem ed_not {x : Bool} (ha : ED X Γ B H a (.bool x)) : ED X Γ B H (.UnaryOp .Not a pos) (.bool (!x)) := fun σ B1 H1 g ok Q q =>
  we_of (pe_not (pe X a)) (ha σ B1 H1 g ok _ fun v B2 H2 g2 r => ⟨x, dp_bl r, q _ _ _ g2 (.bl _)⟩)
theorem ed_if {k : Bool} (hc : ET X Γ B H c k) (ha : k = true → ED X Γ B H a d) (hb : k = false → ED X Γ B H b d) : ED X Γ B H (.IfExp c a b pos) d := fun σ B1 H1 g ok Q q =>
  we_of (pe_ifExp (pt X c) (pe X a) (pe X b)) (hc σ B1 H1 g ok _ fun B2 H2 g2 => by
    cases k with
    | true => exact iteT (ha rfl σ B2 H2 (g.trans g2) (ok.grow g2) _ fun v3 B3 H3 g3 r3 => q _ _ _ (g2.trans g3) r3)
    | false => exact iteF (hb rfl σ B2 H2 (g.trans g2) (ok.grow g2) _ fun v3 B3 H3 g3 r3 => q _ _ _ (g2.trans g3) r3))
/-- a < b < c, as a test, as a value; ints -/
theorem chain_le {k : Int} (ha : ED X Γ B H a (.int i)) (hb : ED X Γ B H b (.int j)) (hc : ED X Γ B H c (.int k)) (hm : lastMarks [CmpOp.LtE, CmpOp.LtE] [b, c] = false := by with_unfolding_all rfl) : ED X Γ B H (.Compare a [.LtE, .LtE] [b, c] pos) (.bool (decide (i ≤ j) && decide (j ≤ k))) := fun σ B1 H1 g ok Q q =>
  we_of (pe_chain (hm := hm) op_le op_le (pe X a) (pe X b) (pe X c)) (ha σ B1 H1 g ok _ fun v B2 H2 g2 r => hb σ B2 H2 (g.trans g2) (ok.grow g2) _ fun v3 B3 H3 g3 r3 => ⟨i, j, dp_int r, dp_int r3, ⟨_, rfl, by
    by_cases h : i ≤ j
    · rw [decide_eq_true h] at q ⊢
      refine iteT (hc σ B3 H3 ((g.trans g2).trans g3) ((ok.grow g2).grow g3) _ fun v4 B4 H4 g4 r4 => ⟨j, k, dp_int r3, dp_int r4, ?_⟩)
      rw [Bool.true_and] at q
      exact q _ _ _ ((g2.trans g3).trans g4) (.bl _)
    · rw [decide_eq_false h] at q ⊢
      exact iteF (q _ _ _ (g2.trans g3) (.bl _))⟩⟩)
/-! ### displays -/
theorem ea_nil : EA X Γ B H [] [] := fun σ B1 H1 g ok Q q => wa_of pa_nil (q _ _ _ (Grow.refl ok.same) .nil)
theorem ea_cons (ha : ED X Γ B H a d) (hr : EA X Γ B H es ds) (hs : starEach (a :: es) X.env = (false, eval a X.env) :: starEach es X.env := by rfl) : EA X Γ B H (a :: es) (d :: ds) := fun σ B1 H1 g ok Q q =>
  wa_of (pa_cons (pe X a) (pa X es) hs) (ha σ B1 H1 g ok _ fun v B2 H2 g2 r => hr σ B2 H2 (g.trans g2) (ok.grow g2) _ fun vs B3 H3 g3 rs => q _ _ _ (g2.trans g3) (.cons (dp_mono g3.b r) rs))
theorem ea_star {p : Pos} (ha : ED X Γ B H a d) (hd : d = .list es' ∨ d = .tuple es') (hr : EA X Γ B H es ds) (hs : starEach (.Starred a p :: es) X.env = (true, eval a X.env) :: starEach es X.env := by rfl) : EA X Γ B H (.Starred a p :: es) (es' ++ ds) := fun σ B1 H1 g ok Q q =>
  wa_of (StX.pa_star (pe X a) (pa X es) hs) (ha σ B1 H1 g ok _ fun v B2 H2 g2 r => by
    rcases hd with rfl | rfl
    · cases r with
      | lst h1 h2 => exact ⟨_, _, rfl, .inr (g2.bh.seq h1), hr σ B2 H2 (g.trans g2) (ok.grow g2) _ fun vs B3 H3 g3 rs => q _ _ _ (g2.trans g3) (dps_app (dps_mono g3.b h2) rs)⟩
    · cases r with
      | tup h1 h2 => exact ⟨_, _, rfl, .inl (Same.seqT g2.bh h1), hr σ B2 H2 (g.trans g2) (ok.grow g2) _ fun vs B3 H3 g3 rs => q _ _ _ (g2.trans g3) (dps_app (dps_mono g3.b h2) rs)⟩)
theorem ed_tup {x1 : Nat} (h : EA X Γ B H es ds) (hl : ds.length ≤ 1000 := by decide) : ED X Γ B H (.Tuple es x1 pos) (.tuple ds) := fun σ B1 H1 g ok Q q =>
  we_of (pe_tup (pa X es)) (h σ B1 H1 g ok _ fun vs B2 H2 g2 r => ⟨by rw [dps_len r]; exact Nat.le_trans hl (by decide), fun p hp => q _ _ _ (g2.trans (Grow.new g2.bh hp)) (.tup (.inl (.inl upd_same)) (dps_mono (same_new (g2.bh.free hp)) r))⟩)
theorem el_lst (h : EA X Γ B H es ds) (hl : ds.length ≤ 1000 := by decide) : EL X Γ B H (.List es pos) ds := fun σ B1 H1 g ok Q q =>
  we_of (pe_lst (pa X es)) (h σ B1 H1 g ok _ fun vs B2 H2 g2 r => ⟨by rw [dps_len r]; exact Nat.le_trans hl (by decide), fun p hp => q _ _ _ (g2.trans (Grow.newM g2.bh hp)) ⟨p, vs, rfl, g2.h.free hp, upd_same, g2.bh.free hp, r⟩⟩)
/-! ### subscripts -/
theorem atI_dps {K : PySem.W.Frag} {xs : List V} {k : Nat} (h : DpAll K B xs ds) (hk : ds[k]? = some d) : ∃ v, atI xs (k : Int) = some v ∧ Dp K B v d := by
  obtain ⟨v, h1, h2⟩ := dps_get h hk
  exact ⟨v, atI_nat h1, h2⟩
theorem ed_ixT {k : Nat} (hk : ds[k]? = some d) (hi : i = (k : Int)) (ha : ED X Γ B H a (.tuple ds)) (hb : ED X Γ B H b (.int i)) (hs : PlainIx b := by exact fun _ _ => rfl) : ED X Γ B H (.Subscript a b pos) d := fun σ B1 H1 g ok Q q =>
  we_of (pe_ix ix_tup (pe X a) (pe X b) hs) (two isD_back ha hb (fun va vb B2 H2 g2 ra rb Q q => by
    cases ra with
    | tup h1 h2 =>
      obtain ⟨v, h3, h4⟩ := atI_dps h2 hk
      exact ⟨_, _, i, v, rfl, dp_int rb, Same.seqT g2.bh h1, by rw [hi]; exact h3, q _ _ _ (Grow.refl g2.bh) h4⟩) g ok q)
theorem ed_ixL {k : Nat} (hk : ds[k]? = some d) (hi : i = (k : Int)) (ha : ED X Γ B H a (.list ds)) (hb : ED X Γ B H b (.int i)) (hs : PlainIx b := by exact fun _ _ => rfl) : ED X Γ B H (.Subscript a b pos) d := fun σ B1 H1 g ok Q q =>
  we_of (pe_ix ix_list (pe X a) (pe X b) hs) (two isD_back ha hb (fun va vb B2 H2 g2 ra rb Q q => by
    cases ra with
    | lst h1 h2 =>
      obtain ⟨v, h3, h4⟩ := atI_dps h2 hk
      exact ⟨_, _, i, v, rfl, dp_int rb, g2.bh.seq h1, by rw [hi]; exact h3, q _ _ _ (Grow.refl g2.bh) h4⟩) g ok q)
theorem cutV_dps {K : PySem.W.Frag} {xs : List V} (h : DpAll K B xs ds) (lo hi : Option Int) : DpAll K B (cutV xs lo hi) ((ds.drop (HT.sIx ds.length 0 lo)).take (HT.sIx ds.length ds.length hi - HT.sIx ds.length 0 lo)) := by
  unfold cutV
  rw [dps_len h]
  exact dps_take _ (dps_drop _ h)
/-- xs[k:] of a list -/
theorem el_slFrom {k : Nat} {p2 : Pos} (hi : i = (k : Int)) (ha : ED X Γ B H a (.list ds)) (hb : ED X Γ B H b (.int i)) : EL X Γ B H (.Subscript a (.Slice (some b) none none p2) pos) (ds.drop k) := fun σ B1 H1 g ok Q q =>
  we_of (pe_slice sl_list (pe X a) (po_some (pe X b)) po_none) (ha σ B1 H1 g ok _ fun va B2 H2 g2 ra => hb σ B2 H2 (g.trans g2) (ok.grow g2) _ fun vb B3 H3 g3 rb => ⟨i, dp_int rb, by
    cases ra with
    | lst h1 h2 =>
      refine ⟨_, _, rfl, (g2.h.trans g3.h |> fun _ => g3.bh.seq (g3.b.seq h1)), fun p hp => q _ _ _ ((g2.trans g3).trans (Grow.newM g3.bh hp)) ⟨p, _, rfl, (g2.trans g3).h.free hp, upd_same, g3.bh.free hp, ?_⟩⟩
      have c := cutV_dps (dps_mono g3.b h2) (some i) none
      have e1 : HT.sIx ds.length 0 (some i) = min k ds.length := by rw [hi, HT.sIx_nat]
      have e2 : HT.sIx ds.length ds.length none = ds.length := rfl
      rw [e1, e2] at c
      have e3 : (ds.drop (min k ds.length)).take (ds.length - min k ds.length) = ds.drop k := by
        by_cases q : k ≤ ds.length
        · rw [Nat.min_eq_left q, List.take_of_length_le (by rw [List.length_drop]; omega)]
        · rw [Nat.min_eq_right (by omega), List.drop_length, List.drop_eq_nil_of_le (by omega), List.take_nil]
      rw [e3] at c
      exact c⟩)
/-- t[k:] of a tuple, not the whole -/
theorem ed_slFromT {k : Nat} {p2 : Pos} (hi : i = (k : Int)) (h0 : 0 < k) (hl : 0 < ds.length) (ha : ED X Γ B H a (.tuple ds)) (hb : ED X Γ B H b (.int i)) : ED X Γ B H (.Subscript a (.Slice (some b) none none p2) pos) (.tuple (ds.drop k)) := fun σ B1 H1 g ok Q q =>
  we_of (pe_slice sl_tup (pe X a) (po_some (pe X b)) po_none) (ha σ B1 H1 g ok _ fun va B2 H2 g2 ra => hb σ B2 H2 (g.trans g2) (ok.grow g2) _ fun vb B3 H3 g3 rb => ⟨i, dp_int rb, by
    cases ra with
    | @tup a' xs _ h1 h2 =>
      have el : xs.length = ds.length := dps_len h2
      refine ⟨_, _, rfl, Same.seqT g3.bh (Same.seqT g3.b h1), ?_, fun p hp => q _ _ _ ((g2.trans g3).trans (Grow.new g3.bh hp)) (.tup (.inl (.inl upd_same)) (dps_mono (same_new (g3.bh.free hp)) ?_))⟩
      · rintro ⟨q1, q2⟩
        rw [hi, HT.sIx_nat, el] at q1
        omega
      · have c := cutV_dps (dps_mono g3.b h2) (some i) none
        have e1 : HT.sIx ds.length 0 (some i) = min k ds.length := by rw [hi, HT.sIx_nat]
        have e2 : HT.sIx ds.length ds.length none = ds.length := rfl
        rw [e1, e2] at c
        have e3 : (ds.drop (min k ds.length)).take (ds.length - min k ds.length) = ds.drop k := by
          by_cases q : k ≤ ds.length
          · rw [Nat.min_eq_left q, List.take_of_length_le (by rw [List.length_drop]; omega)]
          · rw [Nat.min_eq_right (by omega), List.drop_length, List.drop_eq_nil_of_le (by omega), List.take_nil]
        rw [e3] at c
        exact c⟩)
/-! ### lists joined, repeated -/
theorem rep_flat {α : Type} (v : α) : ∀ n : Nat, (List.replicate n [v]).flatten = List.replicate n v
  | 0 => rfl
  | n + 1 => by rw [List.replicate_succ, List.flatten_cons, List.replicate_succ, rep_flat v n]; rfl
theorem el_cat (hl : ds.length + es'.length ≤ 1000000) (ha : EM X Γ B H a ds) (hb : EM X Γ B H b es') : EL X Γ B H (.BinOp a .Add b pos) (ds ++ es') := fun σ B1 H1 g ok Q q =>
  we_of (pe_op op_cat (pe X a) (pe X b)) (ha σ B1 H1 g ok _ fun va B2 H2 g2 ⟨l1, xs1, e1, h1, d1⟩ => hb σ B2 H2 (g.trans g2) (ok.grow g2) _ fun vb B3 H3 g3 ⟨l2, xs2, e2, h2, d2⟩ =>
    ⟨l1, l2, xs1, xs2, e1, e2, g3.h _ _ h1, h2, by rw [dps_len d1, dps_len d2]; exact Nat.le_trans hl (by decide), fun p hp => q _ _ _ ((g2.trans g3).trans (Grow.newM g3.bh hp)) ⟨p, _, rfl, (g2.trans g3).h.free hp, upd_same, g3.bh.free hp, dps_app (dps_mono g3.b d1) d2⟩⟩)
theorem el_rep1 {n : Nat} (hi : i = (n : Int)) (hl : n ≤ 1000000) (ha : EM X Γ B H a [d]) (hb : ED X Γ B H b (.int i)) : EL X Γ B H (.BinOp a .Mult b pos) (List.replicate n d) := fun σ B1 H1 g ok Q q =>
  we_of (pe_op op_rep (pe X a) (pe X b)) (ha σ B1 H1 g ok _ fun va B2 H2 g2 ⟨l1, xs1, e1, h1, d1⟩ => hb σ B2 H2 (g.trans g2) (ok.grow g2) _ fun vb B3 H3 g3 rb => by
    cases d1 with
    | @cons v _ _ _ dv dn =>
      cases dn
      refine ⟨l1, i, [v], e1, dp_int rb, g3.h _ _ h1, by omega, by omega, ?_, fun p hp => q _ _ _ ((g2.trans g3).trans (Grow.newM g3.bh hp)) ⟨p, _, rfl, (g2.trans g3).h.free hp, upd_same, g3.bh.free hp, ?_⟩⟩
      · rw [hi]
        have := sizeLine_eq
        show 1 * (n : Int).toNat ≤ sizeLine
        rw [Int.toNat_natCast]
        omega
      · rw [hi, Int.toNat_natCast]
        rw [rep_flat]
        exact dps_rep (dp_mono g3.b dv) n)
end
end Dc
/-! Own layer, part C: calls. -/
namespace Dc
open PySem PySem.Spec PyProof.Rows L2

/-! ### a def's promise where nothing is being shown (guards told) -/
abbrev Pr := List V → Hp → VK → Prop
structure FnG (P : Program) (w : World) (K : PySem.W.Frag) (mg : Str → Option Value) (base : Heap) (k : Nat) (f : Addr) (fd : FuncData) (ps : List Str) (sp : Pr) : Prop where
  len : ∀ vs H Q, sp vs H Q → vs.length = ps.length
  run : ∀ (A : Around) (outer : List Env) (s : Shared) (H : Hp) (args : Args) (us : List Value) (vs : List V) (Q : VK), Room k A → A.guards = some [] → Env0 P w K mg base A outer s H →
    BindsTo s fd args (ps.zip us) → Vals vs us → sp vs H Q → codeAny (model P w) A (.call (.ref f) args) (CR CX0 outer P w H s Q E0) s
/-- a def that the module has by a name -/
structure Has (P : Program) (w : World) (K : PySem.W.Frag) (mg : Str → Option Value) (base : Heap) (k : Nat) (x : Str) (ps : List Str) (sp : Pr) : Prop where
  is : ∃ (f : Addr) (fd : FuncData), FnG P w K mg base k f fd ps sp ∧ mg x = some (.ref f) ∧ PySem.W.keepIn K (.ref f) = true ∧ Binds K fd ps []
section
variable {P : Program} {w : World} {K : PySem.W.Frag} {mg : Str → Option Value} {base : Heap}
theorem FnG.up {j k : Nat} {f : Addr} {fd : FuncData} {ps : List Str} {sp : Pr} (F : FnG P w K mg base j f fd ps sp) (h : j ≤ k) : FnG P w K mg base k f fd ps sp :=
  ⟨F.len, fun A outer s H args us vs Q hr => F.run A outer s H args us vs Q (hr.mono h)⟩
theorem Has.up {j k : Nat} {x : Str} {ps : List Str} {sp : Pr} (F : Has P w K mg base j x ps sp) (h : j ≤ k) : Has P w K mg base k x ps sp := by
  obtain ⟨f, fd, a, b⟩ := F.is
  exact ⟨f, fd, a.up h, b⟩
abbrev bodyX (P : Program) (w : World) (K : PySem.W.Frag) (mg : Str → Option Value) (base : Heap) (N : List Str) (qual : Str) (st : Stmt) (f : Addr) (cdv : Value) (A : Around) (outer : List Env) (s : Shared) (H : Hp) : Cx :=
  (cxOf CX0 P w K mg base N qual (defScope st) f cdv A outer s H E0).nox
theorem fnG {x qual : Str} {st : Stmt} {f : Addr} {fd : FuncData} {N ps : List Str} {k : Nat} {sp : Pr} (F : Fun K x qual st f fd) (S : FnScope N ps (defScope st)) (len : ∀ vs H Q, sp vs H Q → vs.length = ps.length)
    (body : ∀ (cdv : Value) (A : Around) (outer : List Env) (s : Shared) (H : Hp) (vs : List V) (Q : VK), Room k (A.deeper (envOfC qual (defScope st) s.heap.objs.size f cdv)) → A.guards = some [] → sp vs H Q →
      WB (bodyX P w K mg base N qual st f cdv A outer s H) (defBody st) { nx := fun _ H' => Q .non H', rt := Q } (start N vs) H) : FnG P w K mg base (k + 1) f fd ps sp := by
  obtain ⟨oc, od, kV, doc, pm, an, cdv, ct, osl, rfl, lk, hcd⟩ := F.ex
  refine ⟨len, fun A outer s H args us vs Q room gd en bi va pr => ?_⟩
  have nl := len _ _ _ pr
  have kin : K.In s.heap := en.mod.kin.keeps fun b o q => (en.bs b o q).1
  have lim : s.heap.NoLimit := en.mod.nolimit.keeps fun b o q => (en.bs b o q).1
  have kinds : ∀ y ∈ ps.zip us, (defScope st).names.lookup y.1 = some .local ∨ ((defScope st).names.lookup y.1 = some .cell ∧ ((cellsFrom (s.heap.objs.size + 1) (defScope st).names []).lookup y.1).isSome = true) := fun y hy => by
    have hm : y.1 ∈ ps := (List.of_mem_zip (show (y.1, y.2) ∈ ps.zip us from hy)).1
    exact (S.par y.1 hm).imp id fun q => ⟨q, PySem.W.cellsFrom_some _ _ _ (.inl q)⟩
  refine codeAny_call_function room.depth (kin _ _ lk) rfl S.co S.gen rfl (PySem.W.codeRec_of kin hcd) (bi _ _ _ _ ?_)
  refine wpAny_newFunctionEnv_cells S.kind kinds fun env he s1 made => ?_
  subst he
  refine ⟨lim.keeps made.toInCall.keep, codeAny_func ?_⟩
  have inv := inv_start (CX := CX0) (E := E0) S room.hd en nl va made
  have go := body cdv A outer s H vs Q (room.deeper _) gd pr [] s1 (inv.wish _)
  refine wpAny_mono go (fun fl s' q => ?_) fun e s' q => False.elim q
  have fin : ∀ {σ' : L2.St} {H' : Hp} {v : V} {u : Value}, Inv (bodyX P w K mg base N qual st f cdv A outer s H) [] σ' H' s' → RelV v u → Q v H' → CE outer P w H s Q u s' :=
    fun {σ' H' v u} J rv q => ⟨v, H', J.os, J.bare, J.base, J.hok, rv, q⟩
  cases fl with
  | ret u =>
    obtain ⟨v, σ', H', J, rv, qq⟩ := q
    exact fin J rv qq
  | next =>
    obtain ⟨σ', H', J, qq⟩ := q
    exact fin (v := V.non) (u := Value.none) J rfl qq
  | brk =>
    obtain ⟨_, _, _, qq⟩ := q
    exact qq.elim
  | cont =>
    obtain ⟨_, _, _, qq⟩ := q
    exact qq.elim
end

section
variable {X : Cx} {Γ : List Sl} {B H : Hp} {e a b c : Expr} {es : List Expr} {pos p : Pos} {d da db : PyData} {ds es' : List PyData} {i j : Int} {x : Str} {k : Nat} {ps : List Str} {sp : Pr}
/-- f(e, ..): the arguments, then the promise -/
theorem we_call {σ : L2.St} {Q : VK} (F : Has X.prog X.w X.K X.mg X.base k x ps sp) (hr : Room k X.A) (hg : X.A.guards = some []) (hgl : Gl X x) (h : WA X (e :: es) σ H fun vs H1 => sp vs H1 Q)
    (hdb : (x == ("__debug__" : Str)) = false := by decide) (he : starEach (e :: es) X.env = (false, eval e X.env) :: starEach es X.env := by rfl) (hpl : (backTo pos (starEach es X.env)).any (·.1) = false := by rfl) : WE X (.Call (.Name x p) (e :: es) [] pos) σ H Q := by
  intro pins s I
  obtain ⟨f, fd, G, hm, hk, hb⟩ := F.is
  refine wpAny_Call_Name_kw (ld_glob I hgl hm ?_ hdb)
  refine PySem.W.callWith_K (h₀ := X.base) I.ok.mod.kin hk (thn (h pos pins s I) fun us s1 ⟨vs, H1, I1, r, q⟩ => ⟨I1.kIn, ?_⟩) he hpl
  have nl : (us ++ []).length = ps.length := by rw [List.append_nil, ← r.length]; exact G.len _ _ _ q
  have bi : BindsTo s1 fd ⟨us, []⟩ (ps.zip us) := by
    have z := hb s1 us I1.kIn nl
    rw [List.append_nil] at z
    exact z
  refine wpAny_call (codeAny_mono (G.run X.A X.stack s1 H1 ⟨us, []⟩ us vs Q hr hg I1.env0 bi r q) fun r s' hq => ?_)
  cases r with
  | error e => exact False.elim hq
  | ok fl =>
    cases fl with
    | ret u => exact I1.after hq
    | next => exact False.elim hq
    | brk => exact False.elim hq
    | cont => exact False.elim hq
/-- the promise of a def that changes nothing: from data to data, told by what it means -/
def PrR (K : PySem.W.Frag) {α : Type} (args : α → List PyData) (pre : α → Prop) (post : α → PyData → Prop) : Pr := fun vs H Q => ∃ (B : Hp) (m : α), Same B H ∧ DpAll K B vs (args m) ∧ pre m ∧
  ∀ v d B2 H2, post m d → Grow B H B2 H2 → Dp K B2 v d → Q v H2
abbrev PrF (K : PySem.W.Frag) {α : Type} (args : α → List PyData) (pre : α → Prop) (f : α → PyData) : Pr := PrR K args pre fun m d => d = f m
theorem es_call {α : Type} {args : α → List PyData} {pre : α → Prop} {post : α → PyData → Prop} (F : Has X.prog X.w X.K X.mg X.base k x ps (PrR X.K args pre post)) (m : α) (hr : Room k X.A) (hg : X.A.guards = some []) (hp : pre m) (ha : EA X Γ B H (e :: es) (args m)) (hgl : Gl X x := by rfl)
    (hdb : (x == ("__debug__" : Str)) = false := by decide) (he : starEach (e :: es) X.env = (false, eval e X.env) :: starEach es X.env := by rfl) (hpl : (backTo pos (starEach es X.env)).any (·.1) = false := by rfl) : ES X Γ B H (.Call (.Name x p) (e :: es) [] pos) (post m) := fun σ B1 H1 g ok Q q =>
  we_call F hr hg hgl (ha σ B1 H1 g ok _ fun vs B2 H2 g2 r => ⟨B2, m, g2.bh, r, hp, fun v d B3 H3 pd g3 dd => q v B3 H3 (g2.trans g3) ⟨d, pd, dd⟩⟩) hdb he hpl
theorem ES.ed {P : PyData → Prop} (h : ES X Γ B H e P) (hp : ∀ d', P d' → d' = d) : ED X Γ B H e d := h.imp fun v H1 B2 H2 ⟨d', h1, h2⟩ => by
  rw [hp _ h1] at h2
  exact h2
theorem ed_call {α : Type} {args : α → List PyData} {pre : α → Prop} {f : α → PyData} (F : Has X.prog X.w X.K X.mg X.base k x ps (PrF X.K args pre f)) (m : α) (hr : Room k X.A) (hg : X.A.guards = some []) (hp : pre m) (ha : EA X Γ B H (e :: es) (args m)) (hgl : Gl X x := by rfl)
    (hdb : (x == ("__debug__" : Str)) = false := by decide) (he : starEach (e :: es) X.env = (false, eval e X.env) :: starEach es X.env := by rfl) (hpl : (backTo pos (starEach es X.env)).any (·.1) = false := by rfl) : ED X Γ B H (.Call (.Name x p) (e :: es) [] pos) (f m) :=
  (es_call F m hr hg hp ha hgl hdb he hpl).ed fun _ h => h
/-! ### built-ins by name -/
def CallD (X : Cx) (B H : Hp) (r : List V → Hp → VK → Prop) (ds : List PyData) (R : V → Hp → Hp → Hp → Prop) : Prop :=
  ∀ (vs : List V) (B1 H1 : Hp), Grow B H B1 H1 → DpAll X.K B1 vs ds → ∀ Q : VK, (∀ v B2 H2, Grow B1 H1 B2 H2 → R v H1 B2 H2 → Q v H2) → r vs H1 Q
theorem ev_callB {id : String} {r : List V → Hp → VK → Prop} {R : V → Hp → Hp → Hp → Prop} (hR : ∀ v H1 H1' B2 H2, Same H1 H1' → R v H1' B2 H2 → R v H1 B2 H2) (hc : CallR X (.builtin id) r) (hgl : Gl X x) (hm : X.mg x = none) (hv : bootBuiltins x = some (.builtin id)) (hd : CallD X B H r ds R) (ha : EA X Γ B H (e :: es) ds)
    (hn : x ≠ "__name__" := by decide) (hdb : (x == ("__debug__" : Str)) = false := by decide) (he : starEach (e :: es) X.env = (false, eval e X.env) :: starEach es X.env := by rfl) (hpl : (backTo pos (starEach es X.env)).any (·.1) = false := by rfl) : EV X Γ B H (.Call (.Name x p) (e :: es) [] pos) R := fun σ B1 H1 g ok Q q =>
  we_of (pe_callB hc hgl hm hv (pa X _) hn hdb he hpl) (ha σ B1 H1 g ok _ fun vs B2 H2 g2 r2 => hd vs B2 H2 (g.trans g2) r2 Q fun v B3 H3 g3 r3 => q v B3 H3 (g2.trans g3) (hR _ _ _ _ _ g2.h r3))
theorem ev_callT {id : String} {r : List V → Hp → VK → Prop} {R : V → Hp → Hp → Hp → Prop} (hR : ∀ v H1 H1' B2 H2, Same H1 H1' → R v H1' B2 H2 → R v H1 B2 H2) (hc : CallR X (.type id) r) (hgl : Gl X x) (hm : X.mg x = none) (hv : bootBuiltins x = some (.type id)) (hd : CallD X B H r ds R) (ha : EA X Γ B H (e :: es) ds)
    (hn : x ≠ "__name__" := by decide) (hdb : (x == ("__debug__" : Str)) = false := by decide) (he : starEach (e :: es) X.env = (false, eval e X.env) :: starEach es X.env := by rfl) (hpl : (backTo pos (starEach es X.env)).any (·.1) = false := by rfl) : EV X Γ B H (.Call (.Name x p) (e :: es) [] pos) R := fun σ B1 H1 g ok Q q =>
  we_of (pe_callTy hc hgl hm hv (pa X _) hn hdb he hpl) (ha σ B1 H1 g ok _ fun vs B2 H2 g2 r2 => hd vs B2 H2 (g.trans g2) r2 Q fun v B3 H3 g3 r3 => q v B3 H3 (g2.trans g3) (hR _ _ _ _ _ g2.h r3))
theorem one_dp {K : PySem.W.Frag} {vs : List V} (h : DpAll K B vs [d]) : ∃ v, vs = [v] ∧ Dp K B v d := by
  cases h with
  | cons a t => cases t; exact ⟨_, rfl, a⟩
theorem two_dp {K : PySem.W.Frag} {vs : List V} (h : DpAll K B vs [da, db]) : ∃ v u, vs = [v, u] ∧ Dp K B v da ∧ Dp K B u db := by
  cases h with
  | cons a t =>
    obtain ⟨u, rfl, h2⟩ := one_dp t
    exact ⟨_, u, rfl, a, h2⟩
/-- a list or a tuple of ds -/
def Seq (d : PyData) (ds : List PyData) : Prop := d = .list ds ∨ d = .tuple ds
theorem seq_dp {K : PySem.W.Frag} {v : V} {B1 H1 : Hp} (s : Seq d ds) (bh : Same B1 H1) (h : Dp K B1 v d) : ∃ q xs, v = .ref q ∧ (SqL K H1 q xs ∨ SqT K H1 q xs) ∧ DpAll K B1 xs ds := by
  rcases s with rfl | rfl
  · cases h with
    | lst h1 h2 => exact ⟨_, _, rfl, .inl (bh.seq h1), h2⟩
  · cases h with
    | tup h1 h2 => exact ⟨_, _, rfl, .inr (Same.seqT bh h1), h2⟩
theorem ed_len (s : Seq d ds) (hm : X.mg "len" = none) (ha : ED X Γ B H a d) (hgl : Gl X "len" := by rfl) (he : starEach [a] X.env = (false, eval a X.env) :: starEach [] X.env := by rfl) : ED X Γ B H (.Call (.Name "len" p) [a] [] pos) (.int (ds.length : Int)) :=
  ev_callB isD_back call_len_seq hgl hm PySem.boot_len (fun vs B1 H1 g r Q q => by
    obtain ⟨v, rfl, rv⟩ := one_dp r
    obtain ⟨l, xs, rfl, h1, h2⟩ := seq_dp s g.bh rv
    refine ⟨l, xs, rfl, h1, q _ _ _ (Grow.refl g.bh) ?_⟩
    rw [dps_len h2]
    exact .int _) (ea_cons ha ea_nil he) (he := he)
theorem ed_abs (hm : X.mg "abs" = none) (ha : ED X Γ B H a (.int i)) (hgl : Gl X "abs" := by rfl) (he : starEach [a] X.env = (false, eval a X.env) :: starEach [] X.env := by rfl) : ED X Γ B H (.Call (.Name "abs" p) [a] [] pos) (.int (if i < 0 then -i else i)) :=
  ev_callB isD_back call_abs hgl hm (by decide +kernel) (fun vs B1 H1 g r Q q => by
    obtain ⟨v, rfl, rv⟩ := one_dp r
    exact ⟨i, by rw [dp_int rv], q _ _ _ (Grow.refl g.bh) (.int _)⟩) (ea_cons ha ea_nil he) (he := he)
theorem ed_min2 (hc : X.calm = true) (hm : X.mg "min" = none) (ha : ED X Γ B H a (.int i)) (hb : ED X Γ B H b (.int j)) (hgl : Gl X "min" := by rfl) (he : starEach [a, b] X.env = (false, eval a X.env) :: starEach [b] X.env := by rfl) (he' : starEach [b] X.env = (false, eval b X.env) :: starEach [] X.env := by rfl) (hpl : (backTo pos (starEach [b] X.env)).any (·.1) = false := by rfl) : ED X Γ B H (.Call (.Name "min" p) [a, b] [] pos) (.int (if j < i then j else i)) :=
  ev_callB isD_back (call_min2 hc) hgl hm (by decide +kernel) (fun vs B1 H1 g r Q q => by
    obtain ⟨v, u, rfl, rv, ru⟩ := two_dp r
    exact ⟨i, j, by rw [dp_int rv, dp_int ru], q _ _ _ (Grow.refl g.bh) (.int _)⟩) (ea_cons ha (ea_cons hb ea_nil he') he) (by decide) (by decide) he hpl
theorem ed_max2 (hc : X.calm = true) (hm : X.mg "max" = none) (ha : ED X Γ B H a (.int i)) (hb : ED X Γ B H b (.int j)) (hgl : Gl X "max" := by rfl) (he : starEach [a, b] X.env = (false, eval a X.env) :: starEach [b] X.env := by rfl) (he' : starEach [b] X.env = (false, eval b X.env) :: starEach [] X.env := by rfl) (hpl : (backTo pos (starEach [b] X.env)).any (·.1) = false := by rfl) : ED X Γ B H (.Call (.Name "max" p) [a, b] [] pos) (.int (if j > i then j else i)) :=
  ev_callB isD_back (call_max2 hc) hgl hm (by decide +kernel) (fun vs B1 H1 g r Q q => by
    obtain ⟨v, u, rfl, rv, ru⟩ := two_dp r
    exact ⟨i, j, by rw [dp_int rv, dp_int ru], q _ _ _ (Grow.refl g.bh) (.int _)⟩) (ea_cons ha (ea_cons hb ea_nil he') he) (by decide) (by decide) he hpl
theorem ed_intI (hm : X.mg "int" = none) (ha : ED X Γ B H a (.int i)) (hgl : Gl X "int" := by rfl) (he : starEach [a] X.env = (false, eval a X.env) :: starEach [] X.env := by rfl) : ED X Γ B H (.Call (.Name "int" p) [a] [] pos) (.int i) :=
  ev_callT isD_back call_int1 hgl hm (by decide +kernel) (fun vs B1 H1 g r Q q => by
    obtain ⟨v, rfl, rv⟩ := one_dp r
    exact .inl ⟨i, by rw [dp_int rv], q _ _ _ (Grow.refl g.bh) (.int _)⟩) (ea_cons ha ea_nil he) (he := he)
theorem ed_intB {t : Bool} (hm : X.mg "int" = none) (ha : ED X Γ B H a (.bool t)) (hgl : Gl X "int" := by rfl) (he : starEach [a] X.env = (false, eval a X.env) :: starEach [] X.env := by rfl) : ED X Γ B H (.Call (.Name "int" p) [a] [] pos) (.int (if t then 1 else 0)) :=
  ev_callT isD_back call_int1 hgl hm (by decide +kernel) (fun vs B1 H1 g r Q q => by
    obtain ⟨v, rfl, rv⟩ := one_dp r
    exact .inr ⟨t, by rw [dp_bl rv], q _ _ _ (Grow.refl g.bh) (.int _)⟩) (ea_cons ha ea_nil he) (he := he)
theorem el_list (s : Seq d ds) (hm : X.mg "list" = none) (ha : ED X Γ B H a d) (hgl : Gl X "list" := by rfl) (he : starEach [a] X.env = (false, eval a X.env) :: starEach [] X.env := by rfl) : EL X Γ B H (.Call (.Name "list" p) [a] [] pos) ds :=
  ev_callT isL_back call_list_of hgl hm (by decide +kernel) (fun vs B1 H1 g r Q q => by
    obtain ⟨v, rfl, rv⟩ := one_dp r
    obtain ⟨l, xs, rfl, h1, h2⟩ := seq_dp s g.bh rv
    exact ⟨l, xs, rfl, h1, fun t ht => q _ _ _ (Grow.newM g.bh ht) ⟨t, xs, rfl, ht, upd_same, g.bh.free ht, h2⟩⟩) (ea_cons ha ea_nil he) (he := he)
theorem ed_tuple (s : Seq d ds) (hm : X.mg "tuple" = none) (ha : ED X Γ B H a d) (hgl : Gl X "tuple" := by rfl) (he : starEach [a] X.env = (false, eval a X.env) :: starEach [] X.env := by rfl) : ED X Γ B H (.Call (.Name "tuple" p) [a] [] pos) (.tuple ds) :=
  ev_callT isD_back call_tuple_of hgl hm (by decide +kernel) (fun vs B1 H1 g r Q q => by
    obtain ⟨v, rfl, rv⟩ := one_dp r
    obtain ⟨l, xs, rfl, h1, h2⟩ := seq_dp s g.bh rv
    rcases h1 with h1 | h1
    · exact ⟨l, xs, rfl, .inl ⟨h1, fun t ht => q _ _ _ (Grow.new g.bh ht) (.tup (.inl (.inl upd_same)) (dps_mono (same_new (g.bh.free ht)) h2))⟩⟩
    · rcases s with rfl | rfl
      · cases rv with
        | lst h3 h4 => exact ⟨l, _, rfl, .inl ⟨g.bh.seq h3, fun t ht => q _ _ _ (Grow.new g.bh ht) (.tup (.inl (.inl upd_same)) (dps_mono (same_new (g.bh.free ht)) h4))⟩⟩
      · exact ⟨l, xs, rfl, .inr ⟨h1, q _ _ _ (Grow.refl g.bh) rv⟩⟩) (ea_cons ha ea_nil he) (he := he)
/-- sum of a list of ints -/
theorem ed_sumL {ns : List Int} (hc : X.calm = true) (hm : X.mg "sum" = none) (ha : ED X Γ B H a (.list (ns.map .int))) (hgl : Gl X "sum" := by rfl) (he : starEach [a] X.env = (false, eval a X.env) :: starEach [] X.env := by rfl) : ED X Γ B H (.Call (.Name "sum" p) [a] [] pos) (.int ns.sum) :=
  ev_callB isD_back (cr_sum hc) hgl hm (by decide +kernel) (fun vs B1 H1 g r Q q => by
    obtain ⟨v, rfl, rv⟩ := one_dp r
    cases rv with
    | lst h1 h2 =>
      rw [dps_ints h2] at h1
      exact ⟨_, ns, rfl, g.bh.seq h1, q _ _ _ (Grow.refl g.bh) (.int _)⟩) (ea_cons ha ea_nil he) (he := he)
theorem ed_all {ns : List Bool} (hc : X.calm = true) (hm : X.mg "all" = none) (ha : ED X Γ B H a (.list (ns.map .bool))) (hgl : Gl X "all" := by rfl) (he : starEach [a] X.env = (false, eval a X.env) :: starEach [] X.env := by rfl) : ED X Γ B H (.Call (.Name "all" p) [a] [] pos) (.bool (ns.all id)) :=
  ev_callB isD_back (cr_all hc) hgl hm (by decide +kernel) (fun vs B1 H1 g r Q q => by
    obtain ⟨v, rfl, rv⟩ := one_dp r
    cases rv with
    | lst h1 h2 =>
      rw [dps_bls h2] at h1
      exact ⟨_, ns, rfl, g.bh.seq h1, q _ _ _ (Grow.refl g.bh) (.bl _)⟩) (ea_cons ha ea_nil he) (he := he)
end
end Dc
/-! Own layer, part D: what is walked, comprehensions, statements. -/
namespace Dc
open PySem PySem.Spec PyProof.Rows L2

structure Walks (K : PySem.W.Frag) (J : It) (B : Hp) (ds : List PyData) : Prop where
  go : ∀ (i : Nat) (B1 H1 : Hp), Same B B1 → Same B1 H1 → i < ds.length → J.go i H1
  yld : ∀ (i : Nat) (B1 H1 : Hp) (x : V) (H' : Hp), Same B B1 → Same B1 H1 → i < ds.length → J.yld i H1 x H' → ∃ B2 d, Grow B1 H1 B2 H' ∧ ds[i]? = some d ∧ Dp K B2 x d
  stop : ∀ H1, Same B H1 → J.stop ds.length H1
def IterD (X : Cx) (Γ : List Sl) (B H : Hp) (tg iter : Expr) (ds : List PyData) : Prop :=
  ∀ (σ : L2.St) (B1 H1 : Hp), Grow B H B1 H1 → Good X.K Γ σ B1 H1 → ∀ R : It → Hp → Prop, (∀ J B2 H2, Grow B1 H1 B2 H2 → Walks X.K J B2 ds → R J H2) → WI X tg iter σ H1 R
/-- a target that takes d; js: the slots that it sets -/
def TgD (K : PySem.W.Frag) (g : TG) (js : List Nat) (d : PyData) (Γ Γ' : List Sl) : Prop :=
  ∀ (v : V) (σ : L2.St) (B H : Hp), Good K Γ σ B H → Dp K B v d → ∀ Q : L2.St → Hp → Prop, (∀ σ', Good K Γ' σ' B H → σ'.length = σ.length → (∀ i, i ∉ js → σ'[i]? = σ[i]?) → Q σ' H) → g v σ H Q
section
variable {X : Cx} {Γ : List Sl} {B H : Hp} {e a b c tg iter elt : Expr} {es : List Expr} {pos p : Pos} {d da db : PyData} {ds es' : List PyData} {i j : Int} {x : Str} {K : PySem.W.Frag}
theorem walks_list {q : Addr} {xs : List V} (h : SqL K B q xs) (hd : DpAll K B xs ds) : Walks K (Itl K q) B ds where
  go := fun i B1 H1 s1 s2 hi => by
    have hl := dps_len hd
    exact ⟨xs, xs[i]'(by omega), s2.seq (s1.seq h), by simp⟩
  yld := fun i B1 H1 y H' s1 s2 hi hy => by
    obtain ⟨rfl, q⟩ := hy
    obtain ⟨d, h1, h2⟩ := dps_getV hd (q xs (s2.seq (s1.seq h)))
    exact ⟨B1, d, Grow.refl s2, h1, dp_mono s1 h2⟩
  stop := fun H1 s => ⟨xs, s.seq h, by rw [dps_len hd]; exact Nat.le_refl _⟩
theorem walks_tup {q : Addr} {xs : List V} (h : SqT K B q xs) (hd : DpAll K B xs ds) : Walks K (Itt K q) B ds where
  go := fun i B1 H1 s1 s2 hi => by
    have hl := dps_len hd
    exact ⟨xs, xs[i]'(by omega), Same.seqT s2 (Same.seqT s1 h), by simp⟩
  yld := fun i B1 H1 y H' s1 s2 hi hy => by
    obtain ⟨rfl, q⟩ := hy
    obtain ⟨d, h1, h2⟩ := dps_getV hd (q xs (Same.seqT s2 (Same.seqT s1 h)))
    exact ⟨B1, d, Grow.refl s2, h1, dp_mono s1 h2⟩
  stop := fun H1 s => ⟨xs, Same.seqT s h, by rw [dps_len hd]; exact Nat.le_refl _⟩
theorem it_list (h : ED X Γ B H iter (.list ds)) : IterD X Γ B H tg iter ds := fun σ B1 H1 g ok R q =>
  wi_of (pi_list (pe X iter)) (h σ B1 H1 g ok _ fun v B2 H2 g2 r => by
    cases r with
    | lst h1 h2 => exact ⟨_, rfl, ⟨_, g2.bh.seq h1⟩, q _ _ _ g2 (walks_list h1 h2)⟩)
theorem it_tup (h : ED X Γ B H iter (.tuple ds)) : IterD X Γ B H tg iter ds := fun σ B1 H1 g ok R q =>
  wi_of (pi_tup (pe X iter)) (h σ B1 H1 g ok _ fun v B2 H2 g2 r => by
    cases r with
    | tup h1 h2 => exact ⟨_, rfl, ⟨_, Same.seqT g2.bh h1⟩, q _ _ _ g2 (walks_tup h1 h2)⟩)
/-- the ints lo, lo + 1, .. -/
def rng (lo : Int) (n : Nat) : List PyData := (List.range n).map fun k => .int (lo + (k : Nat))
theorem rng_len (lo : Int) (n : Nat) : (rng lo n).length = n := by simp [rng]
theorem rng_get {lo : Int} {n k : Nat} (h : k < n) : (rng lo n)[k]? = some (.int (lo + (k : Nat))) := by simp [rng, h]
theorem walks_rng (lo : Int) (n : Nat) : Walks K (Itr lo n) B (rng lo n) where
  go := fun i _ _ _ _ hi => by rw [rng_len] at hi; exact hi
  yld := fun i B1 H1 y H' s1 s2 hi hy => by
    obtain ⟨rfl, rfl⟩ := hy
    rw [rng_len] at hi
    exact ⟨B1, _, Grow.refl s2, rng_get hi, .int _⟩
  stop := fun _ _ => by rw [rng_len]; exact Nat.le_refl _
theorem it_rng1 {n : Nat} (hi : i = (n : Int)) (hn : n ≤ 1000000) (hm : X.mg "range" = none) (ha : ED X Γ B H a (.int i)) (hgl : Gl X "range" := by rfl) (hs : starEach [a] X.env = [(false, eval a X.env)] := by rfl) : IterD X Γ B H tg (.Call (.Name "range" p) [a] [] pos) (rng 0 n) := fun σ B1 H1 g ok R q =>
  wi_of (pi_range1 hgl hm (pa X [a]) hs) (ea_cons ha ea_nil hs σ B1 H1 g ok _ fun vs B2 H2 g2 r => by
    obtain ⟨v, rfl, rv⟩ := one_dp r
    refine ⟨i, by rw [dp_int rv], by omega, by omega, ?_⟩
    rw [hi, Int.toNat_natCast]
    exact q _ _ _ g2 (walks_rng 0 n))
theorem it_rng2 {n : Nat} (hi : j = i + (n : Int)) (h0 : -1000000 ≤ i) (h1 : i ≤ 1000000) (hn : n ≤ 1000000) (hm : X.mg "range" = none) (ha : ED X Γ B H a (.int i)) (hb : ED X Γ B H b (.int j)) (hgl : Gl X "range" := by rfl) (hs : starEach [a, b] X.env = [(false, eval a X.env), (false, eval b X.env)] := by rfl) (hs2 : starEach [b] X.env = [(false, eval b X.env)] := by rfl) : IterD X Γ B H tg (.Call (.Name "range" p) [a, b] [] pos) (rng i n) := fun σ B1 H1 g ok R q =>
  wi_of (pi_range2 hgl hm (pa X [a, b]) hs hs2) (ea_cons ha (ea_cons hb ea_nil hs2) (by rw [hs, hs2]) σ B1 H1 g ok _ fun vs B2 H2 g2 r => by
    obtain ⟨v, u, rfl, rv, ru⟩ := two_dp r
    refine ⟨i, j, by rw [dp_int rv, dp_int ru], ⟨by omega, by omega, by omega, by omega⟩, ?_⟩
    have e : (j - i).toNat = n := by omega
    rw [e]
    exact q _ _ _ g2 (walks_rng i n))
/-- pairs of a count and an item -/
def numb (ds : List PyData) : List PyData := (List.range ds.length).map fun k => .tuple [.int (k : Nat), ds.getD k .none]
theorem numb_len : (numb ds).length = ds.length := by simp [numb]
theorem numb_get {k : Nat} (h : ds[k]? = some d) : (numb ds)[k]? = some (.tuple [.int (k : Nat), d]) := by
  have hk : k < ds.length := (List.getElem?_eq_some_iff.mp h).1
  simp [numb, hk, List.getD_eq_getElem?_getD, h]
  exact (List.getElem?_eq_some_iff.mp h).2
theorem numb_get' {k : Nat} (h : k < ds.length) : (numb ds)[k]? = some (.tuple [.int (k : Nat), ds[k]]) := numb_get (by simp [h])
theorem walks_enum {q : Addr} {xs : List V} (h : SqL K B q xs) (hd : DpAll K B xs ds) : Walks K (Ite K q) B (numb ds) where
  go := fun i B1 H1 s1 s2 hi => by
    rw [numb_len] at hi
    have hl := dps_len hd
    exact ⟨xs, xs[i]'(by omega), s2.seq (s1.seq h), by simp⟩
  yld := fun i B1 H1 y H' s1 s2 hi hy => by
    obtain ⟨T, y', rfl, hT, rfl, qq⟩ := hy
    obtain ⟨d, h1, h2⟩ := dps_getV hd (qq xs (s2.seq (s1.seq h)))
    exact ⟨_, _, Grow.new s2 hT, numb_get h1, .tup (.inl (.inl upd_same)) (.cons (.int _) (.cons (dp_mono (s1.trans (same_new (s2.free hT))) h2) .nil))⟩
  stop := fun H1 s => ⟨xs, s.seq h, by rw [numb_len, dps_len hd]; exact Nat.le_refl _⟩
theorem it_enum {elts : List Expr} {kk : Nat} {tpos : Pos} (hm : X.mg "enumerate" = none) (ha : ED X Γ B H a (.list ds)) (hgl : Gl X "enumerate" := by rfl) (hs : starEach [a] X.env = [(false, eval a X.env)] := by rfl) : IterD X Γ B H (.Tuple elts kk tpos) (.Call (.Name "enumerate" p) [a] [] pos) (numb ds) := fun σ B1 H1 g ok R q =>
  wi_of (pi_enum hgl hm (pa X [a]) hs) (ea_cons ha ea_nil hs σ B1 H1 g ok _ fun vs B2 H2 g2 r => by
    obtain ⟨v, rfl, rv⟩ := one_dp r
    cases rv with
    | lst h1 h2 => exact ⟨_, _, rfl, g2.bh.seq h1, q _ _ _ g2 (walks_enum h1 h2)⟩)
/-! ### targets -/
theorem tg_one (j : Nat) : TgD K (gName j) [j] d Γ (Γ.set j (.dat d)) := fun v σ B H ok hd Q q =>
  q _ (ok.set j (s := .dat d) ⟨v, rfl, hd⟩) (by simp) fun i hi => by
    rw [List.getElem?_set_ne]
    intro z
    exact hi (by simp [z])
theorem tg_two (j k : Nat) : TgD K (gTup K 2 (gCons (gName j) (gCons (gName k) gNil))) [j, k] (.tuple [da, db]) Γ ((Γ.set j (.dat da)).set k (.dat db)) := fun v σ B H ok hd Q q => by
  cases hd with
  | tup h1 h2 =>
    obtain ⟨v, u, rfl, rv, ru⟩ := two_dp h2
    refine ⟨_, _, rfl, Same.seqT ok.same h1, rfl, _, _, rfl, _, _, rfl, rfl, q _ ((ok.set j (s := .dat da) ⟨v, rfl, rv⟩).set k (s := .dat db) ⟨u, rfl, ru⟩) (by simp) fun i hi => ?_⟩
    rw [List.getElem?_set_ne, List.getElem?_set_ne]
    · intro z
      exact hi (by simp [z])
    · intro z
      exact hi (by simp [z])
/-! ### comprehensions -/
def wipeG (Γ : List Sl) : List Nat → List Sl
  | [] => Γ
  | v :: vs => (wipeG Γ vs).set v .unk
theorem wipe_get {σ : L2.St} {i : Nat} : ∀ {vs : List Nat}, i ∉ vs → (wipe σ vs)[i]? = σ[i]?
  | [], _ => rfl
  | v :: vs, h => by
    have h1 : v ≠ i := fun z => h (by simp [z])
    have h2 : i ∉ vs := fun z => h (by simp [z])
    show ((wipe σ vs).set v none)[i]? = _
    rw [List.getElem?_set_ne h1, wipe_get h2]
theorem wipe_in {σ : L2.St} {i : Nat} (hi : i < σ.length) : ∀ {vs : List Nat}, i ∈ vs → (wipe σ vs)[i]? = some none
  | [], h => by simp at h
  | v :: vs, h => by
    show ((wipe σ vs).set v none)[i]? = _
    by_cases q : v = i
    · subst q
      rw [List.getElem?_set_self (by rw [wipe_length]; exact hi)]
    · rw [List.getElem?_set_ne q]
      exact wipe_in hi (by simpa [Ne.symm q] using h)
theorem wipe_eq {σ σ' : L2.St} {vs : List Nat} (hl : σ'.length = σ.length) (h : ∀ i, i ∉ vs → σ'[i]? = (wipe σ vs)[i]?) : wipe σ' vs = wipe σ vs := by
  refine List.ext_getElem? fun i => ?_
  by_cases q : i ∈ vs
  · by_cases hi : i < σ.length
    · rw [wipe_in hi q, wipe_in (by omega) q]
    · rw [List.getElem?_eq_none (by rw [wipe_length]; omega), List.getElem?_eq_none (by rw [wipe_length]; omega)]
  · rw [wipe_get q, h i q]
theorem Good.wipe {σ : L2.St} (ok : Good K Γ σ B H) : ∀ vs : List Nat, Good K (wipeG Γ vs) (L2.wipe σ vs) B H
  | [] => ok
  | v :: vs => by
    have ih := ok.wipe vs
    refine ⟨ih.same, ?_, fun i s hs => ?_⟩
    · show ((L2.wipe σ vs).set v none).length = ((wipeG Γ vs).set v .unk).length
      rw [List.length_set, List.length_set, ih.len]
    · have hs' : ((wipeG Γ vs).set v .unk)[i]? = some s := hs
      show SlOk K B ((L2.wipe σ vs).set v none)[i]? s
      by_cases q : v = i
      · subst q
        have hl : v < ((wipeG Γ vs).set v .unk).length := (List.getElem?_eq_some_iff.mp hs').1
        rw [List.length_set] at hl
        rw [List.getElem?_set_self hl] at hs'
        cases hs'
        trivial
      · rw [List.getElem?_set_ne q] at hs' ⊢
        exact ih.ok i s hs'
abbrev blkX (X : Cx) (s : Shared) (H0 : Hp) (scope : Scope) (C : Addr) (cl : List (Str × Addr)) (fp : List Addr) : Cx := X.blk s H0 scope (compEnvC scope cl C X.env) fp
theorem sz_of {n : Nat} (h : n ≤ 1000000) : n ≤ sizeLine := Nat.le_trans h (by decide)
/-- the loop of a comprehension over what is walked -/
theorem lc_run {J : It} {g : TG} {js vs : List Nat} {tt : TT} {te : TE} {f : PyData → Bool} {v : PyData → PyData} {Γd : PyData → List Sl} {σ : L2.St} {B1 H1 : Hp} {Q : VK} (ok : Good K Γ σ B1 H1) (hw : Walks K J B1 ds) (hn : ds.length ≤ 1000000) (hj : ∀ i ∈ js, i ∈ vs)
    (hg : ∀ d ∈ ds, TgD K g js d (wipeG Γ vs) (Γd d))
    (ht : ∀ d ∈ ds, ∀ (σ' : L2.St) (B' H' : Hp), Grow B1 H1 B' H' → Good K (Γd d) σ' B' H' → ∀ Q' : Bool → Hp → Prop, (∀ B2 H2, Grow B' H' B2 H2 → Q' (f d) H2) → tt σ' H' Q')
    (he : ∀ d ∈ ds, f d = true → ∀ (σ' : L2.St) (B' H' : Hp), Grow B1 H1 B' H' → Good K (Γd d) σ' B' H' → ∀ Q' : VK, (∀ y B2 H2, Grow B' H' B2 H2 → Dp K B2 y (v d) → Q' y H2) → te σ' H' Q')
    (q : ∀ l xs B2 H2, Grow B1 H1 B2 H2 → H1 l = none → H2 l = some (.lst xs) → B2 l = none → DpAll K B2 xs ((ds.filter f).map v) → Q (.ref l) H2) :
    ∀ D, H1 D = none → ∃ W : Nat → Nat → Hp → Prop, (∃ m, W 0 m (upd H1 D (.lst []))) ∧ ∀ i m H, W i m H →
      (J.stop i H ∧ Q (.ref D) H) ∨ (J.go i H ∧ ∃ Nx : Hp → Prop, (∀ H', Nx H' → ∃ m', m' < m ∧ W (i + 1) m' H') ∧ ∀ x H', J.yld i H x H' → g x (L2.wipe σ vs) H' fun σ2 H2 => L2.wipe σ2 vs = L2.wipe σ vs ∧ tt σ2 H2 fun b H3 =>
        if b = true then te σ2 H3 fun y H4 => ∃ acc, H4 D = some (.lst acc) ∧ acc.length < sizeLine ∧ Nx (upd H4 D (.lst (acc ++ [y]))) else Nx H3) := by
  intro D hD
  -- behind i items: the base has grown, D holds what was kept of them
  let Pv : Nat → Hp → Prop := fun i H' => ∃ B' xs, Grow B1 H1 B' H' ∧ H' D = some (.lst xs) ∧ B' D = none ∧ DpAll K B' xs (((ds.take i).filter f).map v)
  refine ⟨fun i m H' => m = ds.length - i ∧ i ≤ ds.length ∧ Pv i H', ⟨ds.length, by simp, Nat.zero_le _, B1, [], Grow.newM ok.same hD, upd_same, ok.same.free hD, .nil⟩, ?_⟩
  rintro i m H' ⟨rfl, hi, B', xs, g1, hDl, hDb, hxs⟩
  have sb : Same B1 B' := g1.b
  by_cases hlt : i < ds.length
  · refine .inr ⟨hw.go i B' H' sb g1.bh hlt, Pv (i + 1), fun H2 p => ⟨_, by omega, rfl, hlt, p⟩, fun x H2 hy => ?_⟩
    obtain ⟨B2, d, g2, hd, dx⟩ := hw.yld i B' H' x H2 sb g1.bh hlt hy
    have hm : d ∈ ds := List.mem_of_getElem? hd
    have g12 := g1.trans g2
    refine hg d hm x _ B2 H2 ((ok.wipe vs).grow g12) dx _ fun σ2 ok2 ln oth => ⟨wipe_eq (by rw [ln, wipe_length]) fun k hk => oth k fun z => hk (hj k z), ?_⟩
    have et : (ds.take (i + 1)) = ds.take i ++ [d] := by
      rw [List.take_succ, hd]
      rfl
    have ef : ((ds.take (i + 1)).filter f).map v = ((ds.take i).filter f).map v ++ (if f d = true then [v d] else []) := by
      rw [et, List.filter_append, List.map_append]
      by_cases q : f d = true
      · rw [if_pos q, List.filter_cons_of_pos q]
        rfl
      · rw [if_neg q, List.filter_cons_of_neg q]
        rfl
    have hD2 : H2 D = some (.lst xs) := g2.h _ _ hDl
    have hB2 : B2 D = none := g2.out _ _ hDl hDb
    refine ht d hm σ2 B2 H2 g12 ok2 _ fun B3 H3 g3 => ?_
    have hD3 := g3.h _ _ hD2
    have hB3 := g3.out _ _ hD2 hB2
    cases hf : f d with
    | false =>
      refine iteF ⟨B3, xs, g12.trans g3, hD3, hB3, ?_⟩
      rw [ef, hf, if_neg (by decide), List.append_nil]
      exact dps_mono (g2.b.trans g3.b) hxs
    | true =>
      refine iteT (he d hm hf σ2 B3 H3 (g12.trans g3) (ok2.grow g3) _ fun y B4 H4 g4 dy => ?_)
      have hD4 := g4.h _ _ hD3
      have hB4 := g4.out _ _ hD3 hB3
      have gg := (g12.trans g3).trans g4
      have ln2 : xs.length ≤ ds.length := by
        rw [dps_len hxs, List.length_map]
        exact Nat.le_trans (List.length_filter_le _ _) (by rw [List.length_take]; omega)
      refine ⟨xs, hD4, Nat.lt_of_le_of_lt (Nat.le_trans ln2 hn) (by decide), B4, xs ++ [y], ⟨gg.b, ?_, ?_, gg.out⟩, upd_same, hB4, ?_⟩
      · exact same_mut gg.h hD
      · exact same_mut gg.bh hB4
      · rw [ef, hf, if_pos rfl]
        exact dps_app (dps_mono ((g2.b.trans g3.b).trans g4.b) hxs) (.cons dy .nil)
  · have e : i = ds.length := by omega
    subst e
    refine .inl ⟨hw.stop H' (sb.trans g1.bh), q D xs B' H' g1 hD hDl hDb ?_⟩
    rw [List.take_length] at hxs
    exact hxs
end
end Dc
/-! Own layer, part E: comprehensions as values, statements. -/
namespace Dc
open PySem PySem.Spec PyProof.Rows L2
section
variable {X : Cx} {Γ : List Sl} {B H : Hp} {e a b c tg iter elt : Expr} {es : List Expr} {pos p : Pos} {d da db : PyData} {ds es' : List PyData} {i j : Int} {x : Str} {K : PySem.W.Frag}
abbrev teAll (X : Cx) (scope : Scope) (elt : Expr) : TE := fun σ H Q => ∀ s H0 C cl fp, WE (blkX X s H0 scope C cl fp) elt σ H Q
abbrev ttAll (X : Cx) (scope : Scope) (c : Expr) : TT := fun σ H Q => ∀ s H0 C cl fp, WT (blkX X s H0 scope C cl fp) c σ H Q
theorem peAll (X : Cx) (scope : Scope) (elt : Expr) : ∀ (s : Shared) (H : Hp) (C : Addr) (cl : List (Str × Addr)) (fp : List Addr), PE (X.blk s H scope (compEnvC scope cl C X.env) fp) elt (teAll X scope elt) :=
  fun s H0 C cl fp => ⟨fun pins s1 _ _ _ I h => h s H0 C cl fp pins s1 I⟩
theorem ptAll (X : Cx) (scope : Scope) (c : Expr) : ∀ (s : Shared) (H : Hp) (C : Addr) (cl : List (Str × Addr)) (fp : List Addr), PTs (X.blk s H scope (compEnvC scope cl C X.env) fp) [c] (ttAll X scope c) :=
  fun s H0 C cl fp => pts_one ⟨fun pins s1 _ _ _ I h => h s H0 C cl fp pins s1 I⟩
theorem lc0_te {scope : Scope} {g : TG} {js vs : List Nat} {v : PyData → PyData} {Γd : PyData → List Sl} (hi : IterD X Γ B H tg iter ds) (hn : ds.length ≤ 1000000) (hj : ∀ i ∈ js, i ∈ vs)
    (hg : ∀ d ∈ ds, TgD X.K g js d (wipeG Γ vs) (Γd d))
    (he : ∀ d ∈ ds, ∀ s H0 C cl fp B' H', Grow B H B' H' → ED (blkX X s H0 scope C cl fp) (Γd d) B' H' elt (v d)) {σ : L2.St} {B1 H1 : Hp} (g1 : Grow B H B1 H1) (ok : Good X.K Γ σ B1 H1) {Q : VK}
    (q : ∀ v' B2 H2, Grow B1 H1 B2 H2 → isL X.K (ds.map v) v' H1 B2 H2 → Q v' H2) : tLc (WI X tg iter) g tYes (teAll X scope elt) vs σ H1 Q :=
  hi σ B1 H1 g1 ok _ fun J B2 H2 g2 hw => lc_run (f := fun _ => true) (v := v) (ok.grow g2) hw hn hj hg (fun d hd σ' B' H' gg okk Q' q' => q' B' H' (Grow.refl gg.bh))
    (fun d hd _ σ' B' H' gg okk Q' q' s H0 C cl fp => he d hd s H0 C cl fp B' H' ((g1.trans g2).trans gg) σ' B' H' (Grow.refl gg.bh) okk Q' fun y B3 H3 g3 r3 => q' y B3 H3 g3 r3)
    (fun l xs B3 H3 g3 h0 h3 hb hd => q _ B3 H3 (g2.trans g3) ⟨l, xs, rfl, g2.h.free h0, h3, hb, by
      have e1 : ds.filter (fun _ => true) = ds := by simp
      rw [e1] at hd
      exact hd⟩)
theorem lc1_te {scope : Scope} {g : TG} {js vs : List Nat} {f : PyData → Bool} {v : PyData → PyData} {Γd : PyData → List Sl} (hi : IterD X Γ B H tg iter ds) (hn : ds.length ≤ 1000000) (hj : ∀ i ∈ js, i ∈ vs)
    (hg : ∀ d ∈ ds, TgD X.K g js d (wipeG Γ vs) (Γd d))
    (ht : ∀ d ∈ ds, ∀ s H0 C cl fp B' H', Grow B H B' H' → ET (blkX X s H0 scope C cl fp) (Γd d) B' H' c (f d))
    (he : ∀ d ∈ ds, f d = true → ∀ s H0 C cl fp B' H', Grow B H B' H' → ED (blkX X s H0 scope C cl fp) (Γd d) B' H' elt (v d)) {σ : L2.St} {B1 H1 : Hp} (g1 : Grow B H B1 H1) (ok : Good X.K Γ σ B1 H1) {Q : VK}
    (q : ∀ v' B2 H2, Grow B1 H1 B2 H2 → isL X.K ((ds.filter f).map v) v' H1 B2 H2 → Q v' H2) : tLc (WI X tg iter) g (ttAll X scope c) (teAll X scope elt) vs σ H1 Q :=
  hi σ B1 H1 g1 ok _ fun J B2 H2 g2 hw => lc_run (f := f) (v := v) (ok.grow g2) hw hn hj hg
    (fun d hd σ' B' H' gg okk Q' q' s H0 C cl fp => ht d hd s H0 C cl fp B' H' ((g1.trans g2).trans gg) σ' B' H' (Grow.refl gg.bh) okk Q' fun B3 H3 g3 => q' B3 H3 g3)
    (fun d hd hf σ' B' H' gg okk Q' q' s H0 C cl fp => he d hd hf s H0 C cl fp B' H' ((g1.trans g2).trans gg) σ' B' H' (Grow.refl gg.bh) okk Q' fun y B3 H3 g3 r3 => q' y B3 H3 g3 r3)
    (fun l xs B3 H3 g3 h0 h3 hb hd => q _ B3 H3 (g2.trans g3) ⟨l, xs, rfl, g2.h.free h0, h3, hb, hd⟩)
/-- [elt for tg in iter] -/
theorem el_lc0 {scope : Scope} {own : List (Str × Nat)} {g : TG} {js : List Nat} {v : PyData → PyData} {Γd : PyData → List Sl} (hc : X.calm = true) (hN : X.N.Nodup) (okb : BlkOk X.N X.env.scope scope own)
    (hgp : ∀ (s : Shared) (H : Hp) (C : Addr) (cl : List (Str × Addr)) (fp : List Addr), PG (X.blk s H scope (compEnvC scope cl C X.env) fp) tg g)
    (hi : IterD X Γ B H tg iter ds) (hn : ds.length ≤ 1000000) (hj : ∀ i ∈ js, i ∈ own.map (·.2))
    (hg : ∀ d ∈ ds, TgD X.K g js d (wipeG Γ (own.map (·.2))) (Γd d))
    (he : ∀ d ∈ ds, ∀ s H0 C cl fp B' H', Grow B H B' H' → ED (blkX X s H0 scope C cl fp) (Γd d) B' H' elt (v d))
    (hs : ∀ x, foldedSetIterable iter X.env x = pure x := by intro _; rfl) : EL X Γ B H (.ListComp elt [⟨tg, iter, [], 0⟩] scope pos) (ds.map v) := fun σ B1 H1 g1 ok Q q =>
  we_of (pe_lc hc hN (pii X tg iter) okb hgp (fun _ _ _ _ _ => pts_nil) (peAll X scope elt) hs) (lc0_te hi hn hj hg he g1 ok q)
/-- [elt for tg in iter if c] -/
theorem el_lc1 {scope : Scope} {own : List (Str × Nat)} {g : TG} {js : List Nat} {f : PyData → Bool} {v : PyData → PyData} {Γd : PyData → List Sl} (hc : X.calm = true) (hN : X.N.Nodup) (okb : BlkOk X.N X.env.scope scope own)
    (hgp : ∀ (s : Shared) (H : Hp) (C : Addr) (cl : List (Str × Addr)) (fp : List Addr), PG (X.blk s H scope (compEnvC scope cl C X.env) fp) tg g)
    (hi : IterD X Γ B H tg iter ds) (hn : ds.length ≤ 1000000) (hj : ∀ i ∈ js, i ∈ own.map (·.2))
    (hg : ∀ d ∈ ds, TgD X.K g js d (wipeG Γ (own.map (·.2))) (Γd d))
    (ht : ∀ d ∈ ds, ∀ s H0 C cl fp B' H', Grow B H B' H' → ET (blkX X s H0 scope C cl fp) (Γd d) B' H' c (f d))
    (he : ∀ d ∈ ds, f d = true → ∀ s H0 C cl fp B' H', Grow B H B' H' → ED (blkX X s H0 scope C cl fp) (Γd d) B' H' elt (v d))
    (hs : ∀ x, foldedSetIterable iter X.env x = pure x := by intro _; rfl) : EL X Γ B H (.ListComp elt [⟨tg, iter, [c], 0⟩] scope pos) ((ds.filter f).map v) := fun σ B1 H1 g1 ok Q q =>
  we_of (pe_lc hc hN (pii X tg iter) okb hgp (ptAll X scope c) (peAll X scope elt) hs) (lc1_te hi hn hj hg ht he g1 ok q)

/-! ### statements -/
def BD (X : Cx) (Γ : List Sl) (B H : Hp) (sts : List Stmt) (D : Ends) : Prop := ∀ σ, Good X.K Γ σ B H → WB X sts D σ H
abbrev nxt (X : Cx) (rest : List Stmt) (D : Ends) : Ends := { D with nx := fun σ H => WB X rest D σ H }
variable {rest : List Stmt} {D : Ends}
theorem bd_weak {Γ' : List Sl} {sts : List Stmt} (w : Weak Γ Γ') (h : BD X Γ' B H sts D) : BD X Γ B H sts D := fun σ ok => h σ (ok.weak w)
theorem wb_cons {st : Stmt} {σ : L2.St} {t : TS} (h : PS X st t) (q : t (nxt X rest D) σ H) : WB X (st :: rest) D σ H := wb_of (pss_cons h (pb X rest)) q
theorem bd_nil (h : ∀ σ, Good X.K Γ σ B H → D.nx σ H) : BD X Γ B H [] D := fun σ ok => wb_of pss_nil (h σ ok)
/-- a branch falls through to what follows -/
theorem bd_fall (h : BD X Γ B H rest D) : BD X Γ B H [] (nxt X rest D) := fun σ ok => wb_of pss_nil (h σ ok)
theorem bd_pass (h : BD X Γ B H rest D) : BD X Γ B H (.Pass pos :: rest) D := fun σ ok => wb_cons ps_pass (h σ ok)
theorem bd_ret {R : V → Hp → Hp → Hp → Prop} (he : EV X Γ B H e R) (k : ∀ v B2 H2, Grow B H B2 H2 → R v H B2 H2 → D.rt v H2) : BD X Γ B H (.Return (some e) pos :: rest) D := fun σ ok =>
  wb_of (pss_cons (ps_ret (pe X e)) (pb X rest)) (he σ B H (Grow.refl ok.same) ok _ fun v B2 H2 g r => k v B2 H2 g r)
theorem bd_retN (k : D.rt .non H) : BD X Γ B H (.Return none pos :: rest) D := fun σ ok => wb_of (pss_cons ps_retN (pb X rest)) k
/-- an expression whose value is dropped -/
theorem bd_expr {R : V → Hp → Hp → Hp → Prop} (he : EV X Γ B H e R) (k : ∀ v B2 H2, Grow B H B2 H2 → R v H B2 H2 → BD X Γ B2 H2 rest D) (hs : swapsWith e none pos.line X.env = pure false := by rfl) : BD X Γ B H (.Expr e pos :: rest) D := fun σ ok =>
  wb_cons (ps_expr (pe X e) hs) (he σ B H (Grow.refl ok.same) ok _ fun v B2 H2 g r => k v B2 H2 g r σ (ok.grow g))
theorem bd_setV {R : V → Hp → Hp → Hp → Prop} (i : Nat) {y : Str} {pos' : Pos} (he : EV X Γ B H e R) (k : ∀ v B2 H2, Grow B H B2 H2 → R v H B2 H2 → ∀ σ, Good X.K Γ σ B2 H2 → WB X rest D (σ.set i (some v)) H2)
    (hN : X.N.Nodup) (hi : X.N[i]? = some y := by rfl) (hx : Loc X.env.scope y := by first | exact Or.inl rfl | exact Or.inr rfl) (hs : swapsWith e (some (.Name y pos')) pos.line X.env = pure false := by rfl)
    (hf : X.fn y = true ∨ X.env.scope.names.lookup y = some .local := by first | exact .inl rfl | exact .inr rfl) : BD X Γ B H (.Assign [.Name y pos'] e pos :: rest) D := fun σ ok =>
  wb_cons (ps_set hN hi hx (pe X e) hs hf) (he σ B H (Grow.refl ok.same) ok _ fun v B2 H2 g r => k v B2 H2 g r σ (ok.grow g))
theorem bd_set (i : Nat) {y : Str} {pos' : Pos} (hN : X.N.Nodup) (he : ED X Γ B H e d) (k : ∀ B2 H2, Grow B H B2 H2 → BD X (Γ.set i (.dat d)) B2 H2 rest D)
    (hi : X.N[i]? = some y := by rfl) (hx : Loc X.env.scope y := by first | exact Or.inl rfl | exact Or.inr rfl) (hs : swapsWith e (some (.Name y pos')) pos.line X.env = pure false := by rfl)
    (hf : X.fn y = true ∨ X.env.scope.names.lookup y = some .local := by first | exact .inl rfl | exact .inr rfl) : BD X Γ B H (.Assign [.Name y pos'] e pos :: rest) D :=
  bd_setV i he (fun v B2 H2 g r σ ok => k B2 H2 g _ (ok.set i (s := .dat d) ⟨v, rfl, r⟩)) hN hi hx hs hf
theorem bd_setS {P : PyData → Prop} (i : Nat) {y : Str} {pos' : Pos} (hN : X.N.Nodup) (he : ES X Γ B H e P) (k : ∀ d B2 H2, P d → Grow B H B2 H2 → BD X (Γ.set i (.dat d)) B2 H2 rest D)
    (hi : X.N[i]? = some y := by rfl) (hx : Loc X.env.scope y := by first | exact Or.inl rfl | exact Or.inr rfl) (hs : swapsWith e (some (.Name y pos')) pos.line X.env = pure false := by rfl)
    (hf : X.fn y = true ∨ X.env.scope.names.lookup y = some .local := by first | exact .inl rfl | exact .inr rfl) : BD X Γ B H (.Assign [.Name y pos'] e pos :: rest) D :=
  bd_setV i he (fun v B2 H2 g ⟨d, hp, r⟩ σ ok => k d B2 H2 hp g _ (ok.set i (s := .dat d) ⟨v, rfl, r⟩)) hN hi hx hs hf
/-- what follows a new list at a name: it is fixed -/
theorem fixL {σ : L2.St} {B2 H2 : Hp} {v : V} (i : Nat) (g : Grow B H B2 H2) (r : isL X.K ds v H B2 H2) (ok : Good X.K Γ σ B2 H2) (k : ∀ B2 H2, Grow B H B2 H2 → BD X (Γ.set i (.lst ds)) B2 H2 rest D) : WB X rest D (σ.set i (some v)) H2 := by
  obtain ⟨l, xs, rfl, h0, h2, hb, hd⟩ := r
  have gf := g.fix h0 h2 hb
  exact k _ _ gf _ ((ok.to (same_new hb) gf.bh).set i (s := .lst ds) ⟨l, xs, rfl, upd_same, dps_mono (same_new hb) hd⟩)
theorem bd_setL (i : Nat) {y : Str} {pos' : Pos} (hN : X.N.Nodup) (he : EL X Γ B H e ds) (k : ∀ B2 H2, Grow B H B2 H2 → BD X (Γ.set i (.lst ds)) B2 H2 rest D)
    (hi : X.N[i]? = some y := by rfl) (hx : Loc X.env.scope y := by first | exact Or.inl rfl | exact Or.inr rfl) (hs : swapsWith e (some (.Name y pos')) pos.line X.env = pure false := by rfl)
    (hf : X.fn y = true ∨ X.env.scope.names.lookup y = some .local := by first | exact .inl rfl | exact .inr rfl) : BD X Γ B H (.Assign [.Name y pos'] e pos :: rest) D :=
  bd_setV i he (fun v B2 H2 g r σ ok => fixL i g r ok k) hN hi hx hs hf
/-- a list that may change stands at l -/
structure Mt (K : PySem.W.Frag) (B H : Hp) (l : Addr) (ds : List PyData) : Prop where
  is : ∃ xs, H l = some (.lst xs) ∧ DpAll K B xs ds
  out : B l = none
theorem Mt.grow {K : PySem.W.Frag} {l : Addr} {B2 H2 : Hp} (m : Mt K B H l ds) (g : Grow B H B2 H2) : Mt K B2 H2 l ds := by
  obtain ⟨⟨xs, h1, h2⟩, h3⟩ := m
  exact ⟨⟨xs, g.h _ _ h1, dps_mono g.b h2⟩, g.out _ _ h1 h3⟩
theorem Mt.far {K : PySem.W.Frag} {l q : Addr} {o : HO} (m : Mt K B H l ds) (h : l ≠ q) : Mt K B (upd H q o) l ds := by
  obtain ⟨⟨xs, h1, h2⟩, h3⟩ := m
  exact ⟨⟨xs, by rw [upd_ne h]; exact h1, h2⟩, h3⟩
theorem Mt.ne {K : PySem.W.Frag} {l q : Addr} (m : Mt K B H l ds) (h : H q = none) : l ≠ q := by
  obtain ⟨⟨xs, h1, h2⟩, h3⟩ := m
  exact ne_of_none h1 h
theorem bd_setM (i : Nat) {y : Str} {pos' : Pos} (hN : X.N.Nodup) (he : EL X Γ B H e ds) (k : ∀ l B2 H2, Grow B H B2 H2 → H l = none → Mt X.K B2 H2 l ds → BD X (Γ.set i (.raw (.ref l))) B2 H2 rest D)
    (hi : X.N[i]? = some y := by rfl) (hx : Loc X.env.scope y := by first | exact Or.inl rfl | exact Or.inr rfl) (hs : swapsWith e (some (.Name y pos')) pos.line X.env = pure false := by rfl)
    (hf : X.fn y = true ∨ X.env.scope.names.lookup y = some .local := by first | exact .inl rfl | exact .inr rfl) : BD X Γ B H (.Assign [.Name y pos'] e pos :: rest) D :=
  bd_setV i he (fun v B2 H2 g ⟨l, xs, e, h0, h2, hb, hd⟩ σ ok => by
    subst e
    exact k l B2 H2 g h0 ⟨⟨xs, h2, hd⟩, hb⟩ _ (ok.set i (s := .raw (.ref l)) rfl)) hN hi hx hs hf
/-- name = [elt for ..], the name a local: fixed -/
theorem bd_lc0 (i : Nat) {y : Str} {py spos : Pos} {scope : Scope} {own : List (Str × Nat)} {g : TG} {js : List Nat} {v : PyData → PyData} {Γd : PyData → List Sl} (hc : X.calm = true) (hN : X.N.Nodup) (okb : BlkOk X.N X.env.scope scope own)
    (hgp : ∀ (s : Shared) (H : Hp) (C : Addr) (cl : List (Str × Addr)) (fp : List Addr), PG (X.blk s H scope (compEnvC scope cl C X.env) fp) tg g)
    (hi : IterD X Γ B H tg iter ds) (hn : ds.length ≤ 1000000) (hj : ∀ i ∈ js, i ∈ own.map (·.2))
    (hg : ∀ d ∈ ds, TgD X.K g js d (wipeG Γ (own.map (·.2))) (Γd d))
    (he : ∀ d ∈ ds, ∀ s H0 C cl fp B' H', Grow B H B' H' → ED (blkX X s H0 scope C cl fp) (Γd d) B' H' elt (v d))
    (k : ∀ B2 H2, Grow B H B2 H2 → BD X (Γ.set i (.lst (ds.map v))) B2 H2 rest D)
    (hy : X.N[i]? = some y := by rfl) (hyl : X.env.scope.names.lookup y = some .local := by rfl)
    (hsw : swapsWith (.ListComp elt [⟨tg, iter, [], 0⟩] scope pos) (some (.Name y py)) spos.line X.env = pure true := by exact sw_true rfl rfl rfl (by decide +kernel))
    (hs : ∀ x, foldedSetIterable iter X.env x = pure x := by intro _; rfl) : BD X Γ B H (.Assign [.Name y py] (.ListComp elt [⟨tg, iter, [], 0⟩] scope pos) spos :: rest) D := fun σ ok =>
  wb_cons (ps_setLc hc hN hy hyl hsw (pii X tg iter) okb hgp (fun _ _ _ _ _ => pts_nil) (peAll X scope elt) hs) (lc0_te hi hn hj hg he (Grow.refl ok.same) ok fun v' B2 H2 g2 r => fixL i g2 r (ok.grow g2) k)
theorem bd_lc1 (i : Nat) {y : Str} {py spos : Pos} {scope : Scope} {own : List (Str × Nat)} {g : TG} {js : List Nat} {f : PyData → Bool} {v : PyData → PyData} {Γd : PyData → List Sl} (hc : X.calm = true) (hN : X.N.Nodup) (okb : BlkOk X.N X.env.scope scope own)
    (hgp : ∀ (s : Shared) (H : Hp) (C : Addr) (cl : List (Str × Addr)) (fp : List Addr), PG (X.blk s H scope (compEnvC scope cl C X.env) fp) tg g)
    (hi : IterD X Γ B H tg iter ds) (hn : ds.length ≤ 1000000) (hj : ∀ i ∈ js, i ∈ own.map (·.2))
    (hg : ∀ d ∈ ds, TgD X.K g js d (wipeG Γ (own.map (·.2))) (Γd d))
    (ht : ∀ d ∈ ds, ∀ s H0 C cl fp B' H', Grow B H B' H' → ET (blkX X s H0 scope C cl fp) (Γd d) B' H' c (f d))
    (he : ∀ d ∈ ds, f d = true → ∀ s H0 C cl fp B' H', Grow B H B' H' → ED (blkX X s H0 scope C cl fp) (Γd d) B' H' elt (v d))
    (k : ∀ B2 H2, Grow B H B2 H2 → BD X (Γ.set i (.lst ((ds.filter f).map v))) B2 H2 rest D)
    (hy : X.N[i]? = some y := by rfl) (hyl : X.env.scope.names.lookup y = some .local := by rfl)
    (hsw : swapsWith (.ListComp elt [⟨tg, iter, [c], 0⟩] scope pos) (some (.Name y py)) spos.line X.env = pure true := by exact sw_true rfl rfl rfl (by decide +kernel))
    (hs : ∀ x, foldedSetIterable iter X.env x = pure x := by intro _; rfl) : BD X Γ B H (.Assign [.Name y py] (.ListComp elt [⟨tg, iter, [c], 0⟩] scope pos) spos :: rest) D := fun σ ok =>
  wb_cons (ps_setLc hc hN hy hyl hsw (pii X tg iter) okb hgp (ptAll X scope c) (peAll X scope elt) hs) (lc1_te hi hn hj hg ht he (Grow.refl ok.same) ok fun v' B2 H2 g2 r => fixL i g2 r (ok.grow g2) k)
/-- .. not fixed -/
theorem bd_lc1M (i : Nat) {y : Str} {py spos : Pos} {scope : Scope} {own : List (Str × Nat)} {g : TG} {js : List Nat} {f : PyData → Bool} {v : PyData → PyData} {Γd : PyData → List Sl} (hc : X.calm = true) (hN : X.N.Nodup) (okb : BlkOk X.N X.env.scope scope own)
    (hgp : ∀ (s : Shared) (H : Hp) (C : Addr) (cl : List (Str × Addr)) (fp : List Addr), PG (X.blk s H scope (compEnvC scope cl C X.env) fp) tg g)
    (hi : IterD X Γ B H tg iter ds) (hn : ds.length ≤ 1000000) (hj : ∀ i ∈ js, i ∈ own.map (·.2))
    (hg : ∀ d ∈ ds, TgD X.K g js d (wipeG Γ (own.map (·.2))) (Γd d))
    (ht : ∀ d ∈ ds, ∀ s H0 C cl fp B' H', Grow B H B' H' → ET (blkX X s H0 scope C cl fp) (Γd d) B' H' c (f d))
    (he : ∀ d ∈ ds, f d = true → ∀ s H0 C cl fp B' H', Grow B H B' H' → ED (blkX X s H0 scope C cl fp) (Γd d) B' H' elt (v d))
    (k : ∀ l B2 H2, Grow B H B2 H2 → H l = none → Mt X.K B2 H2 l ((ds.filter f).map v) → BD X (Γ.set i (.raw (.ref l))) B2 H2 rest D)
    (hy : X.N[i]? = some y := by rfl) (hyl : X.env.scope.names.lookup y = some .local := by rfl)
    (hsw : swapsWith (.ListComp elt [⟨tg, iter, [c], 0⟩] scope pos) (some (.Name y py)) spos.line X.env = pure true := by exact sw_true rfl rfl rfl (by decide +kernel))
    (hs : ∀ x, foldedSetIterable iter X.env x = pure x := by intro _; rfl) : BD X Γ B H (.Assign [.Name y py] (.ListComp elt [⟨tg, iter, [c], 0⟩] scope pos) spos :: rest) D := fun σ ok =>
  wb_cons (ps_setLc hc hN hy hyl hsw (pii X tg iter) okb hgp (ptAll X scope c) (peAll X scope elt) hs) (lc1_te hi hn hj hg ht he (Grow.refl ok.same) ok fun v' B2 H2 g2 ⟨l, xs, e, h0, h2, hb, hd⟩ => by
    subst e
    exact k l B2 H2 g2 h0 ⟨⟨xs, h2, hd⟩, hb⟩ _ ((ok.grow g2).set i (s := .raw (.ref l)) rfl))
theorem bd_if {t : Bool} {s1 s2 : List Stmt} (hc : ET X Γ B H c t) (h1 : t = true → ∀ B2 H2, Grow B H B2 H2 → BD X Γ B2 H2 s1 (nxt X rest D)) (h2 : t = false → ∀ B2 H2, Grow B H B2 H2 → BD X Γ B2 H2 s2 (nxt X rest D)) : BD X Γ B H (.If c s1 s2 pos :: rest) D := fun σ ok =>
  wb_cons (ps_if (pt X c) (pb X s1) (pb X s2)) (hc σ B H (Grow.refl ok.same) ok _ fun B2 H2 g => by
    cases t with
    | true => exact iteT (h1 rfl B2 H2 g σ (ok.grow g))
    | false => exact iteF (h2 rfl B2 H2 g σ (ok.grow g)))
/-- a test that fails: an if without else is passed -/
theorem bd_skip {s1 : List Stmt} {t : Bool} (hc : ET X Γ B H c t) (ht : t = false) (h : ∀ B2 H2, Grow B H B2 H2 → BD X Γ B2 H2 rest D) : BD X Γ B H (.If c s1 [] pos :: rest) D := bd_if hc (fun q => by rw [ht] at q; cases q) fun _ B2 H2 g => bd_fall (h B2 H2 g)
/-- l.append(e) -/
theorem bd_append {cpos apos p1 : Pos} {l : Addr} {y : Str} (i : Nat) (hr : Γ[i]? = some (.raw (.ref l))) (m : Mt X.K B H l ds) (hl : ds.length < 1000000) (he : ED X Γ B H e d)
    (k : ∀ B2 H2, Grow B H B2 H2 → Mt X.K B2 H2 l ds → ∀ H3, Mt X.K B2 H3 l (ds ++ [d]) → (∀ q, q ≠ l → H3 q = H2 q) → BD X Γ B2 H3 rest D)
    (hN : X.N[i]? = some y := by rfl) (hv : Vis X.env.scope y := by first | exact Or.inl rfl | exact Or.inr (Or.inl rfl) | exact Or.inr (Or.inr rfl)) (h1 : (y == ("__debug__" : Str)) = false := by decide) (h2 : (y == ("__classdict__" : Str)) = false := by decide)
    (hse : starEach [e] X.env = (false, eval e X.env) :: starEach [] X.env := by rfl)
    (hfew : ((backTo cpos (starEach [e] X.env)).all (fun x => !x.1) && (backToKw cpos (keywordEach [] X.env)).all (fun x => x.1.isSome) && decide ([e].length + ([] : List Keyword).length + (if ([] : List Keyword).isEmpty then 0 else 1) < 30)) = true := by rfl)
    (hline : (apos.endLine == cpos.line) = true := by rfl) :
    BD X Γ B H (.Expr (.Call (.Attribute (.Name y p1) "append" apos) [e] [] cpos) pos :: rest) D := fun σ ok => by
  refine wb_cons (ps_expr (pe_bm PySem.F.plainAttrs_list PySem.F.slot_list_append PySem.F.type_list_append mt_append (pe_var hN hv h1 h2) (pa_cons (pe X e) pa_nil hse) (hfew := hfew) (hline := hline) (hs := hse))) ?_
  obtain ⟨⟨xs, m1, m2⟩, m3⟩ := id m
  refine ⟨_, ok.ok i _ hr, .inl ⟨rfl, _, SqL.of m1⟩, he σ B H (Grow.refl ok.same) ok _ fun v B2 H2 g r => ?_⟩
  have mg := m.grow g
  refine ⟨l, xs, v, rfl, rfl, g.h _ _ m1, Nat.lt_of_lt_of_le (by rw [dps_len m2]; exact hl) (by decide : 1000000 ≤ sizeLine), ?_⟩
  refine k B2 H2 g mg (upd H2 l (.lst (xs ++ [v]))) ⟨⟨_, upd_same, dps_app (dps_mono g.b m2) (.cons r .nil)⟩, mg.out⟩ (fun q hq => upd_ne hq) σ ?_
  exact (ok.grow g).to (Same.refl _) (same_mut g.bh mg.out)
/-- l[i] = e -/
theorem bd_setIx {pos1 p1 : Pos} {l : Addr} {y : Str} {kx : Nat} (n : Nat) (hr : Γ[n]? = some (.raw (.ref l))) (m : Mt X.K B H l ds) (he : ED X Γ B H e d) (hb : ED X Γ B H b (.int i)) (hi : i = (kx : Int)) (hk : kx < ds.length)
    (k : ∀ B2 H2, Grow B H B2 H2 → Mt X.K B2 H2 l ds → ∀ H3, Mt X.K B2 H3 l (ds.set kx d) → (∀ q, q ≠ l → H3 q = H2 q) → BD X Γ B2 H3 rest D)
    (hN : X.N[n]? = some y := by rfl) (hv : Vis X.env.scope y := by first | exact Or.inl rfl | exact Or.inr (Or.inl rfl) | exact Or.inr (Or.inr rfl)) (h1 : (y == ("__debug__" : Str)) = false := by decide) (h2 : (y == ("__classdict__" : Str)) = false := by decide)
    (ha : ∀ v, assign (.Subscript (.Name y p1) b pos1) X.env v = (do
      let ov ← holding [v] (eval (.Name y p1) X.env)
      let iv ← holding [v, ov] (eval b X.env)
      standAt pos1
      holding [v, ov, iv] (setItem ov iv v)
      release [v, ov, iv] []) := by intro _; rfl)
    (q1 : swapsWithSole [.Subscript (.Name y p1) b pos1] e pos.line X.env = pure false := by rfl) (q2 : swappedStores [.Subscript (.Name y p1) b pos1] e X.env = pure none := by rfl) (q3 : (assignEach [.Subscript (.Name y p1) b pos1] X.env).map (·.2) = [assign (.Subscript (.Name y p1) b pos1) X.env] := by rfl) :
    BD X Γ B H (.Assign [.Subscript (.Name y p1) b pos1] e pos :: rest) D := fun σ ok => by
  refine wb_cons (ps_asg (pe X e) (pg_sub (pe_var hN hv h1 h2) (pe X b) set_list ha) q1 q2 q3) ?_
  obtain ⟨⟨xs, m1, m2⟩, m3⟩ := id m
  refine he σ B H (Grow.refl ok.same) ok _ fun v B2 H2 g r => ?_
  refine ⟨_, ok.ok n _ hr, hb σ B2 H2 g (ok.grow g) _ fun u B3 H3 g3 r3 => ?_⟩
  have gg := g.trans g3
  have mg := m.grow gg
  have hlen : xs.length = ds.length := dps_len m2
  refine ⟨l, xs, i, kx, rfl, dp_int r3, gg.h _ _ m1, ?_, ?_⟩
  · unfold ixN
    rw [if_pos (by omega), if_pos (by omega), hi, Int.toNat_natCast]
  · refine k B3 H3 gg mg (upd H3 l (.lst (xs.set kx v))) ⟨⟨_, upd_same, dps_set (dp_mono g3.b r) kx (dps_mono gg.b m2)⟩, mg.out⟩ (fun q hq => upd_ne hq) σ ?_
    exact (ok.grow gg).to (Same.refl _) (same_mut gg.bh mg.out)
/-! ### loops -/
/-- the invariant at the end of a turn -/
def toN (K : PySem.W.Frag) (I : List Sl → Hp → Hp → Prop) (B : Hp) : L2.St → Hp → Prop := fun σ H => ∃ Γ2 B2, Good K Γ2 σ B2 H ∧ Same B B2 ∧ I Γ2 B2 H
theorem bd_turn {I : List Sl → Hp → Hp → Prop} {B0 : Hp} {Γ' : List Sl} (hn : D.nx = toN X.K I B0) (w : Weak Γ Γ') (s : Same B0 B) (h : I Γ' B H) : BD X Γ B H [] D := bd_nil fun σ ok => by
  rw [hn]
  exact ⟨Γ', B, ok.weak w, s, h⟩
theorem bd_for {g : TG} {js : List Nat} {body : List Stmt} {Γd : PyData → List Sl → List Sl} (I : Nat → List Sl → Hp → Hp → Prop) (hc : X.calm = true) (hp : PassesOwn (model X.prog X.w) X.A X.env X.xe) (hgp : PG X tg g) (hi : IterD X Γ B H tg iter ds)
    (hg : ∀ d ∈ ds, ∀ Γ1, TgD X.K g js d Γ1 (Γd d Γ1)) (h0 : ∀ B2 H2, Grow B H B2 H2 → I 0 Γ B2 H2)
    (hs : ∀ i d Γ1 B1 H1, ds[i]? = some d → I i Γ1 B1 H1 → Same B B1 → ∀ B2 H2, Grow B1 H1 B2 H2 → BD X (Γd d Γ1) B2 H2 body { D with nx := toN X.K (I (i + 1)) B2, ct := toN X.K (I (i + 1)) B2, bk := fun σ H => WB X rest D σ H })
    (hd : ∀ Γ1 B1 H1, I ds.length Γ1 B1 H1 → Same B B1 → BD X Γ1 B1 H1 rest D)
    (hs1 : ∀ x, foldedSetIterable iter X.env x = pure x := by intro _; rfl) : BD X Γ B H (.For tg iter body [] pos :: rest) D := fun σ ok => by
  refine wb_cons (ps_for hp hc (pii X tg iter) hgp (pb X body) hs1) ?_
  refine hi σ B H (Grow.refl ok.same) ok _ fun J B0 H0 g0 hw => ?_
  refine ⟨fun i m σ H' => m = ds.length - i ∧ i ≤ ds.length ∧ ∃ Γ1 B1, Good X.K Γ1 σ B1 H' ∧ Same B0 B1 ∧ I i Γ1 B1 H', ⟨ds.length, by simp, Nat.zero_le _, Γ, B0, ok.grow g0, Same.refl _, h0 B0 H0 g0⟩, ?_⟩
  rintro i m σ1 H1 ⟨rfl, hi1, Γ1, B1, ok1, sb, iv⟩
  by_cases hlt : i < ds.length
  · refine .inr ⟨hw.go i B1 H1 sb ok1.same hlt, fun σ' H' => ∃ Γ2 B2, Good X.K Γ2 σ' B2 H' ∧ Same B0 B2 ∧ I (i + 1) Γ2 B2 H', fun σ' H' q => ⟨_, by omega, rfl, hlt, q⟩, fun y H2 hy => ?_⟩
    obtain ⟨B2, d, g2, hd2, dy⟩ := hw.yld i B1 H1 y H2 sb ok1.same hlt hy
    refine hg d (List.mem_of_getElem? hd2) Γ1 y σ1 B2 H2 (ok1.grow g2) dy _ fun σ3 ok3 _ _ => ?_
    have step := hs i d Γ1 B1 H1 hd2 iv (g0.b.trans sb) B2 H2 g2 σ3 ok3
    have lift : ∀ σ' H', toN X.K (I (i + 1)) B2 σ' H' → ∃ Γ2 B2, Good X.K Γ2 σ' B2 H' ∧ Same B0 B2 ∧ I (i + 1) Γ2 B2 H' := fun σ' H' ⟨Γ2, B3, a1, a2, a3⟩ => ⟨Γ2, B3, a1, (sb.trans g2.b).trans a2, a3⟩
    intro pins s I1
    refine thn (step pins s I1) fun f s1 q => ?_
    cases f with
    | next => obtain ⟨σ', H', J', q⟩ := q; exact ⟨σ', H', J', lift _ _ q⟩
    | cont => obtain ⟨σ', H', J', q⟩ := q; exact ⟨σ', H', J', lift _ _ q⟩
    | brk => exact q
    | ret v => exact q
  · have e : i = ds.length := by omega
    subst e
    exact .inl ⟨hw.stop H1 (sb.trans ok1.same), hd Γ1 B1 H1 iv (g0.b.trans sb) σ1 ok1⟩
theorem bd_while {body : List Stmt} (W : Nat → List Sl → Hp → Hp → Prop) (m0 : Nat) (hp : PassesOwn (model X.prog X.w) X.A X.env X.xe) (h0 : W m0 Γ B H)
    (hs : ∀ m Γ1 B1 H1, W m Γ1 B1 H1 → Same B B1 → ∃ t, ET X Γ1 B1 H1 c t ∧
      (t = true → ∀ B2 H2, Grow B1 H1 B2 H2 → BD X Γ1 B2 H2 body { D with nx := toN X.K (fun Γ B H => ∃ m', m' < m ∧ W m' Γ B H) B2, ct := toN X.K (fun Γ B H => ∃ m', m' < m ∧ W m' Γ B H) B2, bk := fun σ H => WB X rest D σ H }) ∧
      (t = false → ∀ B2 H2, Grow B1 H1 B2 H2 → BD X Γ1 B2 H2 rest D)) : BD X Γ B H (.While c body [] pos :: rest) D := fun σ ok => by
  refine wb_cons (ps_while hp (pt X c) (pb X body)) ?_
  refine ⟨fun m σ H' => ∃ Γ1 B1, Good X.K Γ1 σ B1 H' ∧ Same B B1 ∧ W m Γ1 B1 H', ⟨m0, Γ, B, ok, Same.refl _, h0⟩, ?_⟩
  rintro m σ1 H1 ⟨Γ1, B1, ok1, sb, w⟩
  obtain ⟨t, ht, h1, h2⟩ := hs m Γ1 B1 H1 w sb
  refine ht σ1 B1 H1 (Grow.refl ok1.same) ok1 _ fun B2 H2 g => ?_
  cases t with
  | true =>
    refine iteT ⟨fun σ' H' => ∃ Γ2 B3, Good X.K Γ2 σ' B3 H' ∧ Same B B3 ∧ ∃ m', m' < m ∧ W m' Γ2 B3 H', fun σ' H' ⟨Γ2, B3, a1, a2, m', a3, a4⟩ => ⟨m', a3, Γ2, B3, a1, a2, a4⟩, ?_⟩
    have step := h1 rfl B2 H2 g σ1 (ok1.grow g)
    have lift : ∀ σ' H', toN X.K (fun Γ B H => ∃ m', m' < m ∧ W m' Γ B H) B2 σ' H' → ∃ Γ2 B3, Good X.K Γ2 σ' B3 H' ∧ Same B B3 ∧ ∃ m', m' < m ∧ W m' Γ2 B3 H' := fun σ' H' ⟨Γ2, B3, a1, a2, a3⟩ => ⟨Γ2, B3, a1, (sb.trans g.b).trans a2, a3⟩
    intro pins s I1
    refine thn (step pins s I1) fun f s1 q => ?_
    cases f with
    | next => obtain ⟨σ', H', J', q⟩ := q; exact ⟨σ', H', J', lift _ _ q⟩
    | cont => obtain ⟨σ', H', J', q⟩ := q; exact ⟨σ', H', J', lift _ _ q⟩
    | brk => exact q
    | ret v => exact q
  | false => exact iteF (h2 rfl B2 H2 g σ1 (ok1.grow g))
end
end Dc
/-! Own layer, part G: rules for repr, sorted, sum of a tuple, count, in, isinstance, t[::-1], enumerate of a tuple. -/
namespace Dc
open PySem PySem.Spec PyProof.Rows L2
section
variable {X : Cx} {Γ : List Sl} {B H : Hp} {e a b c tg iter elt : Expr} {es : List Expr} {pos p : Pos} {d da db : PyData} {ds es' : List PyData} {i j : Int} {x : Str} {K : PySem.W.Frag}
/-! ### repr -/
theorem c_repr (hg : X.A.guards = some []) (hu : X.A.units + 64 < cLine) : CallR X (.builtin "repr") (fun xs H Q => ∃ v d, xs = [v] ∧ Dp X.K H v d ∧ isDisplay d = true ∧ d.showable = true ∧ d.hasDict = false ∧ d.depth ≤ 60 ∧ d.shown.length ≤ sizeLine ∧ Q (.str d.shown) H) := by
  intro pins s σ H xs us Q I r h
  obtain ⟨v, d, rfl, hd, di, sh, nd, dp, sz, q⟩ := h
  obtain ⟨u, rfl, ru⟩ : ∃ u, us = [u] ∧ RelV v u := by
    cases r with
    | cons r1 r2 => cases r2; exact ⟨_, rfl, r1⟩
  obtain ⟨as, rd⟩ := Dp.reads I d v u hd ru
  obtain ⟨q1, rfl⟩ := isRef_of_reads rd di
  exact repr_of_reads' rd sh (PyData.noDict_hsm nd) hg (by omega) (fun _ _ e => e) (fun h' u tk hk => ⟨.str d.shown, H, I.kept hk, ⟨_, rfl⟩, q⟩) sz
theorem ed_repr (hg : X.A.guards = some []) (hu : X.A.units + 64 < cLine) (hm : X.mg "repr" = none) (di : isDisplay d = true) (sh : d.showable = true) (nd : d.hasDict = false) (dp : d.depth ≤ 60) (sz : d.shown.length ≤ sizeLine) (ha : ED X Γ B H a d) (hgl : Gl X "repr" := by rfl) (he : starEach [a] X.env = (false, eval a X.env) :: starEach [] X.env := by rfl) : ED X Γ B H (.Call (.Name "repr" p) [a] [] pos) (.str d.shown) :=
  ev_callB isD_back (c_repr hg hu) hgl hm (by decide +kernel) (fun vs B1 H1 g r Q q => by
    obtain ⟨v, rfl, rv⟩ := one_dp r
    exact ⟨v, d, rfl, dp_mono g.bh rv, di, sh, nd, dp, sz, q _ _ _ (Grow.refl g.bh) (.str _)⟩) (ea_cons ha ea_nil he) (he := he)
/-! ### sorted -/
def sortD (ds : List PyData) : List PyData := ds.mergeSort (PySem.W.dataLe false id)
theorem sortD_perm (ds : List PyData) : (sortD ds).Perm ds := List.mergeSort_perm _ _
theorem each_zip {K : PySem.W.Frag} {H : Hp} : ∀ {xs : List V} {us : List Value} {ds : List PyData}, Vals xs us → DpAll K H xs ds → PySem.W.EachIs (fun (u : Value) (b : V × PyData) => RelV b.1 u ∧ Dp K H b.1 b.2) us (xs.zip ds)
  | _, _, _, .nil, .nil => .nil
  | _, _, _, .cons r t, .cons a z => .cons ⟨r, a⟩ (each_zip t z)
theorem zip_snd {K : PySem.W.Frag} {H : Hp} : ∀ {xs : List V} {ds : List PyData}, DpAll K H xs ds → (xs.zip ds).map (·.2) = ds
  | _, _, .nil => rfl
  | _, _, .cons a z => by rw [List.zip_cons_cons, List.map_cons, zip_snd z]
theorem each_out {K : PySem.W.Frag} {H : Hp} : ∀ {us : List Value} {bs : List (V × PyData)}, PySem.W.EachIs (fun (u : Value) (b : V × PyData) => RelV b.1 u ∧ Dp K H b.1 b.2) us bs → Vals (bs.map (·.1)) us ∧ DpAll K H (bs.map (·.1)) (bs.map (·.2))
  | _, _, .nil => ⟨.nil, .nil⟩
  | _, _, .cons ⟨r, a⟩ t => ⟨.cons r (each_out t).1, .cons a (each_out t).2⟩
theorem c_sorted (hu : X.A.units + 64 < cLine) : CallR X (.builtin "sorted") (fun xs H Q => ∃ B v ds, xs = [v] ∧ Same B H ∧ Dp X.K B v (.list ds) ∧ PySem.W.AllAlike ds ∧ PySem.W.Sortable ds ∧ (∀ d ∈ ds, d.depth ≤ 60) ∧ ∀ l ys, H l = none → DpAll X.K B ys (sortD ds) → Q (.ref l) (upd H l (.lst ys))) := by
  intro pins s σ H xs us Q I r h
  obtain ⟨B, v, ds, rfl, sb, hd, al, so, dp, q⟩ := h
  obtain ⟨u, rfl, ru⟩ : ∃ u, us = [u] ∧ RelV v u := by
    cases r with
    | cons r1 r2 => cases r2; exact ⟨_, rfl, r1⟩
  cases hd with
  | @lst q1 xs _ h1 h2 =>
    cases ru
    obtain ⟨its, rv, pl, hz⟩ := I.list (sb.seq h1)
    have ez := each_zip rv h2
    have em : (xs.zip ds).map (fun b : V × PyData => b.2) = ds := zip_snd h2
    have hl : (xs.zip ds).length = xs.length := by
      have := congrArg List.length em
      rw [List.length_map] at this
      rw [this, dps_len h2]
    refine PySem.W.sorted_data (enc := fun b : V × PyData => b.2) pl.isList ez (ez.mono fun u b ⟨r1, r2⟩ => Dp.reads I b.2 b.1 u (dp_mono sb r2) r1) (by rw [em]; exact al) (by rw [em]; exact so) (by rw [hl]; exact hz) (fun b hb => ?_) fun out ho eo => ?_
    · have : b.2 ∈ ds := by
        rw [← em]
        exact List.mem_map_of_mem hb
      have := dp _ this
      omega
    · obtain ⟨o1, o2⟩ := each_out eo
      have es : ((xs.zip ds).mergeSort (PySem.W.dataLe false fun b : V × PyData => b.2)).map (fun b => b.2) = sortD ds := by
        have := PySem.W.sort_maps (fun b : V × PyData => b.2) (r := PySem.W.dataLe false fun b : V × PyData => b.2) (s := PySem.W.dataLe false id) (l := xs.zip ds) (fun _ _ _ _ => rfl)
        rw [this, em]
        rfl
      rw [es] at o2
      obtain ⟨ep, he'⟩ := PyProof.Rows.sortedAll_at s.heap its out.toArray
      have hlen : (((xs.zip ds).mergeSort (PySem.W.dataLe false fun b : V × PyData => b.2)).map (fun b => b.1)).length ≤ sizeLine := by
        rw [List.length_map, List.length_mergeSort, hl]
        exact hz
      exact ⟨.ref _, upd H (s.heap.objs.size + 1) (.lst _), I.laid (t' := s.toks) (fun _ _ => PyProof.Rows.sortedAll_old) (Nat.le_succ _) ⟨hlen, out, ep, o1, he'⟩, rfl, q _ _ (I.hok.fresh (Nat.le_succ _)) o2⟩
theorem el_sorted (hu : X.A.units + 64 < cLine) (hm : X.mg "sorted" = none) (al : PySem.W.AllAlike ds) (so : PySem.W.Sortable ds) (dp : ∀ d ∈ ds, d.depth ≤ 60) (ha : ED X Γ B H a (.list ds)) (hgl : Gl X "sorted" := by rfl) (he : starEach [a] X.env = (false, eval a X.env) :: starEach [] X.env := by rfl) : EL X Γ B H (.Call (.Name "sorted" p) [a] [] pos) (sortD ds) :=
  ev_callB isL_back (c_sorted hu) hgl hm (by decide +kernel) (fun vs B1 H1 g r Q q => by
    obtain ⟨v, rfl, rv⟩ := one_dp r
    -- the items stand in the base
    cases rv with
    | @lst q1 xs _ h1 h2 =>
      refine ⟨B1, _, ds, rfl, g.bh, .lst h1 h2, al, so, dp, fun l ys hl hy => ?_⟩
      exact q _ _ _ (Grow.newM g.bh hl) ⟨l, ys, rfl, hl, upd_same, g.bh.free hl, hy⟩) (ea_cons ha ea_nil he) (he := he)
/-! ### sum of a tuple, count, in -/
theorem ed_sumT {ns : List Int} (hc : X.calm = true) (hm : X.mg "sum" = none) (ha : ED X Γ B H a (.tuple (ns.map .int))) (hgl : Gl X "sum" := by rfl) (he : starEach [a] X.env = (false, eval a X.env) :: starEach [] X.env := by rfl) : ED X Γ B H (.Call (.Name "sum" p) [a] [] pos) (.int ns.sum) := by
  have c : CallR X (.builtin "sum") (fun xs H Q => ∃ q, xs = [.ref q] ∧ SqT X.K H q (ns.map V.int) ∧ Q (.int ns.sum) H) := by
    intro pins s σ H xs us Q I r h
    obtain ⟨q, rfl, hs, k⟩ := h
    obtain ⟨its, rv, ht, _⟩ := I.tuple hs
    have hi := intsAre_of rv
    rw [Vals.ref1 r]
    obtain ⟨xs, hx⟩ := hi.allInts.items
    have hn : numsOf its.toArray.toList = ns := by rw [show its.toArray.toList = its from rfl, hi.numsOf]
    have ht' : s.heap.IsTuple q its.toArray := ht
    rw [hx] at ht'
    rw [hx, nums_intItems] at hn
    refine PySem.W.ktm_sumG (I.ok.hd hc) ht' fun h' tk t' hk => ?_
    rw [preSum_eq, List.take_of_length_le (by simp), hn]
    exact ⟨.int _, H, I.kept hk, ⟨_, rfl⟩, k⟩
  exact ev_callB isD_back c hgl hm (by decide +kernel) (fun vs B1 H1 g r Q q => by
    obtain ⟨v, rfl, rv⟩ := one_dp r
    cases rv with
    | tup h1 h2 =>
      rw [dps_ints h2] at h1
      exact ⟨_, rfl, Same.seqT g.bh h1, q _ _ _ (Grow.refl g.bh) (.int _)⟩) (ea_cons ha ea_nil he) (he := he)
theorem countP_each {h : Heap} {ys : List Str} {f : Value → Bool} {t : Str} : ∀ {us : List Value}, Vals (ys.map V.str) us → (∀ y u, f (.str y u) = decide (y = t)) → us.countP f = ys.count t := by
  induction ys with
  | nil => intro us r _; cases r; rfl
  | cons y ys ih =>
    intro us r hf
    cases r with
    | cons r1 r2 =>
      obtain ⟨u, rfl⟩ := r1
      rw [List.countP_cons, ih r2 hf, hf, List.count_cons]
      congr 1
theorem dps_strs {K : PySem.W.Frag} {H : Hp} : ∀ {vs : List V} {ns : List Str}, DpAll K H vs (ns.map PyData.str) → vs = ns.map V.str
  | _, [], h => by cases h; rfl
  | _, n :: ns, h => by
    cases h with
    | cons a t => rw [dp_str a, dps_strs t]; rfl
/-- xs.count(t), a list of texts -/
theorem ed_countS {ys : List Str} {t : Str} {cpos apos : Pos} (ha : ED X Γ B H a (.list (ys.map .str))) (hb : ED X Γ B H b (.str t))
    (hbase : attributeBase a "count" X.env (eval a X.env) = eval a X.env := by rfl)
    (hfew : ((backTo cpos (starEach [b] X.env)).all (fun x => !x.1) && (backToKw cpos (keywordEach [] X.env)).all (fun x => x.1.isSome) && decide ([b].length + ([] : List Keyword).length + (if ([] : List Keyword).isEmpty then 0 else 1) < 30)) = true := by rfl)
    (hline : (apos.endLine == cpos.line) = true := by rfl) (hs : starEach [b] X.env = (false, eval b X.env) :: starEach [] X.env := by rfl) : ED X Γ B H (.Call (.Attribute a "count" apos) [b] [] cpos) (.int (ys.count t : Nat)) := fun σ B1 H1 g ok Q q => by
  have c : MtR X "list.count" (fun x xs H Q => ∃ l, x = .ref l ∧ xs = [.str t] ∧ SqL X.K H l (ys.map V.str) ∧ Q (.int (ys.count t : Nat)) H) := by
    intro pins s σ H x xs v us Q I rx rxs h
    obtain ⟨l, rfl, rfl, hs, k⟩ := h
    cases rx
    obtain ⟨u, rfl, ru⟩ := rxs.one
    obtain ⟨tt, rfl⟩ := ru
    obtain ⟨its, rv, ⟨⟨cls, dd, data, sl⟩, n, ho, hc, hdn, hd⟩, hlen⟩ := I.list hs
    simp only at hc hd
    subst hc hd
    refine call_meets PySem.F.slot_list_count ⟨_, ho, rfl⟩ PySem.F.entry_list_count (PySem.F.args_list_count_2 _ _)
      (SeqAt.list_countAt l its.toArray n dd sl (.str t tt) (fun v => match v with | .str y _ => decide (y = t) | _ => false)) ⟨ho, fun y hy => ?_, ?_⟩
    · have hy' : y ∈ its := by simpa using hy
      obtain ⟨k2, hk2⟩ := List.getElem?_of_mem hy'
      have : ∃ z, (ys.map V.str)[k2]? = some z ∧ RelV z y := by
        have hl := rv.length
        have hlt := (List.getElem?_eq_some_iff.mp hk2).1
        obtain ⟨u2, e1, e2⟩ := rv.get (i := k2) (x := (ys.map V.str)[k2]'(by omega)) (by simp)
        rw [hk2] at e1
        cases e1
        exact ⟨_, by simp, e2⟩
      obtain ⟨z, hz1, hz2⟩ := this
      rw [List.getElem?_map] at hz1
      cases hq : ys[k2]? with
      | none => rw [hq] at hz1; cases hz1
      | some y2 =>
        rw [hq] at hz1
        cases hz1
        obtain ⟨tk, rfl⟩ := hz2
        intro P' w' E' Q' h'
        exact wpAny_eqBool_str h'
    · refine ⟨.int (ys.count t : Nat), H, I.tok _, ⟨s.toks, ?_⟩, k⟩
      show Value.int ((its.toArray.toList.countP _ : Nat) : Int) s.toks = Value.int ((ys.count t : Nat) : Int) s.toks
      rw [countP_each (h := s.heap) (t := t) rv fun _ _ => rfl]
  refine we_of (pe_bm PySem.F.plainAttrs_list PySem.F.slot_list_count PySem.F.type_list_count c (pe X a) (pa_cons (pe X b) pa_nil hs) hbase hfew hline hs) ?_
  refine ha σ B1 H1 g ok _ fun v B2 H2 g2 r => ?_
  cases r with
  | lst h1 h2 =>
    rw [dps_strs h2] at h1
    refine ⟨?_, hb σ B2 H2 (g.trans g2) (ok.grow g2) _ fun u B3 H3 g3 r3 => ?_⟩
    · exact .inl ⟨rfl, _, g2.bh.seq h1⟩
    · exact ⟨_, rfl, by rw [dp_str r3], g3.bh.seq (g3.b.seq h1), q _ _ _ (g2.trans g3) (.int _)⟩
theorem c_inT (hu : X.A.units + 64 < cLine) : OpR X (compareOp .In) (fun x y H Q => ∃ d ds, Dp X.K H x d ∧ Dp X.K H y (.tuple ds) ∧ d.canLay0 = true ∧ PyData.canLayAll0 ds = true ∧ d.depth ≤ 60 ∧ Q (.bl (ds.any fun z => PyData.eqv z d)) H) := by
  intro pins s σ H x y v u Q I rx ry h
  obtain ⟨d, ds, hd, he, sd, se, dp, q⟩ := h
  obtain ⟨as, r1⟩ := Dp.reads I d x v hd rx
  obtain ⟨bs, r2⟩ := Dp.reads I (.tuple ds) y u he ry
  exact SeqAt.in_tuple_reads r2 r1 se sd (by omega) ⟨.bl _, H, I, rfl, q⟩
theorem c_ninT (hu : X.A.units + 64 < cLine) : OpR X (compareOp .NotIn) (fun x y H Q => ∃ d ds, Dp X.K H x d ∧ Dp X.K H y (.tuple ds) ∧ d.canLay0 = true ∧ PyData.canLayAll0 ds = true ∧ d.depth ≤ 60 ∧ Q (.bl (!ds.any fun z => PyData.eqv z d)) H) := by
  intro pins s σ H x y v u Q I rx ry h
  obtain ⟨d, ds, hd, he, sd, se, dp, q⟩ := h
  obtain ⟨as, r1⟩ := Dp.reads I d x v hd rx
  obtain ⟨bs, r2⟩ := Dp.reads I (.tuple ds) y u he ry
  exact SeqAt.notIn_tuple_reads r2 r1 se sd (by omega) ⟨.bl _, H, I, rfl, q⟩
theorem c_inL (hu : X.A.units + 64 < cLine) : OpR X (compareOp .In) (fun x y H Q => ∃ d ds, Dp X.K H x d ∧ Dp X.K H y (.list ds) ∧ d.canLay0 = true ∧ PyData.canLayAll0 ds = true ∧ d.depth ≤ 60 ∧ Q (.bl (ds.any fun z => PyData.eqv z d)) H) := by
  intro pins s σ H x y v u Q I rx ry h
  obtain ⟨d, ds, hd, he, sd, se, dp, q⟩ := h
  obtain ⟨as, r1⟩ := Dp.reads I d x v hd rx
  obtain ⟨bs, r2⟩ := Dp.reads I (.list ds) y u he ry
  exact SeqAt.in_list_reads r2 r1 se sd (by omega) ⟨.bl _, H, I, rfl, q⟩
theorem c_ninL (hu : X.A.units + 64 < cLine) : OpR X (compareOp .NotIn) (fun x y H Q => ∃ d ds, Dp X.K H x d ∧ Dp X.K H y (.list ds) ∧ d.canLay0 = true ∧ PyData.canLayAll0 ds = true ∧ d.depth ≤ 60 ∧ Q (.bl (!ds.any fun z => PyData.eqv z d)) H) := by
  intro pins s σ H x y v u Q I rx ry h
  obtain ⟨d, ds, hd, he, sd, se, dp, q⟩ := h
  obtain ⟨as, r1⟩ := Dp.reads I d x v hd rx
  obtain ⟨bs, r2⟩ := Dp.reads I (.list ds) y u he ry
  exact SeqAt.notIn_list_reads r2 r1 se sd (by omega) ⟨.bl _, H, I, rfl, q⟩
/-- x in t, x not in t, t a tuple or a list of data -/
theorem et_in {t : Bool} (hu : X.A.units + 64 < cLine) (s : Seq db ds) (c1 : d.canLay0 = true) (c2 : PyData.canLayAll0 ds = true) (dp : d.depth ≤ 60) (ht : (ds.any fun z => PyData.eqv z d) = t) (ha : ED X Γ B H a d) (hb : ED X Γ B H b db) (hm : behindInMarks .In b = false := by rfl) : ET X Γ B H (.Compare a [.In] [b] pos) t := by
  rcases s with rfl | rfl
  · exact et_cmp (c_inL hu) hm (fun va vb B1 H1 g ra rb Q q => ⟨d, ds, dp_mono g.bh ra, dp_mono g.bh rb, c1, c2, dp, by rw [ht]; exact q _ _ _ (Grow.refl g.bh) (.bl _)⟩) ha hb
  · exact et_cmp (c_inT hu) hm (fun va vb B1 H1 g ra rb Q q => ⟨d, ds, dp_mono g.bh ra, dp_mono g.bh rb, c1, c2, dp, by rw [ht]; exact q _ _ _ (Grow.refl g.bh) (.bl _)⟩) ha hb
theorem et_nin {t : Bool} (hu : X.A.units + 64 < cLine) (s : Seq db ds) (c1 : d.canLay0 = true) (c2 : PyData.canLayAll0 ds = true) (dp : d.depth ≤ 60) (ht : (!ds.any fun z => PyData.eqv z d) = t) (ha : ED X Γ B H a d) (hb : ED X Γ B H b db) (hm : behindInMarks .NotIn b = false := by rfl) : ET X Γ B H (.Compare a [.NotIn] [b] pos) t := by
  rcases s with rfl | rfl
  · exact et_cmp (c_ninL hu) hm (fun va vb B1 H1 g ra rb Q q => ⟨d, ds, dp_mono g.bh ra, dp_mono g.bh rb, c1, c2, dp, by rw [ht]; exact q _ _ _ (Grow.refl g.bh) (.bl _)⟩) ha hb
  · exact et_cmp (c_ninT hu) hm (fun va vb B1 H1 g ra rb Q q => ⟨d, ds, dp_mono g.bh ra, dp_mono g.bh rb, c1, c2, dp, by rw [ht]; exact q _ _ _ (Grow.refl g.bh) (.bl _)⟩) ha hb
theorem ed_nin {t : Bool} (hu : X.A.units + 64 < cLine) (s : Seq db ds) (c1 : d.canLay0 = true) (c2 : PyData.canLayAll0 ds = true) (dp : d.depth ≤ 60) (ht : (!ds.any fun z => PyData.eqv z d) = t) (ha : ED X Γ B H a d) (hb : ED X Γ B H b db) (hm : behindInMarks .NotIn b = false := by rfl) : ED X Γ B H (.Compare a [.NotIn] [b] pos) (.bool t) := by
  rcases s with rfl | rfl
  · exact ed_cmp (c_ninL hu) hm (fun va vb B1 H1 g ra rb Q q => ⟨d, ds, dp_mono g.bh ra, dp_mono g.bh rb, c1, c2, dp, by rw [ht]; exact q _ _ _ (Grow.refl g.bh) (.bl _)⟩) ha hb
  · exact ed_cmp (c_ninT hu) hm (fun va vb B1 H1 g ra rb Q q => ⟨d, ds, dp_mono g.bh ra, dp_mono g.bh rb, c1, c2, dp, by rw [ht]; exact q _ _ _ (Grow.refl g.bh) (.bl _)⟩) ha hb
theorem sh_of (c1 : d.canLay0 = true) (dp : d.depth ≤ 60) : SeqAt.shaped d = true := by
  show (d.canLay0 && decide (d.depth ≤ 64)) = true
  rw [c1, decide_eq_true (by omega)]
  rfl
/-- == and != of data -/
theorem et_eqD {t : Bool} (hu : X.A.units + 64 < cLine) (c1 : da.canLay0 = true) (c2 : db.canLay0 = true) (p1 : da.depth ≤ 60) (p2 : db.depth ≤ 60) (ht : PyData.eqv da db = t) (ha : ED X Γ B H a da) (hb : ED X Γ B H b db) : ET X Γ B H (.Compare a [.Eq] [b] pos) t :=
  et_cmp (op_eqD hu) (nomark _) (fun va vb B1 H1 g ra rb Q q => ⟨da, db, dp_mono g.bh ra, dp_mono g.bh rb, sh_of c1 p1, sh_of c2 p2, by rw [ht]; exact q _ _ _ (Grow.refl g.bh) (.bl _)⟩) ha hb
theorem ed_eqD {t : Bool} (hu : X.A.units + 64 < cLine) (c1 : da.canLay0 = true) (c2 : db.canLay0 = true) (p1 : da.depth ≤ 60) (p2 : db.depth ≤ 60) (ht : PyData.eqv da db = t) (ha : ED X Γ B H a da) (hb : ED X Γ B H b db) : ED X Γ B H (.Compare a [.Eq] [b] pos) (.bool t) :=
  ed_cmp (op_eqD hu) (nomark _) (fun va vb B1 H1 g ra rb Q q => ⟨da, db, dp_mono g.bh ra, dp_mono g.bh rb, sh_of c1 p1, sh_of c2 p2, by rw [ht]; exact q _ _ _ (Grow.refl g.bh) (.bl _)⟩) ha hb
theorem et_neD {t : Bool} (hu : X.A.units + 64 < cLine) (c1 : da.canLay0 = true) (c2 : db.canLay0 = true) (p1 : da.depth ≤ 60) (p2 : db.depth ≤ 60) (ht : (!PyData.eqv da db) = t) (ha : ED X Γ B H a da) (hb : ED X Γ B H b db) : ET X Γ B H (.Compare a [.NotEq] [b] pos) t :=
  et_cmp (op_neD hu) (nomark _) (fun va vb B1 H1 g ra rb Q q => ⟨da, db, dp_mono g.bh ra, dp_mono g.bh rb, sh_of c1 p1, sh_of c2 p2, by rw [ht]; exact q _ _ _ (Grow.refl g.bh) (.bl _)⟩) ha hb
/-- t < u, tuples of ints -/
theorem et_ltT {ns ms : List Int} (hu : X.A.units < cLine) (ha : ED X Γ B H a (.tuple (ns.map .int))) (hb : ED X Γ B H b (.tuple (ms.map .int))) : ET X Γ B H (.Compare a [.Lt] [b] pos) (HT.lexLt ns ms) :=
  et_cmp (op_ltT hu) (nomark _) (fun va vb B1 H1 g ra rb Q q => by
    cases ra with
    | tup h1 h2 =>
      cases rb with
      | tup h3 h4 =>
        rw [dps_ints h2] at h1
        rw [dps_ints h4] at h3
        exact ⟨_, _, ns, ms, rfl, rfl, Same.seqT g.bh h1, Same.seqT g.bh h3, q _ _ _ (Grow.refl g.bh) (.bl _)⟩) ha hb
/-! ### isinstance -/
def tyOf : PyData → String
  | .none => "NoneType"
  | .bool _ => "bool"
  | .int _ => "int"
  | .str _ => "str"
  | .list _ => "list"
  | .tuple _ => "tuple"
  | .dict _ => "dict"
theorem ty_dp {K : PySem.W.Frag} {H : Hp} {v : V} (h : Dp K H v d) : TyX K H v (.type (tyOf d)) := by
  cases h with
  | non => exact .base .non
  | bl b => exact .base (.bl b)
  | int i => exact .base (.int i)
  | str y => exact .base (.str y)
  | lst h1 h2 =>
    rcases h1 with (h1 | ⟨o, h1⟩) | ⟨o, its, n, h1, h2, _⟩
    · exact .base (.lst h1)
    · exact .base (.frz h1)
    · exact .kList h1 h2
  | tup h1 h2 =>
    rcases h1 with (h1 | ⟨o, h1⟩) | ⟨o, its, n, h1, h2, _⟩
    · exact .base (.tup h1)
    · exact .fTuple h1
    · exact .kTuple h1 h2
theorem ed_isi {T t0 : String} {y : Str} {p2 : Pos} {t : Bool} (hm : X.mg "isinstance" = none) (hy : X.mg y = none) (hv : bootBuiltins y = some (.type T)) (hk : kitB t0 T = some t) (ha : ED X Γ B H a d) (ht : tyOf d = t0 := by rfl) (hgl : Gl X "isinstance" := by rfl) (hgy : Gl X y := by rfl) (hn : y ≠ "__name__" := by decide) (hd : (y == ("__debug__" : Str)) = false := by decide)
    (he : starEach [a, .Name y p2] X.env = (false, eval a X.env) :: starEach [.Name y p2] X.env := by rfl) : ED X Γ B H (.Call (.Name "isinstance" p) [a, .Name y p2] [] pos) (.bool t) := fun σ B1 H1 g ok Q q =>
  we_of (pe_callB call_isi hgl hm (by decide +kernel) (pa_cons (pe X a) (pa_cons (pe_bltn hgy hy hv (v := .ty T) rfl hn hd) pa_nil) he) (he := he)) (ha σ B1 H1 g ok _ fun v B2 H2 g2 r => ⟨v, .ty T, _, _, t, rfl, .ty T, ty_dp (dp_mono g2.bh r), kit_ty (by rw [ht]; exact hk), q _ _ _ g2 (.bl _)⟩)
end
end Dc
/-! Own layer, part H: defs from data to data, lists that stop changing, dicts with int keys. -/
namespace Dc
open PySem PySem.Spec PyProof.Rows L2
section
variable {P : Program} {w : World} {K : PySem.W.Frag} {mg : Str → Option Value} {base : Heap}
theorem good_start {N : List Str} {B H : Hp} {vs : List V} {ds : List PyData} (sb : Same B H) (hd : DpAll K B vs ds) (hl : ds.length ≤ N.length) : Good K (ds.map Sl.dat ++ List.replicate (N.length - ds.length) .unk) (L2.start N vs) B H := by
  have e := dps_len hd
  refine ⟨sb, by unfold L2.start; simp; omega, fun i s hs => ?_⟩
  by_cases h : i < ds.length
  · rw [List.getElem?_append_left (by simpa using h), List.getElem?_map] at hs
    cases q : ds[i]? with
    | none => rw [q] at hs; cases hs
    | some d =>
      rw [q] at hs
      cases hs
      obtain ⟨v, h1, h2⟩ := dps_get hd q
      refine ⟨v, ?_, h2⟩
      unfold L2.start
      rw [List.getElem?_append_left (by simp; omega), List.getElem?_map, h1]
      rfl
  · rw [List.getElem?_append_right (by simpa using h), List.getElem?_replicate] at hs
    split at hs
    · cases hs
      trivial
    · cases hs
/-- a def from data to data, by its body -/
theorem fnP {α : Type} {args : α → List PyData} {pre : α → Prop} {post : α → PyData → Prop} {x qual : Str} {st : Stmt} {f : Addr} {fd : FuncData} {N ps : List Str} {k : Nat} (F : Fun K x qual st f fd) (S : FnScope N ps (defScope st)) (hn : ∀ m, (args m).length = ps.length)
    (body : ∀ (cdv : Value) (A : Around) (outer : List Env) (s : Shared) (B H : Hp) (Q : VK) (m : α), Room k (A.deeper (envOfC qual (defScope st) s.heap.objs.size f cdv)) → A.guards = some [] → Same B H → pre m → (∀ v d B2 H2, post m d → Grow B H B2 H2 → Dp K B2 v d → Q v H2) →
      BD (bodyX P w K mg base N qual st f cdv A outer s H) ((args m).map Sl.dat ++ List.replicate (N.length - (args m).length) .unk) B H (defBody st) { nx := fun _ H' => Q .non H', rt := Q }) : FnG P w K mg base (k + 1) f fd ps (PrR K args pre post) := by
  refine fnG F S (fun vs H Q ⟨B, m, _, hd, _⟩ => by rw [dps_len hd, hn m]) fun cdv A outer s H vs Q room gd ⟨B, m, sb, hd, hp, kk⟩ => ?_
  refine body cdv A outer s B H Q m room gd sb hp kk _ (good_start sb hd ?_)
  have := congrArg List.length S.pre
  rw [List.length_take] at this
  have := hn m
  omega
end
section
variable {X : Cx} {Γ : List Sl} {B H B0 H0 : Hp} {e a b c tg iter elt : Expr} {es : List Expr} {pos p : Pos} {d da db : PyData} {ds es' : List PyData} {i j : Int} {x : Str} {K : PySem.W.Frag} {rest : List Stmt} {D : Ends} {q l : Addr}
/-- an object made since and kept apart was changed -/
theorem Grow.mut {B2 H2 H3 : Hp} (g : Grow B0 H0 B2 H2) (h0 : H0 l = none) (hb : B2 l = none) (h : ∀ q, q ≠ l → H3 q = H2 q) : Grow B0 H0 B2 H3 := by
  refine ⟨g.b, fun a o e => ?_, fun a o e => ?_, g.out⟩
  · rw [h a (ne_of_none e h0)]
    exact g.h a o e
  · rw [h a (ne_of_none e hb)]
    exact g.bh a o e
/-- a list that changed so far is fixed -/
theorem bd_fixM {y : List Stmt} (i : Nat) (hr : Γ[i]? = some (.raw (.ref l))) (m : Mt X.K B H l ds)
    (k : ∀ B2, Same B B2 → (∀ B0 H0, Grow B0 H0 B H → H0 l = none → Grow B0 H0 B2 H) → BD X (Γ.set i (.lst ds)) B2 H y D) : BD X Γ B H y D := fun σ ok => by
  obtain ⟨⟨xs, h1, h2⟩, h3⟩ := m
  have s1 : Same B (upd B l (.lst xs)) := same_new h3
  have s2 : Same (upd B l (.lst xs)) H := fun a o e => by
    by_cases z : a = l
    · subst z
      rw [upd_same] at e
      rw [h1]
      exact e
    · rw [upd_ne z] at e
      exact ok.same a o e
  refine k (upd B l (.lst xs)) s1 (fun B0 H0 g h0 => g.fix h0 h1 h3) σ ⟨s2, by rw [List.length_set]; exact ok.len, fun n s hs => ?_⟩
  by_cases z : i = n
  · subst z
    rw [List.getElem?_set_self (by rw [List.getElem?_eq_some_iff] at hr; exact hr.1)] at hs
    cases hs
    exact ⟨l, xs, ok.ok i _ hr, upd_same, dps_mono s1 h2⟩
  · rw [List.getElem?_set_ne z] at hs
    exact (ok.ok n s hs).mono s1
theorem bd_retM {y : Str} (i : Nat) (hr : Γ[i]? = some (.raw (.ref l))) (m : Mt X.K B H l ds) (g0 : Grow B0 H0 B H) (h0 : H0 l = none) (k : ∀ v B2, Grow B0 H0 B2 H → Dp X.K B2 v (.list ds) → D.rt v H)
    (hN : X.N[i]? = some y := by rfl) (hv : Vis X.env.scope y := by first | exact Or.inl rfl | exact Or.inr (Or.inl rfl) | exact Or.inr (Or.inr rfl)) (h1 : (y == ("__debug__" : Str)) = false := by decide) (h2 : (y == ("__classdict__" : Str)) = false := by decide) : BD X Γ B H (.Return (some (.Name y p)) pos :: rest) D := fun σ ok => by
  obtain ⟨⟨xs, m1, m2⟩, m3⟩ := m
  refine wb_of (pss_cons (ps_ret (pe_var hN hv h1 h2)) (pb X rest)) ⟨_, ok.ok i _ hr, ?_⟩
  exact k _ (upd B l (.lst xs)) (g0.fix h0 m1 m3) (.lst (.inl (.inl upd_same)) (dps_mono (same_new m3) m2))
/-- a part of what a raw list holds: its length, an item -/
theorem ed_lenM {y : Str} {p2 : Pos} (n : Nat) (hr : Γ[n]? = some (.raw (.ref l))) (m : Mt X.K B H l ds) (hm : X.mg "len" = none) (hgl : Gl X "len" := by rfl) (hN : X.N[n]? = some y := by rfl) (hv : Vis X.env.scope y := by first | exact Or.inl rfl | exact Or.inr (Or.inl rfl) | exact Or.inr (Or.inr rfl)) (h1 : (y == ("__debug__" : Str)) = false := by decide) (h2 : (y == ("__classdict__" : Str)) = false := by decide)
    (he : starEach [.Name y p2] X.env = (false, eval (.Name y p2) X.env) :: starEach [] X.env := by rfl) : ED X Γ B H (.Call (.Name "len" p) [.Name y p2] [] pos) (.int (ds.length : Int)) := fun σ B1 H1 g ok Q k => by
  obtain ⟨⟨xs, m1, m2⟩, m3⟩ := m
  refine we_of (pe_callB call_len_seq hgl hm PySem.boot_len (pa_cons (pe_var hN hv h1 h2) pa_nil he) (he := he)) ⟨_, ok.ok n _ hr, l, xs, rfl, .inl (SqL.of (g.h _ _ m1)), k _ _ _ (Grow.refl ok.same) ?_⟩
  rw [dps_len m2]
  exact .int _
/-! ### dicts with int keys -/
structure Dk (H : Hp) (q : Addr) (n : Nat) (m : Int → Option V) : Prop where
  is : ∃ kvs : List (Key × V), H q = some (.dK kvs) ∧ kvs.length ≤ n ∧ (kvs.map (·.1)).Nodup ∧ ∀ z : Int, valV kvs (Sum.inl z) = m z
theorem Dk.same {H H' : Hp} {n : Nat} {m : Int → Option V} (h : Dk H q n m) (s : Same H H') : Dk H' q n m := by
  obtain ⟨kvs, a, b⟩ := h.is
  exact ⟨kvs, s _ _ a, b⟩
theorem Dk.far {H H' : Hp} {n : Nat} {m : Int → Option V} (h : Dk H q n m) (s : H' q = H q) : Dk H' q n m := by
  obtain ⟨kvs, a, b⟩ := h.is
  exact ⟨kvs, by rw [s]; exact a, b⟩
theorem Dk.up {H : Hp} {n n' : Nat} {m : Int → Option V} (h : Dk H q n m) (s : n ≤ n') : Dk H q n' m := by
  obtain ⟨kvs, a, b, c⟩ := h.is
  exact ⟨kvs, a, Nat.le_trans b s, c⟩
theorem Dk.congr {H : Hp} {n : Nat} {m m' : Int → Option V} (h : Dk H q n m) (s : ∀ z, m z = m' z) : Dk H q n m' := by
  obtain ⟨kvs, a, b, c, d⟩ := h.is
  exact ⟨kvs, a, b, c, fun z => (d z).trans (s z)⟩
theorem Dk.ne {H : Hp} {n : Nat} {m : Int → Option V} (h : Dk H q n m) {q' : Addr} (h' : H q' = none) : q ≠ q' := by
  obtain ⟨kvs, a, _⟩ := h.is
  exact ne_of_none a h'
theorem Grow.outD {B H B2 H2 : Hp} {n : Nat} {m : Int → Option V} (g : Grow B H B2 H2) (dk : Dk H q n m) (hb : B q = none) : B2 q = none := by
  obtain ⟨kvs, a, _⟩ := dk.is
  exact g.out q _ a hb
theorem putK_len (kvs : List (Key × V)) (k : Key) (v : V) : (putK kvs k v).length ≤ kvs.length + 1 := by
  unfold putK
  split
  · rw [List.length_map]; omega
  · simp
theorem putK_nd (kvs : List (Key × V)) (k : Key) (v : V) (h : (kvs.map (·.1)).Nodup) : ((putK kvs k v).map (·.1)).Nodup := by
  unfold putK
  split
  · rename_i hh
    have e : (kvs.map fun kv => if kv.1 = k then (kv.1, v) else kv).map (·.1) = kvs.map (·.1) := by
      rw [List.map_map]
      refine List.map_congr_left fun kv _ => ?_
      show (if kv.1 = k then (kv.1, v) else kv).1 = kv.1
      split <;> rfl
    rw [e]
    exact h
  · rename_i hh
    rw [List.map_append, List.nodup_append]
    refine ⟨h, by simp, fun x hx y hy z => hh ?_⟩
    have hy' : y = k := by simpa using hy
    rw [List.any_eq_true]
    obtain ⟨kv, h1, h2⟩ := List.mem_map.mp hx
    exact ⟨kv, h1, decide_eq_true (by rw [h2, z, hy'])⟩
/-- the later one, if it has the key -/
theorem valV_merge : ∀ (more kvs : List (Key × V)) (k : Key), (more.map (·.1)).Nodup → valV (mergeK kvs more) k = (valV more k).or (valV kvs k)
  | [], kvs, k, _ => by show valV kvs k = _; rw [valV_nil]; rfl
  | r :: more, kvs, k, h => by
    rw [List.map_cons, List.nodup_cons] at h
    show valV (mergeK (putK kvs r.1 r.2) more) k = _
    rw [valV_merge more _ k h.2, valV_put]
    by_cases e : r.1 = k
    · have hn : valV more k = none := by
        cases hq : valV more k with
        | none => rfl
        | some v =>
          have h2 := valV_any k more
          rw [hq] at h2
          simp only [Option.isSome_some, List.any_eq_true] at h2
          obtain ⟨kv, h3, h4⟩ := h2
          exact absurd (List.mem_map.mpr ⟨kv, h3, of_decide_eq_true h4⟩) (by rw [← e]; exact h.1)
      rw [hn, valV_pos e, if_pos e.symm]
      rfl
    · rw [valV_neg e, if_neg fun z => e z.symm]
theorem merge_nd : ∀ (more kvs : List (Key × V)), (kvs.map (·.1)).Nodup → ((mergeK kvs more).map (·.1)).Nodup
  | [], _, h => h
  | r :: more, kvs, h => merge_nd more _ (putK_nd kvs r.1 r.2 h)
theorem merge_len : ∀ (more kvs : List (Key × V)), (mergeK kvs more).length ≤ kvs.length + more.length
  | [], _ => by simp [mergeK]
  | r :: more, kvs => by
    have h1 := merge_len more (putK kvs r.1 r.2)
    have h2 := putK_len kvs r.1 r.2
    show (mergeK (putK kvs r.1 r.2) more).length ≤ _
    rw [List.length_cons]
    omega
/-- a new dict -/
def isK (n : Nat) (m : Int → Option V) : V → Hp → Hp → Hp → Prop := fun v H1 B2 H2 => ∃ q, v = .ref q ∧ H1 q = none ∧ B2 q = none ∧ Dk H2 q n m
abbrev EK (X : Cx) (Γ : List Sl) (B H : Hp) (e : Expr) (n : Nat) (m : Int → Option V) : Prop := EV X Γ B H e (isK n m)
theorem ek_new : EK X Γ B H (.Dict [] [] pos) 0 fun _ => none := fun σ B1 H1 g ok Q k =>
  we_of pe_dnewK fun q hq => k _ _ _ (Grow.newM ok.same hq) ⟨q, rfl, hq, ok.same.free hq, ⟨[], upd_same, Nat.le_refl _, by simp, fun z => rfl⟩⟩
/-- {k1: v1, k2: v2} -/
theorem ek_two {e1 e2 f1 f2 : Expr} {v1 v2 : V} {d1 d2 : PyData} (h1 : ED X Γ B H e1 (.int i)) (h2 : ED X Γ B H f1 d1) (h3 : ED X Γ B H e2 (.int j)) (h4 : ED X Γ B H f2 d2) (s1 : scV d1 = some v1) (s2 : scV d2 = some v2) :
    EK X Γ B H (.Dict [some e1, some e2] [f1, f2] pos) 2 (fun z => if z = j then some v2 else if z = i then some v1 else none) := fun σ B1 H1 g ok Q k =>
  we_of (pe_disp (pps_cons (pe X e1) (pe X f1) (pps_cons (pe X e2) (pe X f2) pps_nil)) (by rfl) (by rfl) (fun z => by cases z) (by show 2 ≤ 15; decide)) fun q hq => by
    have g1 := Grow.newM (o := .dK []) ok.same hq
    have ok1 := ok.grow g1
    refine h1 σ _ _ (g.trans g1) ok1 _ fun u1 B2 H2 g2 r1 => h2 σ _ _ ((g.trans g1).trans g2) (ok1.grow g2) _ fun u2 B3 H3 g3 r2 => h3 σ _ _ (((g.trans g1).trans g2).trans g3) ((ok1.grow g2).grow g3) _ fun u3 B4 H4 g4 r3 => h4 σ _ _ ((((g.trans g1).trans g2).trans g3).trans g4) (((ok1.grow g2).grow g3).grow g4) _ fun u4 B5 H5 g5 r4 => ?_
    have g25 := ((g2.trans g3).trans g4).trans g5
    have hq5 : H5 q = some (.dK []) := g25.h _ _ upd_same
    have hb5 : B5 q = none := g25.out q _ upd_same (ok.same.free hq)
    refine ⟨hq5, [(Sum.inl i, v1), (Sum.inl j, v2)], ?_, by simp, ?_⟩
    · rw [dp_int r1, dp_int r3, scV_dp r2 s1, scV_dp r4 s2]
      rfl
    · refine k _ B5 _ ⟨(g1.trans g25).b, same_mut (g1.trans g25).h hq, same_mut g25.bh hb5, (g1.trans g25).out⟩ ⟨q, rfl, hq, hb5, ⟨_, upd_same, merge_len [(Sum.inl i, v1), (Sum.inl j, v2)] [], merge_nd _ _ (by simp), fun z => ?_⟩⟩
      show valV (putK (putK [] (Sum.inl i) v1) (Sum.inl j) v2) (Sum.inl z) = _
      rw [valV_put, valV_put, valV_nil]
      have e1 : ((Sum.inl z : Key) = Sum.inl j) = (z = j) := by simp
      have e2 : ((Sum.inl z : Key) = Sum.inl i) = (z = i) := by simp
      simp only [e1, e2]
/-- k in d -/
theorem et_inK {y : Str} {p2 : Pos} {n sz : Nat} {m : Int → Option V} (n : Nat) (hr : Γ[n]? = some (.raw (.ref q))) (hq : Dk H q sz m) (hu : X.A.units + 64 < cLine) (ha : ED X Γ B H a (.int i)) (hN : X.N[n]? = some y := by rfl) (hv : Vis X.env.scope y := by first | exact Or.inl rfl | exact Or.inr (Or.inl rfl) | exact Or.inr (Or.inr rfl)) (h1 : (y == ("__debug__" : Str)) = false := by decide) (h2 : (y == ("__classdict__" : Str)) = false := by decide)
    (hm : behindInMarks .In (.Name y p2) = false := by rfl) : ET X Γ B H (.Compare a [.In] [.Name y p2] pos) (m i).isSome := fun σ B1 H1 g ok Q k => by
  obtain ⟨kvs, c1, _, _, c2⟩ := hq.is
  refine wt_of (pt_cmp (pc_din (by omega) (pe X a) (pe_var hN hv h1 h2)) hm) (ha σ B1 H1 g ok _ fun v B2 H2 g2 r => ⟨_, (ok.grow g2).ok n _ hr, q, _, rfl, ?_, _, rfl, k _ _ g2⟩)
  rw [dp_int r, ← c2]
  exact DGet.k (k := Sum.inl i) ((g.trans g2).h _ _ c1)
theorem et_ninK {y : Str} {p2 : Pos} {sz : Nat} {m : Int → Option V} (n : Nat) (hr : Γ[n]? = some (.raw (.ref q))) (hq : Dk H q sz m) (hu : X.A.units + 64 < cLine) (ha : ED X Γ B H a (.int i)) (hN : X.N[n]? = some y := by rfl) (hv : Vis X.env.scope y := by first | exact Or.inl rfl | exact Or.inr (Or.inl rfl) | exact Or.inr (Or.inr rfl)) (h1 : (y == ("__debug__" : Str)) = false := by decide) (h2 : (y == ("__classdict__" : Str)) = false := by decide)
    (hm : behindInMarks .NotIn (.Name y p2) = false := by rfl) : ET X Γ B H (.Compare a [.NotIn] [.Name y p2] pos) (!(m i).isSome) := fun σ B1 H1 g ok Q k => by
  obtain ⟨kvs, c1, _, _, c2⟩ := hq.is
  refine wt_of (pt_cmp (pc_dnotin (by omega) (pe X a) (pe_var hN hv h1 h2)) hm) (ha σ B1 H1 g ok _ fun v B2 H2 g2 r => ⟨_, (ok.grow g2).ok n _ hr, q, _, rfl, ?_, _, rfl, k _ _ g2⟩)
  rw [dp_int r, ← c2]
  exact DGet.k (k := Sum.inl i) ((g.trans g2).h _ _ c1)
/-- d[k] -/
theorem ed_dgetK {y : Str} {p2 : Pos} {sz : Nat} {m : Int → Option V} {v : V} (n : Nat) (hr : Γ[n]? = some (.raw (.ref q))) (hq : Dk H q sz m) (hu : X.A.units + 64 < cLine) (hk : m i = some v) (hd : scV d = some v) (ha : ED X Γ B H a (.int i)) (hN : X.N[n]? = some y := by rfl) (hv : Vis X.env.scope y := by first | exact Or.inl rfl | exact Or.inr (Or.inl rfl) | exact Or.inr (Or.inr rfl)) (h1 : (y == ("__debug__" : Str)) = false := by decide) (h2 : (y == ("__classdict__" : Str)) = false := by decide)
    (hs : NoSl a := by exact fun _ _ => rfl) : ED X Γ B H (.Subscript (.Name y p2) a pos) d := fun σ B1 H1 g ok Q k => by
  obtain ⟨kvs, c1, _, _, c2⟩ := hq.is
  refine we_of (pe_dget (by omega) (pe_var hN hv h1 h2) (pe X a) hs) ⟨_, ok.ok n _ hr, ha σ B1 H1 g ok _ fun u B2 H2 g2 r => ⟨q, v, rfl, ?_, k _ _ _ g2 (by
    cases d <;> simp [scV] at hd <;> subst hd <;> constructor)⟩⟩
  rw [dp_int r, ← hk, ← c2]
  exact DGet.k (k := Sum.inl i) ((g.trans g2).h _ _ c1)
/-- d.get(k, x), ints -/
theorem ed_get2K {y : Str} {p2 cpos apos : Pos} {sz : Nat} {m : Int → Option V} {t : Int} (n : Nat) (hr : Γ[n]? = some (.raw (.ref q))) (hq : Dk H q sz m) (hu : X.A.units + 64 < cLine) (hk : (m i).getD (.int j) = .int t) (ha : ED X Γ B H a (.int i)) (hb : ED X Γ B H b (.int j)) (mm : M2 X (.Name y p2) "get" apos a b cpos) (hN : X.N[n]? = some y := by rfl) (hv : Vis X.env.scope y := by first | exact Or.inl rfl | exact Or.inr (Or.inl rfl) | exact Or.inr (Or.inr rfl)) (h1 : (y == ("__debug__" : Str)) = false := by decide) (h2 : (y == ("__classdict__" : Str)) = false := by decide) : ED X Γ B H (.Call (.Attribute (.Name y p2) "get" apos) [a, b] [] cpos) (.int t) := fun σ B1 H1 g ok Q k => by
  obtain ⟨kvs, c1, _, _, c2⟩ := hq.is
  refine we_of (pe_dget2 (by omega) (pe_var hN hv h1 h2) (pe X a) (pe X b) mm) ⟨_, ok.ok n _ hr, q, rfl, .inl ⟨kvs, .inl (g.h _ _ c1)⟩, ha σ B1 H1 g ok _ fun u B2 H2 g2 r => hb σ B2 H2 (g.trans g2) (ok.grow g2) _ fun u3 B3 H3 g3 r3 => ⟨m i, ?_, ?_⟩⟩
  · rw [dp_int r, ← c2]
    exact DGet.k (k := Sum.inl i) (((g.trans g2).trans g3).h _ _ c1)
  · rw [dp_int r3, hk]
    exact k _ _ _ (g2.trans g3) (.int _)
/-- x = {} and the like: a new dict at a name -/
theorem bd_setK {sz : Nat} {m : Int → Option V} (n : Nat) {y : Str} {pos' : Pos} (hN : X.N.Nodup) (he : EK X Γ B H e sz m) (k : ∀ q B2 H2, Grow B H B2 H2 → H q = none → B2 q = none → Dk H2 q sz m → BD X (Γ.set n (.raw (.ref q))) B2 H2 rest D)
    (hi : X.N[n]? = some y := by rfl) (hx : Loc X.env.scope y := by first | exact Or.inl rfl | exact Or.inr rfl) (hs : swapsWith e (some (.Name y pos')) pos.line X.env = pure false := by rfl)
    (hf : X.fn y = true ∨ X.env.scope.names.lookup y = some .local := by first | exact .inl rfl | exact .inr rfl) : BD X Γ B H (.Assign [.Name y pos'] e pos :: rest) D :=
  bd_setV n he (fun v B2 H2 g ⟨q, e, h0, hb, hd⟩ σ ok => by
    subst e
    exact k q B2 H2 g h0 hb hd _ (ok.set n (s := .raw (.ref q)) rfl)) hN hi hx hs hf
/-- d[k] = e -/
theorem bd_putK {y : Str} {p2 pos' : Pos} {sz : Nat} {m : Int → Option V} {v : V} (n : Nat) (hr : Γ[n]? = some (.raw (.ref q))) (hq : Dk H q sz m) (hb : B q = none) (hz : sz ≤ 1000000) (hu : X.A.units + 64 < cLine) (hd : scV d = some v) (he : ED X Γ B H e d) (ha : ED X Γ B H a (.int i))
    (k : ∀ B2 H2, Grow B H B2 H2 → B2 q = none → ∀ H3, Dk H3 q (sz + 1) (fun z => if z = i then some v else m z) → (∀ l, l ≠ q → H3 l = H2 l) → BD X Γ B2 H3 rest D)
    (hN : X.N[n]? = some y := by rfl) (hv : Vis X.env.scope y := by first | exact Or.inl rfl | exact Or.inr (Or.inl rfl) | exact Or.inr (Or.inr rfl)) (h1 : (y == ("__debug__" : Str)) = false := by decide) (h2 : (y == ("__classdict__" : Str)) = false := by decide)
    (hs : swapsWith e (some (.Subscript (.Name y p2) a pos')) pos.line X.env = pure false := by rfl) : BD X Γ B H (.Assign [.Subscript (.Name y p2) a pos'] e pos :: rest) D := fun σ ok => by
  obtain ⟨kvs, c1, c2, c3, c4⟩ := hq.is
  refine wb_cons (ps_dput (by omega) (pe_var hN hv h1 h2) (pe X a) (pe X e) hs) ?_
  refine he σ B H (Grow.refl ok.same) ok _ fun u B2 H2 g r => ⟨_, ok.ok n _ hr, ha σ B2 H2 g (ok.grow g) _ fun u3 B3 H3 g3 r3 => ?_⟩
  have gg := g.trans g3
  have hq3 := gg.h _ _ c1
  have hb3 := gg.out _ _ c1 hb
  have e3 : u3 = kV (Sum.inl i) := dp_int r3
  refine ⟨q, _, rfl, by rw [e3]; exact DPut.k hq3 (Nat.lt_of_le_of_lt (Nat.le_trans c2 hz) (by decide)), ?_⟩
  refine k B3 H3 gg hb3 _ ⟨_, upd_same, Nat.le_trans (putK_len _ _ _) (by omega), putK_nd _ _ _ c3, fun z => ?_⟩ (fun l hl => upd_ne hl) σ ((ok.grow gg).to (Same.refl _) (same_mut gg.bh hb3))
  rw [valV_put, scV_dp r hd, c4]
  have e1 : ((Sum.inl z : Key) = Sum.inl i) = (z = i) := by simp
  simp only [e1]
/-- d.update(e), e a new dict -/
theorem bd_updK {y : Str} {p2 cpos apos : Pos} {sz s2 : Nat} {m m2 : Int → Option V} (n : Nat) (hr : Γ[n]? = some (.raw (.ref q))) (hq : Dk H q sz m) (hb : B q = none) (hz : sz + s2 ≤ 1000000) (he : EK X Γ B H e s2 m2)
    (k : ∀ B2 H2, Grow B H B2 H2 → B2 q = none → ∀ H3, Dk H3 q (sz + s2) (fun z => (m2 z).or (m z)) → (∀ l, l ≠ q → H3 l = H2 l) → BD X Γ B2 H3 rest D)
    (hN : X.N[n]? = some y := by rfl) (hv : Vis X.env.scope y := by first | exact Or.inl rfl | exact Or.inr (Or.inl rfl) | exact Or.inr (Or.inr rfl)) (h1 : (y == ("__debug__" : Str)) = false := by decide) (h2 : (y == ("__classdict__" : Str)) = false := by decide)
    (hse : starEach [e] X.env = (false, eval e X.env) :: starEach [] X.env := by rfl)
    (hfew : ((backTo cpos (starEach [e] X.env)).all (fun x => !x.1) && (backToKw cpos (keywordEach [] X.env)).all (fun x => x.1.isSome) && decide ([e].length + ([] : List Keyword).length + (if ([] : List Keyword).isEmpty then 0 else 1) < 30)) = true := by rfl)
    (hline : (apos.endLine == cpos.line) = true := by rfl) : BD X Γ B H (.Expr (.Call (.Attribute (.Name y p2) "update" apos) [e] [] cpos) pos :: rest) D := fun σ ok => by
  obtain ⟨kvs, c1, c2, c3, c4⟩ := hq.is
  have c : MtR X "dict.update" (fun x xs H Q => ∃ a b ka kb, x = .ref a ∧ xs = [.ref b] ∧ a ≠ b ∧ H a = some (.dK ka) ∧ H b = some (.dK kb) ∧ ka.length + kb.length ≤ sizeLine ∧ Q .non (upd H a (.dK (mergeK ka kb)))) := by
    intro pins s σ H x xs v us Q I rx rxs h
    obtain ⟨a, b, ka, kb, rfl, rfl, ne, ha, hb, hz, kk⟩ := h
    cases rx
    obtain ⟨u, rfl, ru⟩ := rxs.one
    cases ru
    obtain ⟨z1, y1, va, r1, da⟩ := I.hok a _ ha
    obtain ⟨z2, y2, vb, r2, db⟩ := I.hok b _ hb
    refine call_meetsIn PySem.F.slot_dict_update da.typeIs PySem.F.entry_dict_update (PySem.F.args_dict_update_2 _ _) (meets_dict_update (mixKind X.prog X.w) a b ne y2) ⟨va, vb, da, db, by rw [← Paired.length r1, ← Paired.length r2]; exact hz, fun h' hm _ hs => ?_⟩
    refine ⟨.non, _, I.write (o := .dK (mergeK ka kb)) (t' := s.toks) (by rw [ha]; trivial) (.inl rfl) (fun b o hbo e => (hs.2 b hbo).trans e) (by obtain ⟨o, _, _, ho, _⟩ := hm; exact ⟨o, ho⟩) ?_, rfl, kk⟩
    exact ⟨Nat.le_trans (merge_len _ _) hz, y1, _, KV.merge r2 r1, hm⟩
  refine wb_cons (ps_expr (pe_bm PySem.F.plainAttrs_dict PySem.F.slot_dict_update PySem.F.type_dict_update c (pe_var hN hv h1 h2) (pa_cons (pe X e) pa_nil hse) (hfew := hfew) (hline := hline) (hs := hse))) ?_
  refine ⟨_, ok.ok n _ hr, .inr (.inr (.inl ⟨rfl, .inl ⟨_, c1⟩⟩)), he σ B H (Grow.refl ok.same) ok _ fun v B2 H2 g ⟨q2, e2, h0, hb2, hd2⟩ => ?_⟩
  subst e2
  obtain ⟨k2, f1, f2, f3, f4⟩ := hd2.is
  have hb3 := g.out _ _ c1 hb
  refine ⟨q, q2, kvs, k2, rfl, rfl, ne_of_none c1 h0, g.h _ _ c1, f1, Nat.le_trans (Nat.add_le_add c2 f2) (Nat.le_trans hz (by decide)), ?_⟩
  refine k B2 H2 g hb3 _ ⟨_, upd_same, Nat.le_trans (merge_len _ _) (by omega), merge_nd _ _ c3, fun z => ?_⟩ (fun l hl => upd_ne hl) σ ((ok.grow g).to (Same.refl _) (same_mut g.bh hb3))
  rw [valV_merge _ _ _ f3, f4, c4]
end
end Dc
/-! Own layer, part I: enumerate of a tuple, t[::-1]. -/
namespace Dc
open PySem PySem.Spec PyProof.Rows L2
set_option maxHeartbeats 8000000 in
theorem enum_newB {v : Value} {o : Obj} {G : Heap → Prop} (B : Begins v o G) :
    Meets (Builtin.«enumerate.__new__» ⟨[.type "enumerate", v], []⟩) (fun _ R s => G s.heap ∧
      R (.ok (.ret (.ref (s.heap.push o).objs.size))) { s with heap := (s.heap.push o).push { cls := .type "enumerate", data := .fields #[.none, .bool false, .ref s.heap.objs.size, rawInt 0, .none, .none] } }) :=
  .of_wp fun prog w A R s h => by
    obtain ⟨hp, g, d, tk, os⟩ := s; obtain ⟨h1, h⟩ := h
    have sub := sub_enumerate
    have q1 : ∀ {A' : Around} {E : Value → Shared → Prop} {Q : Value → Shared → Prop}, Q (.ref hp.objs.size) ⟨hp.push o, g, d, tk, os⟩ → wpAny (model prog w) A' (pyIter v) Q E ⟨hp, g, d, tk, os⟩ :=
      fun q => B.iter prog w _ _ ⟨hp, g, d, tk, os⟩ _ h1 q
    wp_walk using q1
    refine wpAny_stack_any fun st => wpAny_pure ?_
    split
    · rename_i c _ _ _ _ _
      cases (c == Value.type "enumerate")
      all_goals
        wp_walk using q1
        exact ⟨_, rfl, h⟩
    · wp_walk using q1
      exact ⟨_, rfl, h⟩
theorem enum_tup {prog : Program} {w : World} {A : Around} {E : Value → Shared → Prop} {s : Shared} {t : Addr} {items : Array Value} {Q : Value → Shared → Prop} (ht : s.heap.IsTuple t items)
    (h : ∀ h', IsEnum h' (s.heap.objs.size + 1) s.heap.objs.size 0 .none → h'.IsTupleIter s.heap.objs.size t 0 → (∀ b o, s.heap.get? b = some o → h'.get? b = some o) → Q (.ref (s.heap.objs.size + 1)) { s with heap := h' }) :
    wpAny (model prog w) A (call (.type "enumerate") [.ref t]) Q E s := by
  refine callType_new F.called_enumerate (by decide) (F.typeCall_enumerate_1 _) (F.newCall_enumerate_1 _) (fun obj => F.args_object_init_2 obj _) F.entry_enumerate_new (enum_newB (begins_tuple t items)) ⟨ht, ?_⟩
  generalize ho : ({ cls := .type "tuple_iterator", data := .fields #[.ref t, .int 0 0] } : Obj) = o
  have hf : o.isFreed = false := by subst ho; rfl
  have hz : (s.heap.push o).objs.size = s.heap.objs.size + 1 := Heap.size_push ..
  show _ ∧ _
  rw [hz]
  have he : IsEnum ((s.heap.push o).push { cls := .type "enumerate", data := .fields #[.none, .bool false, .ref s.heap.objs.size, rawInt 0, .none, .none] }) (s.heap.objs.size + 1) s.heap.objs.size 0 .none := by
    have := Heap.get?_push_size (s.heap.push o) (o := { cls := .type "enumerate", data := .fields #[.none, .bool false, .ref s.heap.objs.size, rawInt 0, .none, .none] }) rfl
    rw [hz] at this
    exact this
  refine ⟨⟨_, he, rfl⟩, h _ he ⟨o, Heap.get?_push_of_some _ (Heap.get?_push_size _ hf), by subst ho; rfl, by subst ho; rfl⟩ fun b o x => Heap.get?_push_of_some _ (Heap.get?_push_of_some _ x)⟩
/-- the tuple at a, each item in a new pair with its number -/
def Itet (K : PySem.W.Frag) (a : Addr) : It :=
  ⟨fun i H => ∃ (xs : List V) (x : V), SqT K H a xs ∧ xs[i]? = some x, fun i H v H' => ∃ T x, v = .ref T ∧ H T = none ∧ H' = upd H T (.tup [.int (i : Nat), x]) ∧ ∀ xs, SqT K H a xs → xs[i]? = some x, fun i H => ∃ xs : List V, SqT K H a xs ∧ xs.length ≤ i⟩
theorem turn_enumT {P : Program} {w : World} {K : PySem.W.Frag} {elts : List Expr} {kk : Nat} {tpos : Pos} (a e it : Addr) :
    Turn P w K (.Tuple elts kk tpos) (Itet K a) [e, it] e (fun i h => (∃ old, IsEnum h e it ((i : Nat) : Int) old) ∧ h.IsTupleIter it a i ∧ e ≠ it) where
  mem := by simp
  obj := fun i h st b hb => by
    obtain ⟨⟨old, he⟩, ⟨o, ho, hc, hd⟩, _⟩ := st
    rcases (show b = e ∨ b = it by simpa using hb) with z | z
    · rw [z]; exact ⟨_, he, fun v q => nomatch q⟩
    · rw [z]; exact ⟨o, ho, fun v q => by rw [hd] at q; cases q⟩
  keep := fun i h h' st k => let ⟨⟨old, he⟩, hi, hne⟩ := st; ⟨⟨old, k e (by simp) _ he⟩, hi.at fun o q => k it (by simp) o q, hne⟩
  item := by
    intro X hP hw hK hc i pins s σ H E I hf st hg
    subst hP hw hK
    obtain ⟨⟨old, he⟩, hit, hne⟩ := st
    obtain ⟨xs, x, hq, hx⟩ := hg
    obtain ⟨its, rv, p, hz⟩ := I.tuple hq
    obtain ⟨u, hu, ru⟩ := rv.get hx
    have hel : e < s.heap.objs.size := Heap.lt_size he
    have hil : it < s.heap.objs.size := by obtain ⟨_, q, _⟩ := hit; exact Heap.lt_size q
    have ht : s.heap.IsTuple a its.toArray := p
    have hai : a ≠ it := by
      rintro rfl
      obtain ⟨o, h1, h2, _⟩ := p
      obtain ⟨o', h3, h4, _⟩ := hit
      rw [h1] at h3
      cases h3
      rw [h2] at h4
      injection h4 with h4
      exact absurd h4 (by decide)
    have hae : a ≠ e := by
      rintro rfl
      obtain ⟨o, h1, h2, _⟩ := p
      have h3 : s.heap.get? a = some _ := he
      rw [h1] at h3
      cases h3
      have h4 : Value.type "enumerate" = Value.type "tuple" := h2
      injection h4 with h4
      exact absurd h4 (by decide)
    have D := Draws.tuple (prog := X.prog) (w := X.w) (A := X.A.in1) (I.ok.hd hc) it a hai its.toArray
    refine wpAny_pyNext_enum_itemD D he ⟨hit, ht⟩ (by simpa using (List.getElem?_eq_some_iff.mp hu).1) hne (by
      intro z
      rcases (show e = it ∨ e = a by simpa using z) with z | z
      · exact hne z
      · exact hae z.symm) fun y h' tk hy ho hst hT hsz hk => ?_
    have hyu : y = u := by
      have hy' : its[i]? = some y := by simpa using hy
      rw [hu] at hy'
      exact (Option.some.inj hy').symm
    subst hyu
    refine ⟨_, rfl, wpAny_letOwnedTupleGo_enum (s := { s with heap := h', toks := tk + 1 }) ho fun h'' he' sb => ?_⟩
    have hT2 : h''.get? s.heap.objs.size = some { cls := .type "tuple", data := .seq #[.int i tk, y] } := (sb.2 _ (Nat.ne_of_gt hel)).trans hT
    have new : ObjOk X.prog X.w (upd H s.heap.objs.size (.tup [.int (i : Nat), x])) h'' s.heap.objs.size (.tup [.int (i : Nat), x]) :=
      ⟨by show 2 ≤ sizeLine; decide, [.int i tk, y], .cons ⟨_, rfl⟩ (.cons ru .nil), ⟨_, hT2, rfl, _, rfl⟩⟩
    have I1 : Inv X pins σ (upd H s.heap.objs.size (.tup [.int (i : Nat), x])) { s with heap := h'', toks := tk + 1 } :=
      I.turnedNew (ch := [e, it]) (fun b ob hb q => (sb.2 b (fun z => hb (by simp [z]))).trans (hk b ob (fun z => hb (by simp [z])) (fun z => hb (by simp [z])) q)) hf (Nat.le_refl _) new
    refine ⟨.ref s.heap.objs.size, _, I1, rfl, ⟨_, x, rfl, I.hok.fresh (Nat.le_refl _), rfl, fun ys hy => by rw [I.tuple_inj hy hq]; exact hx⟩, ⟨⟨y, ?_⟩, hst.1.at fun o q => (sb.2 it (Ne.symm hne)).trans q, hne⟩, fun b hb => ?_⟩
    · have e1 : ((i + 1 : Nat) : Int) = (i : Int) + 1 := by omega
      rw [e1]; exact he'
    · have hb' : b < s.heap.objs.size := by
        rcases (show b = e ∨ b = it by simpa using hb) with z | z
        · rw [z]; exact hel
        · rw [z]; exact hil
      rw [upd_ne (Nat.ne_of_lt hb')]
      exact (hf b hb).1
  done := by
    intro X hP hw hK hc i pins s σ H E I hf st hg
    subst hP hw hK
    obtain ⟨⟨old, he⟩, hit, hne⟩ := st
    obtain ⟨xs, hq, hx⟩ := hg
    obtain ⟨its, rv, p, hz⟩ := I.tuple hq
    obtain ⟨f0, f1, f2, f3, f4, f5⟩ := hf it (by simp)
    have hl := rv.length
    have ht : s.heap.IsTuple a its.toArray := p
    have hai : a ≠ it := by
      rintro rfl
      obtain ⟨o, h1, h2, _⟩ := p
      obtain ⟨o', h3, h4, _⟩ := hit
      rw [h1] at h3
      cases h3
      rw [h2] at h4
      injection h4 with h4
      exact absurd h4 (by decide)
    have hT : s.TypeIs (.ref e) "enumerate" := ⟨_, he, rfl⟩
    unfold pyNext
    refine wpAny_bind (wpAny_attempt (wpAny_callSpecial?_slot (name := Str.ofString "__next__") hT F.slot_enumerate_next (wpAny_call_entry F.slot_enumerate_next hT F.entry_enumerate_next ?_ (F.args_enumerate_next_1 _))))
    show wpAny _ _ (field (.ref e) 2 >>= _) _ _ _
    refine wpAny_bind (wpAny_field he rfl (x := .ref it) rfl ?_)
    refine wpAny_bind (wpAny_nextOf_tuple_end (show (X.A.in1).handled = none from I.ok.hd hc) hit ht (by simp; omega) fun h' y he' hx' => ?_)
    obtain ⟨o, ho, hcs⟩ := hx'
    refine wpAny_bind (wpAny_isInstance (T := "StopIteration") (b := true) ⟨o, ho, hcs⟩ isSubtype_stop ?_)
    exact wpAny_pure ⟨rfl, I.turned (t' := s.toks) (fun b o hb q => he' b o hb q) f0 f1 f3 f4 f5⟩
  self := fun A i s Q E st h => let ⟨⟨_, he⟩, _⟩ := st; wpAny_pyIter_enum he h
section
variable {X : Cx} {Γ : List Sl} {B H B0 H0 : Hp} {e a b c tg iter elt : Expr} {es : List Expr} {pos p : Pos} {d da db : PyData} {ds es' : List PyData} {i j : Int} {x : Str} {K : PySem.W.Frag} {rest : List Stmt} {D : Ends} {q l : Addr}
theorem walks_enumT {q : Addr} {xs : List V} (h : SqT K B q xs) (hd : DpAll K B xs ds) : Walks K (Itet K q) B (numb ds) where
  go := fun i B1 H1 s1 s2 hi => by
    rw [numb_len] at hi
    have hl := dps_len hd
    exact ⟨xs, xs[i]'(by omega), Same.seqT s2 (Same.seqT s1 h), by simp⟩
  yld := fun i B1 H1 y H' s1 s2 hi hy => by
    obtain ⟨T, y', rfl, hT, rfl, qq⟩ := hy
    obtain ⟨d, h1, h2⟩ := dps_getV hd (qq xs (Same.seqT s2 (Same.seqT s1 h)))
    exact ⟨_, _, Grow.new s2 hT, numb_get h1, .tup (.inl (.inl upd_same)) (.cons (.int _) (.cons (dp_mono (s1.trans (same_new (s2.free hT))) h2) .nil))⟩
  stop := fun H1 s => ⟨xs, Same.seqT s h, by rw [numb_len, dps_len hd]; exact Nat.le_refl _⟩
theorem it_enumT {elts : List Expr} {kk : Nat} {tpos : Pos} (hm : X.mg "enumerate" = none) (ha : ED X Γ B H a (.tuple ds)) (hgl : Gl X "enumerate" := by rfl) (hs : starEach [a] X.env = [(false, eval a X.env)] := by rfl) : IterD X Γ B H (.Tuple elts kk tpos) (.Call (.Name "enumerate" p) [a] [] pos) (numb ds) := fun σ B1 H1 g ok R q pins s I =>
  Call_ (ld_blt I hgl hm boot_enumerate (PyProof.Rows.callWith_type1 (thn (ea_cons ha ea_nil hs σ B1 H1 g ok (fun vs H2 => ∃ B2 v, Grow B1 H1 B2 H2 ∧ vs = [v] ∧ Dp X.K B2 v (.tuple ds)) (fun vs B2 H2 g2 r => by
      obtain ⟨v, e, rv⟩ := one_dp r
      exact ⟨B2, v, g2, e, rv⟩) pos pins s I) fun us s1 ⟨vs, H2, I1, r1, B2, v, g2, ev, rv⟩ => by
    subst ev
    cases rv with
    | @tup q1 xs _ h1 h2 =>
      cases r1 with
      | cons r rr =>
        cases rr
        cases r
        obtain ⟨its, rr, p', hz⟩ := I1.tuple (Same.seqT g2.bh h1)
        refine enum_tup (show s1.heap.IsTuple q1 its.toArray from p') fun h' he hit hk => wpAny_pyIter_enum he ?_
        have I2 : Inv X pins σ H2 { s1 with heap := h' } := I1.kept (t' := s1.toks) hk
        refine ⟨s1.heap.objs.size + 1, [s1.heap.objs.size + 1, s1.heap.objs.size], _, _, H2, rfl, I2, turn_enumT q1 (s1.heap.objs.size + 1) s1.heap.objs.size, ⟨⟨.none, he⟩, hit, Nat.succ_ne_self _⟩, fun b hb => ?_, q _ _ _ g2 (walks_enumT h1 h2)⟩
        have hle : s1.heap.objs.size ≤ b := by
          rcases (show b = s1.heap.objs.size + 1 ∨ b = s1.heap.objs.size by simpa using hb) with z | z
          · rw [z]; exact Nat.le_add_right _ _
          · rw [z]; exact Nat.le_refl _
        exact I1.fpOk hle (I1.hok.fresh hle)) hs rfl))
end
end Dc
/-! Plain law, part M: lays and mates. -/
namespace Dc
abbrev Jt := Nat × Nat
structure Lay (L : Nat) (js : List Jt) : Prop where
  pos : 1 ≤ L
  le : L ≤ 12
  each : ∀ p ∈ js, p.1 < p.2 ∧ p.2 < 2 * L
  nd : (js.flatMap fun p => [p.1, p.2]).Nodup
  asc : js.Pairwise fun p q => p.1 < q.1
/-- a joint more -/
def put (m : Nat → Option Nat) (p : Jt) : Nat → Option Nat := fun z => if z = p.2 then some p.1 else if z = p.1 then some p.2 else m z
/-- the mate of an end, by joints, the later ones first -/
def mt (js : List Jt) : Nat → Option Nat := js.foldl put fun _ => none
theorem mt_snoc (js : List Jt) (p : Jt) : mt (js ++ [p]) = put (mt js) p := by
  unfold mt
  rw [List.foldl_append]
  rfl
abbrev ptsJ (js : List Jt) : List Nat := js.flatMap fun p => [p.1, p.2]
theorem pts_snoc (js : List Jt) (p : Jt) : ptsJ (js ++ [p]) = ptsJ js ++ [p.1, p.2] := by
  unfold ptsJ
  rw [List.flatMap_append]
  rfl
theorem pts_mem {js : List Jt} {z : Nat} : z ∈ ptsJ js ↔ ∃ p ∈ js, z = p.1 ∨ z = p.2 := by
  simp [ptsJ, List.mem_flatMap]
theorem take_snoc {α : Type} {l : List α} {i : Nat} {p : α} (h : l[i]? = some p) : l.take (i + 1) = l.take i ++ [p] := by
  rw [List.take_succ, h]
  rfl
/-- the i-th joint's ends are none of those before -/
theorem pts_new {js : List Jt} {i : Nat} {p : Jt} (h : js[i]? = some p) (nd : (ptsJ js).Nodup) : p.1 ∉ ptsJ (js.take i) ∧ p.2 ∉ ptsJ (js.take i) := by
  have e : js = js.take i ++ [p] ++ js.drop (i + 1) := by
    rw [← take_snoc h, List.take_append_drop]
  have n2 : (ptsJ (js.take i ++ [p])).Nodup := by
    rw [e] at nd
    unfold ptsJ at nd ⊢
    rw [List.flatMap_append] at nd
    exact (List.nodup_append.mp nd).1
  rw [pts_snoc] at n2
  have n3 := (List.nodup_append.mp n2).2.2
  exact ⟨fun z => n3 _ z _ (by simp) rfl, fun z => n3 _ z _ (by simp) rfl⟩
theorem fold_out {z : Nat} : ∀ (js : List Jt) (m : Nat → Option Nat), z ∉ ptsJ js → js.foldl put m z = m z
  | [], _, _ => rfl
  | p :: js, m, h => by
    have h1 : z ≠ p.1 ∧ z ≠ p.2 ∧ z ∉ ptsJ js := by
      simp only [ptsJ, List.flatMap_cons, List.mem_append, List.mem_cons, not_or] at h
      exact ⟨h.1.1, h.1.2.1, h.2⟩
    rw [List.foldl_cons, fold_out js _ h1.2.2]
    unfold put
    rw [if_neg h1.2.1, if_neg h1.1]
theorem fold_some {z w : Nat} : ∀ (js : List Jt) (m : Nat → Option Nat), js.foldl put m z = some w → (z, w) ∈ js ∨ (w, z) ∈ js ∨ m z = some w
  | [], _, h => .inr (.inr h)
  | p :: js, m, h => by
    rw [List.foldl_cons] at h
    rcases fold_some js _ h with q | q | q
    · exact .inl (List.mem_cons_of_mem _ q)
    · exact .inr (.inl (List.mem_cons_of_mem _ q))
    · unfold put at q
      split at q
      · rename_i e
        have := Option.some.inj q
        exact .inr (.inl (by rw [e, ← this]; exact List.mem_cons_self))
      · split at q
        · rename_i e
          have := Option.some.inj q
          exact .inl (by rw [e, ← this]; exact List.mem_cons_self)
        · exact .inr (.inr q)
theorem mt_some {js : List Jt} {z w : Nat} (h : mt js z = some w) : (z, w) ∈ js ∨ (w, z) ∈ js := by
  rcases fold_some js _ h with q | q | q
  · exact .inl q
  · exact .inr q
  · cases q
theorem mt_out {js : List Jt} {z : Nat} (h : z ∉ ptsJ js) : mt js z = none := fold_out js _ h
theorem mt_at {js : List Jt} {p : Jt} (nd : (ptsJ js).Nodup) (h : p ∈ js) : mt js p.1 = some p.2 ∧ mt js p.2 = some p.1 := by
  obtain ⟨xs, ys, rfl⟩ := List.append_of_mem h
  have e : ptsJ (xs ++ p :: ys) = ptsJ xs ++ (p.1 :: p.2 :: ptsJ ys) := by
    unfold ptsJ
    rw [List.flatMap_append, List.flatMap_cons]
    rfl
  rw [e] at nd
  have n1 := (List.nodup_append.mp nd).2.1
  rw [List.nodup_cons, List.nodup_cons, List.mem_cons, not_or] at n1
  obtain ⟨⟨n2, n3⟩, n4, n5⟩ := n1
  unfold mt
  rw [List.foldl_append, List.foldl_cons]
  rw [fold_out ys _ n3, fold_out ys _ n4]
  unfold put
  exact ⟨by rw [if_neg n2, if_pos rfl], by rw [if_pos rfl]⟩
theorem mt_iff {js : List Jt} (nd : (ptsJ js).Nodup) {z w : Nat} : mt js z = some w ↔ (z, w) ∈ js ∨ (w, z) ∈ js := by
  refine ⟨mt_some, fun h => ?_⟩
  rcases h with h | h
  · exact (mt_at nd h).1
  · exact (mt_at nd h).2
theorem mt_sym {js : List Jt} (nd : (ptsJ js).Nodup) {z w : Nat} (h : mt js z = some w) : mt js w = some z := (mt_iff nd).mpr ((mt_iff nd).mp h).symm
theorem mt_irr {L : Nat} {js : List Jt} (h : Lay L js) (z : Nat) : mt js z ≠ some z := fun q => by
  rcases mt_some q with r | r
  · exact absurd (h.each _ r).1 (Nat.lt_irrefl _)
  · exact absurd (h.each _ r).1 (Nat.lt_irrefl _)
theorem mt_lt {L : Nat} {js : List Jt} (h : Lay L js) {z w : Nat} (q : mt js z = some w) : z < 2 * L ∧ w < 2 * L := by
  rcases mt_some q with r | r
  · have := h.each _ r
    exact ⟨Nat.lt_trans this.1 this.2, this.2⟩
  · have := h.each _ r
    exact ⟨this.2, Nat.lt_trans this.1 this.2⟩
theorem nd_len : ∀ (n : Nat) (l : List Nat), l.Nodup → (∀ x ∈ l, x < n) → l.length ≤ n
  | 0, l, _, h => by
    cases l with
    | nil => exact Nat.le_refl _
    | cons a t => exact absurd (h a List.mem_cons_self) (Nat.not_lt_zero _)
  | n + 1, l, nd, h => by
    have ih := nd_len n (l.erase n) (nd.erase n) fun x hx => by
      have h1 := h x (List.mem_of_mem_erase hx)
      have h2 : x ≠ n := fun z => by
        subst z
        exact absurd hx (List.Nodup.not_mem_erase nd)
      omega
    by_cases hm : n ∈ l
    · rw [List.length_erase_of_mem hm] at ih
      omega
    · rw [List.erase_of_not_mem hm] at ih
      omega
theorem Lay.len {L : Nat} {js : List Jt} (h : Lay L js) : js.length ≤ 2 * L := by
  have h1 : (js.map (·.1)).Nodup := List.Pairwise.map _ (fun a b (q : a.1 < b.1) => Nat.ne_of_lt q) h.asc
  have h2 := nd_len (2 * L) _ h1 fun x hx => by
    obtain ⟨p, hp, rfl⟩ := List.mem_map.mp hx
    have := h.each p hp
    omega
  simpa using h2
theorem sub_perm {α : Type} [DecidableEq α] : ∀ {l1 l2 : List α}, l1.Nodup → (∀ x ∈ l1, x ∈ l2) → ∃ l3, l2.Perm (l1 ++ l3)
  | [], l2, _, _ => ⟨l2, List.Perm.refl _⟩
  | a :: l1, l2, nd, h => by
    rw [List.nodup_cons] at nd
    have ha := h a List.mem_cons_self
    have p1 : l2.Perm (a :: l2.erase a) := List.perm_cons_erase ha
    obtain ⟨l3, p2⟩ := sub_perm (l1 := l1) (l2 := l2.erase a) nd.2 fun x hx => by
      have hx2 := h x (List.mem_cons_of_mem _ hx)
      have : x ≠ a := fun z => nd.1 (z ▸ hx)
      exact (List.mem_erase_of_ne this).mpr hx2
    exact ⟨l3, p1.trans (p2.cons a)⟩
theorem perm_of_sub {α : Type} [DecidableEq α] {l1 l2 : List α} (nd : l1.Nodup) (h : ∀ x ∈ l1, x ∈ l2) (hl : l1.length = l2.length) : l1.Perm l2 := by
  obtain ⟨l3, p⟩ := sub_perm nd h
  have := p.length_eq
  rw [List.length_append] at this
  have e : l3 = [] := List.length_eq_zero_iff.mp (by omega)
  rw [e, List.append_nil] at p
  exact p.symm
/-- the joint of two ends -/
def jo (a b : Nat) : Jt := if a < b then (a, b) else (b, a)
end Dc
/-! Own layer, part F: the text by places, the data of lays. -/
namespace Dc
open PySem PySem.Spec PyProof.Rows L2
def top (i : Nat) : Stmt := PySem.Challenge.pw_doublecut_k59_whole_least_numbers_measur.main.body.getD i (.Pass ⟨0, 0, 0, 0⟩)
def eN (n : Nat) : PyData := .int (n : Nat)
def eO : Option Nat → PyData
  | none => .none
  | some n => .int (n : Nat)
def eJ (p : Jt) : PyData := .tuple [.int (p.1 : Nat), .int (p.2 : Nat)]
def eLay (L : Nat) (js : List Jt) : PyData := .tuple [.int (L : Nat), .tuple (js.map eJ)]
def eMates (L : Nat) (m : Nat → Option Nat) : List PyData := (List.range (2 * L)).map fun z => eO (m z)
theorem eMates_len (L : Nat) (m : Nat → Option Nat) : (eMates L m).length = 2 * L := by simp [eMates]
theorem eMates_get {L z : Nat} (m : Nat → Option Nat) (h : z < 2 * L) : (eMates L m)[z]? = some (eO (m z)) := by simp [eMates, h]
theorem eMates_set {L a : Nat} (m : Nat → Option Nat) (b : Nat) : (eMates L m).set a (.int (b : Nat)) = eMates L (fun z => if z = a then some b else m z) := by
  refine List.ext_getElem? fun i => ?_
  by_cases q : a = i
  · subst q
    by_cases h : a < 2 * L
    · rw [List.getElem?_set_self (by rw [eMates_len]; exact h), eMates_get _ h]
      simp [eO]
    · rw [List.getElem?_eq_none (by simp [eMates]; omega), List.getElem?_eq_none (by simp [eMates]; omega)]
  · rw [List.getElem?_set_ne q]
    by_cases h : i < 2 * L
    · rw [eMates_get _ h, eMates_get _ h, if_neg (fun z => q z.symm)]
    · rw [List.getElem?_eq_none (by simp [eMates]; omega), List.getElem?_eq_none (by simp [eMates]; omega)]
theorem eMates_none (L : Nat) : List.replicate (2 * L) PyData.none = eMates L fun _ => none := by
  unfold eMates
  refine List.ext_getElem? fun i => ?_
  by_cases h : i < 2 * L <;> simp [h, eO]
/-- what a def is told of the module -/
structure Bi (mg : Str → Option Value) : Prop where
  len : mg "len" = none
  all : mg "all" = none
  abs : mg "abs" = none
  min : mg "min" = none
  max : mg "max" = none
  int : mg "int" = none
  bool : mg "bool" = none
  list : mg "list" = none
  tuple : mg "tuple" = none
  range : mg "range" = none
  enumerate : mg "enumerate" = none
  sorted : mg "sorted" = none
  sum : mg "sum" = none
  isinstance : mg "isinstance" = none
  repr : mg "repr" = none
/-! pairs as targets -/
def prG (j k : Nat) (d : PyData) (Γ : List Sl) : List Sl := match d with
  | .tuple [a, b] => (Γ.set j (.dat a)).set k (.dat b)
  | _ => Γ
def IsPr (d : PyData) : Prop := ∃ a b, d = .tuple [a, b]
theorem tg_pr {K : PySem.W.Frag} {d : PyData} {Γ : List Sl} (j k : Nat) (h : IsPr d) : TgD K (gTup K 2 (gCons (gName j) (gCons (gName k) gNil))) [j, k] d Γ (prG j k d Γ) := by
  obtain ⟨a, b, rfl⟩ := h
  exact tg_two j k
theorem pr_eJ {js : List Jt} : ∀ d ∈ js.map eJ, IsPr d := fun d h => by
  obtain ⟨p, _, rfl⟩ := List.mem_map.mp h
  exact ⟨_, _, rfl⟩
theorem pr_numb {ds : List PyData} : ∀ d ∈ numb ds, IsPr d := fun d h => by
  obtain ⟨p, _, rfl⟩ := List.mem_map.mp h
  exact ⟨_, _, rfl⟩
theorem at_eJ {js : List Jt} {i : Nat} {d : PyData} (h : (js.map eJ)[i]? = some d) : ∃ p, js[i]? = some p ∧ d = eJ p := by
  rw [List.getElem?_map] at h
  cases q : js[i]? with
  | none => rw [q] at h; cases h
  | some p => rw [q] at h; exact ⟨p, rfl, (Option.some.inj h).symm⟩
theorem at_numb {ds : List PyData} {i : Nat} {d : PyData} (h : (numb ds)[i]? = some d) : ∃ e, ds[i]? = some e ∧ d = .tuple [.int (i : Nat), e] := by
  have hl : i < (numb ds).length := (List.getElem?_eq_some_iff.mp h).1
  rw [numb_len] at hl
  rw [numb_get' hl] at h
  exact ⟨ds[i], by simp [hl], (Option.some.inj h).symm⟩
end Dc
/-! Own layer, part J: several targets at once. -/
namespace Dc
open PySem PySem.Spec PyProof.Rows L2
section
variable {X : Cx} {Γ : List Sl} {B H B0 H0 : Hp} {e a b c tg iter elt : Expr} {es : List Expr} {pos p : Pos} {d da db : PyData} {ds es' : List PyData} {x y z : Str} {K : PySem.W.Frag} {rest : List Stmt} {D : Ends} {q l : Addr}
abbrev RV4 := V → Hp → Hp → Hp → Prop
theorem ta_two {Ra Rb : RV4} (ha : EV X Γ B H a Ra) (hb : EV X Γ B H b Rb) {σ : L2.St} (ok : Good X.K Γ σ B H) {Q : List V → Hp → Prop} (k : ∀ v1 v2 B1 H1 B2 H2, Grow B H B1 H1 → Ra v1 H B1 H1 → Grow B1 H1 B2 H2 → Rb v2 H1 B2 H2 → Q [v1, v2] H2) : tCons (WE X a) (tCons (WE X b) tNil) σ H Q :=
  ha σ B H (Grow.refl ok.same) ok _ fun v1 B1 H1 g1 r1 => hb σ B1 H1 g1 (ok.grow g1) _ fun v2 B2 H2 g2 r2 => k v1 v2 B1 H1 B2 H2 g1 r1 g2 r2
theorem ta_three {Ra Rb Rc : RV4} (ha : EV X Γ B H a Ra) (hb : EV X Γ B H b Rb) (hc : EV X Γ B H c Rc) {σ : L2.St} (ok : Good X.K Γ σ B H) {Q : List V → Hp → Prop} (k : ∀ v1 v2 v3 B1 H1 B2 H2 B3 H3, Grow B H B1 H1 → Ra v1 H B1 H1 → Grow B1 H1 B2 H2 → Rb v2 H1 B2 H2 → Grow B2 H2 B3 H3 → Rc v3 H2 B3 H3 → Q [v1, v2, v3] H3) : tCons (WE X a) (tCons (WE X b) (tCons (WE X c) tNil)) σ H Q :=
  ha σ B H (Grow.refl ok.same) ok _ fun v1 B1 H1 g1 r1 => hb σ B1 H1 g1 (ok.grow g1) _ fun v2 B2 H2 g2 r2 => hc σ B2 H2 (g1.trans g2) ((ok.grow g1).grow g2) _ fun v3 B3 H3 g3 r3 => k v1 v2 v3 B1 H1 B2 H2 B3 H3 g1 r1 g2 r2 g3 r3
/-- x, y = a, b: plain locals -/
theorem bd_par2 {Ra Rb : RV4} {px py pt pt2 : Pos} {kt k2 : Nat} (i j : Nat) (hc : X.calm = true) (hN : X.N.Nodup) (hij : i ≠ j) (ha : EV X Γ B H a Ra) (hb : EV X Γ B H b Rb)
    (k : ∀ v1 v2 B1 H1 B2 H2, Grow B H B1 H1 → Ra v1 H B1 H1 → Grow B1 H1 B2 H2 → Rb v2 H1 B2 H2 → ∀ σ, Good X.K Γ σ B2 H2 → WB X rest D ((σ.set i (some v1)).set j (some v2)) H2)
    (hi : X.N[i]? = some x := by rfl) (hj : X.N[j]? = some y := by rfl) (hx : X.env.scope.names.lookup x = some .local := by rfl) (hy : X.env.scope.names.lookup y = some .local := by rfl)
    (hw : swappedStores [.Tuple [.Name x px, .Name y py] kt pt] (.Tuple [a, b] k2 pt2) X.env = pure (some [x, y]) := by rfl)
    (hs : swapsWithSole [.Tuple [.Name x px, .Name y py] kt pt] (.Tuple [a, b] k2 pt2) pos.line X.env = pure false := by rfl)
    (h1 : starEach [a, b] X.env = (false, eval a X.env) :: starEach [b] X.env := by rfl) (h2 : starEach [b] X.env = (false, eval b X.env) :: starEach [] X.env := by rfl) :
    BD X Γ B H (.Assign [.Tuple [.Name x px, .Name y py] kt pt] (.Tuple [a, b] k2 pt2) pos :: rest) D := fun σ ok =>
  wb_cons (ps_par hc hN hi hj hij hx hy (pa_cons (pe X a) (pa_cons (pe X b) pa_nil h2) h1) hw hs) (ta_two ha hb ok fun v1 v2 B1 H1 B2 H2 g1 r1 g2 r2 => ⟨v1, v2, rfl, k v1 v2 B1 H1 B2 H2 g1 r1 g2 r2 σ ((ok.grow g1).grow g2)⟩)
theorem bd_par3 {Ra Rb Rc : RV4} {px py pz pt pt2 : Pos} {kt k2 : Nat} (i j n : Nat) (hc : X.calm = true) (hN : X.N.Nodup) (hij : i ≠ j) (hin : i ≠ n) (hjn : j ≠ n) (ha : EV X Γ B H a Ra) (hb : EV X Γ B H b Rb) (hcc : EV X Γ B H c Rc)
    (k : ∀ v1 v2 v3 B1 H1 B2 H2 B3 H3, Grow B H B1 H1 → Ra v1 H B1 H1 → Grow B1 H1 B2 H2 → Rb v2 H1 B2 H2 → Grow B2 H2 B3 H3 → Rc v3 H2 B3 H3 → ∀ σ, Good X.K Γ σ B3 H3 → WB X rest D (((σ.set i (some v1)).set j (some v2)).set n (some v3)) H3)
    (hi : X.N[i]? = some x := by rfl) (hj : X.N[j]? = some y := by rfl) (hn : X.N[n]? = some z := by rfl) (hx : X.env.scope.names.lookup x = some .local := by rfl) (hy : X.env.scope.names.lookup y = some .local := by rfl) (hz : X.env.scope.names.lookup z = some .local := by rfl)
    (hw : swappedStores [.Tuple [.Name x px, .Name y py, .Name z pz] kt pt] (.Tuple [a, b, c] k2 pt2) X.env = pure (some [x, y, z]) := by rfl)
    (hs : swapsWithSole [.Tuple [.Name x px, .Name y py, .Name z pz] kt pt] (.Tuple [a, b, c] k2 pt2) pos.line X.env = pure false := by rfl)
    (h1 : starEach [a, b, c] X.env = (false, eval a X.env) :: starEach [b, c] X.env := by rfl) (h2 : starEach [b, c] X.env = (false, eval b X.env) :: starEach [c] X.env := by rfl) (h3 : starEach [c] X.env = (false, eval c X.env) :: starEach [] X.env := by rfl) :
    BD X Γ B H (.Assign [.Tuple [.Name x px, .Name y py, .Name z pz] kt pt] (.Tuple [a, b, c] k2 pt2) pos :: rest) D := fun σ ok =>
  wb_cons (ps_par3 hc hN hi hj hn hij hin hjn hx hy hz (pa_cons (pe X a) (pa_cons (pe X b) (pa_cons (pe X c) pa_nil h3) h2) h1) hw hs) (ta_three ha hb hcc ok fun v1 v2 v3 B1 H1 B2 H2 B3 H3 g1 r1 g2 r2 g3 r3 => ⟨v1, v2, v3, rfl, k v1 v2 v3 B1 H1 B2 H2 B3 H3 g1 r1 g2 r2 g3 r3 σ (((ok.grow g1).grow g2).grow g3)⟩)
/-- x, y = a, b by way of a tuple -/
theorem bd_asg2 {Ra Rb : RV4} {px py pt pt2 : Pos} {kt k2 : Nat} (i j : Nat) (hc : X.calm = true) (hN : X.N.Nodup) (ha : EV X Γ B H a Ra) (hb : EV X Γ B H b Rb)
    (k : ∀ v1 v2 B1 H1 B2 H2 q H3, Grow B H B1 H1 → Ra v1 H B1 H1 → Grow B1 H1 B2 H2 → Rb v2 H1 B2 H2 → Grow B2 H2 B2 H3 → H2 q = none → (∀ l, l ≠ q → H3 l = H2 l) → ∀ σ, Good X.K Γ σ B2 H3 → WB X rest D ((σ.set i (some v1)).set j (some v2)) H3)
    (hi : X.N[i]? = some x := by rfl) (hj : X.N[j]? = some y := by rfl) (hx : Loc X.env.scope x := by first | exact Or.inl rfl | exact Or.inr rfl) (hy : Loc X.env.scope y := by first | exact Or.inl rfl | exact Or.inr rfl)
    (hfx : X.fn x = true ∨ X.env.scope.names.lookup x = some .local := by first | exact .inl rfl | exact .inr rfl) (hfy : X.fn y = true ∨ X.env.scope.names.lookup y = some .local := by first | exact .inl rfl | exact .inr rfl)
    (q1 : swapsWithSole [.Tuple [.Name x px, .Name y py] kt pt] (.Tuple [a, b] k2 pt2) pos.line X.env = pure false := by rfl) (q2 : swappedStores [.Tuple [.Name x px, .Name y py] kt pt] (.Tuple [a, b] k2 pt2) X.env = pure none := by rfl)
    (q3 : (assignEach [.Tuple [.Name x px, .Name y py] kt pt] X.env).map (·.2) = [assign (.Tuple [.Name x px, .Name y py] kt pt) X.env] := by rfl)
    (h1 : starEach [a, b] X.env = (false, eval a X.env) :: starEach [b] X.env := by rfl) (h2 : starEach [b] X.env = (false, eval b X.env) :: starEach [] X.env := by rfl)
    (e1 : (assignEach [.Name x px, .Name y py] X.env).map (·.2) = assign (.Name x px) X.env :: (assignEach [.Name y py] X.env).map (·.2) := by rfl) (e2 : (assignEach [.Name y py] X.env).map (·.2) = assign (.Name y py) X.env :: (assignEach [] X.env).map (·.2) := by rfl) (e3 : (assignEach [.Name x px, .Name y py] X.env).length = 2 := by rfl) (e4 : (assignEach [.Name x px, .Name y py] X.env).findIdx? (·.1) = none := by rfl) :
    BD X Γ B H (.Assign [.Tuple [.Name x px, .Name y py] kt pt] (.Tuple [a, b] k2 pt2) pos :: rest) D := fun σ ok =>
  wb_cons (ps_asg (pe_tup (pa_cons (pe X a) (pa_cons (pe X b) pa_nil h2) h1)) (pg_tup hc (pgs_cons (pg_name hN hi hx hfx) (pgs_cons (pg_name hN hj hy hfy) pgs_nil e2) e1) e3 e4) q1 q2 q3) (ta_two (Q := fun xs H1 => xs.length ≤ sizeLine ∧ ∀ p, H1 p = none → gTup X.K 2 (gCons (gName i) (gCons (gName j) gNil)) (.ref p) σ (upd H1 p (.tup xs)) (nxt X rest D).nx) ha hb ok fun v1 v2 B1 H1 B2 H2 g1 r1 g2 r2 => ⟨by show 2 ≤ sizeLine; decide, fun q hq =>
    ⟨q, [v1, v2], rfl, .inl (.inl upd_same), rfl, v1, _, rfl, v2, _, rfl, rfl, k v1 v2 B1 H1 B2 H2 q _ g1 r1 g2 r2 (Grow.newM g2.bh hq) hq (fun l hl => upd_ne hl) σ (((ok.grow g1).grow g2).grow (Grow.newM g2.bh hq))⟩⟩)
theorem bd_asg3 {Ra Rb Rc : RV4} {px py pz pt pt2 : Pos} {kt k2 : Nat} (i j n : Nat) (hc : X.calm = true) (hN : X.N.Nodup) (ha : EV X Γ B H a Ra) (hb : EV X Γ B H b Rb) (hcc : EV X Γ B H c Rc)
    (k : ∀ v1 v2 v3 B1 H1 B2 H2 B3 H3 q H4, Grow B H B1 H1 → Ra v1 H B1 H1 → Grow B1 H1 B2 H2 → Rb v2 H1 B2 H2 → Grow B2 H2 B3 H3 → Rc v3 H2 B3 H3 → Grow B3 H3 B3 H4 → H3 q = none → (∀ l, l ≠ q → H4 l = H3 l) → ∀ σ, Good X.K Γ σ B3 H4 → WB X rest D (((σ.set i (some v1)).set j (some v2)).set n (some v3)) H4)
    (hi : X.N[i]? = some x := by rfl) (hj : X.N[j]? = some y := by rfl) (hn : X.N[n]? = some z := by rfl) (hx : Loc X.env.scope x := by first | exact Or.inl rfl | exact Or.inr rfl) (hy : Loc X.env.scope y := by first | exact Or.inl rfl | exact Or.inr rfl) (hz : Loc X.env.scope z := by first | exact Or.inl rfl | exact Or.inr rfl)
    (hfx : X.fn x = true ∨ X.env.scope.names.lookup x = some .local := by first | exact .inl rfl | exact .inr rfl) (hfy : X.fn y = true ∨ X.env.scope.names.lookup y = some .local := by first | exact .inl rfl | exact .inr rfl) (hfz : X.fn z = true ∨ X.env.scope.names.lookup z = some .local := by first | exact .inl rfl | exact .inr rfl)
    (q1 : swapsWithSole [.Tuple [.Name x px, .Name y py, .Name z pz] kt pt] (.Tuple [a, b, c] k2 pt2) pos.line X.env = pure false := by rfl) (q2 : swappedStores [.Tuple [.Name x px, .Name y py, .Name z pz] kt pt] (.Tuple [a, b, c] k2 pt2) X.env = pure none := by rfl)
    (q3 : (assignEach [.Tuple [.Name x px, .Name y py, .Name z pz] kt pt] X.env).map (·.2) = [assign (.Tuple [.Name x px, .Name y py, .Name z pz] kt pt) X.env] := by rfl)
    (h1 : starEach [a, b, c] X.env = (false, eval a X.env) :: starEach [b, c] X.env := by rfl) (h2 : starEach [b, c] X.env = (false, eval b X.env) :: starEach [c] X.env := by rfl) (h3 : starEach [c] X.env = (false, eval c X.env) :: starEach [] X.env := by rfl)
    (e1 : (assignEach [.Name x px, .Name y py, .Name z pz] X.env).map (·.2) = assign (.Name x px) X.env :: (assignEach [.Name y py, .Name z pz] X.env).map (·.2) := by rfl) (e2 : (assignEach [.Name y py, .Name z pz] X.env).map (·.2) = assign (.Name y py) X.env :: (assignEach [.Name z pz] X.env).map (·.2) := by rfl) (e22 : (assignEach [.Name z pz] X.env).map (·.2) = assign (.Name z pz) X.env :: (assignEach [] X.env).map (·.2) := by rfl) (e3 : (assignEach [.Name x px, .Name y py, .Name z pz] X.env).length = 3 := by rfl) (e4 : (assignEach [.Name x px, .Name y py, .Name z pz] X.env).findIdx? (·.1) = none := by rfl) :
    BD X Γ B H (.Assign [.Tuple [.Name x px, .Name y py, .Name z pz] kt pt] (.Tuple [a, b, c] k2 pt2) pos :: rest) D := fun σ ok =>
  wb_cons (ps_asg (pe_tup (pa_cons (pe X a) (pa_cons (pe X b) (pa_cons (pe X c) pa_nil h3) h2) h1)) (pg_tup hc (pgs_cons (pg_name hN hi hx hfx) (pgs_cons (pg_name hN hj hy hfy) (pgs_cons (pg_name hN hn hz hfz) pgs_nil e22) e2) e1) e3 e4) q1 q2 q3) (ta_three (Q := fun xs H1 => xs.length ≤ sizeLine ∧ ∀ p, H1 p = none → gTup X.K 3 (gCons (gName i) (gCons (gName j) (gCons (gName n) gNil))) (.ref p) σ (upd H1 p (.tup xs)) (nxt X rest D).nx) ha hb hcc ok fun v1 v2 v3 B1 H1 B2 H2 B3 H3 g1 r1 g2 r2 g3 r3 => ⟨by show 3 ≤ sizeLine; decide, fun q hq =>
    ⟨q, [v1, v2, v3], rfl, .inl (.inl upd_same), rfl, v1, _, rfl, v2, _, rfl, v3, _, rfl, rfl, k v1 v2 v3 B1 H1 B2 H2 B3 H3 q _ g1 r1 g2 r2 g3 r3 (Grow.newM g3.bh hq) hq (fun l hl => upd_ne hl) σ ((((ok.grow g1).grow g2).grow g3).grow (Grow.newM g3.bh hq))⟩⟩)
end
end Dc
/-! Own layer, part J2: list(range(..)), ints in lists of ints. -/
namespace Dc
open PySem PySem.Spec PyProof.Rows L2
section
variable {X : Cx} {Γ : List Sl} {B H B0 H0 : Hp} {e a b c tg iter elt : Expr} {es : List Expr} {pos p p2 pos2 : Pos} {d da db : PyData} {ds es' : List PyData} {i j : Int} {x y z : Str} {K : PySem.W.Frag} {rest : List Stmt} {D : Ends} {q l : Addr}
theorem rgV_dps {n : Nat} (h : j = i + (n : Int)) : DpAll K B (rgV i j) (rng i n) := by
  unfold rgV rng
  have e : (j - i).toNat = n := by omega
  rw [e]
  generalize List.range n = l
  induction l with
  | nil => exact .nil
  | cons a t ih => exact .cons (.int _) ih
theorem el_listR1 {n : Nat} (hi : i = (n : Int)) (hn : n ≤ 1000000) (hc : X.calm = true) (hm : X.mg "range" = none) (hm2 : X.mg "list" = none) (ha : ED X Γ B H a (.int i)) (hgl : Gl X "range" := by rfl) (hg2 : Gl X "list" := by rfl) (hs : starEach [a] X.env = (false, eval a X.env) :: starEach [] X.env := by rfl)
    (na : starEach [.Call (.Name "range" p2) [a] [] pos2] X.env = (false, eval (.Call (.Name "range" p2) [a] [] pos2) X.env) :: starEach [] X.env := by rfl) : EL X Γ B H (.Call (.Name "list" p) [.Call (.Name "range" p2) [a] [] pos2] [] pos) (rng 0 n) := fun σ B1 H1 g ok Q k =>
  we_of (pe_listRg hc hg2 hm2 (prg_1 hgl hm (pe X a) hs) na) (ha σ B1 H1 g ok _ fun v B2 H2 g2 r => ⟨i, dp_int r, ⟨by omega, by omega, by omega, by omega, by omega⟩, fun q hq => k _ _ _ (g2.trans (Grow.newM g2.bh hq)) ⟨q, _, rfl, g2.h.free hq, upd_same, g2.bh.free hq, rgV_dps (by omega)⟩⟩)
theorem el_listR2 {n : Nat} (hi : j = i + (n : Int)) (h0 : -1000000 ≤ i) (h1 : i ≤ 1000000) (hn : n ≤ 1000000) (hc : X.calm = true) (hm : X.mg "range" = none) (hm2 : X.mg "list" = none) (ha : ED X Γ B H a (.int i)) (hb : ED X Γ B H b (.int j)) (hgl : Gl X "range" := by rfl) (hg2 : Gl X "list" := by rfl)
    (hs : starEach [a, b] X.env = (false, eval a X.env) :: starEach [b] X.env := by rfl) (hs2 : starEach [b] X.env = (false, eval b X.env) :: starEach [] X.env := by rfl) (hp : (backTo pos2 (starEach [b] X.env)).any (·.1) = false := by rfl)
    (na : starEach [.Call (.Name "range" p2) [a, b] [] pos2] X.env = (false, eval (.Call (.Name "range" p2) [a, b] [] pos2) X.env) :: starEach [] X.env := by rfl) : EL X Γ B H (.Call (.Name "list" p) [.Call (.Name "range" p2) [a, b] [] pos2] [] pos) (rng i n) := fun σ B1 H1 g ok Q k =>
  we_of (pe_listRg hc hg2 hm2 (prg_2 hgl hm (pe X a) (pe X b) hs hs2 hp) na) (ha σ B1 H1 g ok _ fun v B2 H2 g2 r => hb σ B2 H2 (g.trans g2) (ok.grow g2) _ fun u B3 H3 g3 r3 => ⟨i, j, dp_int r, dp_int r3, ⟨by omega, by omega, by omega, by omega, by omega⟩, fun q hq => k _ _ _ ((g2.trans g3).trans (Grow.newM g3.bh hq)) ⟨q, _, rfl, (g2.trans g3).h.free hq, upd_same, g3.bh.free hq, rgV_dps hi⟩⟩)
end
theorem eqv_int (a b : Int) : PyData.eqv (.int a) (.int b) = decide (a = b) := by
  simp only [PyData.eqv]
  by_cases h : a = b
  · subst h; simp
  · rw [decide_eq_false h]
    simpa using h
theorem in_ints (ns : List Int) (x : Int) : ((ns.map PyData.int).any fun z => PyData.eqv z (.int x)) = decide (x ∈ ns) := by
  induction ns with
  | nil => rfl
  | cons n ns ih =>
    rw [List.map_cons, List.any_cons, ih, eqv_int]
    by_cases h : n = x
    · subst h; simp
    · rw [decide_eq_false h, Bool.false_or]
      have : (x ∈ n :: ns) ↔ x ∈ ns := by simp [Ne.symm h]
      exact decide_eq_decide.mpr this.symm
theorem lay_ints (ns : List Int) : PyData.canLayAll0 (ns.map PyData.int) = true := by
  induction ns with
  | nil => simp [PyData.canLayAll0]
  | cons n ns ih => simp [PyData.canLayAll0, PyData.canLay0, ih]
theorem lay_int (n : Int) : PyData.canLay0 (.int n) = true := by simp [PyData.canLay0]
theorem dep_ints (ns : List Int) : PyData.depth (.list (ns.map PyData.int)) ≤ 60 := by
  rw [PyData.depth, PySem.W.depth_ints]
  decide
theorem dep_int (n : Int) : PyData.depth (.int n) ≤ 60 := by simp [PyData.depth]
end Dc
/-! Own layer, part J3: shortcuts: lists of items told by e, pairs of plain locals. -/
namespace Dc
open PySem PySem.Spec PyProof.Rows L2
def asgE : Stmt → Expr
  | .Assign _ e _ => e
  | .Return (some e) _ => e
  | .Expr e _ => e
  | _ => .Constant .none 0 ⟨0, 0, 0, 0⟩
def cSc : Expr → Scope → Scope
  | .ListComp _ _ s _, _ => s
  | _, s => s
noncomputable section
open Classical
def fOf {α : Type} (e : α → PyData) (f : α → Bool) : PyData → Bool := fun d => decide (∃ x, e x = d ∧ f x = true)
def vOf {α : Type} (e : α → PyData) (v : α → PyData) : PyData → PyData := fun d => if h : ∃ x, e x = d then v (choose h) else .none
theorem fOf_at {α : Type} {e : α → PyData} (inj : ∀ a b, e a = e b → a = b) (f : α → Bool) (x : α) : fOf e f (e x) = f x := by
  unfold fOf
  by_cases h : f x = true
  · rw [h]
    exact decide_eq_true ⟨x, rfl, h⟩
  · have h' : f x = false := by simpa using h
    rw [h']
    exact decide_eq_false fun ⟨y, h1, h2⟩ => h (inj _ _ h1 ▸ h2)
theorem vOf_at {α : Type} {e : α → PyData} (inj : ∀ a b, e a = e b → a = b) (v : α → PyData) (x : α) : vOf e v (e x) = v x := by
  unfold vOf
  have h : ∃ y, e y = e x := ⟨x, rfl⟩
  rw [dif_pos h, inj _ _ (choose_spec h)]
theorem of_map {α : Type} {e : α → PyData} (inj : ∀ a b, e a = e b → a = b) (f : α → Bool) (v : α → PyData) (xs : List α) : ((xs.map e).filter (fOf e f)).map (vOf e v) = (xs.filter f).map v := by
  induction xs with
  | nil => rfl
  | cons x xs ih =>
    rw [List.map_cons]
    by_cases h : f x = true
    · rw [List.filter_cons_of_pos (by rw [fOf_at inj]; exact h), List.filter_cons_of_pos h, List.map_cons, List.map_cons, ih, vOf_at inj]
    · rw [List.filter_cons_of_neg (by rw [fOf_at inj]; exact h), List.filter_cons_of_neg h, ih]
theorem of_map0 {α : Type} {e : α → PyData} (inj : ∀ a b, e a = e b → a = b) (v : α → PyData) (xs : List α) : (xs.map e).map (vOf e v) = xs.map v := by
  rw [List.map_map]
  exact List.map_congr_left fun x _ => vOf_at inj v x
end
section
variable {X : Cx} {Γ : List Sl} {B H B0 H0 : Hp} {e a b c tg iter elt : Expr} {es : List Expr} {pos p p2 pos2 : Pos} {d da db : PyData} {ds es' : List PyData} {i j : Int} {x y z : Str} {K : PySem.W.Frag} {rest : List Stmt} {D : Ends} {q l : Addr} {α : Type} {ee : α → PyData} {xs : List α}
theorem el_lcm0 {scope : Scope} {own : List (Str × Nat)} {g : TG} {js : List Nat} {v : α → PyData} {Γd : PyData → List Sl} (inj : ∀ a b, ee a = ee b → a = b) (hc : X.calm = true) (hN : X.N.Nodup) (okb : BlkOk X.N X.env.scope scope own)
    (hgp : ∀ (s : Shared) (H : Hp) (C : Addr) (cl : List (Str × Addr)) (fp : List Addr), PG (X.blk s H scope (compEnvC scope cl C X.env) fp) tg g)
    (hi : IterD X Γ B H tg iter (xs.map ee)) (hn : xs.length ≤ 1000000) (hj : ∀ i ∈ js, i ∈ own.map (·.2))
    (hg : ∀ d ∈ xs.map ee, TgD X.K g js d (wipeG Γ (own.map (·.2))) (Γd d))
    (he : ∀ x ∈ xs, ∀ s H0 C cl fp B' H', Grow B H B' H' → ED (blkX X s H0 scope C cl fp) (Γd (ee x)) B' H' elt (v x))
    (hs : ∀ x, foldedSetIterable iter X.env x = pure x := by intro _; rfl) : EL X Γ B H (.ListComp elt [⟨tg, iter, [], 0⟩] scope pos) (xs.map v) := by
  rw [← of_map0 inj v xs]
  refine el_lc0 hc hN okb hgp hi (by rw [List.length_map]; exact hn) hj hg (fun d hd s H0 C cl fp B' H' g' => ?_) hs
  obtain ⟨x, hx, rfl⟩ := List.mem_map.mp hd
  rw [vOf_at inj]
  exact he x hx s H0 C cl fp B' H' g'
theorem el_lcm1 {scope : Scope} {own : List (Str × Nat)} {g : TG} {js : List Nat} {f : α → Bool} {v : α → PyData} {Γd : PyData → List Sl} (inj : ∀ a b, ee a = ee b → a = b) (hc : X.calm = true) (hN : X.N.Nodup) (okb : BlkOk X.N X.env.scope scope own)
    (hgp : ∀ (s : Shared) (H : Hp) (C : Addr) (cl : List (Str × Addr)) (fp : List Addr), PG (X.blk s H scope (compEnvC scope cl C X.env) fp) tg g)
    (hi : IterD X Γ B H tg iter (xs.map ee)) (hn : xs.length ≤ 1000000) (hj : ∀ i ∈ js, i ∈ own.map (·.2))
    (hg : ∀ d ∈ xs.map ee, TgD X.K g js d (wipeG Γ (own.map (·.2))) (Γd d))
    (ht : ∀ x ∈ xs, ∀ s H0 C cl fp B' H', Grow B H B' H' → ET (blkX X s H0 scope C cl fp) (Γd (ee x)) B' H' c (f x))
    (he : ∀ x ∈ xs, f x = true → ∀ s H0 C cl fp B' H', Grow B H B' H' → ED (blkX X s H0 scope C cl fp) (Γd (ee x)) B' H' elt (v x))
    (hs : ∀ x, foldedSetIterable iter X.env x = pure x := by intro _; rfl) : EL X Γ B H (.ListComp elt [⟨tg, iter, [c], 0⟩] scope pos) ((xs.filter f).map v) := by
  rw [← of_map inj f v xs]
  refine el_lc1 hc hN okb hgp hi (by rw [List.length_map]; exact hn) hj hg (fun d hd s H0 C cl fp B' H' g' => ?_) (fun d hd hf s H0 C cl fp B' H' g' => ?_) hs
  · obtain ⟨x, hx, rfl⟩ := List.mem_map.mp hd
    rw [fOf_at inj]
    exact ht x hx s H0 C cl fp B' H' g'
  · obtain ⟨x, hx, rfl⟩ := List.mem_map.mp hd
    rw [fOf_at inj] at hf
    rw [vOf_at inj]
    exact he x hx hf s H0 C cl fp B' H' g'
theorem bd_lcm0 (i : Nat) {y : Str} {py spos : Pos} {scope : Scope} {own : List (Str × Nat)} {g : TG} {js : List Nat} {v : α → PyData} {Γd : PyData → List Sl} (inj : ∀ a b, ee a = ee b → a = b) (hc : X.calm = true) (hN : X.N.Nodup) (okb : BlkOk X.N X.env.scope scope own)
    (hgp : ∀ (s : Shared) (H : Hp) (C : Addr) (cl : List (Str × Addr)) (fp : List Addr), PG (X.blk s H scope (compEnvC scope cl C X.env) fp) tg g)
    (hi : IterD X Γ B H tg iter (xs.map ee)) (hn : xs.length ≤ 1000000) (hj : ∀ i ∈ js, i ∈ own.map (·.2))
    (hg : ∀ d ∈ xs.map ee, TgD X.K g js d (wipeG Γ (own.map (·.2))) (Γd d))
    (he : ∀ x ∈ xs, ∀ s H0 C cl fp B' H', Grow B H B' H' → ED (blkX X s H0 scope C cl fp) (Γd (ee x)) B' H' elt (v x))
    (k : ∀ B2 H2, Grow B H B2 H2 → BD X (Γ.set i (.lst (xs.map v))) B2 H2 rest D)
    (hy : X.N[i]? = some y := by rfl) (hyl : X.env.scope.names.lookup y = some .local := by rfl)
    (hsw : swapsWith (.ListComp elt [⟨tg, iter, [], 0⟩] scope pos) (some (.Name y py)) spos.line X.env = pure true := by exact sw_true rfl rfl rfl (by decide +kernel))
    (hs : ∀ x, foldedSetIterable iter X.env x = pure x := by intro _; rfl) : BD X Γ B H (.Assign [.Name y py] (.ListComp elt [⟨tg, iter, [], 0⟩] scope pos) spos :: rest) D := by
  refine bd_lc0 i (v := vOf ee v) hc hN okb hgp hi (by rw [List.length_map]; exact hn) hj hg (fun d hd s H0 C cl fp B' H' g' => ?_) (by rw [of_map0 inj]; exact k) hy hyl hsw hs
  obtain ⟨x, hx, rfl⟩ := List.mem_map.mp hd
  rw [vOf_at inj]
  exact he x hx s H0 C cl fp B' H' g'
theorem bd_lcm1 (i : Nat) {y : Str} {py spos : Pos} {scope : Scope} {own : List (Str × Nat)} {g : TG} {js : List Nat} {f : α → Bool} {v : α → PyData} {Γd : PyData → List Sl} (inj : ∀ a b, ee a = ee b → a = b) (hc : X.calm = true) (hN : X.N.Nodup) (okb : BlkOk X.N X.env.scope scope own)
    (hgp : ∀ (s : Shared) (H : Hp) (C : Addr) (cl : List (Str × Addr)) (fp : List Addr), PG (X.blk s H scope (compEnvC scope cl C X.env) fp) tg g)
    (hi : IterD X Γ B H tg iter (xs.map ee)) (hn : xs.length ≤ 1000000) (hj : ∀ i ∈ js, i ∈ own.map (·.2))
    (hg : ∀ d ∈ xs.map ee, TgD X.K g js d (wipeG Γ (own.map (·.2))) (Γd d))
    (ht : ∀ x ∈ xs, ∀ s H0 C cl fp B' H', Grow B H B' H' → ET (blkX X s H0 scope C cl fp) (Γd (ee x)) B' H' c (f x))
    (he : ∀ x ∈ xs, f x = true → ∀ s H0 C cl fp B' H', Grow B H B' H' → ED (blkX X s H0 scope C cl fp) (Γd (ee x)) B' H' elt (v x))
    (k : ∀ B2 H2, Grow B H B2 H2 → BD X (Γ.set i (.lst ((xs.filter f).map v))) B2 H2 rest D)
    (hy : X.N[i]? = some y := by rfl) (hyl : X.env.scope.names.lookup y = some .local := by rfl)
    (hsw : swapsWith (.ListComp elt [⟨tg, iter, [c], 0⟩] scope pos) (some (.Name y py)) spos.line X.env = pure true := by exact sw_true rfl rfl rfl (by decide +kernel))
    (hs : ∀ x, foldedSetIterable iter X.env x = pure x := by intro _; rfl) : BD X Γ B H (.Assign [.Name y py] (.ListComp elt [⟨tg, iter, [c], 0⟩] scope pos) spos :: rest) D := by
  refine bd_lc1 i (f := fOf ee f) (v := vOf ee v) hc hN okb hgp hi (by rw [List.length_map]; exact hn) hj hg (fun d hd s H0 C cl fp B' H' g' => ?_) (fun d hd hf s H0 C cl fp B' H' g' => ?_) (by rw [of_map inj]; exact k) hy hyl hsw hs
  · obtain ⟨x, hx, rfl⟩ := List.mem_map.mp hd
    rw [fOf_at inj]
    exact ht x hx s H0 C cl fp B' H' g'
  · obtain ⟨x, hx, rfl⟩ := List.mem_map.mp hd
    rw [fOf_at inj] at hf
    rw [vOf_at inj]
    exact he x hx hf s H0 C cl fp B' H' g'
theorem bd_lcm1M (i : Nat) {y : Str} {py spos : Pos} {scope : Scope} {own : List (Str × Nat)} {g : TG} {js : List Nat} {f : α → Bool} {v : α → PyData} {Γd : PyData → List Sl} (inj : ∀ a b, ee a = ee b → a = b) (hc : X.calm = true) (hN : X.N.Nodup) (okb : BlkOk X.N X.env.scope scope own)
    (hgp : ∀ (s : Shared) (H : Hp) (C : Addr) (cl : List (Str × Addr)) (fp : List Addr), PG (X.blk s H scope (compEnvC scope cl C X.env) fp) tg g)
    (hi : IterD X Γ B H tg iter (xs.map ee)) (hn : xs.length ≤ 1000000) (hj : ∀ i ∈ js, i ∈ own.map (·.2))
    (hg : ∀ d ∈ xs.map ee, TgD X.K g js d (wipeG Γ (own.map (·.2))) (Γd d))
    (ht : ∀ x ∈ xs, ∀ s H0 C cl fp B' H', Grow B H B' H' → ET (blkX X s H0 scope C cl fp) (Γd (ee x)) B' H' c (f x))
    (he : ∀ x ∈ xs, f x = true → ∀ s H0 C cl fp B' H', Grow B H B' H' → ED (blkX X s H0 scope C cl fp) (Γd (ee x)) B' H' elt (v x))
    (k : ∀ l B2 H2, Grow B H B2 H2 → H l = none → Mt X.K B2 H2 l ((xs.filter f).map v) → BD X (Γ.set i (.raw (.ref l))) B2 H2 rest D)
    (hy : X.N[i]? = some y := by rfl) (hyl : X.env.scope.names.lookup y = some .local := by rfl)
    (hsw : swapsWith (.ListComp elt [⟨tg, iter, [c], 0⟩] scope pos) (some (.Name y py)) spos.line X.env = pure true := by exact sw_true rfl rfl rfl (by decide +kernel))
    (hs : ∀ x, foldedSetIterable iter X.env x = pure x := by intro _; rfl) : BD X Γ B H (.Assign [.Name y py] (.ListComp elt [⟨tg, iter, [c], 0⟩] scope pos) spos :: rest) D := by
  refine bd_lc1M i (f := fOf ee f) (v := vOf ee v) hc hN okb hgp hi (by rw [List.length_map]; exact hn) hj hg (fun d hd s H0 C cl fp B' H' g' => ?_) (fun d hd hf s H0 C cl fp B' H' g' => ?_) (by rw [of_map inj]; exact k) hy hyl hsw hs
  · obtain ⟨x, hx, rfl⟩ := List.mem_map.mp hd
    rw [fOf_at inj]
    exact ht x hx s H0 C cl fp B' H' g'
  · obtain ⟨x, hx, rfl⟩ := List.mem_map.mp hd
    rw [fOf_at inj] at hf
    rw [vOf_at inj]
    exact he x hx hf s H0 C cl fp B' H' g'
/-! two data at plain locals -/
theorem bd_par2D {px py pt pt2 : Pos} {kt k2 : Nat} (i j : Nat) (hc : X.calm = true) (hN : X.N.Nodup) (hij : i ≠ j) (ha : ED X Γ B H a da) (hb : ED X Γ B H b db)
    (k : ∀ B2 H2, Grow B H B2 H2 → BD X ((Γ.set i (.dat da)).set j (.dat db)) B2 H2 rest D)
    (hi : X.N[i]? = some x := by rfl) (hj : X.N[j]? = some y := by rfl) (hx : X.env.scope.names.lookup x = some .local := by rfl) (hy : X.env.scope.names.lookup y = some .local := by rfl)
    (hw : swappedStores [.Tuple [.Name x px, .Name y py] kt pt] (.Tuple [a, b] k2 pt2) X.env = pure (some [x, y]) := by rfl)
    (hs : swapsWithSole [.Tuple [.Name x px, .Name y py] kt pt] (.Tuple [a, b] k2 pt2) pos.line X.env = pure false := by rfl)
    (h1 : starEach [a, b] X.env = (false, eval a X.env) :: starEach [b] X.env := by rfl) (h2 : starEach [b] X.env = (false, eval b X.env) :: starEach [] X.env := by rfl) :
    BD X Γ B H (.Assign [.Tuple [.Name x px, .Name y py] kt pt] (.Tuple [a, b] k2 pt2) pos :: rest) D :=
  bd_par2 i j hc hN hij ha hb (fun v1 v2 B1 H1 B2 H2 g1 r1 g2 r2 σ ok => k B2 H2 (g1.trans g2) _ ((ok.set i (s := .dat da) ⟨v1, rfl, dp_mono g2.b r1⟩).set j (s := .dat db) ⟨v2, rfl, r2⟩)) hi hj hx hy hw hs h1 h2
theorem bd_par3D {dc : PyData} {px py pz pt pt2 : Pos} {kt k2 : Nat} (i j n : Nat) (hc : X.calm = true) (hN : X.N.Nodup) (hij : i ≠ j) (hin : i ≠ n) (hjn : j ≠ n) (ha : ED X Γ B H a da) (hb : ED X Γ B H b db) (hcc : ED X Γ B H c dc)
    (k : ∀ B2 H2, Grow B H B2 H2 → BD X (((Γ.set i (.dat da)).set j (.dat db)).set n (.dat dc)) B2 H2 rest D)
    (hi : X.N[i]? = some x := by rfl) (hj : X.N[j]? = some y := by rfl) (hn : X.N[n]? = some z := by rfl) (hx : X.env.scope.names.lookup x = some .local := by rfl) (hy : X.env.scope.names.lookup y = some .local := by rfl) (hz : X.env.scope.names.lookup z = some .local := by rfl)
    (hw : swappedStores [.Tuple [.Name x px, .Name y py, .Name z pz] kt pt] (.Tuple [a, b, c] k2 pt2) X.env = pure (some [x, y, z]) := by rfl)
    (hs : swapsWithSole [.Tuple [.Name x px, .Name y py, .Name z pz] kt pt] (.Tuple [a, b, c] k2 pt2) pos.line X.env = pure false := by rfl)
    (h1 : starEach [a, b, c] X.env = (false, eval a X.env) :: starEach [b, c] X.env := by rfl) (h2 : starEach [b, c] X.env = (false, eval b X.env) :: starEach [c] X.env := by rfl) (h3 : starEach [c] X.env = (false, eval c X.env) :: starEach [] X.env := by rfl) :
    BD X Γ B H (.Assign [.Tuple [.Name x px, .Name y py, .Name z pz] kt pt] (.Tuple [a, b, c] k2 pt2) pos :: rest) D :=
  bd_par3 i j n hc hN hij hin hjn ha hb hcc (fun v1 v2 v3 B1 H1 B2 H2 B3 H3 g1 r1 g2 r2 g3 r3 σ ok => k B3 H3 ((g1.trans g2).trans g3) _ (((ok.set i (s := .dat da) ⟨v1, rfl, dp_mono (g2.b.trans g3.b) r1⟩).set j (s := .dat db) ⟨v2, rfl, dp_mono g3.b r2⟩).set n (s := .dat dc) ⟨v3, rfl, r3⟩)) hi hj hn hx hy hz hw hs h1 h2 h3
/-- x, y = a, b by way of a tuple, data -/
theorem bd_asg2D {px py pt pt2 : Pos} {kt k2 : Nat} (i j : Nat) (hc : X.calm = true) (hN : X.N.Nodup) (ha : ED X Γ B H a da) (hb : ED X Γ B H b db)
    (k : ∀ B2 H2, Grow B H B2 H2 → BD X ((Γ.set i (.dat da)).set j (.dat db)) B2 H2 rest D)
    (hi : X.N[i]? = some x := by rfl) (hj : X.N[j]? = some y := by rfl) (hx : Loc X.env.scope x := by first | exact Or.inl rfl | exact Or.inr rfl) (hy : Loc X.env.scope y := by first | exact Or.inl rfl | exact Or.inr rfl)
    (hfx : X.fn x = true ∨ X.env.scope.names.lookup x = some .local := by first | exact .inl rfl | exact .inr rfl) (hfy : X.fn y = true ∨ X.env.scope.names.lookup y = some .local := by first | exact .inl rfl | exact .inr rfl)
    (q1 : swapsWithSole [.Tuple [.Name x px, .Name y py] kt pt] (.Tuple [a, b] k2 pt2) pos.line X.env = pure false := by rfl) (q2 : swappedStores [.Tuple [.Name x px, .Name y py] kt pt] (.Tuple [a, b] k2 pt2) X.env = pure none := by rfl)
    (q3 : (assignEach [.Tuple [.Name x px, .Name y py] kt pt] X.env).map (·.2) = [assign (.Tuple [.Name x px, .Name y py] kt pt) X.env] := by rfl)
    (h1 : starEach [a, b] X.env = (false, eval a X.env) :: starEach [b] X.env := by rfl) (h2 : starEach [b] X.env = (false, eval b X.env) :: starEach [] X.env := by rfl)
    (e1 : (assignEach [.Name x px, .Name y py] X.env).map (·.2) = assign (.Name x px) X.env :: (assignEach [.Name y py] X.env).map (·.2) := by rfl) (e2 : (assignEach [.Name y py] X.env).map (·.2) = assign (.Name y py) X.env :: (assignEach [] X.env).map (·.2) := by rfl) (e3 : (assignEach [.Name x px, .Name y py] X.env).length = 2 := by rfl) (e4 : (assignEach [.Name x px, .Name y py] X.env).findIdx? (·.1) = none := by rfl) :
    BD X Γ B H (.Assign [.Tuple [.Name x px, .Name y py] kt pt] (.Tuple [a, b] k2 pt2) pos :: rest) D :=
  bd_asg2 i j hc hN ha hb (fun v1 v2 B1 H1 B2 H2 q H3 g1 r1 g2 r2 g3 h0 o3 σ ok => k B2 H3 ((g1.trans g2).trans g3) _ ((ok.set i (s := .dat da) ⟨v1, rfl, dp_mono g2.b r1⟩).set j (s := .dat db) ⟨v2, rfl, r2⟩)) hi hj hx hy hfx hfy q1 q2 q3 h1 h2 e1 e2 e3 e4
/-! lays -/
variable {L : Nat} {js : List Jt}
theorem ed_lk {jj : Nat} (ha : ED X Γ B H a (eLay L js)) : ED X Γ B H (.Subscript a (.Constant (.int 0) jj p) pos) (.int (L : Nat)) := ed_ixT (ds := [.int (L : Nat), .tuple (js.map eJ)]) (k := 0) rfl rfl ha ed_int
theorem ed_js {jj : Nat} (ha : ED X Γ B H a (eLay L js)) : ED X Γ B H (.Subscript a (.Constant (.int 1) jj p) pos) (.tuple (js.map eJ)) := ed_ixT (ds := [.int (L : Nat), .tuple (js.map eJ)]) (k := 1) rfl rfl ha ed_int
theorem ed_j0 {jj : Nat} {r : Jt} (ha : ED X Γ B H a (eJ r)) : ED X Γ B H (.Subscript a (.Constant (.int 0) jj p) pos) (.int (r.1 : Nat)) := ed_ixT (ds := [.int (r.1 : Nat), .int (r.2 : Nat)]) (k := 0) rfl rfl ha ed_int
theorem ed_j1 {jj : Nat} {r : Jt} (ha : ED X Γ B H a (eJ r)) : ED X Γ B H (.Subscript a (.Constant (.int 1) jj p) pos) (.int (r.2 : Nat)) := ed_ixT (ds := [.int (r.1 : Nat), .int (r.2 : Nat)]) (k := 1) rfl rfl ha ed_int
theorem ed_mt {m : Nat → Option Nat} {n : Nat} (hn : n < 2 * L) (hi : i = (n : Int)) (ha : ED X Γ B H a (.list (eMates L m))) (hb : ED X Γ B H b (.int i)) (hs : PlainIx b := by exact fun _ _ => rfl) : ED X Γ B H (.Subscript a b pos) (eO (m n)) := ed_ixL (k := n) (eMates_get m hn) hi ha hb hs
theorem et_ninI {ns : List Int} (hu : X.A.units + 64 < cLine) (s : Seq db (ns.map .int)) (ha : ED X Γ B H a (.int i)) (hb : ED X Γ B H b db) (hm : behindInMarks .NotIn b = false := by rfl) : ET X Γ B H (.Compare a [.NotIn] [b] pos) (!decide (i ∈ ns)) := et_nin hu s (lay_int i) (lay_ints ns) (dep_int i) (by rw [in_ints]) ha hb hm
theorem et_inI {ns : List Int} (hu : X.A.units + 64 < cLine) (s : Seq db (ns.map .int)) (ha : ED X Γ B H a (.int i)) (hb : ED X Γ B H b db) (hm : behindInMarks .In b = false := by rfl) : ET X Γ B H (.Compare a [.In] [b] pos) (decide (i ∈ ns)) := et_in hu s (lay_int i) (lay_ints ns) (dep_int i) (by rw [in_ints]) ha hb hm
theorem ed_ninI {ns : List Int} (hu : X.A.units + 64 < cLine) (s : Seq db (ns.map .int)) (ha : ED X Γ B H a (.int i)) (hb : ED X Γ B H b db) (hm : behindInMarks .NotIn b = false := by rfl) : ED X Γ B H (.Compare a [.NotIn] [b] pos) (.bool (!decide (i ∈ ns))) := ed_nin hu s (lay_int i) (lay_ints ns) (dep_int i) (by rw [in_ints]) ha hb hm
end
theorem eJ_inj (p q : Jt) (h : eJ p = eJ q) : p = q := by
  obtain ⟨a, b⟩ := p
  obtain ⟨c, d⟩ := q
  simp only [eJ, PyData.tuple.injEq, List.cons.injEq, PyData.int.injEq] at h
  rw [Int.ofNat.inj h.1, Int.ofNat.inj h.2.1]
theorem eN_inj (p q : Nat) (h : eN p = eN q) : p = q := by
  simp only [eN, PyData.int.injEq] at h
  exact Int.ofNat.inj h
theorem int_inj (p q : Int) (h : PyData.int p = PyData.int q) : p = q := PyData.int.inj h
theorem eJs_inj : ∀ (ps qs : List Jt), ps.map eJ = qs.map eJ → ps = qs
  | [], [], _ => rfl
  | p :: ps, q :: qs, h => by
    rw [List.map_cons, List.map_cons, List.cons.injEq] at h
    rw [eJ_inj _ _ h.1, eJs_inj ps qs h.2]
  | [], q :: qs, h => by cases h
  | p :: ps, [], h => by cases h
theorem eLay_inj (L : Nat) (p q : List Jt) (h : eLay L p = eLay L q) : p = q := by
  simp only [eLay, PyData.tuple.injEq, List.cons.injEq] at h
  exact eJs_inj _ _ h.2.1
end Dc
/-! Own layer, part J4: {k: v for ..}, None in a tuple, kept-apart objects. -/
namespace Dc
open PySem PySem.Spec PyProof.Rows L2
section
variable {X : Cx} {Γ : List Sl} {B H B0 H0 : Hp} {e a b c tg iter elt kx vx : Expr} {es : List Expr} {pos p p2 pos2 : Pos} {d da db : PyData} {ds es' : List PyData} {i j : Int} {x y z : Str} {K : PySem.W.Frag} {rest : List Stmt} {D : Ends} {q l : Addr}
theorem Mt.far2 {l q : Addr} {H3 : Hp} (m : Mt K B H l ds) (h : l ≠ q) (o : ∀ l', l' ≠ q → H3 l' = H l') : Mt K B H3 l ds := by
  obtain ⟨⟨xs, h1, h2⟩, h3⟩ := m
  exact ⟨⟨xs, by rw [o l h]; exact h1, h2⟩, h3⟩
theorem Dk.far2 {H3 : Hp} {n : Nat} {m : Int → Option V} {l q : Addr} (h : Dk H q n m) (hq : q ≠ l) (o : ∀ l', l' ≠ l → H3 l' = H l') : Dk H3 q n m := h.far (o q hq)
theorem ek_dc {ns : List Int} {scope : Scope} {own : List (Str × Nat)} {g : TG} {js : List Nat} {Γd : PyData → List Sl} {dv : PyData} {vv : V} (hc : X.calm = true) (hN : X.N.Nodup) (okb : BlkOk X.N X.env.scope scope own)
    (hgp : ∀ (s : Shared) (H : Hp) (C : Addr) (cl : List (Str × Addr)) (fp : List Addr), PG (X.blk s H scope (compEnvC scope cl C X.env) fp) tg g)
    (hi : IterD X Γ B H tg iter (ns.map .int)) (hn : ns.length ≤ 1000000) (hj : ∀ i ∈ js, i ∈ own.map (·.2))
    (hg : ∀ d ∈ ns.map PyData.int, TgD X.K g js d (wipeG Γ (own.map (·.2))) (Γd d)) (hsv : scV dv = some vv)
    (hk : ∀ n ∈ ns, ∀ s H0 C cl fp B' H', Grow B H B' H' → ED (blkX X s H0 scope C cl fp) (Γd (.int n)) B' H' kx (.int n))
    (hv : ∀ n ∈ ns, ∀ s H0 C cl fp B' H', Grow B H B' H' → ED (blkX X s H0 scope C cl fp) (Γd (.int n)) B' H' vx dv)
    (hs : ∀ x, foldedSetIterable iter X.env x = pure x := by intro _; rfl) : EK X Γ B H (.DictComp kx vx [⟨tg, iter, [], 0⟩] scope pos) ns.length (fun z => if z ∈ ns then some vv else none) := fun σ B1 H1 g1 ok Q q =>
  we_of (pe_dc hc hN (pii X tg iter) okb hgp (fun _ _ _ _ _ => pts_nil) (peAll X scope kx) (peAll X scope vx) hs) (hi σ B1 H1 g1 ok _ fun J B2 H2 g2 hw => by
    intro D hD
    have ok2 := ok.grow g2
    let Pv : Nat → Hp → Prop := fun i H' => ∃ (B' : Hp) (kvs : List (Key × V)), Grow B2 H2 B' H' ∧ H' D = some (.dK kvs) ∧ B' D = none ∧ kvs.length ≤ i ∧ (kvs.map (·.1)).Nodup ∧ ∀ z : Int, valV kvs (Sum.inl z) = if z ∈ ns.take i then some vv else none
    refine ⟨fun i m H' => m = ns.length - i ∧ i ≤ ns.length ∧ Pv i H', ⟨ns.length, by simp, Nat.zero_le _, B2, [], Grow.newM ok2.same hD, upd_same, ok2.same.free hD, Nat.le_refl _, by simp, fun z => rfl⟩, ?_⟩
    rintro i m H' ⟨rfl, hil, B', kvs, g3, hDl, hDb, hl, hnd, hval⟩
    by_cases hlt : i < ns.length
    · refine .inr ⟨hw.go i B' H' g3.b g3.bh (by rw [List.length_map]; exact hlt), Pv (i + 1), fun H3 p => ⟨_, by omega, rfl, hlt, p⟩, fun x H3 hy => ?_⟩
      obtain ⟨B3, d, g4, hd, dx⟩ := hw.yld i B' H' x H3 g3.b g3.bh (by rw [List.length_map]; exact hlt) hy
      have hmem : d ∈ ns.map PyData.int := List.mem_of_getElem? hd
      have g34 := g3.trans g4
      refine hg d hmem x _ B3 H3 ((ok2.wipe _).grow g34) dx _ fun σ2 ok3 ln oth => ⟨wipe_eq (by rw [ln, wipe_length]) fun k hk => oth k fun z => hk (hj k z), ?_⟩
      show tYes σ2 H3 _
      unfold tYes
      refine iteT ?_
      obtain ⟨n, hnm, rfl⟩ := List.mem_map.mp hmem
      have hin : ns[i]? = some n := by
        rw [List.getElem?_map] at hd
        cases w : ns[i]? with
        | none => rw [w] at hd; cases hd
        | some n' => rw [w] at hd; cases hd; rfl
      have hD3 := g4.h _ _ hDl
      have hB3 := g4.out _ _ hDl hDb
      show ∀ s H0 C cl fp, WE (blkX X s H0 scope C cl fp) kx σ2 H3 _
      intro s H0 C cl fp
      refine hk n hnm s H0 C cl fp B3 H3 ((g1.trans g2).trans g34) σ2 B3 H3 (Grow.refl g34.bh) ok3 _ fun y B4 H4 g5 r5 => ?_
      intro s H0 C cl fp
      refine hv n hnm s H0 C cl fp B3 H3 ((g1.trans g2).trans g34) σ2 B4 H4 g5 (ok3.grow g5) _ fun u B5 H5 g6 r6 => ?_
      have hD5 := g6.h _ _ (g5.h _ _ hD3)
      have hB5 := g6.out _ _ (g5.h _ _ hD3) (g5.out _ _ hD3 hB3)
      have gg := (g34.trans g5).trans g6
      refine ⟨kvs, Sum.inl n, dp_int r5, hD5, Nat.lt_of_le_of_lt (Nat.le_trans hl (Nat.le_trans hil hn)) (by decide), B5, _, ⟨gg.b, same_mut gg.h hD, same_mut gg.bh hB5, gg.out⟩, upd_same, hB5, Nat.le_trans (putK_len _ _ _) (by omega), putK_nd _ _ _ hnd, fun z => ?_⟩
      rw [valV_put, hval, scV_dp r6 hsv, List.take_succ, hin]
      have e1 : ((Sum.inl z : Key) = Sum.inl n) = (z = n) := by simp
      simp only [e1, Option.toList_some, List.mem_append, List.mem_singleton]
      by_cases h1 : z = n
      · rw [if_pos h1, if_pos (.inr h1)]
      · rw [if_neg h1]
        by_cases h2 : z ∈ ns.take i
        · rw [if_pos h2, if_pos (.inl h2)]
        · rw [if_neg h2, if_neg fun w => w.elim h2 h1]
    · have e : i = ns.length := by omega
      subst e
      refine .inl ⟨?_, ?_⟩
      · have := hw.stop H' (g3.b.trans g3.bh)
        rw [List.length_map] at this
        exact this
      · rw [List.take_length] at hval
        exact q _ B' H' (g2.trans g3) ⟨D, rfl, g2.h.free hD, hDb, kvs, hDl, hl, hnd, hval⟩)
/-- None in (o1, o2) -/
theorem eqvN (o : Option Nat) : PyData.eqv (eO o) .none = o.isNone := by
  cases o <;> simp [eO, PyData.eqv]
theorem layO (o : Option Nat) : PyData.canLay0 (eO o) = true := by
  cases o <;> simp [eO, PyData.canLay0]
theorem et_inN {o1 o2 : Option Nat} {jj : Nat} {x1 : Nat} (hu : X.A.units + 64 < cLine) (ha : ED X Γ B H a (eO o1)) (hb : ED X Γ B H b (eO o2)) (h1 : starEach [a, b] X.env = (false, eval a X.env) :: starEach [b] X.env := by rfl) (h2 : starEach [b] X.env = (false, eval b X.env) :: starEach [] X.env := by rfl) : ET X Γ B H (.Compare (.Constant .none jj p) [.In] [.Tuple [a, b] x1 p2] pos) (o1.isNone || o2.isNone) :=
  et_in (d := .none) (db := .tuple [eO o1, eO o2]) (ds := [eO o1, eO o2]) hu (.inr rfl) (by simp [PyData.canLay0]) (by simp [PyData.canLayAll0, layO]) (by simp [PyData.depth]) (by simp [eqvN]) ed_non (ed_tup (ea_cons ha (ea_cons hb ea_nil h2) h1) (by show 2 ≤ 1000; decide))
theorem et_ninN {o1 o2 : Option Nat} {jj : Nat} {x1 : Nat} (hu : X.A.units + 64 < cLine) (ha : ED X Γ B H a (eO o1)) (hb : ED X Γ B H b (eO o2)) (h1 : starEach [a, b] X.env = (false, eval a X.env) :: starEach [b] X.env := by rfl) (h2 : starEach [b] X.env = (false, eval b X.env) :: starEach [] X.env := by rfl) : ET X Γ B H (.Compare (.Constant .none jj p) [.NotIn] [.Tuple [a, b] x1 p2] pos) (!(o1.isNone || o2.isNone)) :=
  et_nin (d := .none) (db := .tuple [eO o1, eO o2]) (ds := [eO o1, eO o2]) hu (.inr rfl) (by simp [PyData.canLay0]) (by simp [PyData.canLayAll0, layO]) (by simp [PyData.depth]) (by simp [eqvN]) ed_non (ed_tup (ea_cons ha (ea_cons hb ea_nil h2) h1) (by show 2 ≤ 1000; decide))
end
end Dc
/-! Own layer, part J5: a pair from behind, defs that make dicts, loops over raw values. -/
namespace Dc
open PySem PySem.Spec PyProof.Rows L2
section
variable {prog : Program} {w : World} {A : Around} {E : Value → Shared → Prop} {s : Shared}
theorem getItem_pair_rev {t sl : Addr} {x y : Value} {tk : Tok} {Q : Value → Shared → Prop} (ht : IsTup s.heap t #[x, y]) (hs : s.heap.IsSliceOf sl .none .none (.int (-1) tk))
    (h : Q (.ref s.heap.objs.size) { s with heap := s.heap.push { cls := .type "tuple", data := .seq #[y, x] } }) : wpAny (model prog w) A (getItem (.ref t) (.ref sl)) Q E s := by
  obtain ⟨os, hos, hcs, hds⟩ := id hs
  have hTs : s.TypeIs (.ref sl) "slice" := ⟨os, hos, hcs⟩
  unfold getItem
  try with_reducible refine wpAny_holding ?_
  first | refine wpAny_bind (wpAny_pure ?_) | skip
  refine wpAny_bind (wpAny_sequenceKey ht.typeIs (by decide) ?_)
  refine wpAny_bind (wpAny_callSpecial?_slot (name := Str.ofString "__getitem__") ht.typeIs PyProof.Rows.slot_tuple_getitem
    (wpAny_call_entry PyProof.Rows.slot_tuple_getitem ht.typeIs entry_tuple_getitem ?_ (args_tuple_getitem _ _)))
  show wpAny _ _ (Builtin.Tuple.tupleItemsOf (.ref t) >>= _) _ _ s
  refine wpAny_bind (tupleItemsOf_ ht ?_)
  refine wpAny_bind (wpAny_typeOf hTs ?_)
  rw [if_pos (by decide)]
  have sa : ∀ {A' : Around} {E' : Value → Shared → Prop} {Q' : Int × Int × Nat → Shared → Prop}, Q' (1, -1, 2) s → wpAny (model prog w) A' (Builtin.Slice.sliceApplied (.ref sl) (pure ((#[x, y].size : Nat) : Int))) Q' E' s := fun {A' E' Q'} hq => by
    unfold Builtin.Slice.sliceApplied Builtin.Slice.sliceFields
    refine wpAny_bind (wpAny_bind (wpAny_field hos hds (x := .none) rfl (wpAny_bind (wpAny_field hos hds (x := .none) rfl (wpAny_bind (wpAny_field hos hds (x := .int (-1) tk) rfl (wpAny_pure ?_)))))))
    refine wpAny_bind (HT.slicePart_ (.int (-1) tk) ?_)
    show wpAny _ _ (if ((-1 : Int) == 0) = true then _ else _) _ _ s
    rw [if_neg (by decide)]
    refine wpAny_bind (HT.slicePart_ .none (wpAny_bind (HT.slicePart_ .none (wpAny_bind (wpAny_pure ?_)))))
    have e1 : Builtin.Slice.sliceAdjust none none (-1) ((2 : Nat) : Int) = (1, -1) := by decide
    have e2 : Builtin.Slice.slicePlaces 1 (-1) (-1) = 2 := by decide
    show wpAny _ _ (match Builtin.Slice.sliceAdjust none none (-1) ((2 : Nat) : Int) with | (lo, hi) => pure (lo, (-1 : Int), Builtin.Slice.slicePlaces lo hi (-1))) _ _ s
    rw [e1]
    show wpAny _ _ (pure ((1 : Int), (-1 : Int), Builtin.Slice.slicePlaces 1 (-1) (-1))) _ _ s
    rw [e2]
    exact wpAny_pure hq
  refine wpAny_bind (sa ?_)
  show wpAny _ _ (if (((1 : Int) == 0 && (-1 : Int) == 1 && (2 : Nat) == #[x, y].size) = true) then _ else _) _ _ s
  rw [if_neg (by simp)]
  have hz : sizeOk (.seq #[y, x]) := by show 2 ≤ sizeLine; decide
  first
    | exact wpAny_bind (m := Builtin.Tuple.tupleExact _) (wpAny_newObj_type (wpAny_pure ⟨_, rfl, wpAny_pure h⟩) hz)
    | exact wpAny_bind (m := Builtin.Tuple.tupleExact _) (wpAny_newObj_type (wpAny_bind (wpAny_pure (wpAny_pure ⟨_, rfl, wpAny_pure h⟩))) hz)
    | exact wpAny_bind (wpAny_bind (m := Builtin.Tuple.tupleExact _) (wpAny_newObj_type (wpAny_pure (wpAny_pure ⟨_, rfl, wpAny_pure h⟩)) hz))
    | exact wpAny_bind (wpAny_bind (m := Builtin.Tuple.tupleExact _) (wpAny_newObj_type (wpAny_pure ⟨_, rfl, wpAny_pure h⟩) hz))
end
section
variable {X : Cx} {Γ : List Sl} {B H B0 H0 : Hp} {e a b c tg iter elt : Expr} {es : List Expr} {pos p p2 pos2 : Pos} {d da db : PyData} {ds es' : List PyData} {i j : Int} {x y z : Str} {K : PySem.W.Frag} {rest : List Stmt} {D : Ends} {q l : Addr}
def tRev2 (K : PySem.W.Frag) (te : TE) : TE := fun σ H Q => te σ H fun x H1 => ∃ a v1 v2, x = .ref a ∧ SqT K H1 a [v1, v2] ∧ ∀ p, H1 p = none → Q (.ref p) (upd H1 p (.tup [v2, v1]))
theorem pe_rev2 {e : Expr} {te : TE} {k : Nat} {p1 p2 p3 pos : Pos} (he : PE X e te) : PE X (.Subscript e (.Slice none none (some (.UnaryOp .USub (.Constant (.int 1) k p1) p2)) p3) pos) (tRev2 X.K te) := by
  refine ⟨fun pins s σ H Q I h => ?_⟩
  refine Subscript_ (thn (he.run pins s σ H _ I h) fun v s1 ⟨x, H1, I1, r1, q1⟩ => ?_)
  obtain ⟨a, v1, v2, ex, hx, q⟩ := q1
  subst ex
  cases r1
  have hst : PO X (some (.UnaryOp .USub (.Constant (.int 1) k p1) p2)) (tPart (tUn (rU fun i => .int (-i)) (tC (.int 1)))) := po_some (pe_un un_neg pe_int)
  refine wpAny_Slice (thn (po_none.run pins s1 σ H1 (fun o H2 => o = none ∧ H2 = H1) I1 ⟨rfl, rfl⟩) fun vl s2 ⟨l, H2, I2, pl, el, e2⟩ => ?_)
  subst el e2
  refine thn (po_none.run pins s2 σ H2 (fun o H3 => o = none ∧ H3 = H2) I2 ⟨rfl, rfl⟩) fun vu s3 ⟨u, H3, I3, pu, eu, e3⟩ => ?_
  subst eu e3
  refine thn (hst.run pins s3 σ H3 (fun o H4 => o = some (-1) ∧ H4 = H3) I3 ⟨1, rfl, -1, rfl, rfl, rfl⟩) fun vs s4 ⟨o, H4, I4, ps, eo, e4⟩ => ?_
  subst eo e4
  cases pl
  cases pu
  cases ps with
  | int i t =>
  have I5 : Inv X pins σ H4 { s4 with heap := s4.heap.push { cls := .type "slice", data := .fields #[.none, .none, .int (-1) t] } } := I4.kept (t' := s4.toks) fun b ob q => Heap.get?_push_of_some _ q
  obtain ⟨its, r, ht, hz⟩ := I5.tuple hx
  cases r with
  | @cons _ w1 _ _ r1 r => cases r with
    | @cons _ w2 _ _ r2 r => cases r with
      | nil =>
        show wpAny (model X.prog X.w) X.A (subscriptTail e (.Slice none none (some (.UnaryOp .USub (.Constant (.int 1) k p1) p2)) p3) (.ref a) (.ref s4.heap.objs.size)) (EP X pins σ Q) X.xe { s4 with heap := s4.heap.push { cls := .type "slice", data := .fields #[.none, .none, .int (-1) t] } }
        refine tail_any (ops := [.ref a, .ref s4.heap.objs.size]) ht.typeIs PyProof.Rows.slot_tuple_getitem.lookup ?_ (by with_unfolding_all rfl)
        refine getItem_pair_rev ht (Heap.IsSliceOf.new ..) ?_
        refine ⟨.ref _, _, I5.laid (t' := s4.toks) (o := .tup [v2, v1]) (fun b ob q => Heap.get?_push_of_some _ q) (Nat.le_refl _) ?_, rfl, q _ (I5.hok.fresh (Nat.le_refl _))⟩
        exact ⟨by show 2 ≤ sizeLine; decide, _, .cons r2 (.cons r1 .nil), IsTup.new _ _⟩
/-- t[::-1] of a pair -/
theorem ed_rev2 {k : Nat} {p1 p2 p3 : Pos} (ha : ED X Γ B H a (.tuple [da, db])) : ED X Γ B H (.Subscript a (.Slice none none (some (.UnaryOp .USub (.Constant (.int 1) k p1) p2)) p3) pos) (.tuple [db, da]) := fun σ B1 H1 g ok Q q =>
  we_of (pe_rev2 (pe X a)) (ha σ B1 H1 g ok _ fun v B2 H2 g2 r => by
    cases r with
    | tup h1 h2 =>
      obtain ⟨v, u, rfl, rv, ru⟩ := two_dp h2
      exact ⟨_, v, u, rfl, Same.seqT g2.bh h1, fun p hp => q _ _ _ (g2.trans (Grow.new g2.bh hp)) (.tup (.inl (.inl upd_same)) (dps_mono (same_new (g2.bh.free hp)) (.cons ru (.cons rv .nil))))⟩)
/-! ### defs that make dicts with int keys -/
def PrK (K : PySem.W.Frag) {α : Type} (args : α → List PyData) (pre : α → Prop) (n : α → Nat) (m : α → Int → Option V) : Pr := fun vs H Q => ∃ (B : Hp) (a : α), Same B H ∧ DpAll K B vs (args a) ∧ pre a ∧
  ∀ v B2 H2, Grow B H B2 H2 → isK (n a) (m a) v H B2 H2 → Q v H2
theorem isK_back {n : Nat} {m : Int → Option V} : ∀ v H1 H1' B2 H2, Same H1 H1' → isK n m v H1' B2 H2 → isK n m v H1 B2 H2 := fun _ _ _ _ _ s ⟨q, e, h0, h⟩ => ⟨q, e, s.free h0, h⟩
theorem ek_call {k : Nat} {ps : List Str} {α : Type} {args : α → List PyData} {pre : α → Prop} {n : α → Nat} {m : α → Int → Option V} (F : Has X.prog X.w X.K X.mg X.base k x ps (PrK X.K args pre n m)) (v : α) (hr : Room k X.A) (hg : X.A.guards = some []) (hp : pre v) (ha : EA X Γ B H (e :: es) (args v)) (hgl : Gl X x := by rfl)
    (hdb : (x == ("__debug__" : Str)) = false := by decide) (he : starEach (e :: es) X.env = (false, eval e X.env) :: starEach es X.env := by rfl) (hpl : (backTo pos (starEach es X.env)).any (·.1) = false := by rfl) : EK X Γ B H (.Call (.Name x p) (e :: es) [] pos) (n v) (m v) := fun σ B1 H1 g ok Q q =>
  we_call F hr hg hgl (ha σ B1 H1 g ok _ fun vs B2 H2 g2 r => ⟨B2, v, g2.bh, r, hp, fun u B3 H3 g3 d => q u B3 H3 (g2.trans g3) (isK_back _ _ _ _ _ g2.h d)⟩) hdb he hpl
theorem fnK {P : Program} {w : World} {mg : Str → Option Value} {base : Heap} {α : Type} {args : α → List PyData} {pre : α → Prop} {n : α → Nat} {mm : α → Int → Option V} {x qual : Str} {st : Stmt} {f : Addr} {fd : FuncData} {N ps : List Str} {k : Nat} (F : Fun K x qual st f fd) (S : FnScope N ps (defScope st)) (hn : ∀ m, (args m).length = ps.length)
    (body : ∀ (cdv : Value) (A : Around) (outer : List Env) (s : Shared) (B H : Hp) (Q : VK) (m : α), Room k (A.deeper (envOfC qual (defScope st) s.heap.objs.size f cdv)) → A.guards = some [] → Same B H → pre m → (∀ v B2 H2, Grow B H B2 H2 → isK (n m) (mm m) v H B2 H2 → Q v H2) →
      BD (bodyX P w K mg base N qual st f cdv A outer s H) ((args m).map Sl.dat ++ List.replicate (N.length - (args m).length) .unk) B H (defBody st) { nx := fun _ H' => Q .non H', rt := Q }) : FnG P w K mg base (k + 1) f fd ps (PrK K args pre n mm) := by
  refine fnG F S (fun vs H Q ⟨B, m, _, hd, _⟩ => by rw [dps_len hd, hn m]) fun cdv A outer s H vs Q room gd ⟨B, m, sb, hd, hp, kk⟩ => ?_
  refine body cdv A outer s B H Q m room gd sb hp kk _ (good_start sb hd ?_)
  have := congrArg List.length S.pre
  rw [List.length_take] at this
  have := hn m
  omega
/-- {k1: v1, k2: v2, k3: v3}[k], ints to texts -/
theorem ek_three {e1 e2 e3 f1 f2 f3 : Expr} {i1 i2 i3 : Int} {v1 v2 v3 : V} {d1 d2 d3 : PyData} (h1 : ED X Γ B H e1 (.int i1)) (h2 : ED X Γ B H f1 d1) (h3 : ED X Γ B H e2 (.int i2)) (h4 : ED X Γ B H f2 d2) (h5 : ED X Γ B H e3 (.int i3)) (h6 : ED X Γ B H f3 d3) (s1 : scV d1 = some v1) (s2 : scV d2 = some v2) (s3 : scV d3 = some v3) :
    EK X Γ B H (.Dict [some e1, some e2, some e3] [f1, f2, f3] pos) 3 (fun z => if z = i3 then some v3 else if z = i2 then some v2 else if z = i1 then some v1 else none) := fun σ B1 H1 g ok Q k =>
  we_of (pe_disp (pps_cons (pe X e1) (pe X f1) (pps_cons (pe X e2) (pe X f2) (pps_cons (pe X e3) (pe X f3) pps_nil))) (by rfl) (by rfl) (fun z => by cases z) (by show 3 ≤ 15; decide)) fun q hq => by
    have g1 := Grow.newM (o := .dK []) ok.same hq
    have ok1 := ok.grow g1
    refine h1 σ _ _ (g.trans g1) ok1 _ fun u1 B2 H2 g2 r1 => h2 σ _ _ ((g.trans g1).trans g2) (ok1.grow g2) _ fun u2 B3 H3 g3 r2 => ?_
    have ga := (g.trans g1).trans (g2.trans g3)
    have oka := ok1.grow (g2.trans g3)
    refine h3 σ _ _ ga oka _ fun u3 B4 H4 g4 r3 => h4 σ _ _ (ga.trans g4) (oka.grow g4) _ fun u4 B5 H5 g5 r4 => ?_
    have gb := ga.trans (g4.trans g5)
    have okb := oka.grow (g4.trans g5)
    refine h5 σ _ _ gb okb _ fun u5 B6 H6 g6 r5 => h6 σ _ _ (gb.trans g6) (okb.grow g6) _ fun u6 B7 H7 g7 r6 => ?_
    have g27 := ((g2.trans g3).trans (g4.trans g5)).trans (g6.trans g7)
    have hq7 : H7 q = some (.dK []) := g27.h _ _ upd_same
    have hb7 : B7 q = none := g27.out q _ upd_same (ok.same.free hq)
    refine ⟨hq7, [(Sum.inl i1, v1), (Sum.inl i2, v2), (Sum.inl i3, v3)], ?_, by simp, ?_⟩
    · rw [dp_int r1, dp_int r3, dp_int r5, scV_dp r2 s1, scV_dp r4 s2, scV_dp r6 s3]
      rfl
    · refine k _ B7 _ ⟨(g1.trans g27).b, same_mut (g1.trans g27).h hq, same_mut g27.bh hb7, (g1.trans g27).out⟩ ⟨q, rfl, hq, hb7, ⟨_, upd_same, merge_len [(Sum.inl i1, v1), (Sum.inl i2, v2), (Sum.inl i3, v3)] [], merge_nd _ _ (by simp), fun z => ?_⟩⟩
      show valV (putK (putK (putK [] (Sum.inl i1) v1) (Sum.inl i2) v2) (Sum.inl i3) v3) (Sum.inl z) = _
      rw [valV_put, valV_put, valV_put, valV_nil]
      have e1 : ((Sum.inl z : Key) = Sum.inl i3) = (z = i3) := by simp
      have e2 : ((Sum.inl z : Key) = Sum.inl i2) = (z = i2) := by simp
      have e3 : ((Sum.inl z : Key) = Sum.inl i1) = (z = i1) := by simp
      simp only [e1, e2, e3]
theorem ed_dgetE {sz : Nat} {m : Int → Option V} {v : V} (hu : X.A.units + 64 < cLine) (hk : m i = some v) (hd : scV d = some v) (ha : EK X Γ B H a sz m) (hb : ED X Γ B H b (.int i)) (hs : NoSl b := by exact fun _ _ => rfl) : ED X Γ B H (.Subscript a b pos) d := fun σ B1 H1 g ok Q k =>
  we_of (pe_dget (by omega) (pe X a) (pe X b) hs) (ha σ B1 H1 g ok _ fun v1 B2 H2 g2 r2 => hb σ B2 H2 (g.trans g2) (ok.grow g2) _ fun u B3 H3 g3 r => by
    obtain ⟨q, rfl, h0, hbq, dk⟩ := r2
    obtain ⟨kvs, c1, _, _, c2⟩ := dk.is
    refine ⟨q, v, rfl, ?_, k _ _ _ (g2.trans g3) (by cases d <;> simp [scV] at hd <;> subst hd <;> constructor)⟩
    rw [dp_int r, ← hk, ← c2]
    exact DGet.k (k := Sum.inl i) (g3.h _ _ c1))
/-! ### loops over raw values: for y in a list at l -/
theorem bd_forV {body : List Stmt} {xs : List V} {y : Str} {py p2 : Pos} (n j : Nat) (I : Nat → List Sl → Hp → Hp → Prop) (hc : X.calm = true) (hp : PassesOwn (model X.prog X.w) X.A X.env X.xe) (hN : X.N.Nodup) (hr : Γ[n]? = some (.raw (.ref l)))
    (hl : H l = some (.lst xs)) (h0 : I 0 Γ B H) (hj : ∀ i Γ1 B1 H1, I i Γ1 B1 H1 → j < Γ1.length ∧ H1 l = some (.lst xs))
    (hs : ∀ i v Γ1 B1 H1, xs[i]? = some v → I i Γ1 B1 H1 → Same B B1 → BD X (Γ1.set j (.raw v)) B1 H1 body { D with nx := toN X.K (I (i + 1)) B1, ct := toN X.K (I (i + 1)) B1, bk := fun σ H => WB X rest D σ H })
    (hd : ∀ Γ1 B1 H1, I xs.length Γ1 B1 H1 → Same B B1 → BD X Γ1 B1 H1 rest D)
    (hN1 : X.N[n]? = some x := by rfl) (hv : Vis X.env.scope x := by first | exact Or.inl rfl | exact Or.inr (Or.inl rfl) | exact Or.inr (Or.inr rfl)) (h1 : (x == ("__debug__" : Str)) = false := by decide) (h2 : (x == ("__classdict__" : Str)) = false := by decide)
    (hi : X.N[j]? = some y := by rfl) (hx : Loc X.env.scope y := by first | exact Or.inl rfl | exact Or.inr rfl)
    (hf : X.fn y = true ∨ X.env.scope.names.lookup y = some .local := by first | exact .inl rfl | exact .inr rfl)
    (hs1 : ∀ v, foldedSetIterable (.Name x p2) X.env v = pure v := by intro _; rfl) : BD X Γ B H (.For (.Name y py) (.Name x p2) body [] pos :: rest) D := fun σ ok => by
  refine wb_cons (ps_for hp hc (pi_list (pe_var hN1 hv h1 h2)) (pg_name hN hi hx hf) (pb X body) hs1) ?_
  refine ⟨_, ok.ok n _ hr, l, rfl, ⟨xs, SqL.of hl⟩, fun i m σ H' => m = xs.length - i ∧ i ≤ xs.length ∧ ∃ Γ1 B1, Good X.K Γ1 σ B1 H' ∧ Same B B1 ∧ I i Γ1 B1 H', ⟨xs.length, by simp, Nat.zero_le _, Γ, B, ok, Same.refl _, h0⟩, ?_⟩
  rintro i m σ1 Hc ⟨rfl, hi1, Γ1, B1, ok1, sb, iv⟩
  have hl1 := (hj i Γ1 B1 Hc iv).2
  by_cases hlt : i < xs.length
  · refine .inr ⟨⟨xs, xs[i], SqL.of hl1, by simp [hlt]⟩, fun σ' H' => ∃ Γ2 B2, Good X.K Γ2 σ' B2 H' ∧ Same B B2 ∧ I (i + 1) Γ2 B2 H', fun σ' H' q => ⟨_, by omega, rfl, hlt, q⟩, fun y H2 hy => ?_⟩
    obtain ⟨rfl, hq⟩ := hy
    have hx2 := hq xs (SqL.of hl1)
    have step := hs i y Γ1 B1 H2 hx2 iv sb _ (ok1.set j (s := .raw y) rfl)
    have lift : ∀ σ' H', toN X.K (I (i + 1)) B1 σ' H' → ∃ Γ2 B2, Good X.K Γ2 σ' B2 H' ∧ Same B B2 ∧ I (i + 1) Γ2 B2 H' := fun σ' H' ⟨Γ2, B3, a1, a2, a3⟩ => ⟨Γ2, B3, a1, sb.trans a2, a3⟩
    intro pins s I1
    refine thn (step pins s I1) fun f s1 q => ?_
    cases f with
    | next => obtain ⟨σ', H', J', q⟩ := q; exact ⟨σ', H', J', lift _ _ q⟩
    | cont => obtain ⟨σ', H', J', q⟩ := q; exact ⟨σ', H', J', lift _ _ q⟩
    | brk => exact q
    | ret v => exact q
  · have e : i = xs.length := by omega
    subst e
    exact .inl ⟨⟨xs, SqL.of hl1, Nat.le_refl _⟩, hd Γ1 B1 Hc iv sb σ1 ok1⟩
end
end Dc
/-! The walks, first part: lays.py to lay_with. -/
namespace Dc
open PySem PySem.Spec PyProof.Rows L2
/-- the slots' kinds, up to reckoning -/
theorem bd_is {X : Cx} {Γ Γ' : List Sl} {B H : Hp} {sts : List Stmt} {D : Ends} (e : Γ = Γ') (h : BD X Γ' B H sts D) : BD X Γ B H sts D := e ▸ h
theorem kInt : kitB "int" "int" = some true := by decide +kernel
theorem kIntB : kitB "int" "bool" = some false := by decide +kernel
theorem kTup : kitB "tuple" "tuple" = some true := by decide +kernel
theorem bInt : bootBuiltins "int" = some (.type "int") := by decide +kernel
theorem bBool : bootBuiltins "bool" = some (.type "bool") := by decide +kernel
theorem bTup : bootBuiltins "tuple" = some (.type "tuple") := by decide +kernel
section
variable {P : Program} {w : World} {K : PySem.W.Frag} {mg : Str → Option Value} {base : Heap}
/-! is_whole -/
abbrev s_is_whole : Stmt := top 9
theorem sc_is_whole : FnScope ["value", "least", "most"] ["value", "least", "most"] (defScope s_is_whole) := ⟨rfl, rfl, rfl, by decide +kernel, rfl, by decide +kernel, by decide +kernel⟩
abbrev p_is_whole (K : PySem.W.Frag) : Pr := PrF K (α := Int × Int × Int) (fun m => [.int m.1, .int m.2.1, .int m.2.2]) (fun _ => True) fun m => .bool (decide (m.2.1 ≤ m.1) && decide (m.1 ≤ m.2.2))
theorem w_is_whole {f : Addr} {fd : FuncData} (F : Fun K "is_whole" "is_whole" s_is_whole f fd) (T : Bi mg) : FnG P w K mg base 1 f fd ["value", "least", "most"] (p_is_whole K) := by
  refine fnP F sc_is_whole (fun _ => rfl) fun cdv A outer s B H Q m room gd sb hp k => ?_
  refine bd_ret (R := isD K (.bool (true && ((!false) && (decide (m.2.1 ≤ m.1) && decide (m.1 ≤ m.2.2)))))) (ed_and3 (ed_isi (T := "int") T.isinstance T.int bInt kInt (ed_name 0 rfl)) (fun _ => ed_not (ed_isi (T := "bool") T.isinstance T.bool bBool kIntB (ed_name 0 rfl))) (fun _ _ => chain_le (ed_name 1 rfl) (ed_name 0 rfl) (ed_name 2 rfl))) fun v B2 H2 g r => k v _ B2 H2 rfl g r
/-! is_joint -/
abbrev s_is_joint : Stmt := top 10
theorem sc_is_joint : FnScope ["links", "value", "end"] ["links", "value"] (defScope s_is_joint) := ⟨rfl, rfl, rfl, by decide +kernel, rfl, by decide +kernel, by decide +kernel⟩
abbrev p_is_joint (K : PySem.W.Frag) : Pr := PrF K (α := Nat × Jt) (fun m => [.int (m.1 : Nat), eJ m.2]) (fun m => m.2.1 < m.2.2 ∧ m.2.2 < 2 * m.1 ∧ m.1 ≤ 1000) fun _ => .bool true
theorem w_is_joint {f : Addr} {fd : FuncData} (F : Fun K "is_joint" "is_joint" s_is_joint f fd) (T : Bi mg) (G1 : Has P w K mg base 1 "is_whole" ["value", "least", "most"] (p_is_whole K)) : FnG P w K mg base 2 f fd ["links", "value"] (p_is_joint K) := by
  refine fnP F sc_is_joint (fun _ => rfl) fun cdv A outer s B H Q m room gd sb hp k => ?_
  obtain ⟨L, a, b⟩ := m
  obtain ⟨h1, h2, h3⟩ : a < b ∧ b < 2 * L ∧ L ≤ 1000 := hp
  refine bd_skip (et_or2 (x := false) (y := false) (et_not (x := true) (et_val (by intro _; rfl) (ed_isi (T := "tuple") T.isinstance T.tuple bTup kTup (ed_name 1 rfl)))) (fun _ => et_to (et_neI (ed_len (ds := [.int (a : Nat), .int (b : Nat)]) (.inr rfl) T.len (ed_name 1 rfl)) ed_int) rfl)) rfl fun B1 H1 g1 => ?_
  refine bd_ret (R := isD K (.bool ((([true, true] : List Bool).all id) && decide (((a : Nat) : Int) < (b : Nat))))) (ed_and2 (ed_all rfl T.all (EL.ed (el_lc0 (ds := [.int (a : Nat), .int (b : Nat)]) (v := fun _ => .bool true) (own := [("end", 2)]) (js := [2]) (Γd := fun d => (wipeG _ [2]).set 2 (.dat d)) rfl sc_is_joint.nd (blkOk_by (N := ["links", "value", "end"]) (sc := defScope s_is_joint) (by decide +kernel)) (fun _ _ _ _ _ => pg_name (i := 2) sc_is_joint.nd rfl (.inl rfl)) (it_tup (ed_name 1 rfl)) (by show 2 ≤ 1000000; decide) (by simp) (fun d hd => tg_one 2) fun d hd s0 H0 C cl fp B' H' g' => ?_))) (fun _ => ed_lt (ed_ixT (ds := [.int (a : Nat), .int (b : Nat)]) (k := 0) rfl rfl (ed_name 1 rfl) ed_int) (ed_ixT (ds := [.int (a : Nat), .int (b : Nat)]) (k := 1) rfl rfl (ed_name 1 rfl) ed_int))) fun v B2 H2 g r => k v _ B2 H2 rfl (g1.trans g) ?_
  · obtain ⟨z, rfl, hz⟩ : ∃ z : Nat, d = .int (z : Nat) ∧ z < 2 * L := by
      rcases List.mem_cons.mp hd with rfl | hd
      · exact ⟨a, rfl, by omega⟩
      · rcases List.mem_cons.mp hd with rfl | hd
        · exact ⟨b, rfl, h2⟩
        · cases hd
    refine ed_to (ed_call G1 ((z : Int), 0, 2 * (L : Int) - 1) room gd trivial (ea_cons (ed_name 2 rfl) (ea_cons ed_int (ea_cons (ed_sub (ed_mul (.inl ⟨by decide, by decide⟩) ed_int (ed_name 0 rfl)) ed_int) ea_nil)))) ?_
    show PyData.bool (decide ((0 : Int) ≤ (z : Int)) && decide ((z : Int) ≤ 2 * (L : Int) - 1)) = _
    rw [decide_eq_true (by omega), decide_eq_true (by omega)]
    rfl
  · have e : decide (((a : Nat) : Int) < (b : Nat)) = true := decide_eq_true (by omega)
    rw [e] at r
    exact r
/-! mates_in -/
abbrev s_mates_in : Stmt := top 17
theorem sc_mates_in : FnScope ["lay", "found", "one", "other"] ["lay"] (defScope s_mates_in) := ⟨rfl, rfl, rfl, by decide +kernel, rfl, by decide +kernel, by decide +kernel⟩
abbrev p_mates_in (K : PySem.W.Frag) : Pr := PrF K (α := Nat × List Jt) (fun m => [eLay m.1 m.2]) (fun m => Lay m.1 m.2) fun m => .list (eMates m.1 (mt m.2))
theorem w_mates_in {f : Addr} {fd : FuncData} (F : Fun K "mates_in" "mates_in" s_mates_in f fd) : FnG P w K mg base 1 f fd ["lay"] (p_mates_in K) := by
  refine fnP F sc_mates_in (fun _ => rfl) fun cdv A outer s B H Q m room gd sb hp k => ?_
  obtain ⟨L, js⟩ := m
  have hl : Lay L js := hp
  have hle := hl.le
  refine bd_setM 1 sc_mates_in.nd (el_rep1 (n := 2 * L) (by simp) (by omega) (el_lst (ea_cons ed_non ea_nil)).em (ed_mul (.inl ⟨by decide, by decide⟩) ed_int (ed_ixT (ds := [.int (L : Nat), .tuple (js.map eJ)]) (k := 0) rfl rfl (ed_name 0 rfl) ed_int))) fun l B1 H1 g1 hn m1 => ?_
  rw [eMates_none] at m1
  refine bd_for (fun i Γ' B' H' => ∃ s2 s3, Γ' = [.dat (eLay L js), .raw (.ref l), s2, s3] ∧ Grow B H B' H' ∧ Mt K B' H' l (eMates L (mt (js.take i)))) rfl PassesOwn.never (pg_tup rfl (pgs_cons (pg_name (i := 2) sc_mates_in.nd rfl (.inl rfl)) (pgs_cons (pg_name (i := 3) sc_mates_in.nd rfl (.inl rfl)) pgs_nil))) (it_tup (ds := js.map eJ) (ed_ixT (ds := [.int (L : Nat), .tuple (js.map eJ)]) (k := 1) rfl rfl (ed_name 0 rfl) ed_int)) (fun d hd Γ1 => tg_pr 2 3 (pr_eJ d hd)) (fun B2 H2 g => ⟨_, _, rfl, g1.trans g, m1.grow g⟩) ?_ ?_
  · rintro i d _ B2 H2 hd ⟨s2, s3, rfl, g2, m2⟩ _ B3 H3 g3
    obtain ⟨p, hp, rfl⟩ := at_eJ hd
    have hb := hl.each p (List.mem_of_getElem? hp)
    refine bd_setIx (ds := eMates L (mt (js.take i))) (kx := p.1) 1 rfl (m2.grow g3) (ed_name 3 rfl) (ed_name 2 rfl) rfl (by rw [eMates_len]; omega) fun B4 H4 g4 m4 H5 m5 o5 => ?_
    rw [eMates_set] at m5
    have n4 : B4 l = none := m4.out
    refine bd_setIx (kx := p.2) 1 rfl m5 (ed_name 2 rfl) (ed_name 3 rfl) rfl (by rw [eMates_len]; omega) fun B6 H6 g6 m6 H7 m7 o7 => ?_
    rw [eMates_set] at m7
    have gg := (g2.trans g3).trans g4
    refine bd_turn rfl (Weak.refl _) (g4.b.trans g6.b) ⟨_, _, rfl, ((gg.mut hn m4.out o5).trans g6).mut hn m6.out o7, ?_⟩
    have e : mt (js.take (i + 1)) = fun z => if z = p.2 then some p.1 else if z = p.1 then some p.2 else mt (js.take i) z := by
      rw [take_snoc hp, mt_snoc]
      rfl
    rw [e]
    exact m7
  · rintro _ B2 H2 ⟨s2, s3, rfl, g2, m2⟩ _
    rw [List.length_map, List.take_length] at m2
    exact bd_retM 1 rfl m2 g2 hn fun v B3 g3 r => k v _ B3 _ rfl g3 r
end
end Dc
/-! The walks, second part: wrong_place to lay_with. -/
namespace Dc
open PySem PySem.Spec PyProof.Rows L2
/-- the ends of some joints, each with True -/
def usd (js : List Jt) : Int → Option V := js.foldl (fun m p => fun z => Option.or (if z = ((p.2 : Nat) : Int) then some (V.bl true) else if z = ((p.1 : Nat) : Int) then some (V.bl true) else none) (m z)) fun _ => none
theorem usd_snoc (js : List Jt) (p : Jt) : usd (js ++ [p]) = fun z => Option.or (if z = ((p.2 : Nat) : Int) then some (V.bl true) else if z = ((p.1 : Nat) : Int) then some (V.bl true) else none) (usd js z) := by
  unfold usd
  rw [List.foldl_append]
  rfl
theorem usd_fold {n : Nat} : ∀ (js : List Jt) (m : Int → Option V), n ∉ ptsJ js → (js.foldl (fun m p => fun z => Option.or (if z = ((p.2 : Nat) : Int) then some (V.bl true) else if z = ((p.1 : Nat) : Int) then some (V.bl true) else none) (m z)) m) (n : Nat) = m (n : Nat)
  | [], _, _ => rfl
  | p :: js, m, h => by
    have h1 : n ≠ p.1 ∧ n ≠ p.2 ∧ n ∉ ptsJ js := by
      simp only [ptsJ, List.flatMap_cons, List.mem_append, List.mem_cons, not_or] at h
      exact ⟨h.1.1, h.1.2.1, h.2⟩
    rw [List.foldl_cons, usd_fold js _ h1.2.2]
    rw [if_neg (by omega), if_neg (by omega)]
    rfl
theorem usd_out {js : List Jt} {n : Nat} (h : n ∉ ptsJ js) : usd js (n : Nat) = none := usd_fold js _ h
def ltJ (p q : Jt) : Bool := decide (p.1 < q.1 ∨ (p.1 = q.1 ∧ p.2 ≤ q.2))
def sortJ (js : List Jt) : List Jt := js.mergeSort ltJ
theorem sortJ_perm (js : List Jt) : (sortJ js).Perm js := List.mergeSort_perm _ _
theorem leJ_eq : PySem.W.dataLe false eJ = ltJ := by
  have h := PySem.W.dataLe_ii (fun p : Jt => ((p.1 : Nat) : Int)) (fun p : Jt => ((p.2 : Nat) : Int))
  have e : (fun b : Jt => PyData.tuple [.int ((b.1 : Nat) : Int), .int ((b.2 : Nat) : Int)]) = eJ := rfl
  rw [e] at h
  rw [h]
  funext p q
  unfold ltJ
  exact decide_eq_decide.mpr (by omega)
theorem sortD_eJ (js : List Jt) : sortD (js.map eJ) = (sortJ js).map eJ := by
  unfold sortD sortJ
  rw [← leJ_eq]
  exact (PySem.W.sort_maps eJ (fun _ _ _ _ => rfl)).symm
theorem sortJ_asc {js : List Jt} (h : (js.map (·.1)).Nodup) : (sortJ js).Pairwise fun p q => p.1 < q.1 := by
  have h1 : (sortJ js).Pairwise fun p q => ltJ p q = true := List.pairwise_mergeSort (fun a b c h1 h2 => by
      unfold ltJ at *
      simp only [decide_eq_true_eq] at *
      omega) (fun a b => by
      unfold ltJ
      simp only [Bool.or_eq_true, decide_eq_true_eq]
      omega) js
  have h2 : ((sortJ js).map (·.1)).Nodup := ((sortJ_perm js).map _).nodup_iff.mpr h
  have h3 : (sortJ js).Pairwise fun p q => p.1 ≠ q.1 := by
    rw [List.Nodup, List.pairwise_map] at h2
    exact h2
  refine (h1.and h3).imp fun {p q} ⟨a, b⟩ => ?_
  unfold ltJ at a
  simp only [decide_eq_true_eq] at a
  omega
theorem eJ_alike (js : List Jt) : PySem.W.AllAlike (js.map eJ) := PySem.W.AllAlike.of fun a b => by simp [eJ, PySem.W.alike, PySem.W.alikeAll]
theorem eJ_sortable (js : List Jt) : PySem.W.Sortable (js.map eJ) := PySem.W.Sortable.tuples fun b => ⟨_, _, rfl⟩
theorem eJ_depth (js : List Jt) : ∀ d ∈ js.map eJ, d.depth ≤ 60 := fun d h => by
  obtain ⟨p, _, rfl⟩ := List.mem_map.mp h
  simp [eJ, PyData.depth, PyData.depthAll]
section
variable {P : Program} {w : World} {K : PySem.W.Frag} {mg : Str → Option Value} {base : Heap}
/-! wrong_place -/
abbrev s_wrong_place : Stmt := top 11
theorem sc_wrong_place : FnScope ["value", "used", "last", "number", "joint"] ["value"] (defScope s_wrong_place) := ⟨rfl, rfl, rfl, by decide +kernel, rfl, by decide +kernel, by decide +kernel⟩
abbrev p_wrong_place (K : PySem.W.Frag) : Pr := PrF K (α := Nat × List Jt) (fun m => [eLay m.1 m.2]) (fun m => Lay m.1 m.2) fun _ => .none
theorem w_wrong_place {f : Addr} {fd : FuncData} (F : Fun K "wrong_place" "wrong_place" s_wrong_place f fd) (T : Bi mg) {tk : Tok} (hM : mg "MOST_LINKS" = some (.int 12 tk)) (G1 : Has P w K mg base 2 "is_whole" ["value", "least", "most"] (p_is_whole K)) (G2 : Has P w K mg base 2 "is_joint" ["links", "value"] (p_is_joint K)) : FnG P w K mg base 3 f fd ["value"] (p_wrong_place K) := by
  refine fnP F sc_wrong_place (fun _ => rfl) fun cdv A outer s B H Q m room gd sb hp k => ?_
  obtain ⟨L, js⟩ := m
  have hl : Lay L js := hp
  have hle := hl.le
  have hpos := hl.pos
  have hlen := hl.len
  have hu := room.units
  have eL : (eLay L js) = .tuple [.int (L : Nat), .tuple (js.map eJ)] := rfl
  refine bd_skip (et_or2 (x := false) (y := false) (et_not (x := true) (et_val (by intro _; rfl) (ed_isi (T := "tuple") T.isinstance T.tuple bTup kTup (ed_name 0 rfl)))) (fun _ => et_to (et_neI (ed_len (ds := [.int (L : Nat), .tuple (js.map eJ)]) (.inr rfl) T.len (ed_name 0 rfl)) ed_int) rfl)) rfl fun B1 H1 g1 => ?_
  refine bd_skip (et_not (x := true) (et_val (by intro _; rfl) (ed_to (ed_call G1 ((L : Int), 1, 12) room gd trivial (ea_cons (ed_ixT (ds := [.int (L : Nat), .tuple (js.map eJ)]) (k := 0) rfl rfl (ed_name 0 rfl) ed_int) (ea_cons ed_int (ea_cons (ed_glob (v := .int 12) hM ⟨_, rfl⟩ (.int _)) ea_nil)))) (by
    show PyData.bool (decide ((1 : Int) ≤ (L : Int)) && decide ((L : Int) ≤ 12)) = .bool true
    rw [decide_eq_true (by omega), decide_eq_true (by omega)]
    rfl)))) rfl fun B2 H2 g2 => ?_
  refine bd_skip (et_not (x := true) (et_val (by intro _; rfl) (ed_isi (T := "tuple") T.isinstance T.tuple bTup kTup (ed_ixT (ds := [.int (L : Nat), .tuple (js.map eJ)]) (k := 1) rfl rfl (ed_name 0 rfl) ed_int)))) rfl fun B3 H3 g3 => ?_
  refine bd_par2 1 2 rfl sc_wrong_place.nd (by decide) ek_new (ed_tup (ds := []) ea_nil) fun v1 v2 B4 H4 B5 H5 g4 r4 g5 r5 σ5 ok5 => ?_
  obtain ⟨q, rfl, hq0, hqb, dk⟩ := r4
  have hqb5 : B5 q = none := g5.outD dk hqb
  have dk5 := dk.same g5.h
  have gA := ((((g1.trans g2).trans g3).trans g4).trans g5)
  have hqH : H q = none := (((g1.trans g2).trans g3).h).free hq0
  have okk : Good K [.dat (eLay L js), .raw (.ref q), .dat (.tuple (([] : List Int).map PyData.int)), .unk, .unk] ((σ5.set 1 (some (.ref q))).set 2 (some v2)) B5 H5 := (ok5.set 1 (s := .raw (.ref q)) rfl).set 2 (s := .dat _) ⟨v2, rfl, r5⟩
  refine (?_ : BD (bodyX P w K mg base _ _ s_wrong_place f cdv A outer s H) [.dat (eLay L js), .raw (.ref q), .dat (.tuple (([] : List Int).map PyData.int)), .unk, .unk] B5 H5 _ _) _ okk
  refine bd_for (fun i Γ' B' H' => ∃ (ns : List Int) (s3 s4 : Sl), Γ' = [.dat (eLay L js), .raw (.ref q), .dat (.tuple (ns.map .int)), s3, s4] ∧ Grow B H B' H' ∧ B' q = none ∧ Dk H' q (2 * i) (usd (js.take i)) ∧ ∀ p, js[i]? = some p → HT.lexLt ns [((p.1 : Nat) : Int), ((p.2 : Nat) : Int)] = true) rfl PassesOwn.never
    (pg_tup rfl (pgs_cons (pg_name (i := 3) sc_wrong_place.nd rfl (.inl rfl)) (pgs_cons (pg_name (i := 4) sc_wrong_place.nd rfl (.inl rfl)) pgs_nil))) (it_enumT T.enumerate (ed_ixT (ds := [.int (L : Nat), .tuple (js.map eJ)]) (k := 1) rfl rfl (ed_name 0 rfl) ed_int)) (fun d hd Γ1 => tg_pr 3 4 (pr_numb d hd))
    (fun B6 H6 g6 => ⟨[], _, _, rfl, gA.trans g6, g6.outD dk5 hqb5, dk5.same g6.h, fun p _ => rfl⟩) ?_ ?_
  · rintro i d _ B6 H6 hd ⟨ns, s3, s4, rfl, g6, hb6, dk6, hlx⟩ _ B7 H7 g7
    obtain ⟨e, he, rfl⟩ := at_numb hd
    obtain ⟨p, hp, rfl⟩ := at_eJ he
    have hb := hl.each p (List.mem_of_getElem? hp)
    have hne := pts_new hp hl.nd
    have hi : i < js.length := (List.getElem?_eq_some_iff.mp hp).1
    have dk7 := dk6.same g7.h
    have hb7 : B7 q = none := g7.outD dk6 hb6
    refine bd_is (Γ' := [.dat (eLay L js), .raw (.ref q), .dat (.tuple (ns.map .int)), .dat (.int (i : Nat)), .dat (eJ p)]) rfl ?_
    refine bd_skip (et_or4 (x := false) (y := false) (z := false) (w := false)
      (et_not (x := true) (et_val (by intro _; rfl) (ed_to (ed_call G2 (L, p) room gd ⟨hb.1, hb.2, by show L ≤ 1000; omega⟩ (ea_cons (ed_ixT (ds := [.int (L : Nat), .tuple (js.map eJ)]) (k := 0) rfl rfl (ed_name 0 rfl) ed_int) (ea_cons (ed_name 4 rfl) ea_nil))) rfl)))
      (fun _ => et_not (x := true) (et_to (et_ltT (ns := ns) (ms := [((p.1 : Nat) : Int), ((p.2 : Nat) : Int)]) room.units0 (ed_name 2 rfl) (ed_name 4 rfl)) (hlx p hp)))
      (fun _ _ => et_to (et_inK (n := 1) (sz := 2 * i) 1 rfl dk7 room.units (ed_ixT (ds := [.int (p.1 : Nat), .int (p.2 : Nat)]) (k := 0) rfl rfl (ed_name 4 rfl) ed_int)) (by rw [usd_out hne.1]; rfl))
      (fun _ _ _ => et_to (et_inK (n := 1) (sz := 2 * i) 1 rfl dk7 room.units (ed_ixT (ds := [.int (p.1 : Nat), .int (p.2 : Nat)]) (k := 1) rfl rfl (ed_name 4 rfl) ed_int)) (by rw [usd_out hne.2]; rfl))) rfl fun B8 H8 g8 => ?_
    have hb8 : B8 q = none := g8.outD dk7 hb7
    refine bd_updK 1 rfl (dk7.same g8.h) hb8 (by omega) (ek_two (v1 := .bl true) (v2 := .bl true) (ed_ixT (ds := [.int (p.1 : Nat), .int (p.2 : Nat)]) (k := 0) rfl rfl (ed_name 4 rfl) ed_int) ed_bl (ed_ixT (ds := [.int (p.1 : Nat), .int (p.2 : Nat)]) (k := 1) rfl rfl (ed_name 4 rfl) ed_int) ed_bl rfl rfl) fun B9 H9 g9 hb9 H10 dk10 o10 => ?_
    have g10 : Grow B H B9 H10 := (((g6.trans g7).trans g8).trans g9).mut hqH hb9 o10
    refine bd_set 2 sc_wrong_place.nd (ed_name 4 rfl) fun B11 H11 g11 => ?_
    have hb11 : B11 q = none := g11.outD dk10 hb9
    refine bd_turn rfl (Weak.refl _) ((g8.b.trans g9.b).trans g11.b) ⟨[((p.1 : Nat) : Int), ((p.2 : Nat) : Int)], _, _, rfl, g10.trans g11, hb11, ?_, fun p' hp' => ?_⟩
    · have := (dk10.same g11.h).congr (m' := usd (js.take (i + 1))) (by rw [take_snoc hp, usd_snoc]; exact fun z => rfl)
      exact this.up (by omega)
    · have hlt : p.1 < p'.1 := by
        have := List.pairwise_iff_getElem.mp hl.asc i (i + 1) hi (List.getElem?_eq_some_iff.mp hp').1 (by omega)
        rw [(List.getElem?_eq_some_iff.mp hp).2, (List.getElem?_eq_some_iff.mp hp').2] at this
        exact this
      show (if ((p.1 : Nat) : Int) = ((p'.1 : Nat) : Int) then _ else decide (((p.1 : Nat) : Int) < ((p'.1 : Nat) : Int))) = true
      rw [if_neg (by omega), decide_eq_true (by omega)]
  · rintro _ B6 H6 ⟨ns, s3, s4, rfl, g6, _⟩ _
    exact bd_ret ed_non fun v B7 H7 g7 r => k v _ B7 H7 rfl (g6.trans g7) r
/-! need_lay -/
abbrev s_need_lay : Stmt := top 12
theorem sc_need_lay : FnScope ["lay", "place"] ["lay"] (defScope s_need_lay) := ⟨rfl, rfl, rfl, by decide +kernel, rfl, by decide +kernel, by decide +kernel⟩
abbrev p_need_lay (K : PySem.W.Frag) : Pr := PrF K (α := Nat × List Jt) (fun m => [eLay m.1 m.2]) (fun m => Lay m.1 m.2) fun m => eLay m.1 m.2
theorem w_need_lay {f : Addr} {fd : FuncData} (F : Fun K "need_lay" "need_lay" s_need_lay f fd) (G1 : Has P w K mg base 3 "wrong_place" ["value"] (p_wrong_place K)) : FnG P w K mg base 4 f fd ["lay"] (p_need_lay K) := by
  refine fnP F sc_need_lay (fun _ => rfl) fun cdv A outer s B H Q m room gd sb hp k => ?_
  refine bd_set 1 sc_need_lay.nd (ed_call G1 m room gd hp (ea_cons (ed_name 0 rfl) ea_nil)) fun B1 H1 g1 => ?_
  refine bd_skip (et_notN (ed_name 1 rfl)) rfl fun B2 H2 g2 => ?_
  exact bd_ret (ed_name 0 rfl) fun v B3 H3 g3 r => k v _ B3 H3 rfl ((g1.trans g2).trans g3) r
/-! need_two -/
abbrev s_need_two : Stmt := top 13
theorem sc_need_two : FnScope ["one", "other"] ["one", "other"] (defScope s_need_two) := ⟨rfl, rfl, rfl, by decide +kernel, rfl, by decide +kernel, by decide +kernel⟩
abbrev p_need_two (K : PySem.W.Frag) : Pr := PrF K (α := Nat × List Jt × List Jt) (fun m => [eLay m.1 m.2.1, eLay m.1 m.2.2]) (fun m => Lay m.1 m.2.1 ∧ Lay m.1 m.2.2) fun m => .tuple [eLay m.1 m.2.1, eLay m.1 m.2.2]
theorem w_need_two {f : Addr} {fd : FuncData} (F : Fun K "need_two" "need_two" s_need_two f fd) (G1 : Has P w K mg base 4 "need_lay" ["lay"] (p_need_lay K)) : FnG P w K mg base 5 f fd ["one", "other"] (p_need_two K) := by
  refine fnP F sc_need_two (fun _ => rfl) fun cdv A outer s B H Q m room gd sb hp k => ?_
  obtain ⟨L, j1, j2⟩ := m
  refine bd_expr (ed_call G1 (L, j1) room gd hp.1 (ea_cons (ed_name 0 rfl) ea_nil)) fun _ B1 H1 g1 _ => ?_
  refine bd_expr (ed_call G1 (L, j2) room gd hp.2 (ea_cons (ed_name 1 rfl) ea_nil)) fun _ B2 H2 g2 _ => ?_
  refine bd_skip (et_neI (i := (L : Nat)) (j := (L : Nat)) (ed_ixT (ds := [.int (L : Nat), .tuple (j1.map eJ)]) (k := 0) rfl rfl (ed_name 0 rfl) ed_int) (ed_ixT (ds := [.int (L : Nat), .tuple (j2.map eJ)]) (k := 0) rfl rfl (ed_name 1 rfl) ed_int)) (by simp) fun B3 H3 g3 => ?_
  exact bd_ret (ed_tup (ds := [eLay L j1, eLay L j2]) (ea_cons (ed_name 0 rfl) (ea_cons (ed_name 1 rfl) ea_nil)) (by show 2 ≤ 1000; decide)) fun v B4 H4 g4 r => k v _ B4 H4 rfl (((g1.trans g2).trans g3).trans g4) r
/-! need_link -/
abbrev s_need_link : Stmt := top 14
theorem sc_need_link : FnScope ["lay", "link"] ["lay", "link"] (defScope s_need_link) := ⟨rfl, rfl, rfl, by decide +kernel, rfl, by decide +kernel, by decide +kernel⟩
abbrev p_need_link (K : PySem.W.Frag) : Pr := PrF K (α := Nat × List Jt × Nat) (fun m => [eLay m.1 m.2.1, .int (m.2.2 : Nat)]) (fun m => m.2.2 < m.1) fun m => .none
theorem w_need_link {f : Addr} {fd : FuncData} (F : Fun K "need_link" "need_link" s_need_link f fd) (G1 : Has P w K mg base 1 "is_whole" ["value", "least", "most"] (p_is_whole K)) : FnG P w K mg base 2 f fd ["lay", "link"] (p_need_link K) := by
  refine fnP F sc_need_link (fun _ => rfl) fun cdv A outer s B H Q m room gd sb hp k => ?_
  obtain ⟨L, js, n⟩ := m
  have hn : n < L := hp
  refine bd_skip (et_not (x := true) (et_val (by intro _; rfl) (ed_to (ed_call G1 ((n : Int), 0, (L : Int) - 1) room gd trivial (ea_cons (ed_name 1 rfl) (ea_cons ed_int (ea_cons (ed_sub (ed_ixT (ds := [.int (L : Nat), .tuple (js.map eJ)]) (k := 0) rfl rfl (ed_name 0 rfl) ed_int) ed_int) ea_nil)))) (by
    show PyData.bool (decide ((0 : Int) ≤ (n : Int)) && decide ((n : Int) ≤ (L : Int) - 1)) = .bool true
    rw [decide_eq_true (by omega), decide_eq_true (by omega)]
    rfl)))) rfl fun B1 H1 g1 => ?_
  exact bd_nil fun σ ok => k .non _ B1 H1 rfl g1 .non
/-! fellow_of -/
abbrev s_fellow_of : Stmt := top 15
theorem sc_fellow_of : FnScope ["end"] ["end"] (defScope s_fellow_of) := ⟨rfl, rfl, rfl, by decide +kernel, rfl, by decide +kernel, by decide +kernel⟩
abbrev p_fellow_of (K : PySem.W.Frag) : Pr := PrF K (α := Int) (fun m => [.int m]) (fun _ => True) fun m => .int (Builtin.bitXor m 1)
theorem w_fellow_of {f : Addr} {fd : FuncData} (F : Fun K "fellow_of" "fellow_of" s_fellow_of f fd) : FnG P w K mg base 1 f fd ["end"] (p_fellow_of K) := by
  refine fnP F sc_fellow_of (fun _ => rfl) fun cdv A outer s B H Q m room gd sb hp k => ?_
  exact bd_ret (ed_xor (ed_name 0 rfl) ed_int) fun v B4 H4 g4 r => k v _ B4 H4 rfl g4 r
/-! joint_of -/
abbrev s_joint_of : Stmt := top 16
theorem sc_joint_of : FnScope ["one", "other"] ["one", "other"] (defScope s_joint_of) := ⟨rfl, rfl, rfl, by decide +kernel, rfl, by decide +kernel, by decide +kernel⟩
abbrev p_joint_of (K : PySem.W.Frag) : Pr := PrF K (α := Nat × Nat) (fun m => [.int (m.1 : Nat), .int (m.2 : Nat)]) (fun _ => True) fun m => eJ (jo m.1 m.2)
theorem w_joint_of {f : Addr} {fd : FuncData} (F : Fun K "joint_of" "joint_of" s_joint_of f fd) : FnG P w K mg base 1 f fd ["one", "other"] (p_joint_of K) := by
  refine fnP F sc_joint_of (fun _ => rfl) fun cdv A outer s B H Q m room gd sb hp k => ?_
  obtain ⟨a, b⟩ := m
  refine bd_ret (R := isD K (eJ (jo a b))) (ed_if (et_lt (i := (a : Nat)) (j := (b : Nat)) (ed_name 0 rfl) (ed_name 1 rfl)) (fun h => ?_) (fun h => ?_)) fun v B4 H4 g4 r => k v _ B4 H4 rfl g4 r
  · have h' := of_decide_eq_true h
    unfold jo
    rw [if_pos (by omega)]
    exact ed_tup (ds := [.int (a : Nat), .int (b : Nat)]) (ea_cons (ed_name 0 rfl) (ea_cons (ed_name 1 rfl) ea_nil)) (by show 2 ≤ 1000; decide)
  · have h' := of_decide_eq_false h
    unfold jo
    rw [if_neg (by omega)]
    exact ed_tup (ds := [.int (b : Nat), .int (a : Nat)]) (ea_cons (ed_name 1 rfl) (ea_cons (ed_name 0 rfl) ea_nil)) (by show 2 ≤ 1000; decide)
/-! lay_with -/
abbrev s_lay_with : Stmt := top 18
theorem sc_lay_with : FnScope ["links", "joints"] ["links", "joints"] (defScope s_lay_with) := ⟨rfl, rfl, rfl, by decide +kernel, rfl, by decide +kernel, by decide +kernel⟩
abbrev p_lay_with (K : PySem.W.Frag) : Pr := PrF K (α := Nat × List Jt) (fun m => [.int (m.1 : Nat), .list (m.2.map eJ)]) (fun _ => True) fun m => eLay m.1 (sortJ m.2)
theorem w_lay_with {f : Addr} {fd : FuncData} (F : Fun K "lay_with" "lay_with" s_lay_with f fd) (T : Bi mg) : FnG P w K mg base 1 f fd ["links", "joints"] (p_lay_with K) := by
  refine fnP F sc_lay_with (fun _ => rfl) fun cdv A outer s B H Q m room gd sb hp k => ?_
  obtain ⟨L, js⟩ := m
  refine bd_ret (R := isD K (eLay L (sortJ js))) (ed_tup (ds := [.int (L : Nat), .tuple ((sortJ js).map eJ)]) (ea_cons (ed_name 0 rfl) (ea_cons (ed_to (ed_tuple (.inl rfl) T.tuple (el_sorted room.units T.sorted (eJ_alike js) (eJ_sortable js) (eJ_depth js) (ed_name 1 rfl)).ed) (by rw [sortD_eJ])) ea_nil)) (by show 2 ≤ 1000; decide)) fun v B4 H4 g4 r => k v _ B4 H4 rfl g4 r
end
end Dc
/-! The walks, third part: is_order, renamed. -/
namespace Dc
open PySem PySem.Spec PyProof.Rows L2
structure IsOrd (L : Nat) (os : List Int) : Prop where
  len : os.length = L
  each : ∀ o ∈ os, o ≠ 0 ∧ -(L : Int) ≤ o ∧ o ≤ (L : Int)
  nd : (os.map Int.natAbs).Nodup
def absI (o : Int) : Int := if o < 0 then -o else o
theorem absI_nat (o : Int) : absI o = ((o.natAbs : Nat) : Int) := by
  unfold absI
  split <;> omega
def sortI (ns : List Int) : List Int := ns.mergeSort fun a b => decide (a ≤ b)
theorem sortI_perm (ns : List Int) : (sortI ns).Perm ns := List.mergeSort_perm _ _
theorem sortI_up (ns : List Int) : (sortI ns).Pairwise fun a b => a ≤ b := by
  have h := List.pairwise_mergeSort (le := fun a b : Int => decide (a ≤ b)) (fun a b c h1 h2 => by
    simp only [decide_eq_true_eq] at *
    omega) (fun a b => by
    simp only [Bool.or_eq_true, decide_eq_true_eq]
    omega) ns
  exact h.imp fun h => of_decide_eq_true h
theorem sortD_int (ns : List Int) : sortD (ns.map PyData.int) = (sortI ns).map PyData.int := by
  unfold sortD sortI
  have e : PySem.W.dataLe false (fun b : Int => PyData.int b) = fun a b => decide (a ≤ b) := PySem.W.dataLe_int fun b : Int => b
  rw [← e]
  exact (PySem.W.sort_maps (fun b : Int => PyData.int b) (fun _ _ _ _ => rfl)).symm
theorem ints_alike (ns : List Int) : PySem.W.AllAlike (ns.map PyData.int) := PySem.W.AllAlike.of fun a b => by simp [PySem.W.alike]
theorem ints_sortable (ns : List Int) : PySem.W.Sortable (ns.map PyData.int) := PySem.W.Sortable.others fun b => ⟨nofun, nofun⟩
theorem ints_depth (ns : List Int) : ∀ d ∈ ns.map PyData.int, d.depth ≤ 60 := fun d h => by
  obtain ⟨p, _, rfl⟩ := List.mem_map.mp h
  exact dep_int p
theorem eqv_ints (ns : List Int) : PyData.eqv (.list (ns.map .int)) (.list (ns.map .int)) = true := SeqAt.eqv_refl _ (by simp only [PyData.canLay0]; exact lay_ints ns)
/-- nodup numbers of 1 .. L, L of them, sorted -/
theorem ord_sorted {L : Nat} {os : List Int} (h : IsOrd L os) : sortI (os.map absI) = (List.range L).map fun k => (1 : Int) + (k : Nat) := by
  refine List.Perm.eq_of_pairwise (le := fun a b => a ≤ b) (fun a b _ _ h1 h2 => by omega) (sortI_up _) ?_ ?_
  · rw [List.pairwise_map]
    exact List.pairwise_lt_range.imp fun h => by omega
  · refine (sortI_perm _).trans ?_
    have n1 : (os.map absI).Nodup := by
      have e : os.map absI = (os.map Int.natAbs).map fun n : Nat => (n : Int) := by
        rw [List.map_map]
        exact List.map_congr_left fun o _ => absI_nat o
      rw [e, List.Nodup, List.pairwise_map]
      exact h.nd.imp fun h => by omega
    have n2 : ((List.range L).map fun k => (1 : Int) + (k : Nat)).Nodup := by
      rw [List.Nodup, List.pairwise_map]
      exact List.nodup_range.imp fun h => by omega
    -- as many, the one within the other
    have sub : ∀ x ∈ os.map absI, x ∈ (List.range L).map fun k => (1 : Int) + (k : Nat) := fun x hx => by
      obtain ⟨o, ho, rfl⟩ := List.mem_map.mp hx
      have := h.each o ho
      rw [absI_nat]
      refine List.mem_map.mpr ⟨o.natAbs - 1, List.mem_range.mpr (by omega), by omega⟩
    exact perm_of_sub n1 sub (by simp [h.len])
/-- the new name of an end, as a number -/
def nrI (o : Int) : Int := 2 * (absI o - 1) + (if o < 0 then 1 else 0)
def nmF (os : List Int) (i : Nat) : Int → Option V := (List.range i).foldl (fun m k => fun z => Option.or (if z = 2 * ((k : Nat) : Int) + 1 then some (V.int (Builtin.bitXor (nrI (os.getD k 0)) 1)) else if z = 2 * ((k : Nat) : Int) then some (V.int (nrI (os.getD k 0))) else none) (m z)) fun _ => none
theorem nmF_succ (os : List Int) (i : Nat) : nmF os (i + 1) = fun z => Option.or (if z = 2 * ((i : Nat) : Int) + 1 then some (V.int (Builtin.bitXor (nrI (os.getD i 0)) 1)) else if z = 2 * ((i : Nat) : Int) then some (V.int (nrI (os.getD i 0))) else none) (nmF os i z) := by
  unfold nmF
  rw [List.range_succ, List.foldl_append]
  rfl
/-- the new name of an end -/
def rn (os : List Int) (z : Nat) : Nat :=
  let o := os.getD (z / 2) 0
  if (z % 2 = 0 ↔ 0 < o) then 2 * (o.natAbs - 1) else 2 * (o.natAbs - 1) + 1
theorem xor_one : ∀ n < 60, Builtin.bitXor (2 * ((n : Nat) : Int)) 1 = 2 * ((n : Nat) : Int) + 1 ∧ Builtin.bitXor (2 * ((n : Nat) : Int) + 1) 1 = 2 * ((n : Nat) : Int) := by decide +kernel
theorem nmF_get {L : Nat} {os : List Int} (h : IsOrd L os) (hL : L ≤ 50) : ∀ (i z : Nat), i ≤ L → z < 2 * i → nmF os i (z : Nat) = some (V.int (rn os z : Nat))
  | 0, z, _, hz => by omega
  | i + 1, z, hi, hz => by
    have hio : i < os.length := by rw [h.len]; omega
    have eo : os.getD i 0 = os[i] := by simp [List.getD_eq_getElem?_getD, hio]
    have ho := h.each os[i] (List.getElem_mem hio)
    have hx := xor_one (os[i].natAbs - 1) (by omega)
    have ea := absI_nat os[i]
    have e1 : 2 * (absI os[i] - 1) = 2 * (((os[i].natAbs - 1 : Nat)) : Int) := by omega
    rw [nmF_succ]
    show Option.or (if ((z : Nat) : Int) = 2 * ((i : Nat) : Int) + 1 then _ else _) _ = _
    by_cases q1 : z = 2 * i + 1
    · rw [if_pos (by omega), eo]
      have ez : z / 2 = i := by omega
      have em : ¬ z % 2 = 0 := by omega
      unfold rn nrI
      rw [ez, eo]
      by_cases q3 : os[i] < 0
      · rw [if_pos q3, if_pos (by omega), e1, hx.2]
        rfl
      · rw [if_neg q3, if_neg (by omega), Int.add_zero, e1, hx.1]
        rfl
    · rw [if_neg (by omega)]
      by_cases q2 : z = 2 * i
      · rw [if_pos (by omega), eo]
        have ez : z / 2 = i := by omega
        have em : z % 2 = 0 := by omega
        unfold rn nrI
        rw [ez, eo]
        by_cases q3 : os[i] < 0
        · rw [if_pos q3, if_neg (by omega), e1]
          rfl
        · rw [if_neg q3, if_pos (by omega), Int.add_zero, e1]
          rfl
      · rw [if_neg (by omega)]
        exact nmF_get h hL i z (by omega) (by omega)
section
variable {P : Program} {w : World} {K : PySem.W.Frag} {mg : Str → Option Value} {base : Heap}
/-! is_order -/
abbrev s_is_order : Stmt := top 19
theorem sc_is_order : FnScope ["links", "value", "name"] ["links", "value"] (defScope s_is_order) := ⟨rfl, rfl, rfl, by decide +kernel, rfl, by decide +kernel, by decide +kernel⟩
abbrev p_is_order (K : PySem.W.Frag) : Pr := PrF K (α := Nat × List Int) (fun m => [.int (m.1 : Nat), .tuple (m.2.map .int)]) (fun m => IsOrd m.1 m.2 ∧ m.1 ≤ 12) fun _ => .bool true
theorem w_is_order {f : Addr} {fd : FuncData} (F : Fun K "is_order" "is_order" s_is_order f fd) (T : Bi mg) (G1 : Has P w K mg base 1 "is_whole" ["value", "least", "most"] (p_is_whole K)) : FnG P w K mg base 2 f fd ["links", "value"] (p_is_order K) := by
  refine fnP F sc_is_order (fun _ => rfl) fun cdv A outer s B H Q m room gd sb hp k => ?_
  obtain ⟨L, os⟩ := m
  obtain ⟨ho, hL⟩ : IsOrd L os ∧ L ≤ 12 := hp
  have hlen : os.length = L := ho.len
  refine bd_skip (et_or2 (x := false) (y := false) (et_not (x := true) (et_val (by intro _; rfl) (ed_isi (T := "tuple") T.isinstance T.tuple bTup kTup (ed_name 1 rfl)))) (fun _ => et_to (et_neI (ed_len (ds := os.map .int) (.inr rfl) T.len (ed_name 1 rfl)) (j := (L : Nat)) (ed_name 0 rfl)) (by rw [List.length_map, hlen, decide_eq_true rfl]; rfl))) rfl fun B1 H1 g1 => ?_
  refine bd_skip (et_not (x := true) (et_val (by intro _; rfl) (ed_to (ed_all (ns := os.map fun _ => true) rfl T.all (ed_to (EL.ed (el_lc0 (ds := os.map .int) (v := fun _ => .bool true) (own := [("name", 2)]) (js := [2]) (Γd := fun d => (wipeG _ [2]).set 2 (.dat d)) rfl sc_is_order.nd (blkOk_by (N := ["links", "value", "name"]) (sc := defScope s_is_order) (by decide +kernel)) (fun _ _ _ _ _ => pg_name (i := 2) sc_is_order.nd rfl (.inl rfl)) (it_tup (ed_name 1 rfl)) (by rw [List.length_map]; omega) (by simp) (fun d hd => tg_one 2) fun d hd s0 H0 C cl fp B' H' g' => ?_)) (by rw [List.map_map, List.map_map]; rfl))) (by
    have : (os.map fun _ => true).all id = true := by simp
    rw [this])))) rfl fun B2 H2 g2 => ?_
  · obtain ⟨o, hm, rfl⟩ := List.mem_map.mp hd
    have := ho.each o hm
    refine ed_to (ed_call G1 (o, -(L : Int), (L : Int)) room gd trivial (ea_cons (ed_name 2 rfl) (ea_cons (ed_neg (ed_name 0 rfl)) (ea_cons (ed_name 0 rfl) ea_nil)))) ?_
    show PyData.bool (decide (-(L : Int) ≤ o) && decide (o ≤ (L : Int))) = _
    rw [decide_eq_true this.2.1, decide_eq_true this.2.2]
    rfl
  · have e2 : rng 1 L = ((List.range L).map fun k => (1 : Int) + (k : Nat)).map PyData.int := by unfold rng; rw [List.map_map]; rfl
    refine bd_ret (R := isD K (.bool true)) (ed_eqD (da := .list (sortD ((os.map absI).map .int))) (db := .list (rng 1 L)) room.units ?_ ?_ ?_ ?_ ?_ (EL.ed (el_sorted room.units T.sorted (ints_alike _) (ints_sortable _) (ints_depth _) (ed_to (EL.ed (el_lc0 (ds := os.map .int) (v := fun d => match d with | .int o => .int (absI o) | _ => .none) (own := [("name", 2)]) (js := [2]) (Γd := fun d => (wipeG _ [2]).set 2 (.dat d)) rfl sc_is_order.nd (blkOk_by (N := ["links", "value", "name"]) (sc := defScope s_is_order) (by decide +kernel)) (fun _ _ _ _ _ => pg_name (i := 2) sc_is_order.nd rfl (.inl rfl)) (it_tup (ed_name 1 rfl)) (by rw [List.length_map]; omega) (by simp) (fun d hd => tg_one 2) fun d hd s0 H0 C cl fp B' H' g' => ?_)) (by rw [List.map_map, List.map_map]; rfl)))) (EL.ed (el_listR2 (n := L) (by omega) (by omega) (by omega) (by omega) rfl T.range T.list ed_int (ed_add (ed_name 0 rfl) ed_int)))) fun v B3 H3 g3 r => k v _ B3 H3 rfl ((g1.trans g2).trans g3) r
    · simp only [PyData.canLay0]
      rw [sortD_int]
      exact lay_ints _
    · simp only [PyData.canLay0]
      rw [e2]
      exact lay_ints _
    · rw [sortD_int]
      exact dep_ints _
    · rw [e2]
      exact dep_ints _
    · rw [sortD_int, ord_sorted ho, e2]
      exact eqv_ints _
    · obtain ⟨o, hm, rfl⟩ := List.mem_map.mp hd
      exact ed_abs T.abs (ed_name 2 rfl)
/-! renamed -/
abbrev s_renamed : Stmt := top 20
abbrev N_renamed : List Str := ["lay", "order", "names", "link", "name", "near", "one", "other"]
theorem sc_renamed : FnScope N_renamed ["lay", "order"] (defScope s_renamed) := ⟨rfl, rfl, rfl, by decide +kernel, rfl, by decide +kernel, by decide +kernel⟩
def ren (os : List Int) (js : List Jt) : List Jt := js.map fun p => jo (rn os p.1) (rn os p.2)
abbrev p_renamed (K : PySem.W.Frag) : Pr := PrF K (α := Nat × List Jt × List Int) (fun m => [eLay m.1 m.2.1, .tuple (m.2.2.map .int)]) (fun m => Lay m.1 m.2.1 ∧ IsOrd m.1 m.2.2) fun m => eLay m.1 (sortJ (ren m.2.2 m.2.1))
theorem w_renamed {f : Addr} {fd : FuncData} (F : Fun K "renamed" "renamed" s_renamed f fd) (T : Bi mg) (G1 : Has P w K mg base 4 "need_lay" ["lay"] (p_need_lay K)) (G2 : Has P w K mg base 4 "is_order" ["links", "value"] (p_is_order K)) (G3 : Has P w K mg base 4 "fellow_of" ["end"] (p_fellow_of K)) (G4 : Has P w K mg base 4 "joint_of" ["one", "other"] (p_joint_of K)) (G5 : Has P w K mg base 4 "lay_with" ["links", "joints"] (p_lay_with K)) : FnG P w K mg base 5 f fd ["lay", "order"] (p_renamed K) := by
  refine fnP F sc_renamed (fun _ => rfl) fun cdv A outer s B H Q m room gd sb hp k => ?_
  obtain ⟨L, js, os⟩ := m
  obtain ⟨hl, ho⟩ : Lay L js ∧ IsOrd L os := hp
  have hle := hl.le
  refine bd_expr (ed_call G1 (L, js) room gd hl (ea_cons (ed_name 0 rfl) ea_nil)) fun _ B1 H1 g1 _ => ?_
  refine bd_skip (et_not (x := true) (et_val (by intro _; rfl) (ed_to (ed_call G2 (L, os) room gd ⟨ho, hle⟩ (ea_cons (ed_ixT (ds := [.int (L : Nat), .tuple (js.map eJ)]) (k := 0) rfl rfl (ed_name 0 rfl) ed_int) (ea_cons (ed_name 1 rfl) ea_nil))) rfl))) rfl fun B2 H2 g2 => ?_
  refine bd_setK 2 sc_renamed.nd ek_new fun q B3 H3 g3 hq0 hqb dk => ?_
  have gA := (g1.trans g2).trans g3
  have hqH : H q = none := (g1.trans g2).h.free hq0
  refine bd_for (fun i Γ' B' H' => ∃ (s3 s4 s5 : Sl), Γ' = [.dat (eLay L js), .dat (.tuple (os.map .int)), .raw (.ref q), s3, s4, s5, .unk, .unk] ∧ Grow B H B' H' ∧ B' q = none ∧ Dk H' q (2 * i) (nmF os i)) rfl PassesOwn.never
    (pg_tup rfl (pgs_cons (pg_name (i := 3) sc_renamed.nd rfl (.inl rfl)) (pgs_cons (pg_name (i := 4) sc_renamed.nd rfl (.inl rfl)) pgs_nil))) (it_enumT T.enumerate (ed_name 1 rfl)) (fun d hd Γ1 => tg_pr 3 4 (pr_numb d hd))
    (fun B4 H4 g4 => ⟨_, _, _, rfl, gA.trans g4, g4.outD dk hqb, dk.same g4.h⟩) ?_ ?_
  · rintro i d _ B4 H4 hd ⟨s3, s4, s5, rfl, g4, hb4, dk4⟩ _ B5 H5 g5
    obtain ⟨e, he, rfl⟩ := at_numb hd
    obtain ⟨o, hov, rfl⟩ : ∃ o, os[i]? = some o ∧ e = .int o := by
      rw [List.getElem?_map] at he
      cases q : os[i]? with
      | none => rw [q] at he; cases he
      | some o => rw [q] at he; exact ⟨o, rfl, (Option.some.inj he).symm⟩
    have hi : i < os.length := (List.getElem?_eq_some_iff.mp hov).1
    rw [ho.len] at hi
    refine bd_is (Γ' := [.dat (eLay L js), .dat (.tuple (os.map .int)), .raw (.ref q), .dat (.int (i : Nat)), .dat (.int o), s5, .unk, .unk]) rfl ?_
    refine bd_set 5 sc_renamed.nd (d := .int (nrI o)) (ed_add (ed_mul (.inl ⟨by decide, by decide⟩) ed_int (ed_sub (ed_abs T.abs (ed_name 4 rfl)) ed_int)) (ed_if (et_lt (ed_name 4 rfl) ed_int) (fun hk => by rw [if_pos (of_decide_eq_true hk)]; exact ed_int) (fun hk => by rw [if_neg (of_decide_eq_false hk)]; exact ed_int))) fun B6 H6 g6 => ?_
    have dk6 := dk4.same (g5.trans g6).h
    have hb6 : B6 q = none := (g5.trans g6).outD dk4 hb4
    refine bd_updK 2 rfl dk6 hb6 (by omega) (ek_two (v1 := .int (nrI o)) (v2 := .int (Builtin.bitXor (nrI o) 1)) (ed_mul (.inl ⟨by decide, by decide⟩) ed_int (ed_name 3 rfl)) (ed_name 5 rfl) (ed_add (ed_mul (.inl ⟨by decide, by decide⟩) ed_int (ed_name 3 rfl)) ed_int) (ed_to (ed_call G3 (nrI o) room gd trivial (ea_cons (ed_name 5 rfl) ea_nil)) rfl) rfl rfl) fun B7 H7 g7 hb7 H8 dk8 o8 => ?_
    refine bd_turn rfl (Weak.refl _) (g6.b.trans g7.b) ⟨_, _, _, rfl, (((g4.trans g5).trans g6).trans g7).mut hqH hb7 o8, hb7, ?_⟩
    refine (dk8.congr (m' := nmF os (i + 1)) ?_).up (by omega)
    have eo : os.getD i 0 = o := by simp [List.getD_eq_getElem?_getD, hov]
    rw [nmF_succ, eo]
    exact fun z => rfl
  · rintro _ B4 H4 ⟨s3, s4, s5, rfl, g4, hb4, dk4⟩ _
    rw [numb_len, List.length_map, ho.len] at dk4
    refine bd_ret (R := isD K (eLay L (sortJ (ren os js)))) (ed_to (ed_call G5 (L, ren os js) room gd trivial (ea_cons (ed_ixT (ds := [.int (L : Nat), .tuple (js.map eJ)]) (k := 0) rfl rfl (ed_name 0 rfl) ed_int) (ea_cons (ed_to (EL.ed (el_lc0 (ds := js.map eJ) (v := fun d => match d with | .tuple [.int a, .int b] => eJ (jo (rn os a.toNat) (rn os b.toNat)) | _ => .none) (own := [("one", 6), ("other", 7)]) (js := [6, 7]) (Γd := fun d => prG 6 7 d (wipeG [.dat (eLay L js), .dat (.tuple (os.map .int)), .raw (.ref q), s3, s4, s5, .unk, .unk] [6, 7])) rfl sc_renamed.nd (blkOk_by (N := N_renamed) (sc := defScope s_renamed) (by decide +kernel)) (fun _ _ _ _ _ => pg_tup rfl (pgs_cons (pg_name (i := 6) sc_renamed.nd rfl (.inl rfl)) (pgs_cons (pg_name (i := 7) sc_renamed.nd rfl (.inl rfl)) pgs_nil))) (it_tup (ed_ixT (ds := [.int (L : Nat), .tuple (js.map eJ)]) (k := 1) rfl rfl (ed_name 0 rfl) ed_int)) (by have := hl.len; rw [List.length_map]; omega) (by simp) (fun d hd => tg_pr 6 7 (pr_eJ d hd)) fun d hd s0 H0 C cl fp B' H' g' => ?_)) ?_) ea_nil))) rfl) fun v B5 H5 g5 r => k v _ B5 H5 rfl (g4.trans g5) r
    · obtain ⟨p, hm, rfl⟩ := List.mem_map.mp hd
      have hb := hl.each p hm
      have dk5 := dk4.same g'.h
      refine ed_to (ed_call G4 (rn os p.1, rn os p.2) room gd trivial (ea_cons (ed_dgetK (m := nmF os L) (v := .int (rn os p.1 : Nat)) 2 rfl dk5 room.units (nmF_get ho (by omega) L p.1 (Nat.le_refl _) (by omega)) rfl (ed_name 6 rfl)) (ea_cons (ed_dgetK (m := nmF os L) (v := .int (rn os p.2 : Nat)) 2 rfl dk5 room.units (nmF_get ho (by omega) L p.2 (Nat.le_refl _) (by omega)) rfl (ed_name 7 rfl)) ea_nil))) ?_
      show eJ (jo (rn os p.1) (rn os p.2)) = eJ (jo (rn os (Int.toNat (p.1 : Nat))) (rn os (Int.toNat (p.2 : Nat))))
      rw [Int.toNat_natCast, Int.toNat_natCast]
    · unfold ren
      rw [List.map_map, List.map_map]
      refine congrArg PyData.list (List.map_congr_left fun p _ => ?_)
      show eJ (jo (rn os (Int.toNat (p.1 : Nat))) (rn os (Int.toNat (p.2 : Nat)))) = eJ (jo (rn os p.1) (rn os p.2))
      rw [Int.toNat_natCast, Int.toNat_natCast]
end
end Dc
/-! The walks, fourth part: without, beside. -/
namespace Dc
open PySem PySem.Spec PyProof.Rows L2
/-- joints that keep off a link -/
def offL (n : Nat) (p : Jt) : Bool := !decide (((p.1 : Nat) : Int) ∈ [2 * ((n : Nat) : Int), 2 * ((n : Nat) : Int) + 1]) && !decide (((p.2 : Nat) : Int) ∈ [2 * ((n : Nat) : Int), 2 * ((n : Nat) : Int) + 1])
def wk (js : List Jt) (n : Nat) : List Jt := js.filter (offL n) ++ (match mt js (2 * n), mt js (2 * n + 1) with
  | some a, some b => if a = 2 * n ∨ a = 2 * n + 1 then [] else [jo a b]
  | _, _ => [])
def lo (n z : Nat) : Nat := if z > 2 * n + 1 then z - 2 else z
def wo (js : List Jt) (n : Nat) : List Jt := (wk js n).map fun p => (lo n p.1, lo n p.2)
section
variable {P : Program} {w : World} {K : PySem.W.Frag} {mg : Str → Option Value} {base : Heap}
abbrev s_without : Stmt := top 21
abbrev N_without : List Str := ["lay", "link", "ends", "mates", "kept", "near", "far", "lower", "joint", "end"]
theorem sc_without : FnScope N_without ["lay", "link"] (defScope s_without) := ⟨rfl, rfl, rfl, by decide +kernel, rfl, by decide +kernel, by decide +kernel⟩
abbrev p_without (K : PySem.W.Frag) : Pr := PrF K (α := Nat × List Jt × Nat) (fun m => [eLay m.1 m.2.1, .int (m.2.2 : Nat)]) (fun m => Lay m.1 m.2.1 ∧ m.2.2 < m.1 ∧ 2 ≤ m.1) fun m => eLay (m.1 - 1) (sortJ (wo m.2.1 m.2.2))
theorem w_without {f : Addr} {fd : FuncData} (F : Fun K "without" "without" s_without f fd) (T : Bi mg) (G1 : Has P w K mg base 4 "need_lay" ["lay"] (p_need_lay K)) (G2 : Has P w K mg base 4 "need_link" ["lay", "link"] (p_need_link K)) (G3 : Has P w K mg base 4 "mates_in" ["lay"] (p_mates_in K)) (G4 : Has P w K mg base 4 "joint_of" ["one", "other"] (p_joint_of K)) (G5 : Has P w K mg base 4 "lay_with" ["links", "joints"] (p_lay_with K)) : FnG P w K mg base 5 f fd ["lay", "link"] (p_without K) := by
  refine fnP F sc_without (fun _ => rfl) fun cdv A outer s B H Q m room gd sb hp k => ?_
  obtain ⟨L, js, n⟩ := m
  obtain ⟨hl, hn, h2⟩ : Lay L js ∧ n < L ∧ 2 ≤ L := hp
  have hle := hl.le
  have hlen := hl.len
  refine bd_expr (ed_call G1 (L, js) room gd hl (ea_cons (ed_name 0 rfl) ea_nil)) fun _ B1 H1 g1 _ => ?_
  refine bd_expr (ed_call G2 (L, js, n) room gd hn (ea_cons (ed_name 0 rfl) (ea_cons (ed_name 1 rfl) ea_nil))) fun _ B2 H2 g2 _ => ?_
  refine bd_skip (et_eqI (ed_lk (L := L) (js := js) (ed_name 0 rfl)) ed_int) (decide_eq_false (by omega)) fun B3 H3 g3 => ?_
  refine bd_asg2D 2 3 rfl sc_without.nd (da := .tuple ([2 * ((n : Nat) : Int), 2 * ((n : Nat) : Int) + 1].map .int)) (ed_tup (ds := [.int (2 * ((n : Nat) : Int)), .int (2 * ((n : Nat) : Int) + 1)]) (ea_cons (ed_mul (.inl ⟨by decide, by decide⟩) ed_int (ed_name 1 rfl)) (ea_cons (ed_add (ed_mul (.inl ⟨by decide, by decide⟩) ed_int (ed_name 1 rfl)) ed_int) ea_nil)) (by show 2 ≤ 1000; decide)) (ed_call G3 (L, js) room gd hl (ea_cons (ed_name 0 rfl) ea_nil)) fun B4 H4 g4 => ?_
  have gA := ((g1.trans g2).trans g3).trans g4
  refine bd_lcm1M 4 (ee := eJ) (xs := js) (f := offL n) (v := eJ) (own := [("joint", 8)]) (js := [8]) (Γd := fun d => (wipeG _ [8]).set 8 (.dat d)) eJ_inj rfl sc_without.nd (blkOk_by (N := N_without) (sc := defScope s_without) (by decide +kernel)) (fun _ _ _ _ _ => pg_name (i := 8) sc_without.nd rfl (.inl rfl)) (it_tup (ed_js (L := L) (js := js) (ed_name 0 rfl))) (by omega) (by simp) (fun d hd => tg_one 8) (fun p hp s0 H0 C cl fp B' H' g' => ?_) (fun p hp _ s0 H0 C cl fp B' H' g' => ed_name 8 rfl) fun l B5 H5 g5 hl0 m5 => ?_
  · exact et_and2 (et_ninI (ns := [2 * ((n : Nat) : Int), 2 * ((n : Nat) : Int) + 1]) room.units (.inr rfl) (ed_j0 (ed_name 8 rfl)) (ed_name 2 rfl)) fun _ => et_ninI (ns := [2 * ((n : Nat) : Int), 2 * ((n : Nat) : Int) + 1]) room.units (.inr rfl) (ed_j1 (ed_name 8 rfl)) (ed_name 2 rfl)
  refine bd_par2D 5 6 rfl sc_without.nd (by decide) (da := eO (mt js (2 * n))) (db := eO (mt js (2 * n + 1))) (ed_mt (L := L) (n := 2 * n) (by omega) (by omega) (ed_name 3 rfl) (ed_ixT (ds := [.int (2 * ((n : Nat) : Int)), .int (2 * ((n : Nat) : Int) + 1)]) (k := 0) rfl rfl (ed_name 2 rfl) ed_int)) (ed_mt (L := L) (n := 2 * n + 1) (by omega) (by omega) (ed_name 3 rfl) (ed_ixT (ds := [.int (2 * ((n : Nat) : Int)), .int (2 * ((n : Nat) : Int) + 1)]) (k := 1) rfl rfl (ed_name 2 rfl) ed_int)) fun B6 H6 g6 => ?_
  have hlf : (js.filter (offL n)).length ≤ js.length := List.length_filter_le _ _
  have fin : ∀ (ks : List Jt) (B7 H7 : Hp), ks.length ≤ 100 → ks.map (fun p => (lo n p.1, lo n p.2)) = wo js n → Grow B H B7 H7 → Mt K B7 H7 l (ks.map eJ) → BD (bodyX P w K mg base N_without "without" s_without f cdv A outer s H) [.dat (eLay L js), .dat (.int (n : Nat)), .dat (.tuple ([2 * ((n : Nat) : Int), 2 * ((n : Nat) : Int) + 1].map .int)), .dat (.list (eMates L (mt js))), .raw (.ref l), .dat (eO (mt js (2 * n))), .dat (eO (mt js (2 * n + 1))), .unk, .unk, .unk] B7 H7 ((defBody s_without).drop 7) { nx := fun _ H' => Q .non H', rt := Q } := by
    intro ks B7 H7 hk he g7 m7
    have hl0H : H l = none := gA.h.free hl0
    refine bd_fixM 4 rfl m7 fun B8 s8 f8 => ?_
    have g8 := f8 B H g7 hl0H
    refine bd_lcm0 7 (ee := eJ) (xs := ks) (v := fun p => eJ (lo n p.1, lo n p.2)) (own := [("joint", 8)]) (js := [8]) (Γd := fun d => (wipeG _ [8]).set 8 (.dat d)) eJ_inj rfl sc_without.nd (blkOk_by (N := N_without) (sc := defScope s_without) (by decide +kernel)) (fun _ _ _ _ _ => pg_name (i := 8) sc_without.nd rfl (.inl rfl)) (it_list (ed_nameL 4 rfl)) (by omega) (by simp) (fun d hd => tg_one 8) (fun p hp s0 H0 C cl fp B' H' g' => ?_) fun B9 H9 g9 => ?_
    · refine ed_to (ed_tuple (.inl rfl) T.tuple (EL.ed (el_lcm0 (ee := eN) (xs := [p.1, p.2]) (v := fun z => eN (lo n z)) (own := [("end", 9)]) (js := [9]) (Γd := fun d => (wipeG _ [9]).set 9 (.dat d)) eN_inj rfl sc_without.nd (blkOk_by (N := N_without) (sc := { kind := .function, names := [(".0", .local), ("joint", .local), ("tuple", .globalImplicit), ("ends", .cell)], isGenerator := false, isCoroutine := false }) (by decide +kernel)) (fun _ _ _ _ _ => pg_name (i := 9) sc_without.nd rfl (.inl rfl)) (it_tup (ed_name 8 rfl)) (by show 2 ≤ 1000000; decide) (by simp) (fun d hd => tg_one 9) fun z hz s1 H1 C1 cl1 fp1 B'' H'' g'' => ?_))) rfl
      refine ed_if (et_gt (ed_name 9 rfl) (ed_ixT (ds := [.int (2 * ((n : Nat) : Int)), .int (2 * ((n : Nat) : Int) + 1)]) (k := 1) rfl rfl (ed_name 2 rfl) ed_int)) (fun hk => ed_to (ed_sub (ed_name 9 rfl) ed_int) ?_) (fun hk => ed_to (ed_name 9 rfl) ?_)
      · have h := of_decide_eq_true hk
        unfold eN lo
        rw [if_pos (by omega)]
        exact congrArg PyData.int (by omega)
      · have h := of_decide_eq_false hk
        unfold eN lo
        rw [if_neg (by omega)]
    · refine bd_ret (R := isD K (eLay (L - 1) (sortJ (wo js n)))) (ed_to (ed_call G5 (L - 1, wo js n) room gd trivial (ea_cons (ed_i (ed_sub (ed_lk (L := L) (js := js) (ed_name 0 rfl)) ed_int) (by show ((L : Nat) : Int) - 1 = ((L - 1 : Nat) : Int); omega)) (ea_cons (ed_to (ed_nameL 7 rfl) ?_) ea_nil))) rfl) fun v B10 H10 g10 r => k v _ B10 H10 rfl ((g8.trans g9).trans g10) r
      show PyData.list (ks.map _) = PyData.list ((wo js n).map eJ)
      rw [← he, List.map_map]
      rfl
  have m6 := m5.grow g6
  have gB := (gA.trans g5).trans g6
  have hl0H : H l = none := gA.h.free hl0
  have plain : wk js n = js.filter (offL n) → ∀ B7 H7, Grow B6 H6 B7 H7 → BD (bodyX P w K mg base N_without "without" s_without f cdv A outer s H) [.dat (eLay L js), .dat (.int (n : Nat)), .dat (.tuple ([2 * ((n : Nat) : Int), 2 * ((n : Nat) : Int) + 1].map .int)), .dat (.list (eMates L (mt js))), .raw (.ref l), .dat (eO (mt js (2 * n))), .dat (eO (mt js (2 * n + 1))), .unk, .unk, .unk] B7 H7 ((defBody s_without).drop 7) { nx := fun _ H' => Q .non H', rt := Q } := fun e B7 H7 g7 =>
    fin (js.filter (offL n)) B7 H7 (by omega) (by unfold wo; rw [e]) (gB.trans g7) (m6.grow g7)
  cases q1 : mt js (2 * n) with
  | none =>
    rw [q1] at plain
    exact bd_skip (et_and3 (x := false) (y := false) (z := false) (et_to (et_notN (ed_name 5 rfl)) rfl) nofun nofun) rfl (plain (by unfold wk; rw [q1]; simp))
  | some a =>
    cases q2 : mt js (2 * n + 1) with
    | none =>
      rw [q1, q2] at plain
      exact bd_skip (et_and3 (x := true) (y := false) (z := false) (et_to (et_notN (ed_name 5 rfl)) rfl) (fun _ => et_to (et_notN (ed_name 6 rfl)) rfl) nofun) rfl (plain (by unfold wk; rw [q1, q2]; simp))
    | some b =>
      rw [q1, q2] at plain fin
      by_cases q3 : a = 2 * n ∨ a = 2 * n + 1
      · refine bd_skip (et_and3 (x := true) (y := true) (et_to (et_notN (ed_name 5 rfl)) rfl) (fun _ => et_to (et_notN (ed_name 6 rfl)) rfl) fun _ _ => et_ninI (ns := [2 * ((n : Nat) : Int), 2 * ((n : Nat) : Int) + 1]) room.units (.inr rfl) (ed_name 5 rfl) (ed_name 2 rfl)) ?_ (plain (by unfold wk; rw [q1, q2]; simp [q3]))
        have : ((a : Nat) : Int) ∈ [2 * ((n : Nat) : Int), 2 * ((n : Nat) : Int) + 1] := by
          simp only [List.mem_cons, List.not_mem_nil, or_false]
          omega
        rw [decide_eq_true this]
        rfl
      · have ht : ¬ (((a : Nat) : Int) ∈ [2 * ((n : Nat) : Int), 2 * ((n : Nat) : Int) + 1]) := by
          simp only [List.mem_cons, List.not_mem_nil, or_false]
          omega
        refine bd_if (et_and3 (x := true) (y := true) (et_to (et_notN (ed_name 5 rfl)) rfl) (fun _ => et_to (et_notN (ed_name 6 rfl)) rfl) fun _ _ => et_ninI (ns := [2 * ((n : Nat) : Int), 2 * ((n : Nat) : Int) + 1]) room.units (.inr rfl) (ed_name 5 rfl) (ed_name 2 rfl)) (fun _ B7 H7 g7 => ?_) (fun z => ?_)
        · refine bd_append (d := eJ (jo a b)) 4 rfl (m6.grow g7) (by rw [List.length_map]; omega) (ed_to (ed_call G4 (a, b) room gd trivial (ea_cons (ed_name 5 rfl) (ea_cons (ed_name 6 rfl) ea_nil))) rfl) fun B8 H8 g8 m8 H9 m9 o9 => ?_
          refine bd_fall (fin (js.filter (offL n) ++ [jo a b]) B8 H9 (by rw [List.length_append]; show _ + 1 ≤ 100; omega) (by unfold wo wk; rw [q1, q2]; simp [q3]) (((gB.trans g7).trans g8).mut hl0H m8.out o9) ?_)
          rw [List.map_append]
          exact m9
        · rw [decide_eq_false ht] at z
          cases z
/-! beside -/
abbrev s_beside : Stmt := top 22
abbrev N_beside : List Str := ["one", "other", "more", "near", "far"]
theorem sc_beside : FnScope N_beside ["one", "other"] (defScope s_beside) := ⟨rfl, rfl, rfl, by decide +kernel, rfl, by decide +kernel, by decide +kernel⟩
def bes (L : Nat) (j1 j2 : List Jt) : List Jt := j1 ++ j2.map fun p => (p.1 + 2 * L, p.2 + 2 * L)
abbrev p_beside (K : PySem.W.Frag) : Pr := PrF K (α := (Nat × List Jt) × (Nat × List Jt)) (fun m => [eLay m.1.1 m.1.2, eLay m.2.1 m.2.2]) (fun m => Lay m.1.1 m.1.2 ∧ Lay m.2.1 m.2.2 ∧ m.1.1 + m.2.1 ≤ 12) fun m => eLay (m.1.1 + m.2.1) (sortJ (bes m.1.1 m.1.2 m.2.2))
theorem w_beside {f : Addr} {fd : FuncData} (F : Fun K "beside" "beside" s_beside f fd) {tk : Tok} (hM : mg "MOST_LINKS" = some (.int 12 tk)) (G1 : Has P w K mg base 4 "need_lay" ["lay"] (p_need_lay K)) (G5 : Has P w K mg base 4 "lay_with" ["links", "joints"] (p_lay_with K)) : FnG P w K mg base 5 f fd ["one", "other"] (p_beside K) := by
  refine fnP F sc_beside (fun _ => rfl) fun cdv A outer s B H Q m room gd sb hp k => ?_
  obtain ⟨⟨L, j1⟩, M, j2⟩ := m
  obtain ⟨hl, hm, h12⟩ : Lay L j1 ∧ Lay M j2 ∧ L + M ≤ 12 := hp
  have hlen := hl.len
  have hlen2 := hm.len
  refine bd_expr (ed_call G1 (L, j1) room gd hl (ea_cons (ed_name 0 rfl) ea_nil)) fun _ B1 H1 g1 _ => ?_
  refine bd_expr (ed_call G1 (M, j2) room gd hm (ea_cons (ed_name 1 rfl) ea_nil)) fun _ B2 H2 g2 _ => ?_
  refine bd_skip (et_gt (i := (L : Nat) + (M : Nat)) (j := 12) (ed_add (ed_lk (L := L) (js := j1) (ed_name 0 rfl)) (ed_lk (L := M) (js := j2) (ed_name 1 rfl))) (ed_glob (v := .int 12) hM ⟨_, rfl⟩ (.int _))) (decide_eq_false (by omega)) fun B3 H3 g3 => ?_
  refine bd_lcm0 2 (ee := eJ) (xs := j2) (v := fun p => eJ (p.1 + 2 * L, p.2 + 2 * L)) (own := [("near", 3), ("far", 4)]) (js := [3, 4]) (Γd := fun d => prG 3 4 d (wipeG _ [3, 4])) eJ_inj rfl sc_beside.nd (blkOk_by (N := N_beside) (sc := defScope s_beside) (by decide +kernel)) (fun _ _ _ _ _ => pg_tup rfl (pgs_cons (pg_name (i := 3) sc_beside.nd rfl (.inl rfl)) (pgs_cons (pg_name (i := 4) sc_beside.nd rfl (.inl rfl)) pgs_nil))) (it_tup (ed_js (L := M) (js := j2) (ed_name 1 rfl))) (by omega) (by simp) (fun d hd => tg_pr 3 4 (pr_eJ d hd)) (fun p hp s0 H0 C cl fp B' H' g' => ?_) fun B4 H4 g4 => ?_
  · exact ed_to (ed_tup (ds := [_, _]) (ea_cons (ed_add (ed_name 3 rfl) (ed_mul (.inl ⟨by decide, by decide⟩) ed_int (ed_lk (L := L) (js := j1) (ed_name 0 rfl)))) (ea_cons (ed_add (ed_name 4 rfl) (ed_mul (.inl ⟨by decide, by decide⟩) ed_int (ed_lk (L := L) (js := j1) (ed_name 0 rfl)))) ea_nil)) (by show 2 ≤ 1000; decide)) (by
      unfold eJ
      simp)
  · refine bd_ret (R := isD K (eLay (L + M) (sortJ (bes L j1 j2)))) (ed_to (ed_call G5 (L + M, bes L j1 j2) room gd trivial (ea_cons (ed_i (ed_add (ed_lk (L := L) (js := j1) (ed_name 0 rfl)) (ed_lk (L := M) (js := j2) (ed_name 1 rfl))) (by simp)) (ea_cons (ed_to (EL.ed (el_lst (ds := j1.map eJ ++ (j2.map (fun p => eJ (p.1 + 2 * L, p.2 + 2 * L)) ++ [])) (ea_star (ed_js (L := L) (js := j1) (ed_name 0 rfl)) (.inr rfl) (ea_star (ed_nameL 2 rfl) (.inl rfl) ea_nil)) (by simp; omega))) ?_) ea_nil))) rfl) fun v B10 H10 g10 r => k v _ B10 H10 rfl ((((g1.trans g2).trans g3).trans g4).trans g10) r
    unfold bes
    rw [List.map_append, List.map_map, List.append_nil]
    rfl
end
end Dc
/-! Plain law, part R: rows by two partial matchings. -/
namespace Dc
/-- a partial matching of ends below n -/
structure Mat (n : Nat) (f : Nat → Option Nat) : Prop where
  sym : ∀ a b, f a = some b → f b = some a
  irr : ∀ a, f a ≠ some a
  lt : ∀ a b, f a = some b → a < n ∧ b < n
theorem Lay.mat {L : Nat} {js : List Jt} (h : Lay L js) : Mat (2 * L) (mt js) := ⟨fun a b q => mt_sym h.nd q, mt_irr h, fun a b q => mt_lt h q⟩
/-- the one or the other, by turns -/
def Mg (m0 m1 : Nat → Option Nat) (t : Nat) : Nat → Option Nat := if t % 2 = 0 then m0 else m1
section
variable {n : Nat} {m0 m1 : Nat → Option Nat}
theorem mg_mod {t s : Nat} (h : t % 2 = s % 2) : Mg m0 m1 t = Mg m0 m1 s := by unfold Mg; rw [h]
theorem mg_mat (h0 : Mat n m0) (h1 : Mat n m1) (t : Nat) : Mat n (Mg m0 m1 t) := by
  unfold Mg
  split <;> assumption
structure Chn (m0 m1 : Nat → Option Nat) (t : Nat) (r : List Nat) : Prop where
  nd : r.Nodup
  ch : ∀ i a b, r[i]? = some a → r[i + 1]? = some b → Mg m0 m1 (t + i) a = some b
theorem nd_at {r : List Nat} (nd : r.Nodup) {i j : Nat} {a : Nat} (h1 : r[i]? = some a) (h2 : r[j]? = some a) : i = j := by
  obtain ⟨p, h3⟩ := List.getElem?_eq_some_iff.mp h1
  obtain ⟨q, h4⟩ := List.getElem?_eq_some_iff.mp h2
  have w := List.pairwise_iff_getElem.mp nd
  rcases Nat.lt_trichotomy i j with z | z | z
  · exact absurd (h3.trans h4.symm) (w i j p q z)
  · exact z
  · exact absurd (h4.trans h3.symm) (w j i q p z)
theorem chn_new (h0 : Mat n m0) (h1 : Mat n m1) {t k : Nat} {r : List Nat} {a b h : Nat} (c : Chn m0 m1 t r) (hk : r.length = k + 1) (ha : r[k]? = some a) (hb : r[0]? = some b) (hh : Mg m0 m1 (t + k) a = some h) (hn : h ≠ b) : h ∉ r := fun hm => by
  obtain ⟨i, hi⟩ := List.getElem?_of_mem hm
  have hil : i < k + 1 := hk ▸ (List.getElem?_eq_some_iff.mp hi).1
  have i0 : i ≠ 0 := fun z => by
    subst z
    rw [hb] at hi
    exact hn (Option.some.inj hi).symm
  have back : Mg m0 m1 (t + k) h = some a := (mg_mat h0 h1 _).sym _ _ hh
  by_cases par : (t + i) % 2 = (t + k) % 2
  · -- h goes on by the same: to r[i+1]
    by_cases ik : i = k
    · subst ik
      rw [ha] at hi
      exact (mg_mat h0 h1 _).irr a (by rw [hh, hi])
    · have hx : (i + 1) < r.length := by omega
      have e1 : r[i + 1]? = some r[i + 1] := List.getElem?_eq_getElem hx
      have e2 := c.ch i h _ hi e1
      rw [mg_mod par, back] at e2
      have e3 := nd_at c.nd ha (e1.trans e2.symm)
      omega
  · -- h came by it, from r[i-1]
    have hx : i - 1 < r.length := by omega
    have e1 : r[i - 1]? = some r[i - 1] := List.getElem?_eq_getElem hx
    have e2 := c.ch (i - 1) _ h e1 (by rw [Nat.sub_add_cancel (by omega)]; exact hi)
    have e3 := (mg_mat h0 h1 _).sym _ _ e2
    rw [mg_mod (s := t + k) (by omega), back] at e3
    have e4 := nd_at c.nd ha (e1.trans e3.symm)
    omega
theorem get_snoc {r : List Nat} {h i a : Nat} (q : (r ++ [h])[i]? = some a) : r[i]? = some a ∨ (i = r.length ∧ a = h) := by
  by_cases z : i < r.length
  · rw [List.getElem?_append_left z] at q
    exact .inl q
  · rw [List.getElem?_append_right (by omega)] at q
    by_cases z2 : i = r.length
    · subst z2
      simp at q
      exact .inr ⟨rfl, q.symm⟩
    · rw [List.getElem?_eq_none (by simp; omega)] at q
      cases q
theorem chn_snoc {t k : Nat} {r : List Nat} {a h : Nat} (c : Chn m0 m1 t r) (hk : r.length = k + 1) (ha : r[k]? = some a) (hh : Mg m0 m1 (t + k) a = some h) (hn : h ∉ r) : Chn m0 m1 t (r ++ [h]) := by
  refine ⟨?_, fun i x y hx hy => ?_⟩
  · rw [List.nodup_append]
    exact ⟨c.nd, by simp, fun x hx y hy z => hn (by simp at hy; rw [← hy, ← z]; exact hx)⟩
  · rcases get_snoc hy with q | ⟨q1, q2⟩
    · have hil := (List.getElem?_eq_some_iff.mp q).1
      rcases get_snoc hx with q3 | ⟨q3, _⟩
      · exact c.ch i x y q3 q
      · omega
    · have e : i = k := by omega
      subst e
      rcases get_snoc hx with q3 | ⟨q3, _⟩
      · rw [ha] at q3
        cases q3
        rw [q2]
        exact hh
      · omega
/-- what row_from gives -/
structure RowG (n : Nat) (m0 m1 : Nat → Option Nat) (t b : Nat) (r : List Nat) : Prop where
  c : Chn m0 m1 t r
  h0 : r[0]? = some b
  lt : ∀ z ∈ r, z < n
  fin : ∃ k a, r.length = k + 1 ∧ r[k]? = some a ∧ (Mg m0 m1 (t + k) a = none ∨ Mg m0 m1 (t + k) a = some b)
/-- a row of a piece -/
structure Row (m0 m1 : Nat → Option Nat) (r : List Nat) : Prop where
  is : ∃ t b k a, Chn m0 m1 t r ∧ r[0]? = some b ∧ r.length = k + 1 ∧ r[k]? = some a ∧ ((Mg m0 m1 (t + 1) b = none ∧ Mg m0 m1 (t + k) a = none) ∨ (k % 2 = 1 ∧ Mg m0 m1 (t + k) a = some b))
/-- both mates of an end of a row are in it -/
theorem Row.closed (h0 : Mat n m0) (h1 : Mat n m1) {r : List Nat} (R : Row m0 m1 r) {z w s : Nat} (hz : z ∈ r) (hw : Mg m0 m1 s z = some w) : w ∈ r := by
  obtain ⟨t, b, k, a, c, hb, hk, ha, e⟩ := R.is
  obtain ⟨i, hi⟩ := List.getElem?_of_mem hz
  have hil : i < k + 1 := hk ▸ (List.getElem?_eq_some_iff.mp hi).1
  by_cases par : s % 2 = (t + i) % 2
  · rw [mg_mod par] at hw
    by_cases ik : i = k
    · subst ik
      rw [ha] at hi
      cases hi
      rcases e with ⟨_, e⟩ | ⟨_, e⟩
      · rw [e] at hw
        cases hw
      · rw [e] at hw
        cases hw
        exact List.mem_of_getElem? hb
    · have hx : i + 1 < r.length := by omega
      have e2 := c.ch i z _ hi (List.getElem?_eq_getElem hx)
      rw [hw] at e2
      cases e2
      exact List.getElem_mem hx
  · by_cases i0 : i = 0
    · subst i0
      rw [hb] at hi
      cases hi
      rw [mg_mod (s := t + 1) (by omega)] at hw
      rcases e with ⟨e, _⟩ | ⟨ek, e⟩
      · rw [e] at hw
        cases hw
      · have e3 := (mg_mat h0 h1 _).sym _ _ e
        rw [mg_mod (s := t + 1) (by omega), hw] at e3
        cases e3
        exact List.mem_of_getElem? ha
    · have hx : i - 1 < r.length := by omega
      have e2 := c.ch (i - 1) _ z (List.getElem?_eq_getElem hx) (by rw [Nat.sub_add_cancel (by omega)]; exact hi)
      have e3 := (mg_mat h0 h1 _).sym _ _ e2
      rw [mg_mod (s := s) (by omega), hw] at e3
      cases e3
      exact List.getElem_mem hx
/-- from any end of a chain back to the first -/
theorem chn_back (h0 : Mat n m0) (h1 : Mat n m1) {t : Nat} {r : List Nat} (c : Chn m0 m1 t r) {S : Nat → Prop} (cl : ∀ s z w, S z → Mg m0 m1 s z = some w → S w) {b : Nat} (hb : r[0]? = some b) : ∀ (i z : Nat), r[i]? = some z → S z → S b
  | 0, z, hz, h => by
    rw [hb] at hz
    cases hz
    exact h
  | i + 1, z, hz, h => by
    have hx : i < r.length := by have := (List.getElem?_eq_some_iff.mp hz).1; omega
    have e2 := c.ch i _ z (List.getElem?_eq_getElem hx) hz
    exact chn_back h0 h1 c cl hb i _ (List.getElem?_eq_getElem hx) (cl _ _ _ h ((mg_mat h0 h1 _).sym _ _ e2))
structure RowsP (n : Nat) (m0 m1 : Nat → Option Nat) (rs : List (List Nat)) : Prop where
  nd : rs.flatten.Nodup
  each : ∀ r ∈ rs, Row m0 m1 r
  lt : ∀ z ∈ rs.flatten, z < n
theorem RowsP.nil : RowsP n m0 m1 [] := ⟨by simp, nofun, nofun⟩
theorem RowsP.closed (h0 : Mat n m0) (h1 : Mat n m1) {rs : List (List Nat)} (R : RowsP n m0 m1 rs) {z w s : Nat} (hz : z ∈ rs.flatten) (hw : Mg m0 m1 s z = some w) : w ∈ rs.flatten := by
  obtain ⟨r, hr, hzr⟩ := List.mem_flatten.mp hz
  exact List.mem_flatten.mpr ⟨r, hr, (R.each r hr).closed h0 h1 hzr hw⟩
def isLast (m0 m1 : Nat → Option Nat) (z : Nat) : Bool := (m0 z).isNone || (m1 z).isNone
theorem isLast_iff {z : Nat} : isLast m0 m1 z = true ↔ m0 z = none ∨ m1 z = none := by
  unfold isLast
  simp [Option.isNone_iff_eq_none]
theorem rows_new (h0 : Mat n m0) (h1 : Mat n m1) {rs : List (List Nat)} (R : RowsP n m0 m1 rs) {b t : Nat} {r : List Nat} (hb : b ∉ rs.flatten) (ht : t = if m0 b = none then 1 else 0) (G : RowG n m0 m1 t b r) (hl : isLast m0 m1 b = true ∨ ∀ w, w < n → isLast m0 m1 w = true → w ∈ rs.flatten) : RowsP n m0 m1 (rs ++ [r]) := by
  have dis : ∀ z ∈ r, z ∉ rs.flatten := fun z hz hf => by
    obtain ⟨i, hi⟩ := List.getElem?_of_mem hz
    exact hb (chn_back h0 h1 G.c (S := fun z => z ∈ rs.flatten) (fun s z w hz hw => R.closed h0 h1 hz hw) G.h0 i z hi hf)
  have fl : (rs ++ [r]).flatten = rs.flatten ++ r := by simp
  obtain ⟨k, a, hk, ha, e⟩ := G.fin
  have row : Row m0 m1 r := by
    refine ⟨t, b, k, a, G.c, G.h0, hk, ha, ?_⟩
    by_cases lb : isLast m0 m1 b = true
    · left
      have s1 : Mg m0 m1 (t + 1) b = none := by
        rcases isLast_iff.mp lb with q | q
        · rw [if_pos q] at ht
          subst ht
          exact q
        · by_cases q0 : m0 b = none
          · rw [if_pos q0] at ht
            subst ht
            exact q0
          · rw [if_neg q0] at ht
            subst ht
            exact q
      refine ⟨s1, ?_⟩
      rcases e with e | e
      · exact e
      · exfalso
        have e2 := (mg_mat h0 h1 _).sym _ _ e
        by_cases par : k % 2 = 1
        · rw [mg_mod (s := t + 1) (by omega), s1] at e2
          cases e2
        · by_cases k0 : k = 0
          · subst k0
            rw [G.h0] at ha
            cases ha
            exact (mg_mat h0 h1 _).irr _ e
          · have hx : 1 < r.length := by omega
            have e3 := G.c.ch 0 b _ G.h0 (List.getElem?_eq_getElem hx)
            rw [mg_mod (s := t + k) (by omega), e2] at e3
            have := nd_at G.c.nd ha ((List.getElem?_eq_getElem hx).trans e3.symm)
            omega
    · right
      have hl' : ∀ w, w < n → isLast m0 m1 w = true → w ∈ rs.flatten := hl.resolve_left lb
      have hi : m0 b ≠ none ∧ m1 b ≠ none := by
        refine ⟨fun q => lb (isLast_iff.mpr (.inl q)), fun q => lb (isLast_iff.mpr (.inr q))⟩
      rw [if_neg hi.1] at ht
      subst ht
      have ha' : a ∈ r := List.mem_of_getElem? ha
      have e' : Mg m0 m1 (0 + k) a = some b := by
        rcases e with e | e
        · exfalso
          refine dis a ha' (hl' a (G.lt a ha') (isLast_iff.mpr ?_))
          unfold Mg at e
          split at e
          · exact .inl e
          · exact .inr e
        · exact e
      refine ⟨?_, e'⟩
      by_cases par : k % 2 = 1
      · exact par
      · exfalso
        have e2 := (mg_mat h0 h1 _).sym _ _ e'
        by_cases k0 : k = 0
        · subst k0
          rw [G.h0] at ha
          cases ha
          exact (mg_mat h0 h1 _).irr _ e'
        · have hx : 1 < r.length := by omega
          have e3 := G.c.ch 0 b _ G.h0 (List.getElem?_eq_getElem hx)
          rw [mg_mod (s := 0 + k) (by omega), e2] at e3
          have := nd_at G.c.nd ha ((List.getElem?_eq_getElem hx).trans e3.symm)
          omega
  refine ⟨?_, fun q hq => ?_, fun z hz => ?_⟩
  · rw [fl, List.nodup_append]
    exact ⟨R.nd, G.c.nd, fun x hx y hy z => dis y hy (z ▸ hx)⟩
  · rcases List.mem_append.mp hq with hq | hq
    · exact R.each q hq
    · simp at hq
      rw [hq]
      exact row
  · rw [fl] at hz
    rcases List.mem_append.mp hz with hz | hz
    · exact R.lt z hz
    · exact G.lt z hz
end
/-- all rows: each end in one -/
structure RowsOk (n : Nat) (m0 m1 : Nat → Option Nat) (rs : List (List Nat)) : Prop extends RowsP n m0 m1 rs where
  all : ∀ z, z < n → z ∈ rs.flatten
theorem RowsP.perm {n : Nat} {m0 m1 : Nat → Option Nat} {rs qs : List (List Nat)} (R : RowsP n m0 m1 rs) (p : qs.Perm rs) : RowsP n m0 m1 qs := by
  have pf : qs.flatten.Perm rs.flatten := p.flatten
  exact ⟨pf.nodup_iff.mpr R.nd, fun r hr => R.each r (p.mem_iff.mp hr), fun z hz => R.lt z (pf.mem_iff.mp hz)⟩
theorem RowsOk.perm {n : Nat} {m0 m1 : Nat → Option Nat} {rs qs : List (List Nat)} (R : RowsOk n m0 m1 rs) (p : qs.Perm rs) : RowsOk n m0 m1 qs :=
  ⟨R.toRowsP.perm p, fun z hz => p.flatten.mem_iff.mpr (R.all z hz)⟩
section
variable {n : Nat} {m0 m1 : Nat → Option Nat}
theorem rowG_go (h0 : Mat n m0) (h1 : Mat n m1) {t b : Nat} : ∀ (q k a : Nat) (r : List Nat), q + r.length = n → Chn m0 m1 t r → r[0]? = some b → r.length = k + 1 → r[k]? = some a → (∀ z ∈ r, z < n) → ∃ r, RowG n m0 m1 t b r
  | q, k, a, r, hq, c, hb, hk, ha, lt => by
    cases w : Mg m0 m1 (t + k) a with
    | none => exact ⟨r, c, hb, lt, k, a, hk, ha, .inl w⟩
    | some h =>
      by_cases e : h = b
      · exact ⟨r, c, hb, lt, k, a, hk, ha, .inr (by rw [w, e])⟩
      · have hn := chn_new h0 h1 c hk ha hb w e
        have c2 := chn_snoc c hk ha w hn
        have lt2 : ∀ z ∈ r ++ [h], z < n := fun z hz => by
          rcases List.mem_append.mp hz with hz | hz
          · exact lt z hz
          · simp at hz
            rw [hz]
            exact ((mg_mat h0 h1 _).lt _ _ w).2
        have hl := nd_len n _ c2.nd lt2
        rw [List.length_append] at hl
        simp at hl
        match q, hq with
        | 0, hq => omega
        | q + 1, hq => exact rowG_go h0 h1 q (k + 1) h (r ++ [h]) (by simp; omega) c2 (by rw [List.getElem?_append_left (by omega)]; exact hb) (by simp; omega) (by rw [List.getElem?_append_right (by omega), hk]; simp) lt2
theorem rowG_ex (h0 : Mat n m0) (h1 : Mat n m1) (t : Nat) {b : Nat} (hb : b < n) : ∃ r, RowG n m0 m1 t b r :=
  rowG_go h0 h1 (n - 1) 0 b [b] (by simp; omega) ⟨by simp, fun i a b h1 h2 => by simp at h2⟩ rfl rfl rfl (by simpa using hb)
theorem rowG_at {t b : Nat} {r s : List Nat} (R : RowG n m0 m1 t b r) (S : RowG n m0 m1 t b s) : ∀ (i x y : Nat), r[i]? = some x → s[i]? = some y → x = y
  | 0, x, y, hx, hy => by
    rw [R.h0] at hx
    rw [S.h0] at hy
    cases hx
    cases hy
    rfl
  | i + 1, x, y, hx, hy => by
    have l1 : i < r.length := by have := (List.getElem?_eq_some_iff.mp hx).1; omega
    have l2 : i < s.length := by have := (List.getElem?_eq_some_iff.mp hy).1; omega
    have ih := rowG_at R S i _ _ (List.getElem?_eq_getElem l1) (List.getElem?_eq_getElem l2)
    have e1 := R.c.ch i _ x (List.getElem?_eq_getElem l1) hx
    have e2 := S.c.ch i _ y (List.getElem?_eq_getElem l2) hy
    rw [ih, e2] at e1
    exact (Option.some.inj e1).symm
theorem rowG_le {t b : Nat} {r s : List Nat} (R : RowG n m0 m1 t b r) (S : RowG n m0 m1 t b s) : s.length ≤ r.length := by
  obtain ⟨k, a, hk, ha, e⟩ := R.fin
  by_cases h : s.length ≤ r.length
  · exact h
  · exfalso
    have l1 : k < s.length := by omega
    have l2 : k + 1 < s.length := by omega
    have e1 := rowG_at R S k a _ ha (List.getElem?_eq_getElem l1)
    have e2 := S.c.ch k _ _ (List.getElem?_eq_getElem l1) (List.getElem?_eq_getElem l2)
    rw [← e1] at e2
    rcases e with e | e
    · rw [e] at e2
      cases e2
    · rw [e] at e2
      have e3 := nd_at S.c.nd S.h0 ((List.getElem?_eq_getElem l2).trans e2.symm)
      omega
theorem rowG_one {t b : Nat} {r s : List Nat} (R : RowG n m0 m1 t b r) (S : RowG n m0 m1 t b s) : r = s := by
  have hl : r.length = s.length := Nat.le_antisymm (rowG_le S R) (rowG_le R S)
  refine List.ext_getElem hl fun i h1 h2 => ?_
  exact rowG_at R S i _ _ (List.getElem?_eq_getElem h1) (List.getElem?_eq_getElem h2)
end
open Classical in
noncomputable def rowF (n : Nat) (m0 m1 : Nat → Option Nat) (t b : Nat) : List Nat := if h : ∃ r, RowG n m0 m1 t b r then choose h else []
theorem rowF_is {n : Nat} {m0 m1 : Nat → Option Nat} {t b : Nat} {r : List Nat} (R : RowG n m0 m1 t b r) : rowF n m0 m1 t b = r := by
  unfold rowF
  have h : ∃ r, RowG n m0 m1 t b r := ⟨r, R⟩
  rw [dif_pos h]
  exact rowG_one (Classical.choose_spec h) R
/-- one more row, where the end has none -/
noncomputable def stp (n : Nat) (m0 m1 : Nat → Option Nat) (rs : List (List Nat)) (z : Nat) : List (List Nat) := if z ∈ rs.flatten then rs else rs ++ [rowF n m0 m1 (if m0 z = none then 1 else 0) z]
def endsF (n : Nat) (m0 m1 : Nat → Option Nat) : List Nat := (List.range n).filter (isLast m0 m1) ++ List.range n
noncomputable def rowsF (n : Nat) (m0 m1 : Nat → Option Nat) : List (List Nat) := (endsF n m0 m1).foldl (stp n m0 m1) []
section
variable {n : Nat} {m0 m1 : Nat → Option Nat}
theorem endsF_lt {z : Nat} (h : z ∈ endsF n m0 m1) : z < n := by
  unfold endsF at h
  rcases List.mem_append.mp h with h | h
  · exact List.mem_range.mp (List.mem_filter.mp h).1
  · exact List.mem_range.mp h
theorem rows_take (h0 : Mat n m0) (h1 : Mat n m1) : ∀ i, i ≤ (endsF n m0 m1).length → RowsP n m0 m1 (((endsF n m0 m1).take i).foldl (stp n m0 m1) []) ∧ ∀ z ∈ (endsF n m0 m1).take i, z ∈ (((endsF n m0 m1).take i).foldl (stp n m0 m1) []).flatten
  | 0, _ => by simp; exact RowsP.nil
  | i + 1, hi => by
    obtain ⟨R, A⟩ := rows_take h0 h1 i (by omega)
    have hx : i < (endsF n m0 m1).length := by omega
    have e : (endsF n m0 m1)[i]? = some (endsF n m0 m1)[i] := List.getElem?_eq_getElem hx
    rw [take_snoc e, List.foldl_append]
    generalize hz : (endsF n m0 m1)[i] = z at *
    generalize hrs : ((endsF n m0 m1).take i).foldl (stp n m0 m1) [] = rs at *
    have hzn : z < n := endsF_lt (hz ▸ List.getElem_mem hx)
    show RowsP n m0 m1 (stp n m0 m1 rs z) ∧ ∀ y ∈ (endsF n m0 m1).take i ++ [z], y ∈ (stp n m0 m1 rs z).flatten
    unfold stp
    by_cases hin : z ∈ rs.flatten
    · rw [if_pos hin]
      refine ⟨R, fun y hy => ?_⟩
      rcases List.mem_append.mp hy with hy | hy
      · exact A y hy
      · simp at hy
        rw [hy]
        exact hin
    · rw [if_neg hin]
      obtain ⟨r, G⟩ := rowG_ex h0 h1 (if m0 z = none then 1 else 0) hzn
      rw [rowF_is G]
      refine ⟨rows_new h0 h1 R hin rfl G ?_, fun y hy => ?_⟩
      · by_cases hl : isLast m0 m1 z = true
        · exact .inl hl
        · refine .inr fun w hw hlw => A w ?_
          have hge : ((List.range n).filter (isLast m0 m1)).length ≤ i := by
            by_cases q : i < ((List.range n).filter (isLast m0 m1)).length
            · exfalso
              have e2 : (endsF n m0 m1)[i]? = ((List.range n).filter (isLast m0 m1))[i]? := by
                unfold endsF
                rw [List.getElem?_append_left q]
              rw [e] at e2
              have := List.mem_of_getElem? e2.symm
              exact hl (List.mem_filter.mp this).2
            · omega
          unfold endsF
          rw [List.take_append]
          refine List.mem_append_left _ ?_
          rw [List.take_of_length_le hge]
          exact List.mem_filter.mpr ⟨List.mem_range.mpr hw, hlw⟩
      · rw [List.flatten_append]
        rcases List.mem_append.mp hy with hy | hy
        · exact List.mem_append_left _ (A y hy)
        · simp at hy
          rw [hy]
          refine List.mem_append_right _ ?_
          simp
          exact List.mem_of_getElem? G.h0
theorem rowsF_ok (h0 : Mat n m0) (h1 : Mat n m1) : RowsOk n m0 m1 (rowsF n m0 m1) := by
  have h := rows_take h0 h1 (endsF n m0 m1).length (Nat.le_refl _)
  rw [List.take_length] at h
  exact ⟨h.1, fun z hz => h.2 z (List.mem_append_right _ (List.mem_range.mpr hz))⟩
theorem Row.ne {r : List Nat} (R : Row m0 m1 r) : r ≠ [] := fun z => by
  obtain ⟨t, b, k, a, c, hb, _⟩ := R.is
  rw [z] at hb
  cases hb
theorem len_flat : ∀ {rs : List (List Nat)}, (∀ r ∈ rs, r ≠ []) → rs.length ≤ rs.flatten.length
  | [], _ => by simp
  | r :: rs, h => by
    have ih := len_flat (rs := rs) fun q hq => h q (List.mem_cons_of_mem _ hq)
    have : 0 < r.length := List.length_pos_iff.mpr (h r List.mem_cons_self)
    rw [List.flatten_cons, List.length_append, List.length_cons]
    omega
theorem RowsP.few {rs : List (List Nat)} (R : RowsP n m0 m1 rs) : rs.flatten.length ≤ n ∧ rs.length ≤ n := by
  have h1 := nd_len n _ R.nd R.lt
  have h2 := len_flat fun r hr => (R.each r hr).ne
  exact ⟨h1, by omega⟩
end
inductive Kd where
  | ring | odd | opn | shut
deriving DecidableEq, Repr
/-- the kind and the size of a piece, by its row -/
def pcR (m0 m1 : Nat → Option Nat) (r : List Nat) : Kd × Nat :=
  (if (m0 (r.getD 0 0)).isSome = true ∧ (m1 (r.getD 0 0)).isSome = true then .ring else if r.length % 2 = 1 then .odd else if m0 (r.getD 0 0) = none then .opn else .shut, r.length)
end Dc
/-! The walks, fifth part: row_from, rows_in. -/
namespace Dc
open PySem PySem.Spec PyProof.Rows L2
def eR (r : List Nat) : PyData := .tuple (r.map eN)
def eMs (L : Nat) (m0 m1 : Nat → Option Nat) : PyData := .tuple [.list (eMates L m0), .list (eMates L m1)]
section
variable {X : Cx} {Γ : List Sl} {B H : Hp} {a b c : Expr} {pos p2 : Pos} {m0 m1 : Nat → Option Nat} {L t n : Nat} {i j : Int}
/-- mates[t][n] -/
theorem ed_ms (hi : i = (t : Int)) (ht : t < 2) (hj : j = (n : Int)) (hn : n < 2 * L) (ha : ED X Γ B H a (eMs L m0 m1)) (hb : ED X Γ B H b (.int i)) (hc : ED X Γ B H c (.int j)) (hs : PlainIx b := by exact fun _ _ => rfl) (hs2 : PlainIx c := by exact fun _ _ => rfl) : ED X Γ B H (.Subscript (.Subscript a b pos) c p2) (eO (Mg m0 m1 t n)) := by
  refine ed_mt (L := L) (n := n) hn hj (ed_ixT (ds := [.list (eMates L m0), .list (eMates L m1)]) (k := t) ?_ hi ha hb hs) hc hs2
  match t, ht with
  | 0, _ => rfl
  | 1, _ => rfl
end
section
variable {P : Program} {w : World} {K : PySem.W.Frag} {mg : Str → Option Value} {base : Heap}
abbrev s_row_from : Stmt := top 29
abbrev N_row_from : List Str := ["mates", "begin", "turn", "found", "here"]
theorem sc_row_from : FnScope N_row_from ["mates", "begin", "turn"] (defScope s_row_from) := ⟨rfl, rfl, rfl, by decide +kernel, rfl, by decide +kernel, by decide +kernel⟩
structure RfIn where
  L : Nat
  m0 : Nat → Option Nat
  m1 : Nat → Option Nat
  b : Nat
  t : Nat
abbrev p_row_from (K : PySem.W.Frag) : Pr := PrF K (α := RfIn) (fun m => [eMs m.L m.m0 m.m1, eN m.b, eN m.t]) (fun m => Mat (2 * m.L) m.m0 ∧ Mat (2 * m.L) m.m1 ∧ m.b < 2 * m.L ∧ m.t < 2 ∧ m.L ≤ 100) fun m => .list ((rowF (2 * m.L) m.m0 m.m1 m.t m.b).map eN)
theorem w_row_from {f : Addr} {fd : FuncData} (F : Fun K "row_from" "row_from" s_row_from f fd) : FnG P w K mg base 1 f fd ["mates", "begin", "turn"] (p_row_from K) := by
  refine fnP F sc_row_from (fun _ => rfl) fun cdv A outer s B H Q m room gd sb hp k => ?_
  obtain ⟨L, m0, m1, b, t⟩ := m
  obtain ⟨h0, h1, hb, ht, hL⟩ : Mat (2 * L) m0 ∧ Mat (2 * L) m1 ∧ b < 2 * L ∧ t < 2 ∧ L ≤ 100 := hp
  refine bd_par2 3 4 rfl sc_row_from.nd (by decide) (el_lst (ds := [eN b]) (ea_cons (ed_name 1 rfl) ea_nil) (by show 1 ≤ 1000; decide)) (ed_ms (L := L) (m0 := m0) (m1 := m1) (t := t) (n := b) rfl ht rfl hb (ed_name 0 rfl) (ed_name 2 rfl) (ed_name 1 rfl)) fun v1 v2 B1 H1 B2 H2 g1 r1 g2 r2 σ ok => ?_
  obtain ⟨l, xs, rfl, hl0, hl1, hlb, hld⟩ := r1
  have ok' := (ok.set 3 (s := .raw (.ref l)) rfl).set 4 (s := .dat (eO (Mg m0 m1 t b))) ⟨v2, rfl, r2⟩
  have mt1 : Mt K B2 H2 l ([b].map eN) := (Mt.mk ⟨xs, hl1, hld⟩ hlb).grow g2
  have gA := g1.trans g2
  refine (?_ : BD (bodyX P w K mg base N_row_from "row_from" s_row_from f cdv A outer s H) [.dat (eMs L m0 m1), .dat (eN b), .dat (eN t), .raw (.ref l), .dat (eO (Mg m0 m1 t b))] B2 H2 _ _) _ ok'
  refine bd_while (fun m Γ' B' H' => ∃ (r : List Nat) (kk a : Nat), Γ' = [.dat (eMs L m0 m1), .dat (eN b), .dat (eN ((t + kk) % 2)), .raw (.ref l), .dat (eO (Mg m0 m1 (t + kk) a))] ∧ Grow B H B' H' ∧ Mt K B' H' l (r.map eN) ∧ Chn m0 m1 t r ∧ r[0]? = some b ∧ r.length = kk + 1 ∧ r[kk]? = some a ∧ (∀ z ∈ r, z < 2 * L) ∧ m = 2 * L - r.length) (2 * L - 1) PassesOwn.never ⟨[b], 0, b, by rw [Nat.add_zero, Nat.mod_eq_of_lt ht], gA, mt1, ⟨by simp, fun i a b h1 h2 => by simp at h2⟩, rfl, rfl, rfl, by simpa using hb, by simp⟩ ?_
  rintro m _ B3 H3 ⟨r, kk, a, rfl, g3, m3, ch, hr0, hrl, hra, hlt, rfl⟩ _
  have hlen : r.length ≤ 2 * L := nd_len _ r ch.nd hlt
  have done : (Mg m0 m1 (t + kk) a = none ∨ Mg m0 m1 (t + kk) a = some b) → ∀ p1 p2 B4 H4, Grow B3 H3 B4 H4 → BD (bodyX P w K mg base N_row_from "row_from" s_row_from f cdv A outer s H) [.dat (eMs L m0 m1), .dat (eN b), .dat (eN ((t + kk) % 2)), .raw (.ref l), .dat (eO (Mg m0 m1 (t + kk) a))] B4 H4 [.Return (some (.Name "found" p1)) p2] { nx := fun _ H' => Q .non H', rt := Q } := fun e p1 p2 B4 H4 g4 =>
    bd_retM 3 rfl (m3.grow g4) (g3.trans g4) hl0 fun v B5 g5 r5 => k v _ B5 _ (by show PyData.list (r.map eN) = PyData.list ((rowF (2 * L) m0 m1 t b).map eN); rw [rowF_is ⟨ch, hr0, hlt, kk, a, hrl, hra, e⟩]) g5 r5
  cases q : Mg m0 m1 (t + kk) a with
  | none =>
    rw [q] at done
    exact ⟨false, et_and2 (x := false) (y := false) (et_to (et_notN (ed_name 4 rfl)) rfl) nofun, nofun, fun _ => done (.inl rfl) _ _⟩
  | some h =>
    rw [q] at done
    by_cases hb2 : h = b
    · refine ⟨false, et_and2 (x := true) (y := false) (et_to (et_notN (ed_name 4 rfl)) rfl) (fun _ => et_to (et_neI (ed_name 4 rfl) (ed_name 1 rfl)) (by rw [hb2]; simp)), nofun, fun _ => done (.inr (by rw [hb2])) _ _⟩
    · have hnew := chn_new h0 h1 ch hrl hra hr0 q hb2
      have hh := ((mg_mat h0 h1 _).lt _ _ q).2
      have ch2 := chn_snoc ch hrl hra q hnew
      refine ⟨true, et_and2 (x := true) (y := true) (et_to (et_notN (ed_name 4 rfl)) rfl) (fun _ => et_to (et_neI (ed_name 4 rfl) (ed_name 1 rfl)) (by rw [decide_eq_false (p := ((h : Nat) : Int) = (b : Nat)) (by omega)]; rfl)), fun _ B4 H4 g4 => ?_, nofun⟩
      have lt2 : ∀ z ∈ r ++ [h], z < 2 * L := fun z hz => by
        rcases List.mem_append.mp hz with hz | hz
        · exact hlt z hz
        · simp at hz
          omega
      have hlen2 : (r ++ [h]).length ≤ 2 * L := nd_len _ _ ch2.nd lt2
      refine bd_append (d := eN h) 3 rfl (m3.grow g4) (by rw [List.length_map]; omega) (ed_name 4 rfl) fun B5 H5 g5 m5 H6 m6 o6 => ?_
      have e1 : (1 : Int) - (((t + kk) % 2 : Nat) : Int) = ((((t + (kk + 1)) % 2 : Nat)) : Int) := by omega
      refine bd_set 2 sc_row_from.nd (d := eN ((t + (kk + 1)) % 2)) (ed_i (ed_sub ed_int (ed_name 2 rfl)) e1) fun B7 H7 g7 => ?_
      refine bd_set 4 sc_row_from.nd (d := eO (Mg m0 m1 (t + (kk + 1)) h)) (ed_to (ed_ms (L := L) (m0 := m0) (m1 := m1) (t := (t + (kk + 1)) % 2) (n := h) rfl (Nat.mod_lt _ (by decide)) rfl hh (ed_name 0 rfl) (ed_name 2 rfl) (ed_name 4 rfl)) (by rw [mg_mod (s := t + (kk + 1)) (Nat.mod_mod _ _)])) fun B8 H8 g8 => ?_
      refine bd_turn rfl (Weak.refl _) ((g5.b.trans g7.b).trans g8.b) ⟨2 * L - (r ++ [h]).length, ?_, r ++ [h], kk + 1, h, rfl, ((((g3.trans g4).trans g5).mut hl0 m5.out o6).trans g7).trans g8, ?_, ch2, ?_, ?_, ?_, lt2, rfl⟩
      · rw [List.length_append]
        rw [List.length_append] at hlen2
        simp at hlen2 ⊢
        omega
      · rw [List.map_append]
        exact (m6.grow g7).grow g8
      · rw [List.getElem?_append_left (by omega)]
        exact hr0
      · rw [List.length_append, hrl]
        rfl
      · rw [List.getElem?_append_right (by omega), hrl]
        simp
end
end Dc
/-! The walks, sixth part: rows_in. -/
namespace Dc
open PySem PySem.Spec PyProof.Rows L2
theorem eR_eq (r : List Nat) : eR r = .tuple ((r.map fun n : Nat => (n : Int)).map .int) := by
  unfold eR
  rw [List.map_map]
  rfl
theorem eR_inj (p q : List Nat) (h : eR p = eR q) : p = q := by
  unfold eR at h
  have h := PyData.tuple.inj h
  have go : ∀ (p q : List Nat), p.map eN = q.map eN → p = q := fun p => by
    induction p with
    | nil =>
      intro q h
      cases q with
      | nil => rfl
      | cons a q => cases h
    | cons a p ih =>
      intro q h
      cases q with
      | nil => cases h
      | cons b q =>
        rw [List.map_cons, List.map_cons, List.cons.injEq] at h
        rw [eN_inj _ _ h.1, ih q h.2]
  exact go p q h
theorem rng0 (n : Nat) : rng 0 n = (List.range n).map eN := by
  unfold rng
  exact List.map_congr_left fun k _ => by unfold eN; rw [Int.zero_add]
/-- the taken ends -/
def tkn (rs : List (List Nat)) : Int → Option V := fun z => if z ∈ (rs.flatten.map fun n : Nat => (n : Int)) then some (V.bl true) else none
theorem tkn_at (rs : List (List Nat)) (n : Nat) : (tkn rs (n : Nat)).isSome = decide (n ∈ rs.flatten) := by
  unfold tkn
  have e : (((n : Nat) : Int) ∈ (rs.flatten.map fun n : Nat => (n : Int))) ↔ n ∈ rs.flatten := by
    rw [List.mem_map]
    exact ⟨fun ⟨m, h1, h2⟩ => (by omega : m = n) ▸ h1, fun h => ⟨n, h, rfl⟩⟩
  by_cases h : n ∈ rs.flatten
  · rw [if_pos (e.mpr h), decide_eq_true h]
    rfl
  · rw [if_neg fun z => h (e.mp z), decide_eq_false h]
    rfl
theorem tkn_app (rs : List (List Nat)) (r : List Nat) (z : Int) : (Option.or (if z ∈ (r.map fun n : Nat => (n : Int)) then some (V.bl true) else none) (tkn rs z)) = tkn (rs ++ [r]) z := by
  unfold tkn
  have e : (rs ++ [r]).flatten = rs.flatten ++ r := by simp
  rw [e, List.map_append]
  simp only [List.mem_append]
  by_cases h1 : z ∈ (r.map fun n : Nat => (n : Int))
  · rw [if_pos h1, if_pos (Or.inr h1 : z ∈ (rs.flatten.map fun n : Nat => (n : Int)) ∨ z ∈ (r.map fun n : Nat => (n : Int)))]
    rfl
  · rw [if_neg h1]
    by_cases h2 : z ∈ (rs.flatten.map fun n : Nat => (n : Int))
    · rw [if_pos h2, if_pos (Or.inl h2 : z ∈ (rs.flatten.map fun n : Nat => (n : Int)) ∨ z ∈ (r.map fun n : Nat => (n : Int)))]
      rfl
    · rw [if_neg h2, if_neg (fun w => w.elim h2 h1 : ¬ (z ∈ (rs.flatten.map fun n : Nat => (n : Int)) ∨ z ∈ (r.map fun n : Nat => (n : Int))))]
      rfl
theorem eR_alike (rs : List (List Nat)) : PySem.W.AllAlike (rs.map eR) := PySem.W.AllAlike.of fun a b => by
  rw [eR_eq, eR_eq]
  simp only [PySem.W.alike]
  exact PySem.W.alike_ints _ _
theorem eR_sortable {rs : List (List Nat)} (h : ∀ r ∈ rs, r ≠ []) : PySem.W.Sortable (rs.map eR) := .inl fun d hd => by
  obtain ⟨r, hr, rfl⟩ := List.mem_map.mp hd
  cases r with
  | nil => exact absurd rfl (h _ hr)
  | cons a t => exact ⟨_, _, rfl⟩
theorem eR_depth (rs : List (List Nat)) : ∀ d ∈ rs.map eR, d.depth ≤ 60 := fun d h => by
  obtain ⟨r, _, rfl⟩ := List.mem_map.mp h
  rw [eR_eq, PyData.depth, PySem.W.depth_ints]
  decide
def sortR (rs : List (List Nat)) : List (List Nat) := rs.mergeSort (PySem.W.dataLe false eR)
theorem sortR_perm (rs : List (List Nat)) : (sortR rs).Perm rs := List.mergeSort_perm _ _
theorem sortD_eR (rs : List (List Nat)) : sortD (rs.map eR) = (sortR rs).map eR := (PySem.W.sort_maps eR (fun _ _ _ _ => rfl)).symm
noncomputable def rowsS (L : Nat) (j1 j2 : List Jt) : List (List Nat) := sortR (rowsF (2 * L) (mt j1) (mt j2))
theorem rowsS_ok {L : Nat} {j1 j2 : List Jt} (h1 : Lay L j1) (h2 : Lay L j2) : RowsOk (2 * L) (mt j1) (mt j2) (rowsS L j1 j2) := (rowsF_ok h1.mat h2.mat).perm (sortR_perm _)
section
variable {P : Program} {w : World} {K : PySem.W.Frag} {mg : Str → Option Value} {base : Heap}
abbrev s_rows_in : Stmt := top 30
abbrev N_rows_in : List Str := ["one", "other", "mates", "taken", "found", "end", "lasts", "row", "here"]
theorem sc_rows_in : FnScope N_rows_in ["one", "other"] (defScope s_rows_in) := ⟨rfl, rfl, rfl, by decide +kernel, rfl, by decide +kernel, by decide +kernel⟩
abbrev p_rows_in (K : PySem.W.Frag) : Pr := PrF K (α := Nat × List Jt × List Jt) (fun m => [eLay m.1 m.2.1, eLay m.1 m.2.2]) (fun m => Lay m.1 m.2.1 ∧ Lay m.1 m.2.2) fun m => .list ((rowsS m.1 m.2.1 m.2.2).map eR)
theorem w_rows_in {f : Addr} {fd : FuncData} (F : Fun K "rows_in" "rows_in" s_rows_in f fd) (T : Bi mg) (G1 : Has P w K mg base 1 "mates_in" ["lay"] (p_mates_in K)) (G2 : Has P w K mg base 1 "row_from" ["mates", "begin", "turn"] (p_row_from K)) : FnG P w K mg base 2 f fd ["one", "other"] (p_rows_in K) := by
  refine fnP F sc_rows_in (fun _ => rfl) fun cdv A outer s B H Q m room gd sb hp k => ?_
  obtain ⟨L, j1, j2⟩ := m
  obtain ⟨hl1, hl2⟩ : Lay L j1 ∧ Lay L j2 := hp
  have hle := hl1.le
  have M0 := hl1.mat
  have M1 := hl2.mat
  refine bd_asg3 2 3 4 rfl sc_rows_in.nd (ed_tup (ds := [.list (eMates L (mt j1)), .list (eMates L (mt j2))]) (ea_cons (ed_to (ed_call G1 (L, j1) room gd hl1 (ea_cons (ed_name 0 rfl) ea_nil)) rfl) (ea_cons (ed_to (ed_call G1 (L, j2) room gd hl2 (ea_cons (ed_name 1 rfl) ea_nil)) rfl) ea_nil)) (by show 2 ≤ 1000; decide)) ek_new (el_lst (ds := []) ea_nil) fun v1 v2 v3 B1 H1 B2 H2 B3 H3 q4 H4 g1 r1 g2 r2 g3 r3 g4 h04 o4 σ ok => ?_
  obtain ⟨q, rfl, hq0, hqb, dk⟩ := r2
  obtain ⟨l, xs, rfl, hl0, hlx, hlb, hld⟩ := r3
  have ok' := ((ok.set 2 (s := .dat (eMs L (mt j1) (mt j2))) ⟨v1, rfl, dp_mono (g2.b.trans g3.b) r1⟩).set 3 (s := .raw (.ref q)) rfl).set 4 (s := .raw (.ref l)) rfl
  have gA := ((g1.trans g2).trans g3).trans g4
  have hqH : H q = none := g1.h.free hq0
  have hlH : H l = none := (g1.trans g2).h.free hl0
  have hqb3 : B3 q = none := g3.outD dk hqb
  have dk4 : Dk H4 q 0 fun _ => none := dk.same (g3.trans g4).h
  have m4 : Mt K B3 H4 l ([].map eR) := (Mt.mk ⟨xs, hlx, hld⟩ hlb).grow g4
  have hlq : l ≠ q := fun z => by
    subst z
    obtain ⟨kvs, a, _⟩ := dk.is
    rw [hl0] at a
    cases a
  refine (?_ : BD (bodyX P w K mg base N_rows_in "rows_in" s_rows_in f cdv A outer s H) [.dat (eLay L j1), .dat (eLay L j2), .dat (eMs L (mt j1) (mt j2)), .raw (.ref q), .raw (.ref l), .unk, .unk, .unk, .unk] B3 H4 _ _) _ ok'
  have get : ∀ {X : Cx} {Γ : List Sl} {B H : Hp} {a : Expr} {z : Nat}, z < 2 * L → ED X Γ B H a (eN z) → ED X Γ B H a (.int ((z : Nat) : Int)) := fun _ h => h
  refine bd_lcm1 6 (ee := eN) (xs := List.range (2 * L)) (f := isLast (mt j1) (mt j2)) (v := eN) (own := [("end", 5)]) (js := [5]) (Γd := fun d => (wipeG _ [5]).set 5 (.dat d)) eN_inj rfl sc_rows_in.nd (blkOk_by (N := N_rows_in) (sc := defScope s_rows_in) (by decide +kernel)) (fun _ _ _ _ _ => pg_name (i := 5) sc_rows_in.nd rfl (.inl rfl)) (rng0 (2 * L) ▸ it_rng1 (n := 2 * L) (by simp) (by omega) T.range (ed_mul (.inl ⟨by decide, by decide⟩) ed_int (ed_lk (L := L) (js := j1) (ed_name 0 rfl)))) (by rw [List.length_range]; omega) (by simp) (fun d hd => tg_one 5) (fun z hz s0 H0 C cl fp B' H' g' => ?_) (fun z hz _ s0 H0 C cl fp B' H' g' => ed_name 5 rfl) fun B5 H5 g5 => ?_
  · have hz' := List.mem_range.mp hz
    exact et_inN room.units (ed_ms (L := L) (m0 := mt j1) (m1 := mt j2) (t := 0) (n := z) rfl (by decide) rfl hz' (ed_name 2 rfl) ed_int (ed_name 5 rfl)) (ed_ms (L := L) (m0 := mt j1) (m1 := mt j2) (t := 1) (n := z) rfl (by decide) rfl hz' (ed_name 2 rfl) ed_int (ed_name 5 rfl))
  have lE : (endsF (2 * L) (mt j1) (mt j2)).length ≤ 1000 := by
    have := List.length_filter_le (isLast (mt j1) (mt j2)) (List.range (2 * L))
    unfold endsF
    rw [List.length_append]
    rw [List.length_range] at *
    omega
  have lF : ((List.range (2 * L)).filter (isLast (mt j1) (mt j2))).length ≤ 1000 := by
    have := List.length_filter_le (isLast (mt j1) (mt j2)) (List.range (2 * L))
    rw [List.length_range] at *
    omega
  have dk5 := dk4.same g5.h
  have gB := gA.trans g5
  refine bd_for (fun i Γ' B' H' => ∃ (s5 s7 : Sl), Γ' = [.dat (eLay L j1), .dat (eLay L j2), .dat (eMs L (mt j1) (mt j2)), .raw (.ref q), .raw (.ref l), s5, .lst (((List.range (2 * L)).filter (isLast (mt j1) (mt j2))).map eN), s7, .unk] ∧ Grow B H B' H' ∧ B' q = none ∧ Dk H' q (((endsF (2 * L) (mt j1) (mt j2)).take i).foldl (stp (2 * L) (mt j1) (mt j2)) []).flatten.length (tkn (((endsF (2 * L) (mt j1) (mt j2)).take i).foldl (stp (2 * L) (mt j1) (mt j2)) [])) ∧ Mt K B' H' l ((((endsF (2 * L) (mt j1) (mt j2)).take i).foldl (stp (2 * L) (mt j1) (mt j2)) []).map eR)) rfl PassesOwn.never
    (pg_name (i := 5) sc_rows_in.nd rfl (.inl rfl)) (it_list (ds := (endsF (2 * L) (mt j1) (mt j2)).map eN) (ed_to (EL.ed (el_cat (by rw [rng_len, List.length_map]; omega) (em_name 6 rfl) (EL.em (el_listR1 (n := 2 * L) (by simp) (by omega) rfl T.range T.list (ed_mul (.inl ⟨by decide, by decide⟩) ed_int (ed_lk (L := L) (js := j1) (ed_name 0 rfl))))))) (by rw [rng0, ← List.map_append]; rfl))) (fun d hd Γ1 => tg_one 5)
    (fun B6 H6 g6 => ⟨_, _, rfl, gB.trans g6, g6.outD dk5 (g5.outD dk4 hqb3), (dk5.same g6.h), ((m4.grow g5).grow g6)⟩) ?_ ?_
  · rintro i d _ B6 H6 hd ⟨s5, s7, rfl, g6, hb6, dk6, m6⟩ _ B7 H7 g7
    obtain ⟨z, hz, rfl⟩ : ∃ z, (endsF (2 * L) (mt j1) (mt j2))[i]? = some z ∧ d = eN z := by
      rw [List.getElem?_map] at hd
      cases w : (endsF (2 * L) (mt j1) (mt j2))[i]? with
      | none => rw [w] at hd; cases hd
      | some z => rw [w] at hd; exact ⟨z, rfl, (Option.some.inj hd).symm⟩
    have hi : i < (endsF (2 * L) (mt j1) (mt j2)).length := (List.getElem?_eq_some_iff.mp hz).1
    have hzn : z < 2 * L := endsF_lt (List.mem_of_getElem? hz)
    have R := (rows_take M0 M1 i (by omega)).1
    have R2 := (rows_take M0 M1 (i + 1) (by omega)).1
    have es : ((endsF (2 * L) (mt j1) (mt j2)).take (i + 1)).foldl (stp (2 * L) (mt j1) (mt j2)) [] = stp (2 * L) (mt j1) (mt j2) (((endsF (2 * L) (mt j1) (mt j2)).take i).foldl (stp (2 * L) (mt j1) (mt j2)) []) z := by
      rw [take_snoc hz, List.foldl_append]
      rfl
    rw [es] at R2
    simp only [es]
    generalize hrs : ((endsF (2 * L) (mt j1) (mt j2)).take i).foldl (stp (2 * L) (mt j1) (mt j2)) [] = rs at *
    have few := R.few
    have dk7 := dk6.same g7.h
    have hb7 := g7.outD dk6 hb6
    refine bd_if (t := !decide (z ∈ rs.flatten)) (et_to (et_ninK 3 rfl dk7 room.units (i := (z : Nat)) (ed_name 5 rfl)) (by rw [tkn_at])) (fun ht B8 H8 g8 => ?_) (fun ht B8 H8 g8 => ?_)
    · have hin : z ∉ rs.flatten := by simpa using ht
      have e2 : stp (2 * L) (mt j1) (mt j2) rs z = rs ++ [rowF (2 * L) (mt j1) (mt j2) (if mt j1 z = none then 1 else 0) z] := by
        unfold stp
        rw [if_neg hin]
      rw [e2] at R2 ⊢
      have few2 := R2.few
      have hpre : Mat (2 * L) (mt j1) ∧ Mat (2 * L) (mt j2) ∧ z < 2 * L ∧ (if mt j1 z = none then 1 else 0) < 2 ∧ L ≤ 100 := ⟨M0, M1, hzn, by split <;> decide, by omega⟩
      refine bd_set 7 sc_rows_in.nd (d := .list ((rowF (2 * L) (mt j1) (mt j2) (if mt j1 z = none then 1 else 0) z).map eN)) (ed_to (ed_call G2 (RfIn.mk L (mt j1) (mt j2) z (if mt j1 z = none then 1 else 0)) room gd hpre (ea_cons (ed_name 2 rfl) (ea_cons (ed_name 5 rfl) (ea_cons (ed_if (k := isNone (eO (mt j1 z))) (et_isN (ed_ms (L := L) (m0 := mt j1) (m1 := mt j2) (t := 0) (n := z) rfl (by decide) rfl hzn (ed_name 2 rfl) ed_int (ed_name 5 rfl))) (fun hk => ?_) (fun hk => ?_)) ea_nil)))) rfl) fun B9 H9 g9 => ?_
      · have : mt j1 z = none := by
          cases w : mt j1 z with
          | none => rfl
          | some y => rw [w] at hk; cases hk
        simp only [this, if_pos]
        exact ed_int
      · have : mt j1 z ≠ none := fun w => by
          rw [w] at hk
          cases hk
        simp only [if_neg this]
        exact ed_int
      · generalize rowF (2 * L) (mt j1) (mt j2) (if mt j1 z = none then 1 else 0) z = r at *
        have dk9 := dk7.same (g8.trans g9).h
        have hb9 := (g8.trans g9).outD dk7 hb7
        have er : r.map eN = (r.map fun n : Nat => (n : Int)).map .int := by rw [List.map_map]; rfl
        have lr : r.length ≤ 1000 := by
          have : (rs ++ [r]).flatten = rs.flatten ++ r := by simp
          rw [this, List.length_append] at few2
          omega
        refine bd_updK 3 rfl dk9 hb9 (s2 := (r.map fun n : Nat => (n : Int)).length) (by rw [List.length_map]; omega) (ek_dc (ns := r.map fun n : Nat => (n : Int)) (own := [("here", 8)]) (js := [8]) (Γd := fun d => (wipeG _ [8]).set 8 (.dat d)) (dv := .bool true) (vv := .bl true) rfl sc_rows_in.nd (blkOk_by (N := N_rows_in) (sc := defScope s_rows_in) (by decide +kernel)) (fun _ _ _ _ _ => pg_name (i := 8) sc_rows_in.nd rfl (.inl rfl)) (it_list (ed_to (ed_name 7 rfl) (by rw [er]))) (by rw [List.length_map]; omega) (by simp) (fun d hd => tg_one 8) rfl (fun n hn s0 H0 C cl fp B' H' g' => ed_name 8 rfl) (fun n hn s0 H0 C cl fp B' H' g' => ed_bl)) fun B10 H10 g10 hb10 H11 dk11 o11 => ?_
        have m10 := ((((m6.grow g7).grow g8).grow g9).grow g10)
        have m11 := m10.far2 hlq o11
        have g11 : Grow B H B10 H11 := ((((g6.trans g7).trans g8).trans g9).trans g10).mut hqH hb10 o11
        refine bd_append (d := eR r) 4 rfl m11 (by rw [List.length_map]; omega) (ed_tuple (.inl rfl) T.tuple (ed_name 7 rfl)) fun B12 H12 g12 m12 H13 m13 o13 => ?_
        have dk12 := dk11.same g12.h
        have dk13 := dk12.far2 (l := l) (fun z => hlq z.symm) o13
        refine bd_fall (bd_turn rfl (Weak.refl _) (((g8.b.trans g9.b).trans g10.b).trans g12.b) ⟨_, _, rfl, (g11.trans g12).mut hlH m12.out o13, g12.outD dk11 hb10, ?_, ?_⟩)
        · refine (dk13.congr (m' := tkn (rs ++ [r])) fun z => tkn_app rs r z).up ?_
          simp
        · rw [List.map_append]
          exact m13
    · have hin : z ∈ rs.flatten := by simpa using ht
      have e2 : stp (2 * L) (mt j1) (mt j2) rs z = rs := by
        unfold stp
        rw [if_pos hin]
      rw [e2]
      exact bd_fall (bd_turn rfl (Weak.refl _) g8.b ⟨_, _, rfl, (g6.trans g7).trans g8, g8.outD dk7 hb7, dk7.same g8.h, (m6.grow g7).grow g8⟩)
  · rintro _ B6 H6 ⟨s5, s7, rfl, g6, hb6, dk6, m6⟩ _
    rw [List.length_map, List.take_length] at m6
    have ok2 := rowsF_ok M0 M1
    refine bd_fixM 4 rfl m6 fun B8 s8 f8 => ?_
    have g8 := f8 B H g6 hlH
    refine bd_ret (R := isD K (.list ((rowsS L j1 j2).map eR))) (ed_to (EL.ed (el_sorted room.units T.sorted (eR_alike (rowsF (2 * L) (mt j1) (mt j2))) (eR_sortable fun r hr => (ok2.each r hr).ne) (eR_depth _) (ed_nameL 4 rfl))) (by rw [sortD_eR]; rfl)) fun v B9 H9 g9 r9 => k v _ B9 H9 rfl (g8.trans g9) r9
end
end Dc
/-! The walks, seventh part: kind_of to single_number. -/
namespace Dc
open PySem PySem.Spec PyProof.Rows L2
def kdS : Kd → Str
  | .ring => "ring"
  | .odd => "odd"
  | .opn => "open"
  | .shut => "shut"
theorem kdS_ring (k : Kd) : decide (kdS k = kdS .ring) = decide (k = .ring) := by
  cases k <;> decide
theorem kdS_inj (a b : Kd) (h : kdS a = kdS b) : a = b := by
  revert h
  cases a <;> cases b <;> decide
def eP (p : Kd × Nat) : PyData := .tuple [.str (kdS p.1), eN p.2]
theorem eP_inj (p q : Kd × Nat) (h : eP p = eP q) : p = q := by
  obtain ⟨a, b⟩ := p
  obtain ⟨c, d⟩ := q
  simp only [eP, PyData.tuple.injEq, List.cons.injEq, PyData.str.injEq] at h
  rw [kdS_inj _ _ h.1, eN_inj _ _ h.2.1]
theorem eP_alike (ps : List (Kd × Nat)) : PySem.W.AllAlike (ps.map eP) := PySem.W.AllAlike.of fun a b => by simp [eP, eN, PySem.W.alike, PySem.W.alikeAll]
theorem eP_sortable (ps : List (Kd × Nat)) : PySem.W.Sortable (ps.map eP) := PySem.W.Sortable.tuples fun b => ⟨_, _, rfl⟩
theorem eP_depth (ps : List (Kd × Nat)) : ∀ d ∈ ps.map eP, d.depth ≤ 60 := fun d h => by
  obtain ⟨p, _, rfl⟩ := List.mem_map.mp h
  simp [eP, eN, PyData.depth, PyData.depthAll]
def sortP (ps : List (Kd × Nat)) : List (Kd × Nat) := ps.mergeSort (PySem.W.dataLe false eP)
theorem sortP_perm (ps : List (Kd × Nat)) : (sortP ps).Perm ps := List.mergeSort_perm _ _
theorem sortD_eP (ps : List (Kd × Nat)) : sortD (ps.map eP) = (sortP ps).map eP := (PySem.W.sort_maps eP (fun _ _ _ _ => rfl)).symm
/-- the pieces, ascending -/
noncomputable def pcs (L : Nat) (j1 j2 : List Jt) : List (Kd × Nat) := sortP ((rowsS L j1 j2).map (pcR (mt j1) (mt j2)))
/-- what a piece costs -/
def cst (p : Kd × Nat) : Int := ((p.2 : Nat) : Int) / 2 - (if p.1 = .ring then 1 else 0)
noncomputable def cost (L : Nat) (j1 j2 : List Jt) : Int := ((pcs L j1 j2).map cst).sum
/-- the constants of the module -/
structure Cn (K : PySem.W.Frag) (mg : Str → Option Value) : Prop where
  most : ∃ tk, mg "MOST_LINKS" = some (.int 12 tk)
  ring : ∃ tk, mg "RING" = some (.str (kdS .ring) tk)
  odd : ∃ tk, mg "ODD" = some (.str (kdS .odd) tk)
  opn : ∃ tk, mg "OPEN" = some (.str (kdS .opn) tk)
  shut : ∃ tk, mg "SHUT" = some (.str (kdS .shut) tk)
  kinds : ∃ a, mg "KINDS" = some (.ref a) ∧ ∀ B, Dp K B (.ref a) (.tuple ([kdS .ring, kdS .odd, kdS .opn, kdS .shut].map .str))
section
variable {X : Cx} {Γ : List Sl} {B H : Hp} {a b : Expr} {pos p : Pos} {r : List Nat} {x0 : Nat}
theorem ed_r0 {jj : Nat} (hr : r[0]? = some x0) (ha : ED X Γ B H a (eR r)) : ED X Γ B H (.Subscript a (.Constant (.int 0) jj p) pos) (eN x0) := ed_ixT (ds := r.map eN) (k := 0) (by rw [List.getElem?_map, hr]; rfl) rfl ha ed_int
theorem ed_p0 {jj : Nat} {q : Kd × Nat} (ha : ED X Γ B H a (eP q)) : ED X Γ B H (.Subscript a (.Constant (.int 0) jj p) pos) (.str (kdS q.1)) := ed_ixT (ds := [.str (kdS q.1), eN q.2]) (k := 0) rfl rfl ha ed_int
theorem ed_p1 {jj : Nat} {q : Kd × Nat} (ha : ED X Γ B H a (eP q)) : ED X Γ B H (.Subscript a (.Constant (.int 1) jj p) pos) (.int (q.2 : Nat)) := ed_ixT (ds := [.str (kdS q.1), eN q.2]) (k := 1) rfl rfl ha ed_int
end
theorem eqv_eJ (p q : Jt) : PyData.eqv (eJ p) (eJ q) = decide (p = q) := by
  obtain ⟨a, b⟩ := p
  obtain ⟨c, d⟩ := q
  have e : PyData.eqv (eJ (a, b)) (eJ (c, d)) = (PyData.eqv (.int (a : Nat)) (.int (c : Nat)) && PyData.eqv (.int (b : Nat)) (.int (d : Nat))) := by
    unfold eJ
    simp [PyData.eqv, PyData.eqvAll]
  rw [e, eqv_int, eqv_int]
  by_cases h1 : a = c
  · by_cases h2 : b = d
    · subst h1 h2
      simp
    · rw [decide_eq_false (p := ((b : Nat) : Int) = (d : Nat)) (by omega), Bool.and_false, decide_eq_false (by simp [h2])]
  · rw [decide_eq_false (p := ((a : Nat) : Int) = (c : Nat)) (by omega), Bool.false_and, decide_eq_false (by simp [h1])]
theorem in_eJ (js : List Jt) (p : Jt) : ((js.map eJ).any fun z => PyData.eqv z (eJ p)) = decide (p ∈ js) := by
  induction js with
  | nil => rfl
  | cons q js ih =>
    rw [List.map_cons, List.any_cons, ih, eqv_eJ]
    by_cases h : q = p
    · subst h
      simp
    · rw [decide_eq_false h, Bool.false_or]
      have : (p ∈ q :: js) ↔ p ∈ js := by simp [Ne.symm h]
      exact decide_eq_decide.mpr this.symm
theorem lay_eJ (p : Jt) : PyData.canLay0 (eJ p) = true := by simp [eJ, PyData.canLay0, PyData.canLayAll0]
theorem lay_eJs (js : List Jt) : PyData.canLayAll0 (js.map eJ) = true := by
  induction js with
  | nil => simp [PyData.canLayAll0]
  | cons p js ih => simp [PyData.canLayAll0, lay_eJ, ih]
theorem dep_eJ (p : Jt) : PyData.depth (eJ p) ≤ 60 := by simp [eJ, PyData.depth, PyData.depthAll]
/-- how many joints only one of both has -/
def sgl (j1 j2 : List Jt) : Int := ((j1.length : Nat) : Int) + ((j2.length : Nat) : Int) - 2 * (((j1.filter fun p => decide (p ∈ j2)).length : Nat) : Int)
section
variable {P : Program} {w : World} {K : PySem.W.Frag} {mg : Str → Option Value} {base : Heap}
/-! kind_of -/
abbrev s_kind_of : Stmt := top 31
abbrev N_kind_of : List Str := ["one", "other", "row", "mates"]
theorem sc_kind_of : FnScope N_kind_of ["one", "other", "row"] (defScope s_kind_of) := ⟨rfl, rfl, rfl, by decide +kernel, rfl, by decide +kernel, by decide +kernel⟩
abbrev p_kind_of (K : PySem.W.Frag) : Pr := PrF K (α := Nat × List Jt × List Jt × List Nat) (fun m => [eLay m.1 m.2.1, eLay m.1 m.2.2.1, eR m.2.2.2]) (fun m => Lay m.1 m.2.1 ∧ Lay m.1 m.2.2.1 ∧ m.2.2.2 ≠ [] ∧ ∀ z ∈ m.2.2.2, z < 2 * m.1) fun m => .str (kdS (pcR (mt m.2.1) (mt m.2.2.1) m.2.2.2).1)
theorem w_kind_of {f : Addr} {fd : FuncData} (F : Fun K "kind_of" "kind_of" s_kind_of f fd) (T : Bi mg) (C : Cn K mg) (G1 : Has P w K mg base 1 "mates_in" ["lay"] (p_mates_in K)) : FnG P w K mg base 2 f fd ["one", "other", "row"] (p_kind_of K) := by
  refine fnP F sc_kind_of (fun _ => rfl) fun cdv A outer s B H Q m room gd sb hp k => ?_
  obtain ⟨L, j1, j2, r⟩ := m
  obtain ⟨hl1, hl2, hr, hlt⟩ : Lay L j1 ∧ Lay L j2 ∧ r ≠ [] ∧ ∀ z ∈ r, z < 2 * L := hp
  obtain ⟨tk1, c1⟩ := C.ring
  obtain ⟨tk2, c2⟩ := C.odd
  obtain ⟨tk3, c3⟩ := C.opn
  obtain ⟨tk4, c4⟩ := C.shut
  obtain ⟨x0, rt, rfl⟩ : ∃ x t, r = x :: t := by
    cases r with
    | nil => exact absurd rfl hr
    | cons x t => exact ⟨x, t, rfl⟩
  have hx : x0 < 2 * L := hlt x0 (by simp)
  have eg : (x0 :: rt).getD 0 0 = x0 := rfl
  refine bd_set 3 sc_kind_of.nd (d := eMs L (mt j1) (mt j2)) (ed_tup (ds := [.list (eMates L (mt j1)), .list (eMates L (mt j2))]) (ea_cons (ed_to (ed_call G1 (L, j1) room gd hl1 (ea_cons (ed_name 0 rfl) ea_nil)) rfl) (ea_cons (ed_to (ed_call G1 (L, j2) room gd hl2 (ea_cons (ed_name 1 rfl) ea_nil)) rfl) ea_nil)) (by show 2 ≤ 1000; decide)) fun B1 H1 g1 => ?_
  refine bd_if (t := !((mt j1 x0).isNone || (mt j2 x0).isNone)) (et_ninN room.units (ed_ms (L := L) (m0 := mt j1) (m1 := mt j2) (t := 0) (n := x0) rfl (by decide) rfl hx (ed_name 3 rfl) ed_int (ed_r0 (r := x0 :: rt) rfl (ed_name 2 rfl))) (ed_ms (L := L) (m0 := mt j1) (m1 := mt j2) (t := 1) (n := x0) rfl (by decide) rfl hx (ed_name 3 rfl) ed_int (ed_r0 (r := x0 :: rt) rfl (ed_name 2 rfl)))) (fun ht B2 H2 g2 => ?_) (fun ht B2 H2 g2 => ?_)
  · refine bd_ret (R := isD K (.str (kdS .ring))) (ed_glob (v := .str (kdS .ring)) c1 ⟨_, rfl⟩ (.str _)) fun v B3 H3 g3 r3 => k v _ B3 H3 ?_ ((g1.trans g2).trans g3) r3
    show PyData.str (kdS .ring) = PyData.str (kdS (pcR (mt j1) (mt j2) (x0 :: rt)).1)
    unfold pcR
    rw [eg, if_pos (by simpa using ht)]
  · have hnr : ¬ ((mt j1 x0).isSome = true ∧ (mt j2 x0).isSome = true) := fun ⟨q1, q2⟩ => by
      rw [Option.isSome_iff_exists] at q1 q2
      obtain ⟨a, q1⟩ := q1
      obtain ⟨b, q2⟩ := q2
      rw [q1, q2] at ht
      cases ht
    have e2 : ((((x0 :: rt).map eN).length : Nat) : Int) % 2 = (((x0 :: rt).length % 2 : Nat) : Int) := by rw [List.length_map]; omega
    refine bd_fall (bd_if (t := decide ((x0 :: rt).length % 2 = 1)) (et_to (et_eqI (ed_mod (by decide) (ed_intI T.int (ed_len (.inr rfl) T.len (ed_name 2 rfl))) ed_int) ed_int) ?_) (fun ht2 B3 H3 g3 => ?_) (fun ht2 B3 H3 g3 => ?_))
    · rw [e2]
      exact decide_eq_decide.mpr (by omega)
    · refine bd_ret (R := isD K (.str (kdS .odd))) (ed_glob (v := .str (kdS .odd)) c2 ⟨_, rfl⟩ (.str _)) fun v B4 H4 g4 r4 => k v _ B4 H4 ?_ (((g1.trans g2).trans g3).trans g4) r4
      show PyData.str (kdS .odd) = PyData.str (kdS (pcR (mt j1) (mt j2) (x0 :: rt)).1)
      unfold pcR
      rw [eg, if_neg hnr, if_pos (of_decide_eq_true ht2)]
    · have e4 : (pcR (mt j1) (mt j2) (x0 :: rt)).1 = if mt j1 x0 = none then .opn else .shut := by
        unfold pcR
        rw [eg, if_neg hnr, if_neg (of_decide_eq_false ht2)]
      refine bd_fall (bd_ret (R := isD K (.str (kdS (pcR (mt j1) (mt j2) (x0 :: rt)).1))) (ed_if (k := isNone (eO (mt j1 x0))) (et_isN (ed_ms (L := L) (m0 := mt j1) (m1 := mt j2) (t := 0) (n := x0) rfl (by decide) rfl hx (ed_name 3 rfl) ed_int (ed_r0 (r := x0 :: rt) rfl (ed_name 2 rfl)))) (fun hk => ?_) (fun hk => ?_)) fun v B4 H4 g4 r4 => k v _ B4 H4 rfl (((g1.trans g2).trans g3).trans g4) r4)
      · have : mt j1 x0 = none := by
          cases w : mt j1 x0 with
          | none => rfl
          | some y => rw [w] at hk; cases hk
        rw [e4, if_pos this]
        exact ed_glob (v := .str (kdS .opn)) c3 ⟨_, rfl⟩ (.str _)
      · have : mt j1 x0 ≠ none := fun w => by
          rw [w] at hk
          cases hk
        rw [e4, if_neg this]
        exact ed_glob (v := .str (kdS .shut)) c4 ⟨_, rfl⟩ (.str _)
/-! pieces_in -/
abbrev s_pieces_in : Stmt := top 32
abbrev N_pieces_in : List Str := ["one", "other", "row"]
theorem sc_pieces_in : FnScope N_pieces_in ["one", "other"] (defScope s_pieces_in) := ⟨rfl, rfl, rfl, by decide +kernel, rfl, by decide +kernel, by decide +kernel⟩
abbrev p_pieces_in (K : PySem.W.Frag) : Pr := PrF K (α := Nat × List Jt × List Jt) (fun m => [eLay m.1 m.2.1, eLay m.1 m.2.2]) (fun m => Lay m.1 m.2.1 ∧ Lay m.1 m.2.2) fun m => .list ((pcs m.1 m.2.1 m.2.2).map eP)
theorem w_pieces_in {f : Addr} {fd : FuncData} (F : Fun K "pieces_in" "pieces_in" s_pieces_in f fd) (T : Bi mg) (G1 : Has P w K mg base 2 "kind_of" ["one", "other", "row"] (p_kind_of K)) (G2 : Has P w K mg base 2 "rows_in" ["one", "other"] (p_rows_in K)) : FnG P w K mg base 3 f fd ["one", "other"] (p_pieces_in K) := by
  refine fnP F sc_pieces_in (fun _ => rfl) fun cdv A outer s B H Q m room gd sb hp k => ?_
  obtain ⟨L, j1, j2⟩ := m
  obtain ⟨hl1, hl2⟩ : Lay L j1 ∧ Lay L j2 := hp
  have hle := hl1.le
  have ok := rowsS_ok hl1 hl2
  have few := ok.toRowsP.few
  refine bd_ret (R := isD K (.list ((pcs L j1 j2).map eP))) (ed_to (EL.ed (el_sorted room.units T.sorted (eP_alike ((rowsS L j1 j2).map (pcR (mt j1) (mt j2)))) (eP_sortable _) (eP_depth _) (ed_to (EL.ed (el_lcm0 (ee := eR) (xs := rowsS L j1 j2) (v := fun r => eP (pcR (mt j1) (mt j2) r)) (own := [("row", 2)]) (js := [2]) (Γd := fun d => (wipeG _ [2]).set 2 (.dat d)) eR_inj rfl sc_pieces_in.nd (blkOk_by (N := N_pieces_in) (sc := defScope s_pieces_in) (by decide +kernel)) (fun _ _ _ _ _ => pg_name (i := 2) sc_pieces_in.nd rfl (.inl rfl)) (it_list (ed_to (ed_call G2 (L, j1, j2) room gd ⟨hl1, hl2⟩ (ea_cons (ed_name 0 rfl) (ea_cons (ed_name 1 rfl) ea_nil))) rfl)) (by omega) (by simp) (fun d hd => tg_one 2) (fun r hr s0 H0 C cl fp B' H' g' => ?_))) (by rw [List.map_map]; rfl)))) (by rw [sortD_eP]; rfl)) fun v B4 H4 g4 r => k v _ B4 H4 rfl g4 r
  have hpre : Lay L j1 ∧ Lay L j2 ∧ r ≠ [] ∧ ∀ z ∈ r, z < 2 * L := ⟨hl1, hl2, (ok.each r hr).ne, fun z hz => ok.lt z (List.mem_flatten.mpr ⟨r, hr, hz⟩)⟩
  exact ed_to (ed_tup (ds := [.str (kdS (pcR (mt j1) (mt j2) r).1), .int ((r.map eN).length : Nat)]) (ea_cons (ed_to (ed_call G1 (L, j1, j2, r) room gd hpre (ea_cons (ed_name 0 rfl) (ea_cons (ed_name 1 rfl) (ea_cons (ed_name 2 rfl) ea_nil)))) rfl) (ea_cons (ed_len (.inr rfl) T.len (ed_name 2 rfl)) ea_nil)) (by show 2 ≤ 1000; decide)) (by rw [List.length_map]; rfl)
theorem pcs_few {L : Nat} {j1 j2 : List Jt} (hl1 : Lay L j1) (hl2 : Lay L j2) : (pcs L j1 j2).length ≤ 1000 := by
  have few := (rowsS_ok hl1 hl2).toRowsP.few
  have := hl1.le
  unfold pcs
  rw [(sortP_perm _).length_eq, List.length_map]
  omega
/-! cost_of -/
abbrev s_cost_of : Stmt := top 33
theorem sc_cost_of : FnScope ["piece"] ["piece"] (defScope s_cost_of) := ⟨rfl, rfl, rfl, by decide +kernel, rfl, by decide +kernel, by decide +kernel⟩
abbrev p_cost_of (K : PySem.W.Frag) : Pr := PrF K (α := Kd × Nat) (fun m => [eP m]) (fun _ => True) fun m => .int (cst m)
theorem w_cost_of {f : Addr} {fd : FuncData} (F : Fun K "cost_of" "cost_of" s_cost_of f fd) (C : Cn K mg) : FnG P w K mg base 1 f fd ["piece"] (p_cost_of K) := by
  refine fnP F sc_cost_of (fun _ => rfl) fun cdv A outer s B H Q m room gd sb hp k => ?_
  obtain ⟨tk1, c1⟩ := C.ring
  refine bd_ret (R := isD K (.int (cst m))) (ed_sub (ed_fdiv ⟨by decide, by decide⟩ (ed_p1 (ed_name 0 rfl)) ed_int) (ed_if (k := decide (m.1 = .ring)) (et_to (et_eqS (ed_p0 (ed_name 0 rfl)) (ed_glob (v := .str (kdS .ring)) c1 ⟨_, rfl⟩ (.str _))) (kdS_ring m.1)) (fun hk => by rw [if_pos (of_decide_eq_true hk)]; exact ed_int) (fun hk => by rw [if_neg (of_decide_eq_false hk)]; exact ed_int))) fun v B4 H4 g4 r => k v _ B4 H4 rfl g4 r
/-! cost_in -/
abbrev s_cost_in : Stmt := top 34
abbrev N_cost_in : List Str := ["one", "other", "piece"]
theorem sc_cost_in : FnScope N_cost_in ["one", "other"] (defScope s_cost_in) := ⟨rfl, rfl, rfl, by decide +kernel, rfl, by decide +kernel, by decide +kernel⟩
abbrev p_cost_in (K : PySem.W.Frag) : Pr := PrF K (α := Nat × List Jt × List Jt) (fun m => [eLay m.1 m.2.1, eLay m.1 m.2.2]) (fun m => Lay m.1 m.2.1 ∧ Lay m.1 m.2.2) fun m => .int (cost m.1 m.2.1 m.2.2)
theorem w_cost_in {f : Addr} {fd : FuncData} (F : Fun K "cost_in" "cost_in" s_cost_in f fd) (T : Bi mg) (G1 : Has P w K mg base 3 "cost_of" ["piece"] (p_cost_of K)) (G2 : Has P w K mg base 3 "pieces_in" ["one", "other"] (p_pieces_in K)) : FnG P w K mg base 4 f fd ["one", "other"] (p_cost_in K) := by
  refine fnP F sc_cost_in (fun _ => rfl) fun cdv A outer s B H Q m room gd sb hp k => ?_
  obtain ⟨L, j1, j2⟩ := m
  obtain ⟨hl1, hl2⟩ : Lay L j1 ∧ Lay L j2 := hp
  have few := pcs_few hl1 hl2
  refine bd_ret (R := isD K (.int (cost L j1 j2))) (ed_sumL (ns := (pcs L j1 j2).map cst) rfl T.sum (ed_to (EL.ed (el_lcm0 (ee := eP) (xs := pcs L j1 j2) (v := fun p => .int (cst p)) (own := [("piece", 2)]) (js := [2]) (Γd := fun d => (wipeG _ [2]).set 2 (.dat d)) eP_inj rfl sc_cost_in.nd (blkOk_by (N := N_cost_in) (sc := defScope s_cost_in) (by decide +kernel)) (fun _ _ _ _ _ => pg_name (i := 2) sc_cost_in.nd rfl (.inl rfl)) (it_list (ed_to (ed_call G2 (L, j1, j2) room gd ⟨hl1, hl2⟩ (ea_cons (ed_name 0 rfl) (ea_cons (ed_name 1 rfl) ea_nil))) rfl)) (by omega) (by simp) (fun d hd => tg_one 2) (fun p hp s0 H0 C cl fp B' H' g' => ed_to (ed_call G1 p room gd trivial (ea_cons (ed_name 2 rfl) ea_nil)) rfl))) (by rw [List.map_map]; rfl))) fun v B4 H4 g4 r => k v _ B4 H4 rfl g4 r
/-! pieces -/
abbrev s_pieces : Stmt := top 35
theorem sc_pieces : FnScope ["one", "other"] ["one", "other"] (defScope s_pieces) := ⟨rfl, rfl, rfl, by decide +kernel, rfl, by decide +kernel, by decide +kernel⟩
abbrev p_pieces (K : PySem.W.Frag) : Pr := PrF K (α := Nat × List Jt × List Jt) (fun m => [eLay m.1 m.2.1, eLay m.1 m.2.2]) (fun m => Lay m.1 m.2.1 ∧ Lay m.1 m.2.2) fun m => .tuple ((pcs m.1 m.2.1 m.2.2).map eP)
theorem w_pieces {f : Addr} {fd : FuncData} (F : Fun K "pieces" "pieces" s_pieces f fd) (T : Bi mg) (G1 : Has P w K mg base 5 "need_two" ["one", "other"] (p_need_two K)) (G2 : Has P w K mg base 5 "pieces_in" ["one", "other"] (p_pieces_in K)) : FnG P w K mg base 6 f fd ["one", "other"] (p_pieces K) := by
  refine fnP F sc_pieces (fun _ => rfl) fun cdv A outer s B H Q m room gd sb hp k => ?_
  refine bd_expr (ed_call G1 m room gd hp (ea_cons (ed_name 0 rfl) (ea_cons (ed_name 1 rfl) ea_nil))) fun _ B1 H1 g1 _ => ?_
  refine bd_ret (R := isD K (.tuple ((pcs m.1 m.2.1 m.2.2).map eP))) (ed_tuple (.inl rfl) T.tuple (ed_to (ed_call G2 m room gd hp (ea_cons (ed_name 0 rfl) (ea_cons (ed_name 1 rfl) ea_nil))) rfl)) fun v B4 H4 g4 r => k v _ B4 H4 rfl (g1.trans g4) r
/-! kinds -/
abbrev s_kinds : Stmt := top 36
abbrev N_kinds : List Str := ["one", "other", "some", "piece", "kind"]
theorem sc_kinds : FnScope N_kinds ["one", "other"] (defScope s_kinds) := ⟨rfl, rfl, rfl, by decide +kernel, rfl, by decide +kernel, by decide +kernel⟩
/-- how many pieces of each kind -/
noncomputable def knd (L : Nat) (j1 j2 : List Jt) : List Int := [Kd.ring, .odd, .opn, .shut].map fun k => (((((pcs L j1 j2).map (·.1)).count k : Nat)) : Int)
theorem count_kdS (l : List Kd) (k : Kd) : (l.map kdS).count (kdS k) = l.count k := by
  induction l with
  | nil => rfl
  | cons a l ih =>
    rw [List.map_cons, List.count_cons, List.count_cons, ih]
    by_cases h : a = k
    · subst h
      simp
    · have h2 : kdS a ≠ kdS k := fun z => h (kdS_inj _ _ z)
      simp [h, h2]
abbrev p_kinds (K : PySem.W.Frag) : Pr := PrF K (α := Nat × List Jt × List Jt) (fun m => [eLay m.1 m.2.1, eLay m.1 m.2.2]) (fun m => Lay m.1 m.2.1 ∧ Lay m.1 m.2.2) fun m => .tuple ((knd m.1 m.2.1 m.2.2).map .int)
theorem kdStr_inj (a b : Kd) (h : PyData.str (kdS a) = PyData.str (kdS b)) : a = b := kdS_inj _ _ (PyData.str.inj h)
theorem w_kinds {f : Addr} {fd : FuncData} (F : Fun K "kinds" "kinds" s_kinds f fd) (T : Bi mg) (C : Cn K mg) (G1 : Has P w K mg base 5 "need_two" ["one", "other"] (p_need_two K)) (G2 : Has P w K mg base 5 "pieces_in" ["one", "other"] (p_pieces_in K)) : FnG P w K mg base 6 f fd ["one", "other"] (p_kinds K) := by
  refine fnP F sc_kinds (fun _ => rfl) fun cdv A outer s B H Q m room gd sb hp k => ?_
  obtain ⟨L, j1, j2⟩ := m
  obtain ⟨hl1, hl2⟩ : Lay L j1 ∧ Lay L j2 := hp
  obtain ⟨ka, kc, kd⟩ := C.kinds
  have few := pcs_few hl1 hl2
  refine bd_expr (ed_call G1 (L, j1, j2) room gd ⟨hl1, hl2⟩ (ea_cons (ed_name 0 rfl) (ea_cons (ed_name 1 rfl) ea_nil))) fun _ B1 H1 g1 _ => ?_
  refine bd_setL 2 sc_kinds.nd (ds := (pcs L j1 j2).map fun p => .str (kdS p.1)) (el_lcm0 (ee := eP) (xs := pcs L j1 j2) (v := fun p => .str (kdS p.1)) (own := [("piece", 3)]) (js := [3]) (Γd := fun d => (wipeG _ [3]).set 3 (.dat d)) eP_inj rfl sc_kinds.nd (blkOk_by (N := N_kinds) (sc := defScope s_kinds) (by decide +kernel)) (fun _ _ _ _ _ => pg_name (i := 3) sc_kinds.nd rfl (.inl rfl)) (it_list (ed_to (ed_call G2 (L, j1, j2) room gd ⟨hl1, hl2⟩ (ea_cons (ed_name 0 rfl) (ea_cons (ed_name 1 rfl) ea_nil))) rfl)) (by omega) (by simp) (fun d hd => tg_one 3) (fun p hp s0 H0 C cl fp B' H' g' => ed_p0 (ed_name 3 rfl))) fun B2 H2 g2 => ?_
  refine bd_ret (R := isD K (.tuple ((knd L j1 j2).map .int))) (ed_tuple (.inl rfl) T.tuple (ed_to (EL.ed (el_lcm0 (ee := fun k => PyData.str (kdS k)) (xs := [Kd.ring, .odd, .opn, .shut]) (v := fun k => .int (((((pcs L j1 j2).map (·.1)).count k : Nat)) : Int)) (own := [("kind", 4)]) (js := [4]) (Γd := fun d => (wipeG _ [4]).set 4 (.dat d)) kdStr_inj rfl sc_kinds.nd (blkOk_by (N := N_kinds) (sc := defScope s_kinds) (by decide +kernel)) (fun _ _ _ _ _ => pg_name (i := 4) sc_kinds.nd rfl (.inl rfl)) (it_tup (ed_glob (v := .ref ka) kc rfl (kd _))) (by show 4 ≤ 1000000; decide) (by simp) (fun d hd => tg_one 4) (fun kx hk s0 H0 C cl fp B' H' g' => ?_))) rfl)) fun v B4 H4 g4 r => k v _ B4 H4 rfl ((g1.trans g2).trans g4) r
  refine ed_to (ed_countS (ys := ((pcs L j1 j2).map (·.1)).map kdS) (ed_to (ed_nameL 2 rfl) (by rw [List.map_map, List.map_map]; rfl)) (ed_name 4 rfl)) (by rw [count_kdS])
/-! least_steps -/
abbrev s_least_steps : Stmt := top 38
theorem sc_least_steps : FnScope ["one", "other"] ["one", "other"] (defScope s_least_steps) := ⟨rfl, rfl, rfl, by decide +kernel, rfl, by decide +kernel, by decide +kernel⟩
abbrev p_least_steps (K : PySem.W.Frag) : Pr := PrF K (α := Nat × List Jt × List Jt) (fun m => [eLay m.1 m.2.1, eLay m.1 m.2.2]) (fun m => Lay m.1 m.2.1 ∧ Lay m.1 m.2.2) fun m => .int (cost m.1 m.2.1 m.2.2)
theorem w_least_steps {f : Addr} {fd : FuncData} (F : Fun K "least_steps" "least_steps" s_least_steps f fd) (G1 : Has P w K mg base 5 "need_two" ["one", "other"] (p_need_two K)) (G2 : Has P w K mg base 5 "cost_in" ["one", "other"] (p_cost_in K)) : FnG P w K mg base 6 f fd ["one", "other"] (p_least_steps K) := by
  refine fnP F sc_least_steps (fun _ => rfl) fun cdv A outer s B H Q m room gd sb hp k => ?_
  refine bd_expr (ed_call G1 m room gd hp (ea_cons (ed_name 0 rfl) (ea_cons (ed_name 1 rfl) ea_nil))) fun _ B1 H1 g1 _ => ?_
  exact bd_ret (R := isD K (.int (cost m.1 m.2.1 m.2.2))) (ed_to (ed_call G2 m room gd hp (ea_cons (ed_name 0 rfl) (ea_cons (ed_name 1 rfl) ea_nil))) rfl) fun v B4 H4 g4 r => k v _ B4 H4 rfl (g1.trans g4) r
/-! is_between -/
abbrev s_is_between : Stmt := top 39
abbrev N_is_between : List Str := ["one", "third", "other", "lay"]
theorem sc_is_between : FnScope N_is_between ["one", "third", "other"] (defScope s_is_between) := ⟨rfl, rfl, rfl, by decide +kernel, rfl, by decide +kernel, by decide +kernel⟩
abbrev p_is_between (K : PySem.W.Frag) : Pr := PrF K (α := Nat × List Jt × List Jt × List Jt) (fun m => [eLay m.1 m.2.1, eLay m.1 m.2.2.1, eLay m.1 m.2.2.2]) (fun m => Lay m.1 m.2.1 ∧ Lay m.1 m.2.2.1 ∧ Lay m.1 m.2.2.2) fun m => .bool (decide (cost m.1 m.2.1 m.2.2.1 + cost m.1 m.2.2.1 m.2.2.2 = cost m.1 m.2.1 m.2.2.2))
theorem w_is_between {f : Addr} {fd : FuncData} (F : Fun K "is_between" "is_between" s_is_between f fd) (G0 : Has P w K mg base 5 "need_lay" ["lay"] (p_need_lay K)) (G1 : Has P w K mg base 5 "need_two" ["one", "other"] (p_need_two K)) (G2 : Has P w K mg base 5 "cost_in" ["one", "other"] (p_cost_in K)) : FnG P w K mg base 6 f fd ["one", "third", "other"] (p_is_between K) := by
  refine fnP F sc_is_between (fun _ => rfl) fun cdv A outer s B H Q m room gd sb hp k => ?_
  obtain ⟨L, j1, j3, j2⟩ := m
  obtain ⟨h1, h3, h2⟩ : Lay L j1 ∧ Lay L j3 ∧ Lay L j2 := hp
  refine bd_for (fun i Γ' B' H' => ∃ s3, Γ' = [.dat (eLay L j1), .dat (eLay L j3), .dat (eLay L j2), s3] ∧ Grow B H B' H') rfl PassesOwn.never (pg_name (i := 3) sc_is_between.nd rfl (.inl rfl)) (it_tup (ds := [j1, j3, j2].map (eLay L)) (ed_tup (ds := [eLay L j1, eLay L j3, eLay L j2]) (ea_cons (ed_name 0 rfl) (ea_cons (ed_name 1 rfl) (ea_cons (ed_name 2 rfl) ea_nil))) (by show 3 ≤ 1000; decide))) (fun d hd Γ1 => tg_one 3) (fun B6 H6 g6 => ⟨_, rfl, g6⟩) ?_ ?_
  · rintro i d _ B6 H6 hd ⟨s3, rfl, g6⟩ _ B7 H7 g7
    obtain ⟨j, hj, rfl⟩ := List.mem_map.mp (List.mem_of_getElem? hd)
    have hl : Lay L j := by
      simp only [List.mem_cons, List.not_mem_nil, or_false] at hj
      rcases hj with rfl | rfl | rfl <;> assumption
    refine bd_expr (ed_call G0 (L, j) room gd hl (ea_cons (ed_name 3 rfl) ea_nil)) fun _ B8 H8 g8 _ => ?_
    exact bd_turn rfl (Weak.refl _) g8.b ⟨_, rfl, (g6.trans g7).trans g8⟩
  · rintro _ B6 H6 ⟨s3, rfl, g6⟩ _
    refine bd_expr (ed_call G1 (L, j1, j3) room gd ⟨h1, h3⟩ (ea_cons (ed_name 0 rfl) (ea_cons (ed_name 1 rfl) ea_nil))) fun _ B7 H7 g7 _ => ?_
    refine bd_expr (ed_call G1 (L, j1, j2) room gd ⟨h1, h2⟩ (ea_cons (ed_name 0 rfl) (ea_cons (ed_name 2 rfl) ea_nil))) fun _ B8 H8 g8 _ => ?_
    refine bd_ret (R := isD K (.bool (decide (cost L j1 j3 + cost L j3 j2 = cost L j1 j2)))) (ed_eqI (ed_add (ed_to (ed_call G2 (L, j1, j3) room gd ⟨h1, h3⟩ (ea_cons (ed_name 0 rfl) (ea_cons (ed_name 1 rfl) ea_nil))) rfl) (ed_to (ed_call G2 (L, j3, j2) room gd ⟨h3, h2⟩ (ea_cons (ed_name 1 rfl) (ea_cons (ed_name 2 rfl) ea_nil))) rfl)) (ed_to (ed_call G2 (L, j1, j2) room gd ⟨h1, h2⟩ (ea_cons (ed_name 0 rfl) (ea_cons (ed_name 2 rfl) ea_nil))) rfl)) fun v B9 H9 g9 r => k v _ B9 H9 rfl (((g6.trans g7).trans g8).trans g9) r
/-! number_in -/
abbrev s_number_in : Stmt := top 41
abbrev N_number_in : List Str := ["one", "other", "both", "joint"]
theorem sc_number_in : FnScope N_number_in ["one", "other"] (defScope s_number_in) := ⟨rfl, rfl, rfl, by decide +kernel, rfl, by decide +kernel, by decide +kernel⟩
abbrev p_number_in (K : PySem.W.Frag) : Pr := PrF K (α := Nat × List Jt × List Jt) (fun m => [eLay m.1 m.2.1, eLay m.1 m.2.2]) (fun m => Lay m.1 m.2.1 ∧ Lay m.1 m.2.2) fun m => .int (sgl m.2.1 m.2.2)
theorem w_number_in {f : Addr} {fd : FuncData} (F : Fun K "number_in" "number_in" s_number_in f fd) (T : Bi mg) : FnG P w K mg base 1 f fd ["one", "other"] (p_number_in K) := by
  refine fnP F sc_number_in (fun _ => rfl) fun cdv A outer s B H Q m room gd sb hp k => ?_
  obtain ⟨L, j1, j2⟩ := m
  obtain ⟨hl1, hl2⟩ : Lay L j1 ∧ Lay L j2 := hp
  have hlen := hl1.len
  have hle := hl1.le
  refine bd_set 2 sc_number_in.nd (d := .int (((j1.filter fun p => decide (p ∈ j2)).length : Nat) : Int)) (ed_to (ed_len (.inl rfl) T.len (EL.ed (el_lcm1 (ee := eJ) (xs := j1) (f := fun p => decide (p ∈ j2)) (v := eJ) (own := [("joint", 3)]) (js := [3]) (Γd := fun d => (wipeG _ [3]).set 3 (.dat d)) eJ_inj rfl sc_number_in.nd (blkOk_by (N := N_number_in) (sc := defScope s_number_in) (by decide +kernel)) (fun _ _ _ _ _ => pg_name (i := 3) sc_number_in.nd rfl (.inl rfl)) (it_tup (ed_js (L := L) (js := j1) (ed_name 0 rfl))) (by omega) (by simp) (fun d hd => tg_one 3) (fun p hp s0 H0 C cl fp B' H' g' => et_in (ds := j2.map eJ) room.units (.inr rfl) (lay_eJ p) (lay_eJs j2) (dep_eJ p) (in_eJ j2 p) (ed_name 3 rfl) (ed_js (L := L) (js := j2) (ed_name 1 rfl))) (fun p hp _ s0 H0 C cl fp B' H' g' => ed_name 3 rfl)))) (by rw [List.length_map])) fun B1 H1 g1 => ?_
  refine bd_ret (R := isD K (.int (sgl j1 j2))) (ed_sub (ed_add (ed_i (ed_len (.inr rfl) T.len (ed_js (L := L) (js := j1) (ed_name 0 rfl))) (by rw [List.length_map])) (ed_i (ed_len (.inr rfl) T.len (ed_js (L := L) (js := j2) (ed_name 1 rfl))) (by rw [List.length_map]))) (ed_mul (.inl ⟨by decide, by decide⟩) ed_int (ed_name 2 rfl))) fun v B9 H9 g9 r => k v _ B9 H9 rfl (g1.trans g9) r
/-! single_number -/
abbrev s_single_number : Stmt := top 42
theorem sc_single_number : FnScope ["one", "other"] ["one", "other"] (defScope s_single_number) := ⟨rfl, rfl, rfl, by decide +kernel, rfl, by decide +kernel, by decide +kernel⟩
theorem w_single_number {f : Addr} {fd : FuncData} (F : Fun K "single_number" "single_number" s_single_number f fd) (G1 : Has P w K mg base 5 "need_two" ["one", "other"] (p_need_two K)) (G2 : Has P w K mg base 5 "number_in" ["one", "other"] (p_number_in K)) : FnG P w K mg base 6 f fd ["one", "other"] (p_number_in K) := by
  refine fnP F sc_single_number (fun _ => rfl) fun cdv A outer s B H Q m room gd sb hp k => ?_
  refine bd_expr (ed_call G1 m room gd hp (ea_cons (ed_name 0 rfl) (ea_cons (ed_name 1 rfl) ea_nil))) fun _ B1 H1 g1 _ => ?_
  exact bd_ret (R := isD K (.int (sgl m.2.1 m.2.2))) (ed_to (ed_call G2 m room gd hp (ea_cons (ed_name 0 rfl) (ea_cons (ed_name 1 rfl) ea_nil))) rfl) fun v B4 H4 g4 r => k v _ B4 H4 rfl (g1.trans g4) r
end
end Dc
/-! Plain law, part P: blocks, rows and heaps. -/
namespace Dc
section
variable {n : Nat} {m0 m1 : Nat → Option Nat}
/-- closed under both -/
def Cl (m0 m1 : Nat → Option Nat) (S : Nat → Prop) : Prop := ∀ s z w, S z → Mg m0 m1 s z = some w → S w
structure Blk (m0 m1 : Nat → Option Nat) (b : List Nat) : Prop where
  ne : b ≠ []
  cl : Cl m0 m1 (· ∈ b)
  cn : ∀ S : Nat → Prop, Cl m0 m1 S → ∀ x ∈ b, S x → ∀ y ∈ b, S y
theorem chn_fwd {t : Nat} {r : List Nat} (c : Chn m0 m1 t r) {S : Nat → Prop} (cl : Cl m0 m1 S) {b : Nat} (hb : r[0]? = some b) (h : S b) : ∀ (i z : Nat), r[i]? = some z → S z
  | 0, z, hz => by
    rw [hb] at hz
    cases hz
    exact h
  | i + 1, z, hz => by
    have hx : i < r.length := by have := (List.getElem?_eq_some_iff.mp hz).1; omega
    exact cl _ _ _ (chn_fwd c cl hb h i _ (List.getElem?_eq_getElem hx)) (c.ch i _ z (List.getElem?_eq_getElem hx) hz)
theorem Row.blk (h0 : Mat n m0) (h1 : Mat n m1) {r : List Nat} (R : Row m0 m1 r) : Blk m0 m1 r := by
  refine ⟨R.ne, fun s z w hz hw => R.closed h0 h1 hz hw, fun S cl x hx hs y hy => ?_⟩
  obtain ⟨t, b, k, a, c, hb, hk, ha, e⟩ := R.is
  obtain ⟨i, hi⟩ := List.getElem?_of_mem hx
  obtain ⟨j, hj⟩ := List.getElem?_of_mem hy
  exact chn_fwd c cl hb (chn_back h0 h1 c (fun s z w hz hw => cl s z w hz hw) hb i x hi hs) j y hj
/-- what is reached from x -/
theorem cl_not (h0 : Mat n m0) (h1 : Mat n m1) {S : Nat → Prop} (cl : Cl m0 m1 S) : Cl m0 m1 fun z => ¬ S z := fun s z w hz hw hs => hz (cl s w z hs ((mg_mat h0 h1 s).sym _ _ hw))
theorem blk_of (h0 : Mat n m0) (h1 : Mat n m1) {b : List Nat} {x : Nat} (hx : x ∈ b) (cl : Cl m0 m1 (· ∈ b)) (re : ∀ S : Nat → Prop, Cl m0 m1 S → S x → ∀ y ∈ b, S y) : Blk m0 m1 b := by
  refine ⟨List.ne_nil_of_mem hx, cl, fun S cs y hy hs z hz => re S cs ?_ z hz⟩
  exact Classical.byContradiction fun hn => re (fun z => ¬ S z) (cl_not h0 h1 cs) hn y hy hs
theorem Blk.perm {a b : List Nat} (B : Blk m0 m1 a) (p : b.Perm a) : Blk m0 m1 b := by
  refine ⟨fun z => B.ne (List.Perm.nil_eq (z ▸ p)).symm, fun s z w hz hw => p.mem_iff.mpr (B.cl s z w (p.mem_iff.mp hz) hw), fun S cs x hx hs y hy => B.cn S cs x (p.mem_iff.mp hx) hs y (p.mem_iff.mp hy)⟩
theorem nodup_perm {a b : List Nat} (h1 : a.Nodup) (h2 : b.Nodup) (h : ∀ z, z ∈ a ↔ z ∈ b) : a.Perm b := by
  obtain ⟨c, p⟩ := sub_perm h1 fun x hx => (h x).mp hx
  have hc : c = [] := by
    cases c with
    | nil => rfl
    | cons z c =>
      exfalso
      have n2 := p.nodup_iff.mp h2
      rw [List.nodup_append] at n2
      have hz : z ∈ a := (h z).mpr (p.mem_iff.mpr (by simp))
      exact n2.2.2 z hz z (by simp) rfl
  rw [hc, List.append_nil] at p
  exact p.symm
theorem flat_sub {A : List (List Nat)} {a : List Nat} (h : a ∈ A) (nd : A.flatten.Nodup) : a.Nodup := by
  induction A with
  | nil => cases h
  | cons b A ih =>
    rw [List.flatten_cons, List.nodup_append] at nd
    rcases List.mem_cons.mp h with rfl | h
    · exact nd.1
    · exact ih h nd.2.1
/-- two ways to part the same ends into blocks are alike -/
theorem parts_perm {α : Type} (f g : List Nat → α) : ∀ (A B : List (List Nat)), A.flatten.Nodup → B.flatten.Nodup → (∀ a ∈ A, Blk m0 m1 a) → (∀ b ∈ B, Blk m0 m1 b) → (∀ z, z ∈ A.flatten ↔ z ∈ B.flatten) → (∀ a ∈ A, ∀ b ∈ B, a.Perm b → f a = g b) → (A.map f).Perm (B.map g)
  | [], B, _, _, _, hB, he, _ => by
    cases B with
    | nil => exact .nil
    | cons b B =>
      exfalso
      have hb := hB b List.mem_cons_self
      cases b with
      | nil => exact hb.ne rfl
      | cons x b =>
        have := (he x).mpr (by simp)
        cases this
  | a :: A, B, ndA, ndB, hA, hB, he, hf => by
    have ha := hA a List.mem_cons_self
    obtain ⟨x, hx⟩ := List.exists_mem_of_ne_nil a ha.ne
    have hxB : x ∈ B.flatten := (he x).mp (by rw [List.flatten_cons]; exact List.mem_append_left _ hx)
    obtain ⟨b, hb, hxb⟩ := List.mem_flatten.mp hxB
    have bb := hB b hb
    have e : ∀ z, z ∈ a ↔ z ∈ b := fun z => ⟨fun hz => ha.cn _ bb.cl x hx hxb z hz, fun hz => bb.cn _ ha.cl x hxb hx z hz⟩
    rw [List.flatten_cons, List.nodup_append] at ndA
    have pab : a.Perm b := nodup_perm ndA.1 (flat_sub hb ndB) e
    have pB : B.Perm (b :: B.erase b) := List.perm_cons_erase hb
    have ndB' := pB.flatten.nodup_iff.mp ndB
    rw [List.flatten_cons, List.nodup_append] at ndB'
    have ih := parts_perm f g A (B.erase b) ndA.2.1 ndB'.2.1 (fun q hq => hA q (List.mem_cons_of_mem _ hq)) (fun q hq => hB q (List.mem_of_mem_erase hq)) (fun z => by
      have h1 := he z
      rw [List.flatten_cons, List.mem_append, pB.flatten.mem_iff, List.flatten_cons, List.mem_append] at h1
      refine ⟨fun hz => ?_, fun hz => ?_⟩
      · rcases h1.mp (.inr hz) with q | q
        · exact absurd rfl (ndA.2.2 z ((e z).mpr q) z hz)
        · exact q
      · rcases h1.mpr (.inr hz) with q | q
        · exact absurd rfl (ndB'.2.2 z ((e z).mp q) z hz)
        · exact q) (fun q hq s hs p => hf q (List.mem_cons_of_mem _ hq) s (List.mem_of_mem_erase hs) p)
    rw [List.map_cons, hf a List.mem_cons_self b hb pab]
    exact (ih.cons _).trans (pB.map g).symm
/-- how many lack the mate -/
def lk (m : Nat → Option Nat) (h : List Nat) : Nat := h.countP fun z => (m z).isNone
/-- the kind and the size of a piece, by its heap -/
def kdH (m0 m1 : Nat → Option Nat) (h : List Nat) : Kd := if lk m0 h = 0 ∧ lk m1 h = 0 then .ring else if lk m0 h = 1 then .odd else if lk m0 h = 2 then .opn else .shut
def pcH (m0 m1 : Nat → Option Nat) (h : List Nat) : Kd × Nat := (kdH m0 m1 h, h.length)
theorem pcH_perm {a b : List Nat} (p : a.Perm b) : pcH m0 m1 a = pcH m0 m1 b := by
  unfold pcH kdH lk
  rw [p.countP_eq, p.countP_eq, p.length_eq]
/-- a row's free ends -/
theorem row_lk (h0 : Mat n m0) (h1 : Mat n m1) {r : List Nat} (R : Row m0 m1 r) (s : Nat) : ∃ t b k a, r[0]? = some b ∧ r.length = k + 1 ∧ r[k]? = some a ∧ (0 < k → (Mg m0 m1 t b).isSome = true) ∧ ((k % 2 = 1 ∧ (∀ s, lk (Mg m0 m1 s) r = 0) ∧ (∀ s, (Mg m0 m1 s b).isSome = true)) ∨ (Mg m0 m1 (t + 1) b = none ∧ ∀ s, lk (Mg m0 m1 s) r = (if s % 2 = (t + 1) % 2 then 1 else 0) + (if s % 2 = (t + k) % 2 then 1 else 0))) := by
  obtain ⟨t, b, k, a, c, hb, hk, ha, e⟩ := R.is
  have fst : 0 < k → (Mg m0 m1 t b).isSome = true := fun hk0 => by
    have hx : 1 < r.length := by omega
    rw [Option.isSome_iff_exists]
    exact ⟨_, c.ch 0 b _ hb (List.getElem?_eq_getElem hx)⟩
  -- each but the ends has both
  have mid : ∀ i z, r[i]? = some z → ∀ s, (s % 2 = (t + i) % 2 → i < k → (Mg m0 m1 s z).isSome = true) ∧ (s % 2 ≠ (t + i) % 2 → 0 < i → (Mg m0 m1 s z).isSome = true) := fun i z hz s => by
    refine ⟨fun hs hi => ?_, fun hs hi => ?_⟩
    · have hx : i + 1 < r.length := by omega
      rw [mg_mod hs, Option.isSome_iff_exists]
      exact ⟨_, c.ch i z _ hz (List.getElem?_eq_getElem hx)⟩
    · have hx : i - 1 < r.length := by have := (List.getElem?_eq_some_iff.mp hz).1; omega
      have e2 := c.ch (i - 1) _ z (List.getElem?_eq_getElem hx) (by rw [Nat.sub_add_cancel hi]; exact hz)
      have e3 := (mg_mat h0 h1 _).sym _ _ e2
      rw [mg_mod (s := t + (i - 1)) (by omega), Option.isSome_iff_exists]
      exact ⟨_, e3⟩
  refine ⟨t, b, k, a, hb, hk, ha, fst, ?_⟩
  rcases e with ⟨e1, e2⟩ | ⟨e1, e2⟩
  · right
    refine ⟨e1, fun s => ?_⟩
    match r, hb, hk, ha, mid with
    | x :: r', hb, hk, ha, mid =>
      have hxb : x = b := by simpa using hb
      subst hxb
      by_cases k0 : k = 0
      · subst k0
        have hr' : r' = [] := List.length_eq_zero_iff.mp (by simpa using hk)
        subst hr'
        have hxa : x = a := by simpa using ha
        subst hxa
        unfold lk
        rw [List.countP_singleton]
        have par : s % 2 = (t + 1) % 2 ∨ s % 2 = (t + 0) % 2 := by omega
        rcases par with q | q
        · have nq : ¬ s % 2 = (t + 0) % 2 := by omega
          rw [mg_mod q, e1, if_pos q, if_neg nq]
          rfl
        · have nq : ¬ s % 2 = (t + 1) % 2 := by omega
          rw [mg_mod q, e2, if_neg nq, if_pos q]
          rfl
      · have hne : r' ≠ [] := fun z => by
          rw [z] at hk
          simp at hk
          omega
        have hl : r'.getLast hne = a := by
          rw [List.getLast_eq_getElem]
          have hk' : r'.length = k := by simpa using hk
          have : (x :: r')[k]? = r'[k - 1]? := by
            rw [show k = (k - 1) + 1 by omega, List.getElem?_cons_succ]
            rfl
          rw [this] at ha
          obtain ⟨q1, q2⟩ := List.getElem?_eq_some_iff.mp ha
          simp only [hk']
          exact q2
        have e3 : r' = r'.dropLast ++ [a] := by
          rw [← hl]
          exact (List.dropLast_concat_getLast hne).symm
        have z0 : r'.dropLast.countP (fun z => (Mg m0 m1 s z).isNone) = 0 := by
          rw [List.countP_eq_zero]
          intro z hz
          obtain ⟨i, hi⟩ := List.getElem?_of_mem hz
          have hil : i < r'.dropLast.length := (List.getElem?_eq_some_iff.mp hi).1
          have hi2 : (x :: r')[i + 1]? = some z := by
            rw [List.getElem?_cons_succ, e3, List.getElem?_append_left hil]
            exact hi
          rw [List.length_dropLast] at hil
          have hk' : r'.length = k := by simpa using hk
          have q := mid (i + 1) z hi2 s
          by_cases par : s % 2 = (t + (i + 1)) % 2
          · have := q.1 par (by omega)
            rw [Option.isSome_iff_exists] at this
            obtain ⟨w, hw⟩ := this
            rw [hw]
            simp
          · have := q.2 par (by omega)
            rw [Option.isSome_iff_exists] at this
            obtain ⟨w, hw⟩ := this
            rw [hw]
            simp
        unfold lk
        rw [List.countP_cons, e3, List.countP_append, z0, List.countP_singleton, Nat.zero_add, Nat.add_comm]
        congr 1
        · by_cases par : s % 2 = (t + 1) % 2
          · rw [if_pos par, mg_mod par, e1]
            rfl
          · have := (mid 0 x rfl s).1 (by omega) (by omega)
            rw [Option.isSome_iff_exists] at this
            obtain ⟨w, hw⟩ := this
            rw [if_neg par, hw]
            rfl
        · by_cases par : s % 2 = (t + k) % 2
          · rw [if_pos par, mg_mod par, e2]
            rfl
          · have := (mid k a ha s).2 par (by omega)
            rw [Option.isSome_iff_exists] at this
            obtain ⟨w, hw⟩ := this
            rw [if_neg par, hw]
            rfl
  · left
    have all : ∀ z ∈ r, ∀ s, (Mg m0 m1 s z).isSome = true := fun z hz s => by
      obtain ⟨i, hi⟩ := List.getElem?_of_mem hz
      have hil : i < k + 1 := hk ▸ (List.getElem?_eq_some_iff.mp hi).1
      by_cases par : s % 2 = (t + i) % 2
      · by_cases ik : i = k
        · subst ik
          rw [ha] at hi
          cases hi
          rw [mg_mod par, e2]
          rfl
        · exact (mid i z hi s).1 par (by omega)
      · by_cases i0 : i = 0
        · subst i0
          rw [hb] at hi
          cases hi
          rw [mg_mod (s := t + k) (by omega), (mg_mat h0 h1 _).sym _ _ e2]
          rfl
        · exact (mid i z hi s).2 par (by omega)
    refine ⟨e1, fun s => ?_, all b (List.mem_of_getElem? hb)⟩
    unfold lk
    rw [List.countP_eq_zero]
    intro z hz
    have := all z hz s
    rw [Option.isSome_iff_exists] at this
    obtain ⟨w, hw⟩ := this
    rw [hw]
    simp
theorem mg0 : Mg m0 m1 0 = m0 := rfl
theorem mg1 : Mg m0 m1 1 = m1 := rfl
theorem getD0 {r : List Nat} {b : Nat} (h : r[0]? = some b) : r.getD 0 0 = b := by
  rw [List.getD_eq_getElem?_getD, h]
  rfl
/-- the kind by the row is the kind by the heap -/
theorem row_kd (h0 : Mat n m0) (h1 : Mat n m1) {r : List Nat} (R : Row m0 m1 r) : pcR m0 m1 r = pcH m0 m1 r ∧ lk m0 r ≤ 2 := by
  obtain ⟨t, b, k, a, hb, hk, ha, fst, e⟩ := row_lk h0 h1 R 0
  unfold pcR pcH kdH
  rw [getD0 hb]
  rcases e with ⟨_, e1, e2⟩ | ⟨e1, e2⟩
  · have q0 := e1 0
    have q1 := e1 1
    have p0 := e2 0
    have p1 := e2 1
    rw [mg0] at q0 p0
    rw [mg1] at q1 p1
    rw [if_pos ⟨p0, p1⟩, if_pos ⟨q0, q1⟩, q0]
    exact ⟨rfl, by decide⟩
  · have q0 := e2 0
    have q1 := e2 1
    rw [mg0] at q0
    rw [mg1] at q1
    have nb : ¬ ((m0 b).isSome = true ∧ (m1 b).isSome = true) := fun ⟨w0, w1⟩ => by
      have par : (t + 1) % 2 = 0 ∨ (t + 1) % 2 = 1 := by omega
      rcases par with q | q
      · rw [mg_mod (s := 0) (by omega), mg0] at e1
        rw [e1] at w0
        cases w0
      · rw [mg_mod (s := 1) (by omega), mg1] at e1
        rw [e1] at w1
        cases w1
    rw [if_neg nb, hk]
    by_cases par : k % 2 = 0
    · have c0 : lk m0 r = 1 := by
        rw [q0]
        by_cases z : 0 % 2 = (t + 1) % 2
        · rw [if_pos z, if_neg (by omega)]
        · rw [if_neg z, if_pos (by omega)]
      rw [if_pos (by omega), if_neg (by rw [c0]; simp), if_pos c0, c0]
      exact ⟨rfl, by decide⟩
    · by_cases z : (t + 1) % 2 = 0
      · have c0 : lk m0 r = 2 := by rw [q0, if_pos (by omega), if_pos (by omega)]
        have hb0 : m0 b = none := by
          rw [mg_mod (s := 0) (by omega), mg0] at e1
          exact e1
        rw [if_neg (by omega), if_pos hb0, if_neg (by rw [c0]; simp), if_neg (by rw [c0]; decide), if_pos c0, c0]
        exact ⟨rfl, by decide⟩
      · have c0 : lk m0 r = 0 := by rw [q0, if_neg (by omega), if_neg (by omega)]
        have c1 : lk m1 r = 2 := by rw [q1, if_pos (by omega), if_pos (by omega)]
        have hb0 : m0 b ≠ none := by
          have := fst (by omega)
          rw [mg_mod (s := 0) (by omega), mg0] at this
          intro w
          rw [w] at this
          cases this
        rw [if_neg (by omega), if_neg hb0, if_neg (by rw [c0, c1]; simp), if_neg (by rw [c0]; decide), if_neg (by rw [c0]; decide), c0]
        exact ⟨rfl, by decide⟩
/-! heaps -/
structure HeapsOk (n : Nat) (m0 m1 : Nat → Option Nat) (hs : List (List Nat)) : Prop where
  nd : hs.flatten.Nodup
  each : ∀ h ∈ hs, Blk m0 m1 h
  all : ∀ z, z ∈ hs.flatten ↔ z < n
theorem heaps_rows (h0 : Mat n m0) (h1 : Mat n m1) {hs rs : List (List Nat)} (Hs : HeapsOk n m0 m1 hs) (R : RowsOk n m0 m1 rs) : (hs.map (pcH m0 m1)).Perm (rs.map (pcR m0 m1)) ∧ ∀ h ∈ hs, lk m0 h ≤ 2 := by
  have he : ∀ z, z ∈ hs.flatten ↔ z ∈ rs.flatten := fun z => (Hs.all z).trans ⟨R.all z, R.lt z⟩
  have hR : ∀ r ∈ rs, Blk m0 m1 r := fun r hr => (R.each r hr).blk h0 h1
  refine ⟨parts_perm _ _ hs rs Hs.nd R.nd Hs.each hR he fun a _ b hb p => ?_, fun h hh => ?_⟩
  · rw [pcH_perm p, (row_kd h0 h1 (R.each b hb)).1]
  · -- each heap is one of the rows
    have B := Hs.each h hh
    obtain ⟨x, hx⟩ := List.exists_mem_of_ne_nil h B.ne
    obtain ⟨r, hr, hxr⟩ := List.mem_flatten.mp ((he x).mp (List.mem_flatten.mpr ⟨h, hh, hx⟩))
    have Br := hR r hr
    have p : h.Perm r := nodup_perm (flat_sub hh Hs.nd) (flat_sub hr R.nd) fun z => ⟨fun hz => B.cn _ Br.cl x hx hxr z hz, fun hz => Br.cn _ B.cl x hxr hx z hz⟩
    unfold lk
    rw [p.countP_eq]
    exact (row_kd h0 h1 (R.each r hr)).2
end
/-! the heaps as the law makes them -/
def itr {α : Type} (f : α → α) : Nat → α → α
  | 0, s => s
  | n + 1, s => f (itr f n s)
def hadd (m : Nat → Option Nat) (hp : List Nat) (x : Nat) : List Nat := if (m x).getD x ∈ hp then hp else hp ++ [(m x).getD x]
def hst (m0 m1 : Nat → Option Nat) (s : List Nat × Nat) : List Nat × Nat := if s.2 < s.1.length then (hadd m1 (hadd m0 s.1 (s.1.getD s.2 0)) (s.1.getD s.2 0), s.2 + 1) else s
def heapOf (m0 m1 : Nat → Option Nat) (n x : Nat) : List Nat := (itr (hst m0 m1) n ([x], 0)).1
def htn (srt : List Nat → List Nat) (m0 m1 : Nat → Option Nat) (n : Nat) (s : List Nat × List (List Nat)) : List Nat × List (List Nat) := match s.1 with
  | [] => s
  | x :: _ => (s.1.filter fun z => !decide (z ∈ heapOf m0 m1 n x), s.2 ++ [srt (heapOf m0 m1 n x)])
def heapsF (srt : List Nat → List Nat) (n : Nat) (m0 m1 : Nat → Option Nat) : List (List Nat) := (itr (htn srt m0 m1 n) n (List.range n, [])).2
section
variable {n : Nat} {m0 m1 : Nat → Option Nat}
theorem hadd_mem {m : Nat → Option Nat} {hp : List Nat} {x z : Nat} : z ∈ hadd m hp x ↔ z ∈ hp ∨ z = (m x).getD x := by
  unfold hadd
  split
  · exact ⟨.inl, fun h => h.elim id fun e => e ▸ ‹_›⟩
  · rw [List.mem_append, List.mem_singleton]
theorem hadd_pre {m : Nat → Option Nat} {hp : List Nat} {x : Nat} : ∃ t, hadd m hp x = hp ++ t := by
  unfold hadd
  split
  · exact ⟨[], by simp⟩
  · exact ⟨_, rfl⟩
theorem hadd_nd {m : Nat → Option Nat} {hp : List Nat} {x : Nat} (nd : hp.Nodup) : (hadd m hp x).Nodup := by
  unfold hadd
  split
  · exact nd
  · rename_i h
    rw [List.nodup_append]
    exact ⟨nd, by simp, fun a ha b hb e => h (by simp at hb; rw [← hb, ← e]; exact ha)⟩
/-- the closing of a heap behind i turns -/
structure Hst (m0 m1 : Nat → Option Nat) (n x i : Nat) (s : List Nat × Nat) : Prop where
  x0 : s.1[0]? = some x
  nd : s.1.Nodup
  lt : ∀ z ∈ s.1, z < n
  re : ∀ S : Nat → Prop, Cl m0 m1 S → S x → ∀ y ∈ s.1, S y
  at' : s.2 ≤ s.1.length
  cl : ∀ k z, k < s.2 → s.1[k]? = some z → (∀ w, m0 z = some w → w ∈ s.1) ∧ ∀ w, m1 z = some w → w ∈ s.1
  go : s.2 = i ∨ s.2 = s.1.length
theorem hst_go (h0 : Mat n m0) (h1 : Mat n m1) {x : Nat} (hx : x < n) : ∀ i, Hst m0 m1 n x i (itr (hst m0 m1) i ([x], 0))
  | 0 => ⟨rfl, by simp [itr], by simp [itr]; exact hx, fun S _ hS y hy => by simp [itr] at hy; rw [hy]; exact hS, by simp [itr], fun k z hk => by simp [itr] at hk, .inl rfl⟩
  | i + 1 => by
    have ih := hst_go h0 h1 hx i
    show Hst m0 m1 n x (i + 1) (hst m0 m1 (itr (hst m0 m1) i ([x], 0)))
    generalize itr (hst m0 m1) i ([x], 0) = s at ih
    obtain ⟨hp, a⟩ := s
    unfold hst
    by_cases hlt : a < hp.length
    · simp only [hlt, if_true]
      have ea : hp[a]? = some hp[a] := List.getElem?_eq_getElem hlt
      have eg : hp.getD a 0 = hp[a] := by rw [List.getD_eq_getElem?_getD, ea]; rfl
      rw [eg]
      generalize hy : hp[a] = y at ea
      have ym : y ∈ hp := List.mem_of_getElem? ea
      obtain ⟨t1, p1⟩ := hadd_pre (m := m0) (hp := hp) (x := y)
      obtain ⟨t2, p2⟩ := hadd_pre (m := m1) (hp := hadd m0 hp y) (x := y)
      have pp : hadd m1 (hadd m0 hp y) y = hp ++ (t1 ++ t2) := by rw [p2, p1, List.append_assoc]
      have mem : ∀ z, z ∈ hadd m1 (hadd m0 hp y) y ↔ (z ∈ hp ∨ z = (m0 y).getD y) ∨ z = (m1 y).getD y := fun z => by rw [hadd_mem, hadd_mem]
      have old : ∀ z, z ∈ hp → z ∈ hadd m1 (hadd m0 hp y) y := fun z hz => (mem z).mpr (.inl (.inl hz))
      refine ⟨?_, hadd_nd (hadd_nd ih.nd), fun z hz => ?_, fun S cS hS z hz => ?_, ?_, fun k z hk hz => ?_, ?_⟩
      · show (hadd m1 (hadd m0 hp y) y)[0]? = some x
        rw [pp, List.getElem?_append_left (by omega)]
        exact ih.x0
      · rcases (mem z).mp hz with (q | q) | q
        · exact ih.lt z q
        · cases w : m0 y with
          | none => rw [w] at q; rw [q]; exact ih.lt y ym
          | some v => rw [w] at q; rw [q]; exact (h0.lt _ _ w).2
        · cases w : m1 y with
          | none => rw [w] at q; rw [q]; exact ih.lt y ym
          | some v => rw [w] at q; rw [q]; exact (h1.lt _ _ w).2
      · have hyS := ih.re S cS hS y ym
        rcases (mem z).mp hz with (q | q) | q
        · exact ih.re S cS hS z q
        · cases w : m0 y with
          | none => rw [w] at q; rw [q]; exact hyS
          | some v => rw [w] at q; rw [q]; exact cS 0 y v hyS w
        · cases w : m1 y with
          | none => rw [w] at q; rw [q]; exact hyS
          | some v => rw [w] at q; rw [q]; exact cS 1 y v hyS w
      · show a + 1 ≤ (hadd m1 (hadd m0 hp y) y).length
        rw [pp, List.length_append]
        omega
      · have hk' : k < a + 1 := hk
        have hz' : (hadd m1 (hadd m0 hp y) y)[k]? = some z := hz
        rw [pp, List.getElem?_append_left (by omega)] at hz'
        by_cases q : k < a
        · have := ih.cl k z q hz'
          exact ⟨fun w hw => old w (this.1 w hw), fun w hw => old w (this.2 w hw)⟩
        · have : k = a := by omega
          subst this
          rw [ea] at hz'
          cases hz'
          exact ⟨fun w hw => (mem w).mpr (.inl (.inr (by rw [hw]; rfl))), fun w hw => (mem w).mpr (.inr (by rw [hw]; rfl))⟩
      · rcases ih.go with q | q
        · exact .inl (by show a + 1 = i + 1; have q' : a = i := q; omega)
        · have q' : a = hp.length := q
          omega
    · simp only [hlt, if_false]
      refine ⟨ih.x0, ih.nd, ih.lt, ih.re, ih.at', ih.cl, .inr ?_⟩
      have := ih.at'
      show a = hp.length
      have h3 : a ≤ hp.length := this
      omega
theorem heapOf_ok (h0 : Mat n m0) (h1 : Mat n m1) {x : Nat} (hx : x < n) : Blk m0 m1 (heapOf m0 m1 n x) ∧ (heapOf m0 m1 n x).Nodup ∧ (∀ z ∈ heapOf m0 m1 n x, z < n) ∧ x ∈ heapOf m0 m1 n x := by
  have h := hst_go h0 h1 hx n
  unfold heapOf
  generalize itr (hst m0 m1) n ([x], 0) = s at h
  have hl := nd_len n _ h.nd h.lt
  have e : s.2 = s.1.length := by
    rcases h.go with q | q
    · have := h.at'
      omega
    · exact q
  have hx0 := List.mem_of_getElem? h.x0
  refine ⟨blk_of h0 h1 hx0 (fun sg z w hz hw => ?_) h.re, h.nd, h.lt, hx0⟩
  obtain ⟨k, hk⟩ := List.getElem?_of_mem hz
  have hkl : k < s.1.length := (List.getElem?_eq_some_iff.mp hk).1
  have := h.cl k z (by omega) hk
  unfold Mg at hw
  split at hw
  · exact this.1 w hw
  · exact this.2 w hw
structure Htn (m0 m1 : Nat → Option Nat) (n i : Nat) (s : List Nat × List (List Nat)) : Prop where
  nd : s.2.flatten.Nodup
  each : ∀ h ∈ s.2, Blk m0 m1 h
  lnd : s.1.Nodup
  all : ∀ z, z < n ↔ z ∈ s.1 ∨ z ∈ s.2.flatten
  dis : ∀ z, z ∈ s.1 → z ∉ s.2.flatten
  go : s.1.length + i ≤ n ∨ s.1 = []
theorem htn_go (srt : List Nat → List Nat) (hsrt : ∀ l, (srt l).Perm l) (h0 : Mat n m0) (h1 : Mat n m1) : ∀ i, Htn m0 m1 n i (itr (htn srt m0 m1 n) i (List.range n, []))
  | 0 => ⟨by simp [itr], by simp [itr], by simp [itr]; exact List.nodup_range, by simp [itr], by simp [itr], by simp [itr]⟩
  | i + 1 => by
    have ih := htn_go srt hsrt h0 h1 i
    show Htn m0 m1 n (i + 1) (htn srt m0 m1 n (itr (htn srt m0 m1 n) i (List.range n, [])))
    generalize itr (htn srt m0 m1 n) i (List.range n, []) = s at ih
    obtain ⟨left, found⟩ := s
    cases left with
    | nil => exact ⟨ih.nd, ih.each, ih.lnd, ih.all, ih.dis, .inr rfl⟩
    | cons x left =>
      have hx : x < n := (ih.all x).mpr (.inl (by simp))
      obtain ⟨B, nd, lt, xm⟩ := heapOf_ok h0 h1 hx
      show Htn m0 m1 n (i + 1) ((x :: left).filter fun z => !decide (z ∈ heapOf m0 m1 n x), found ++ [srt (heapOf m0 m1 n x)])
      generalize heapOf m0 m1 n x = hp at *
      have ps := hsrt hp
      have clF : Cl m0 m1 (· ∈ found.flatten) := fun s z w hz hw => by
        obtain ⟨h, hh, hzh⟩ := List.mem_flatten.mp hz
        exact List.mem_flatten.mpr ⟨h, hh, (ih.each h hh).cl s z w hzh hw⟩
      have xn : x ∉ found.flatten := ih.dis x (by simp)
      have dis : ∀ z ∈ hp, z ∉ found.flatten := fun z hz hf => xn (B.cn _ clF z hz hf x xm)
      have fl : (found ++ [srt hp]).flatten = found.flatten ++ srt hp := by simp
      refine ⟨?_, fun h hh => ?_, ?_, fun z => ?_, fun z hz => ?_, ?_⟩
      · show (found ++ [srt hp]).flatten.Nodup
        rw [fl, List.nodup_append]
        exact ⟨ih.nd, ps.nodup_iff.mpr nd, fun a ha b hb e => dis b (ps.mem_iff.mp hb) (e ▸ ha)⟩
      · rcases List.mem_append.mp hh with q | q
        · exact ih.each h q
        · rw [List.mem_singleton] at q
          rw [q]
          exact B.perm ps
      · show ((x :: left).filter fun z => !decide (z ∈ hp)).Nodup
        exact List.Pairwise.filter _ ih.lnd
      · show z < n ↔ z ∈ (x :: left).filter (fun z => !decide (z ∈ hp)) ∨ z ∈ (found ++ [srt hp]).flatten
        rw [fl, List.mem_append, List.mem_filter, ps.mem_iff]
        have q := ih.all z
        refine ⟨fun hz => ?_, fun hz => ?_⟩
        · by_cases h : z ∈ hp
          · exact .inr (.inr h)
          · rcases q.mp hz with w | w
            · exact .inl ⟨w, by simpa using h⟩
            · exact .inr (.inl w)
        · rcases hz with ⟨w, _⟩ | w | w
          · exact q.mpr (.inl w)
          · exact q.mpr (.inr w)
          · exact lt z w
      · have hz' := List.mem_filter.mp hz
        have hzn : z ∉ hp := by simpa using hz'.2
        show z ∉ (found ++ [srt hp]).flatten
        rw [fl, List.mem_append, ps.mem_iff]
        exact fun w => w.elim (ih.dis z hz'.1) hzn
      · show ((x :: left).filter fun z => !decide (z ∈ hp)).length + (i + 1) ≤ n ∨ _
        left
        rw [List.filter_cons_of_neg (by simpa using xm)]
        have := List.length_filter_le (fun z => !decide (z ∈ hp)) left
        rcases ih.go with w | w
        · have w' : (x :: left).length + i ≤ n := w
          rw [List.length_cons] at w'
          omega
        · cases w
theorem heapsF_ok (srt : List Nat → List Nat) (hsrt : ∀ l, (srt l).Perm l) (h0 : Mat n m0) (h1 : Mat n m1) : HeapsOk n m0 m1 (heapsF srt n m0 m1) := by
  have h := htn_go srt hsrt h0 h1 n
  unfold heapsF
  generalize itr (htn srt m0 m1 n) n (List.range n, []) = s at h
  have e : s.1 = [] := by
    rcases h.go with q | q
    · exact List.length_eq_zero_iff.mp (by omega)
    · exact q
  refine ⟨h.nd, h.each, fun z => ?_⟩
  have := h.all z
  rw [e] at this
  simp at this
  exact ⟨fun hz => this.mpr (by simpa using hz), fun hz => by simpa using this.mp hz⟩
theorem HeapsOk.perm {hs qs : List (List Nat)} (H : HeapsOk n m0 m1 hs) (p : qs.Perm hs) : HeapsOk n m0 m1 qs :=
  ⟨p.flatten.nodup_iff.mpr H.nd, fun h hh => H.each h (p.mem_iff.mp hh), fun z => p.flatten.mem_iff.trans (H.all z)⟩
end
end Dc
/-! The walks, eighth part: _law_like, _law_mates, _law_heaps, _law_kind, _law_pieces, _law_cost. -/
namespace Dc
open PySem PySem.Spec PyProof.Rows L2
/-- the mates, in a dict -/
def dmV (f : Nat → Option Nat) : Int → Option V := fun z => if 0 ≤ z then (f z.toNat).map fun n => V.int (n : Nat) else none
theorem dmV_nat (f : Nat → Option Nat) (n : Nat) : dmV f (n : Nat) = (f n).map fun n => V.int (n : Nat) := by
  unfold dmV
  rw [if_pos (by omega), Int.toNat_natCast]
theorem dmV_none : dmV (fun _ => none) = fun _ => none := by
  funext z
  unfold dmV
  split <;> rfl
theorem dmV_put (f : Nat → Option Nat) (p : Jt) : (fun z : Int => if z = ((p.2 : Nat) : Int) then some (V.int (p.1 : Nat)) else if z = ((p.1 : Nat) : Int) then some (V.int (p.2 : Nat)) else dmV f z) = dmV (put f p) := by
  funext z
  unfold dmV put
  by_cases h : 0 ≤ z
  · have e1 : (z.toNat = p.2) = (z = ((p.2 : Nat) : Int)) := propext (by omega)
    have e2 : (z.toNat = p.1) = (z = ((p.1 : Nat) : Int)) := propext (by omega)
    simp only [if_pos h, e1, e2]
    by_cases h1 : z = ((p.2 : Nat) : Int)
    · simp only [if_pos h1]
      rfl
    · simp only [if_neg h1]
      by_cases h2 : z = ((p.1 : Nat) : Int)
      · simp only [if_pos h2]
        rfl
      · simp only [if_neg h2]
  · have n1 : ¬ z = ((p.2 : Nat) : Int) := by omega
    have n2 : ¬ z = ((p.1 : Nat) : Int) := by omega
    simp only [if_neg h, if_neg n1, if_neg n2]
def sortN (ns : List Nat) : List Nat := ns.mergeSort (PySem.W.dataLe false eN)
theorem sortN_perm (ns : List Nat) : (sortN ns).Perm ns := List.mergeSort_perm _ _
theorem sortD_eN (ns : List Nat) : sortD (ns.map eN) = (sortN ns).map eN := (PySem.W.sort_maps eN (fun _ _ _ _ => rfl)).symm
theorem eN_alike (ns : List Nat) : PySem.W.AllAlike (ns.map eN) := PySem.W.AllAlike.of fun a b => by simp [eN, PySem.W.alike]
theorem eN_sortable (ns : List Nat) : PySem.W.Sortable (ns.map eN) := PySem.W.Sortable.others fun b => ⟨nofun, nofun⟩
theorem eN_depth (ns : List Nat) : ∀ d ∈ ns.map eN, d.depth ≤ 60 := fun d h => by
  obtain ⟨p, _, rfl⟩ := List.mem_map.mp h
  exact dep_int p
theorem eNs_eq (ns : List Nat) : ns.map eN = (ns.map fun n : Nat => (n : Int)).map .int := by rw [List.map_map]; rfl
theorem cast_in (ns : List Nat) (n : Nat) : (((n : Nat) : Int) ∈ ns.map fun n : Nat => (n : Int)) ↔ n ∈ ns := by
  rw [List.mem_map]
  exact ⟨fun ⟨m, h1, h2⟩ => (by omega : m = n) ▸ h1, fun h => ⟨n, h, rfl⟩⟩
theorem cast_dec (ns : List Nat) (n : Nat) : decide (((n : Nat) : Int) ∈ ns.map fun n : Nat => (n : Int)) = decide (n ∈ ns) := decide_eq_decide.mpr (cast_in ns n)
def heapsS (L : Nat) (j1 j2 : List Jt) : List (List Nat) := sortR (heapsF sortN (2 * L) (mt j1) (mt j2))
theorem heapsS_ok {L : Nat} {j1 j2 : List Jt} (h1 : Lay L j1) (h2 : Lay L j2) : HeapsOk (2 * L) (mt j1) (mt j2) (heapsS L j1 j2) := (heapsF_ok sortN sortN_perm h1.mat h2.mat).perm (sortR_perm _)
def pcsH (L : Nat) (j1 j2 : List Jt) : List (Kd × Nat) := sortP ((heapsS L j1 j2).map (pcH (mt j1) (mt j2)))
theorem HeapsOk.few {n : Nat} {m0 m1 : Nat → Option Nat} {hs : List (List Nat)} (H : HeapsOk n m0 m1 hs) : hs.flatten.length ≤ n ∧ hs.length ≤ n := by
  have h1 := nd_len n _ H.nd fun z hz => (H.all z).mp hz
  have h2 := len_flat fun r hr => (H.each r hr).ne
  exact ⟨h1, by omega⟩
theorem eqv2 (a b c d : Int) : PyData.eqv (.list [.int a, .int b]) (.list [.int c, .int d]) = (decide (a = c) && decide (b = d)) := by
  have e : PyData.eqv (.list [.int a, .int b]) (.list [.int c, .int d]) = (PyData.eqv (.int a) (.int c) && PyData.eqv (.int b) (.int d)) := by simp [PyData.eqv, PyData.eqvAll]
  rw [e, eqv_int, eqv_int]
/-- what the law reckons -/
def costH (L : Nat) (j1 j2 : List Jt) : Int := ((L : Nat) : Int) - (((pcsH L j1 j2).map (·.1)).count .ring : Nat) - (((pcsH L j1 j2).map (·.1)).count .odd : Nat) / 2
section
variable {P : Program} {w : World} {K : PySem.W.Frag} {mg : Str → Option Value} {base : Heap}
/-! _law_like -/
abbrev s_like : Stmt := top 48
abbrev N_like : List Str := ["_law_got", "_law_due"]
theorem sc_like : FnScope N_like ["_law_got", "_law_due"] (defScope s_like) := ⟨rfl, rfl, rfl, by decide +kernel, rfl, by decide +kernel, by decide +kernel⟩
abbrev p_like (K : PySem.W.Frag) : Pr := PrF K (α := PyData) (fun d => [d, d]) (fun d => isDisplay d = true ∧ d.showable = true ∧ d.hasDict = false ∧ d.depth ≤ 60 ∧ d.shown.length ≤ sizeLine) fun _ => .bool true
theorem w_like {f : Addr} {fd : FuncData} (F : Fun K "_law_like" "_law_like" s_like f fd) (T : Bi mg) : FnG P w K mg base 1 f fd ["_law_got", "_law_due"] (p_like K) := by
  refine fnP F sc_like (fun _ => rfl) fun cdv A outer s B H Q d room gd sb hp k => ?_
  obtain ⟨h1, h2, h3, h4, h5⟩ := hp
  refine bd_ret (R := isD K (.bool true)) (ed_to (ed_eqS (ed_repr gd room.units T.repr h1 h2 h3 h4 h5 (ed_name 0 rfl)) (ed_repr gd room.units T.repr h1 h2 h3 h4 h5 (ed_name 1 rfl))) (by simp)) fun v B4 H4 g4 r => k v _ B4 H4 rfl g4 r
/-! _law_mates -/
abbrev s_lmates : Stmt := top 51
abbrev N_lmates : List Str := ["_law_lay_here", "_law_found", "_law_near", "_law_far"]
theorem sc_lmates : FnScope N_lmates ["_law_lay_here"] (defScope s_lmates) := ⟨rfl, rfl, rfl, by decide +kernel, rfl, by decide +kernel, by decide +kernel⟩
abbrev p_lmates (K : PySem.W.Frag) : Pr := PrK K (α := Nat × List Jt) (fun m => [eLay m.1 m.2]) (fun m => Lay m.1 m.2) (fun m => 2 * m.2.length) fun m => dmV (mt m.2)
theorem w_lmates {f : Addr} {fd : FuncData} (F : Fun K "_law_mates" "_law_mates" s_lmates f fd) : FnG P w K mg base 1 f fd ["_law_lay_here"] (p_lmates K) := by
  refine fnK F sc_lmates (fun _ => rfl) fun cdv A outer s B H Q m room gd sb hp k => ?_
  obtain ⟨L, js⟩ := m
  have hl : Lay L js := hp
  have hlen := hl.len
  have hle := hl.le
  refine bd_setK 1 sc_lmates.nd ek_new fun q B3 H3 g3 hq0 hqb dk => ?_
  refine bd_for (fun i Γ' B' H' => ∃ (s2 s3 : Sl), Γ' = [.dat (eLay L js), .raw (.ref q), s2, s3] ∧ Grow B H B' H' ∧ B' q = none ∧ Dk H' q (2 * i) (dmV (mt (js.take i)))) rfl PassesOwn.never
    (pg_tup rfl (pgs_cons (pg_name (i := 2) sc_lmates.nd rfl (.inl rfl)) (pgs_cons (pg_name (i := 3) sc_lmates.nd rfl (.inl rfl)) pgs_nil))) (it_tup (ed_js (L := L) (js := js) (ed_name 0 rfl))) (fun d hd Γ1 => tg_pr 2 3 (pr_eJ d hd))
    (fun B4 H4 g4 => ⟨_, _, rfl, g3.trans g4, g4.outD dk hqb, by
      have := (dk.same g4.h).congr (m' := dmV (mt (js.take 0))) (fun z => by show none = dmV (fun _ => none) z; rw [dmV_none])
      exact this⟩) ?_ ?_
  · rintro i d _ B4 H4 hd ⟨s2, s3, rfl, g4, hb4, dk4⟩ _ B5 H5 g5
    obtain ⟨p, hp, rfl⟩ := at_eJ hd
    have hi : i < js.length := (List.getElem?_eq_some_iff.mp hp).1
    refine bd_putK 1 rfl (dk4.same g5.h) (g5.outD dk4 hb4) (by omega) room.units (v := .int (p.2 : Nat)) rfl (ed_name 3 rfl) (ed_name 2 rfl) fun B6 H6 g6 hb6 H7 dk7 o7 => ?_
    have g7 : Grow B H B6 H7 := ((g4.trans g5).trans g6).mut hq0 hb6 o7
    refine bd_putK 1 rfl dk7 hb6 (by omega) room.units (v := .int (p.1 : Nat)) rfl (ed_name 2 rfl) (ed_name 3 rfl) fun B8 H8 g8 hb8 H9 dk9 o9 => ?_
    refine bd_turn rfl (Weak.refl _) (g6.b.trans g8.b) ⟨_, _, rfl, (g7.trans g8).mut hq0 hb8 o9, hb8, ?_⟩
    rw [take_snoc hp, mt_snoc, ← dmV_put]
    exact dk9.up (by omega)
  · rintro _ B4 H4 ⟨s2, s3, rfl, g4, hb4, dk4⟩ _
    rw [List.length_map, List.take_length] at dk4
    exact bd_ret (ev_raw 1 rfl) fun v B5 H5 g5 e => k v B5 H5 (g4.trans g5) ⟨q, e, hq0, g5.outD dk4 hb4, dk4.same g5.h⟩
/-! _law_heaps -/
abbrev s_heaps : Stmt := top 52
abbrev N_heaps : List Str := ["_law_one", "_law_other", "_law_mates_here", "_law_left", "_law_found", "_law_turn", "_law_heap", "_law_at", "_law_walk", "_law_known", "_law_end"]
theorem sc_heaps : FnScope N_heaps ["_law_one", "_law_other"] (defScope s_heaps) := ⟨rfl, rfl, rfl, by decide +kernel, rfl, by decide +kernel, by decide +kernel⟩
abbrev p_heaps (K : PySem.W.Frag) : Pr := PrF K (α := Nat × List Jt × List Jt) (fun m => [eLay m.1 m.2.1, eLay m.1 m.2.2]) (fun m => Lay m.1 m.2.1 ∧ Lay m.1 m.2.2) fun m => .list ((heapsS m.1 m.2.1 m.2.2).map eR)
/-! _law_kind -/
abbrev s_kind : Stmt := top 53
abbrev N_kind : List Str := ["_law_one", "_law_other", "_law_heap", "_law_near", "_law_far", "_law_lacks", "_law_end"]
theorem sc_kind : FnScope N_kind ["_law_one", "_law_other", "_law_heap"] (defScope s_kind) := ⟨rfl, rfl, rfl, by decide +kernel, rfl, by decide +kernel, by decide +kernel⟩
abbrev p_kind (K : PySem.W.Frag) : Pr := PrF K (α := Nat × List Jt × List Jt × List Nat) (fun m => [eLay m.1 m.2.1, eLay m.1 m.2.2.1, eR m.2.2.2]) (fun m => Lay m.1 m.2.1 ∧ Lay m.1 m.2.2.1 ∧ m.2.2.2.length ≤ 1000 ∧ lk (mt m.2.1) m.2.2.2 ≤ 2) fun m => .str (kdS (kdH (mt m.2.1) (mt m.2.2.1) m.2.2.2))
theorem lk_len (m : Nat → Option Nat) (h : List Nat) : (h.filter fun z => !((dmV m ((z : Nat) : Int)).isSome)).length = lk m h := by
  unfold lk
  rw [List.countP_eq_length_filter]
  congr 1
  refine List.filter_congr fun z _ => ?_
  rw [dmV_nat]
  cases m z <;> rfl
theorem w_kind {f : Addr} {fd : FuncData} (F : Fun K "_law_kind" "_law_kind" s_kind f fd) (T : Bi mg) (G1 : Has P w K mg base 1 "_law_mates" ["_law_lay_here"] (p_lmates K)) : FnG P w K mg base 2 f fd ["_law_one", "_law_other", "_law_heap"] (p_kind K) := by
  refine fnP F sc_kind (fun _ => rfl) fun cdv A outer s B H Q m room gd sb hp k => ?_
  obtain ⟨L, j1, j2, h⟩ := m
  obtain ⟨hl1, hl2, hlen, hlk⟩ : Lay L j1 ∧ Lay L j2 ∧ h.length ≤ 1000 ∧ lk (mt j1) h ≤ 2 := hp
  refine bd_asg2 3 4 rfl sc_kind.nd (ek_call G1 (L, j1) room gd hl1 (ea_cons (ed_name 0 rfl) ea_nil)) (ek_call G1 (L, j2) room gd hl2 (ea_cons (ed_name 1 rfl) ea_nil)) fun v1 v2 B1 H1 B2 H2 q3 H3 g1 r1 g2 r2 g3 h03 o3 σ ok => ?_
  obtain ⟨q1, rfl, hq0, hqb, dk1⟩ := r1
  obtain ⟨q2, rfl, hq0', hqb', dk2⟩ := r2
  have dk1' := dk1.same (g2.trans g3).h
  have dk2' := dk2.same g3.h
  have ok' := (ok.set 3 (s := .raw (.ref q1)) rfl).set 4 (s := .raw (.ref q2)) rfl
  have gA := (g1.trans g2).trans g3
  refine (?_ : BD (bodyX P w K mg base N_kind "_law_kind" s_kind f cdv A outer s H) [.dat (eLay L j1), .dat (eLay L j2), .dat (eR h), .raw (.ref q1), .raw (.ref q2), .unk, .unk] B2 H3 _ _) _ ok'
  refine bd_setL 5 sc_kind.nd (ds := [.int (lk (mt j1) h : Nat), .int (lk (mt j2) h : Nat)]) (el_lst (ea_cons (ed_to (ed_len (.inl rfl) T.len (EL.ed (el_lcm1 (ee := eN) (xs := h) (f := fun z => !((dmV (mt j1) ((z : Nat) : Int)).isSome)) (v := eN) (own := [("_law_end", 6)]) (js := [6]) (Γd := fun d => (wipeG _ [6]).set 6 (.dat d)) eN_inj rfl sc_kind.nd (blkOk_by (N := N_kind) (sc := defScope s_kind) (by decide +kernel)) (fun _ _ _ _ _ => pg_name (i := 6) sc_kind.nd rfl (.inl rfl)) (it_tup (ed_name 2 rfl)) (by omega) (by simp) (fun d hd => tg_one 6) (fun z hz s0 H0 C cl fp B' H' g' => et_ninK 3 rfl (dk1'.same g'.h) room.units (ed_name 6 rfl)) (fun z hz _ s0 H0 C cl fp B' H' g' => ed_name 6 rfl)))) (by rw [List.length_map, lk_len])) (ea_cons (ed_to (ed_len (.inl rfl) T.len (EL.ed (el_lcm1 (ee := eN) (xs := h) (f := fun z => !((dmV (mt j2) ((z : Nat) : Int)).isSome)) (v := eN) (own := [("_law_end", 6)]) (js := [6]) (Γd := fun d => (wipeG _ [6]).set 6 (.dat d)) eN_inj rfl sc_kind.nd (blkOk_by (N := N_kind) (sc := defScope s_kind) (by decide +kernel)) (fun _ _ _ _ _ => pg_name (i := 6) sc_kind.nd rfl (.inl rfl)) (it_tup (ed_name 2 rfl)) (by omega) (by simp) (fun d hd => tg_one 6) (fun z hz s0 H0 C cl fp B' H' g' => et_ninK 4 rfl (dk2'.same g'.h) room.units (ed_name 6 rfl)) (fun z hz _ s0 H0 C cl fp B' H' g' => ed_name 6 rfl)))) (by rw [List.length_map, lk_len])) ea_nil)) (by show 2 ≤ 1000; decide)) fun B5 H5 g5 => ?_
  have lay2 : ∀ a b : Int, PyData.canLay0 (.list [.int a, .int b]) = true := fun a b => by simp [PyData.canLay0, PyData.canLayAll0]
  have dep2 : ∀ a b : Int, PyData.depth (.list [.int a, .int b]) ≤ 60 := fun a b => by simp [PyData.depth, PyData.depthAll]
  refine bd_if (t := decide (((lk (mt j1) h : Nat) : Int) = 0) && decide (((lk (mt j2) h : Nat) : Int) = 0)) (et_eqD room.units (lay2 _ _) (lay2 _ _) (dep2 _ _) (dep2 _ _) (eqv2 _ _ _ _) (ed_nameL 5 rfl) (EL.ed (el_lst (ds := [.int 0, .int 0]) (ea_cons ed_int (ea_cons ed_int ea_nil)) (by show 2 ≤ 1000; decide)))) (fun ht B6 H6 g6 => ?_) (fun ht B6 H6 g6 => ?_)
  · rw [Bool.and_eq_true, decide_eq_true_eq, decide_eq_true_eq] at ht
    refine bd_ret (R := isD K (.str (kdS .ring))) ed_str fun v B7 H7 g7 r7 => k v _ B7 H7 ?_ (((gA.trans g5).trans g6).trans g7) r7
    show PyData.str (kdS .ring) = PyData.str (kdS (kdH (mt j1) (mt j2) h))
    unfold kdH
    rw [if_pos (by omega)]
  · have hn : ¬ (lk (mt j1) h = 0 ∧ lk (mt j2) h = 0) := fun ⟨a, b⟩ => by
      rw [a, b] at ht
      cases ht
    refine bd_fall (bd_ret (R := isD K (.str (kdS (kdH (mt j1) (mt j2) h)))) (ed_dgetE (i := (lk (mt j1) h : Nat)) (v := .str (kdS (kdH (mt j1) (mt j2) h))) room.units ?_ rfl (ek_three (i1 := 1) (i2 := 2) (i3 := 0) (v1 := .str (kdS .odd)) (v2 := .str (kdS .opn)) (v3 := .str (kdS .shut)) ed_int ed_str ed_int ed_str ed_int ed_str rfl rfl rfl) (ed_ixL (ds := [.int (lk (mt j1) h : Nat), .int (lk (mt j2) h : Nat)]) (k := 0) rfl rfl (ed_nameL 5 rfl) ed_int)) fun v B7 H7 g7 r7 => k v _ B7 H7 rfl (((gA.trans g5).trans g6).trans g7) r7)
    unfold kdH
    rw [if_neg hn]
    generalize lk (mt j1) h = c at hlk
    have : c = 0 ∨ c = 1 ∨ c = 2 := by omega
    rcases this with rfl | rfl | rfl <;> rfl
/-! _law_pieces -/
abbrev s_lpieces : Stmt := top 54
abbrev N_lpieces : List Str := ["_law_one", "_law_other", "_law_heap"]
theorem sc_lpieces : FnScope N_lpieces ["_law_one", "_law_other"] (defScope s_lpieces) := ⟨rfl, rfl, rfl, by decide +kernel, rfl, by decide +kernel, by decide +kernel⟩
abbrev p_lpieces (K : PySem.W.Frag) : Pr := PrF K (α := Nat × List Jt × List Jt) (fun m => [eLay m.1 m.2.1, eLay m.1 m.2.2]) (fun m => Lay m.1 m.2.1 ∧ Lay m.1 m.2.2) fun m => .list ((pcsH m.1 m.2.1 m.2.2).map eP)
theorem w_lpieces {f : Addr} {fd : FuncData} (F : Fun K "_law_pieces" "_law_pieces" s_lpieces f fd) (T : Bi mg) (G1 : Has P w K mg base 2 "_law_kind" ["_law_one", "_law_other", "_law_heap"] (p_kind K)) (G2 : Has P w K mg base 2 "_law_heaps" ["_law_one", "_law_other"] (p_heaps K)) : FnG P w K mg base 3 f fd ["_law_one", "_law_other"] (p_lpieces K) := by
  refine fnP F sc_lpieces (fun _ => rfl) fun cdv A outer s B H Q m room gd sb hp k => ?_
  obtain ⟨L, j1, j2⟩ := m
  obtain ⟨hl1, hl2⟩ : Lay L j1 ∧ Lay L j2 := hp
  have hle := hl1.le
  have ok := heapsS_ok hl1 hl2
  have few := ok.few
  have lks := (heaps_rows hl1.mat hl2.mat ok (rowsS_ok hl1 hl2)).2
  refine bd_ret (R := isD K (.list ((pcsH L j1 j2).map eP))) (ed_to (EL.ed (el_sorted room.units T.sorted (eP_alike ((heapsS L j1 j2).map (pcH (mt j1) (mt j2)))) (eP_sortable _) (eP_depth _) (ed_to (EL.ed (el_lcm0 (ee := eR) (xs := heapsS L j1 j2) (v := fun r => eP (pcH (mt j1) (mt j2) r)) (own := [("_law_heap", 2)]) (js := [2]) (Γd := fun d => (wipeG _ [2]).set 2 (.dat d)) eR_inj rfl sc_lpieces.nd (blkOk_by (N := N_lpieces) (sc := defScope s_lpieces) (by decide +kernel)) (fun _ _ _ _ _ => pg_name (i := 2) sc_lpieces.nd rfl (.inl rfl)) (it_list (ed_to (ed_call G2 (L, j1, j2) room gd ⟨hl1, hl2⟩ (ea_cons (ed_name 0 rfl) (ea_cons (ed_name 1 rfl) ea_nil))) rfl)) (by omega) (by simp) (fun d hd => tg_one 2) (fun r hr s0 H0 C cl fp B' H' g' => ?_))) (by rw [List.map_map]; rfl)))) (by rw [sortD_eP]; rfl)) fun v B4 H4 g4 r => k v _ B4 H4 rfl g4 r
  have hrl : r.length ≤ 1000 := by
    have := nd_len (2 * L) r (flat_sub hr ok.nd) fun z hz => (ok.all z).mp (List.mem_flatten.mpr ⟨r, hr, hz⟩)
    omega
  have hpre : Lay L j1 ∧ Lay L j2 ∧ r.length ≤ 1000 ∧ lk (mt j1) r ≤ 2 := ⟨hl1, hl2, hrl, lks r hr⟩
  exact ed_to (ed_tup (ds := [.str (kdS (kdH (mt j1) (mt j2) r)), .int ((r.map eN).length : Nat)]) (ea_cons (ed_to (ed_call G1 (L, j1, j2, r) room gd hpre (ea_cons (ed_name 0 rfl) (ea_cons (ed_name 1 rfl) (ea_cons (ed_name 2 rfl) ea_nil)))) rfl) (ea_cons (ed_len (.inr rfl) T.len (ed_name 2 rfl)) ea_nil)) (by show 2 ≤ 1000; decide)) (by rw [List.length_map]; rfl)
theorem pcsH_few {L : Nat} {j1 j2 : List Jt} (hl1 : Lay L j1) (hl2 : Lay L j2) : (pcsH L j1 j2).length ≤ 1000 := by
  have few := (heapsS_ok hl1 hl2).few
  have := hl1.le
  unfold pcsH
  rw [(sortP_perm _).length_eq, List.length_map]
  omega
/-! _law_cost -/
abbrev s_lcost : Stmt := top 55
abbrev N_lcost : List Str := ["_law_one", "_law_other", "_law_some", "_law_piece"]
theorem sc_lcost : FnScope N_lcost ["_law_one", "_law_other"] (defScope s_lcost) := ⟨rfl, rfl, rfl, by decide +kernel, rfl, by decide +kernel, by decide +kernel⟩
abbrev p_lcost (K : PySem.W.Frag) : Pr := PrF K (α := Nat × List Jt × List Jt) (fun m => [eLay m.1 m.2.1, eLay m.1 m.2.2]) (fun m => Lay m.1 m.2.1 ∧ Lay m.1 m.2.2) fun m => .int (costH m.1 m.2.1 m.2.2)
theorem w_lcost {f : Addr} {fd : FuncData} (F : Fun K "_law_cost" "_law_cost" s_lcost f fd) (T : Bi mg) (G1 : Has P w K mg base 3 "_law_pieces" ["_law_one", "_law_other"] (p_lpieces K)) : FnG P w K mg base 4 f fd ["_law_one", "_law_other"] (p_lcost K) := by
  refine fnP F sc_lcost (fun _ => rfl) fun cdv A outer s B H Q m room gd sb hp k => ?_
  obtain ⟨L, j1, j2⟩ := m
  obtain ⟨hl1, hl2⟩ : Lay L j1 ∧ Lay L j2 := hp
  have few := pcsH_few hl1 hl2
  refine bd_lcm0 2 (ee := eP) (xs := pcsH L j1 j2) (v := fun p => .str (kdS p.1)) (own := [("_law_piece", 3)]) (js := [3]) (Γd := fun d => (wipeG _ [3]).set 3 (.dat d)) eP_inj rfl sc_lcost.nd (blkOk_by (N := N_lcost) (sc := defScope s_lcost) (by decide +kernel)) (fun _ _ _ _ _ => pg_name (i := 3) sc_lcost.nd rfl (.inl rfl)) (it_list (ed_to (ed_call G1 (L, j1, j2) room gd ⟨hl1, hl2⟩ (ea_cons (ed_name 0 rfl) (ea_cons (ed_name 1 rfl) ea_nil))) rfl)) (by omega) (by simp) (fun d hd => tg_one 3) (fun p hp s0 H0 C cl fp B' H' g' => ed_p0 (ed_name 3 rfl)) fun B2 H2 g2 => ?_
  have es : PyData.list ((pcsH L j1 j2).map fun p => .str (kdS p.1)) = .list ((((pcsH L j1 j2).map (·.1)).map kdS).map .str) := by rw [List.map_map, List.map_map]; rfl
  refine bd_ret (R := isD K (.int (costH L j1 j2))) (ed_sub (ed_sub (ed_lk (L := L) (js := j1) (ed_name 0 rfl)) (ed_i (ed_countS (ys := ((pcsH L j1 j2).map (·.1)).map kdS) (t := kdS .ring) (ed_to (ed_nameL 2 rfl) es) ed_str) (by rw [count_kdS]))) (ed_fdiv ⟨by decide, by decide⟩ (ed_i (ed_countS (ys := ((pcsH L j1 j2).map (·.1)).map kdS) (t := kdS .odd) (ed_to (ed_nameL 2 rfl) es) ed_str) (by rw [count_kdS])) ed_int)) fun v B4 H4 g4 r => k v _ B4 H4 rfl (g2.trans g4) r
end
end Dc
/-! The walks, ninth part: _law_heaps. -/
namespace Dc
open PySem PySem.Spec PyProof.Rows L2
/-- what was made since H is fixed from here on -/
theorem fixG {B H B2 H2 : Hp} {p : Addr} {o : HO} (g : Grow B H B2 H2) (h : H p = none) (h2 : H2 p = some o) : ∃ B3, Grow B H B3 H2 ∧ Same B2 B3 ∧ B3 p = some o ∧ ∀ a, a ≠ p → B3 a = B2 a := by
  cases q : B2 p with
  | none => exact ⟨upd B2 p o, g.fix h h2 q, same_new q, upd_same, fun a ha => upd_ne ha⟩
  | some o' =>
    have := g.bh _ _ q
    rw [h2] at this
    cases this
    exact ⟨B2, g, Same.refl _, q, fun _ _ => rfl⟩
section
variable {X : Cx} {Γ : List Sl} {B H : Hp} {e a b c : Expr} {pos p : Pos} {n1 n2 : Nat} {f1 f2 : Int → Option V}
/-- [a, b]: a new list of two new dicts -/
theorem ev_lst2K (ha : EK X Γ B H a n1 f1) (hb : EK X Γ B H b n2 f2) (h1 : starEach [a, b] X.env = (false, eval a X.env) :: starEach [b] X.env := by rfl) (h2 : starEach [b] X.env = (false, eval b X.env) :: starEach [] X.env := by rfl) : EV X Γ B H (.List [a, b] pos) fun v H1 B2 H2 => ∃ l q1 q2, v = .ref l ∧ H1 l = none ∧ H1 q1 = none ∧ H1 q2 = none ∧ H2 l = some (.lst [.ref q1, .ref q2]) ∧ Dk H2 q1 n1 f1 ∧ Dk H2 q2 n2 f2 := fun σ B1 H1 g ok Q q =>
  we_of (pe_lst (pa_cons (pe X a) (pa_cons (pe X b) pa_nil h2) h1)) (ha σ B1 H1 g ok _ fun v1 B2 H2 g2 r2 => hb σ B2 H2 (g.trans g2) (ok.grow g2) _ fun v2 B3 H3 g3 r3 => by
    obtain ⟨q1, rfl, a1, a2, a3⟩ := r2
    obtain ⟨q2, rfl, b1, b2, b3⟩ := r3
    refine ⟨by show 2 ≤ sizeLine; decide, fun p hp => q _ B3 _ ((g2.trans g3).trans (Grow.newM g3.bh hp)) ⟨p, q1, q2, rfl, (g2.trans g3).h.free hp, a1, g2.h.free b1, upd_same, ?_, ?_⟩⟩
    · exact (a3.same g3.h).far (upd_ne ((a3.same g3.h).ne hp))
    · exact b3.far (upd_ne (b3.ne hp)))
end
theorem eqv_nil (ns : List Nat) : PyData.eqv (.list (ns.map eN)) (.list []) = ns.isEmpty := by
  cases ns <;> simp [PyData.eqv, PyData.eqvAll]
theorem lay_eNs (ns : List Nat) : PyData.canLay0 (.list (ns.map eN)) = true := by
  simp only [PyData.canLay0]
  rw [eNs_eq]
  exact lay_ints _
theorem dep_eNs (ns : List Nat) : PyData.depth (.list (ns.map eN)) ≤ 60 := by
  rw [eNs_eq]
  exact dep_ints _
theorem hadd_eN (m : Nat → Option Nat) (hp : List Nat) (x : Nat) : hp.map eN ++ List.replicate (if (m x).getD x ∈ hp then 0 else 1) (eN ((m x).getD x)) = (hadd m hp x).map eN := by
  unfold hadd
  split
  · simp
  · simp
theorem hadd_len (m : Nat → Option Nat) (hp : List Nat) (x : Nat) : (hadd m hp x).length ≤ hp.length + 1 := by
  unfold hadd
  split <;> simp
theorem hadd_get (m : Nat → Option Nat) {hp : List Nat} {x a y : Nat} (h : hp[a]? = some y) : (hadd m hp x)[a]? = some y := by
  obtain ⟨t, e⟩ := hadd_pre (m := m) (hp := hp) (x := x)
  rw [e, List.getElem?_append_left (List.getElem?_eq_some_iff.mp h).1]
  exact h
section
variable {P : Program} {w : World} {K : PySem.W.Frag} {mg : Str → Option Value} {base : Heap}
theorem w_heaps {fa : Addr} {fd : FuncData} (F : Fun K "_law_heaps" "_law_heaps" s_heaps fa fd) (T : Bi mg) (G1 : Has P w K mg base 1 "_law_mates" ["_law_lay_here"] (p_lmates K)) : FnG P w K mg base 2 fa fd ["_law_one", "_law_other"] (p_heaps K) := by
  refine fnP F sc_heaps (fun _ => rfl) fun cdv A outer s B H Q m room gd sb hp k => ?_
  let HH := H
  obtain ⟨L, j1, j2⟩ := m
  obtain ⟨hl1, hl2⟩ : Lay L j1 ∧ Lay L j2 := hp
  have hle := hl1.le
  have M0 := hl1.mat
  have M1 := hl2.mat
  refine bd_par3 2 3 4 rfl sc_heaps.nd (by decide) (by decide) (by decide) (ev_lst2K (ek_call G1 (L, j1) room gd hl1 (ea_cons (ed_name 0 rfl) ea_nil)) (ek_call G1 (L, j2) room gd hl2 (ea_cons (ed_name 1 rfl) ea_nil))) (el_listR1 (n := 2 * L) (by simp) (by omega) rfl T.range T.list (ed_mul (.inl ⟨by decide, by decide⟩) ed_int (ed_lk (L := L) (js := j1) (ed_name 0 rfl)))) (el_lst (ds := []) ea_nil) fun v1 v2 v3 B1 H1 B2 H2 B3 H3 g1 r1 g2 r2 g3 r3 σ ok => ?_
  obtain ⟨l, q1, q2, rfl, hl0, hq10, hq20, hlh, dk1, dk2⟩ := r1
  obtain ⟨l2, xs2, rfl, hl20, hl2h, hl2b, hl2d⟩ := r2
  obtain ⟨l3, xs3, rfl, hl30, hl3h, hl3b, hl3d⟩ := r3
  have gA := (g1.trans g2).trans g3
  have hl3H : H l3 = none := (g1.trans g2).h.free hl30
  obtain ⟨k1, c1, _, _, _⟩ := id dk1.is
  obtain ⟨k2, c2, _, _, _⟩ := id dk2.is
  have n1 : l3 ≠ l := (ne_of_none (g2.h _ _ hlh) hl30).symm
  have n2 : l3 ≠ q1 := (ne_of_none (g2.h _ _ c1) hl30).symm
  have n3 : l3 ≠ q2 := (ne_of_none (g2.h _ _ c2) hl30).symm
  have n4 : l3 ≠ l2 := (ne_of_none hl2h hl30).symm
  obtain ⟨E1, gE1, sE1, bE1, oE1⟩ := fixG gA hl0 ((g2.trans g3).h _ _ hlh)
  obtain ⟨E2, gE2, sE2, bE2, oE2⟩ := fixG gE1 hq10 ((g2.trans g3).h _ _ c1)
  obtain ⟨E3, gE3, sE3, bE3, oE3⟩ := fixG gE2 hq20 ((g2.trans g3).h _ _ c2)
  obtain ⟨E4, gE4, sE4, bE4, oE4⟩ := fixG gE3 (g1.h.free hl20) (g3.h _ _ hl2h)
  have sE : Same B3 E4 := ((sE1.trans sE2).trans sE3).trans sE4
  have l3E : E4 l3 = none := by rw [oE4 l3 n4, oE3 l3 n3, oE2 l3 n2, oE1 l3 n1]; exact hl3b
  have lE : E4 l = some (.lst [.ref q1, .ref q2]) := (sE2.trans (sE3.trans sE4)) _ _ bE1
  have dE1 : Dk E4 q1 (2 * j1.length) (dmV (mt j1)) := by
    obtain ⟨kvs, a1, a2⟩ := dk1.is
    rw [c1] at a1
    cases a1
    exact ⟨k1, (sE3.trans sE4) _ _ bE2, a2⟩
  have dE2 : Dk E4 q2 (2 * j2.length) (dmV (mt j2)) := by
    obtain ⟨kvs, a1, a2⟩ := dk2.is
    rw [c2] at a1
    cases a1
    exact ⟨k2, sE4 _ _ bE3, a2⟩
  have m3 : Mt K E4 H3 l3 (([] : List (List Nat)).map eR) := ⟨⟨xs3, hl3h, by cases hl3d; exact .nil⟩, l3E⟩
  have ok0 := ok.to sE gE4.bh
  have ok' := ((ok0.set 2 (s := .raw (.ref l)) rfl).set 3 (s := .lst ((List.range (2 * L)).map eN)) ⟨l2, xs2, rfl, bE4, rng0 (2 * L) ▸ dps_mono (g3.b.trans sE) hl2d⟩).set 4 (s := .raw (.ref l3)) rfl
  refine (?_ : BD (bodyX P w K mg base N_heaps "_law_heaps" s_heaps fa cdv A outer s H) [.dat (eLay L j1), .dat (eLay L j2), .raw (.ref l), .lst ((List.range (2 * L)).map eN), .raw (.ref l3), .unk, .unk, .unk, .unk, .unk, .unk] E4 H3 _ _) _ ok'
  refine bd_for (fun i Γ' B' H' => ∃ (s5 s6 s7 s8 s9 s10 : Sl), Γ' = [.dat (eLay L j1), .dat (eLay L j2), .raw (.ref l), .lst ((itr (htn sortN (mt j1) (mt j2) (2 * L)) i (List.range (2 * L), [])).1.map eN), .raw (.ref l3), s5, s6, s7, s8, s9, s10] ∧ Grow B H B' H' ∧ Mt K B' H' l3 ((itr (htn sortN (mt j1) (mt j2) (2 * L)) i (List.range (2 * L), [])).2.map eR)) rfl PassesOwn.never (pg_name (i := 5) sc_heaps.nd rfl (.inl rfl)) (it_rng1 (n := 2 * L) (by simp) (by omega) T.range (ed_mul (.inl ⟨by decide, by decide⟩) ed_int (ed_lk (L := L) (js := j1) (ed_name 0 rfl)))) (fun d hd Γ1 => tg_one 5) (fun B6 H6 g6 => ⟨_, _, _, _, _, _, rfl, gE4.trans g6, m3.grow g6⟩) ?_ ?_
  · rintro i d _ B6 H6 hd ⟨s5, s6, s7, s8, s9, s10, rfl, g6, m6⟩ sb6 B7 H7 g7
    have ht := htn_go sortN sortN_perm M0 M1 (n := 2 * L) i
    have eS : itr (htn sortN (mt j1) (mt j2) (2 * L)) (i + 1) (List.range (2 * L), []) = htn sortN (mt j1) (mt j2) (2 * L) (itr (htn sortN (mt j1) (mt j2) (2 * L)) i (List.range (2 * L), [])) := rfl
    simp only [eS]
    generalize itr (htn sortN (mt j1) (mt j2) (2 * L)) i (List.range (2 * L), []) = st at ht m6 ⊢
    obtain ⟨left, found⟩ := st
    have hleft : left.length ≤ 2 * L := nd_len _ _ ht.lnd fun z hz => (ht.all z).mpr (.inl hz)
    have hfound : found.length ≤ 2 * L := by
      have a1 := nd_len (2 * L) _ ht.nd fun z hz => (ht.all z).mpr (.inr hz)
      have a2 := len_flat fun r hr => (ht.each r hr).ne
      exact Nat.le_trans a2 a1
    refine bd_if (t := !left.isEmpty) (et_neD room.units (lay_eNs left) (by simp [PyData.canLay0, PyData.canLayAll0]) (dep_eNs left) (by simp [PyData.depth, PyData.depthAll]) (by rw [eqv_nil]) (ed_nameL 3 rfl) (EL.ed (el_lst (ds := []) ea_nil))) (fun hb B8 H8 g8 => ?_) (fun hb B8 H8 g8 => ?_)
    · cases left with
      | nil => cases hb
      | cons x left =>
        have hx : x < 2 * L := (ht.all x).mpr (.inl (by simp))
        have g68 := (g6.trans g7).trans g8
        have m8 := (m6.grow g7).grow g8
        refine bd_asg2 6 7 rfl sc_heaps.nd (el_lst (ds := [eN x]) (ea_cons (ed_ixL (ds := (x :: left).map eN) (k := 0) rfl rfl (ed_nameL 3 rfl) ed_int) ea_nil) (by show 1 ≤ 1000; decide)) ed_int fun v1 v2 B9 H9 B10 H10 q11 H11 g9 r9 g10 r10 g11 h11 o11 σ1 ok1 => ?_
        obtain ⟨lh, xh, rfl, lh0, lhh, lhb, lhd⟩ := r9
        have g911 := (g9.trans g10).trans g11
        obtain ⟨E5, gE5, sE5, bE5, oE5⟩ := fixG g911 lh0 ((g10.trans g11).h _ _ lhh)
        have ok1' := ((ok1.to sE5 gE5.bh).set 6 (s := .lst ([x].map eN)) ⟨lh, xh, rfl, bE5, dps_mono (g10.b.trans sE5) lhd⟩).set 7 (s := .dat (eN 0)) ⟨v2, rfl, dp_mono sE5 r10⟩
        refine (?_ : BD (bodyX P w K mg base N_heaps "_law_heaps" s_heaps fa cdv A outer s H) [.dat (eLay L j1), .dat (eLay L j2), .raw (.ref l), .lst ((x :: left).map eN), .raw (.ref l3), .dat d, .lst ([x].map eN), .dat (eN 0), s8, s9, s10] E5 H11 _ _) _ ok1'
        refine bd_for (fun i2 Γ' B' H' => ∃ (s8 s9 s10 : Sl), Γ' = [.dat (eLay L j1), .dat (eLay L j2), .raw (.ref l), .lst ((x :: left).map eN), .raw (.ref l3), .dat d, .lst ((itr (hst (mt j1) (mt j2)) i2 ([x], 0)).1.map eN), .dat (eN (itr (hst (mt j1) (mt j2)) i2 ([x], 0)).2), s8, s9, s10] ∧ Grow B8 H8 B' H') rfl PassesOwn.never (pg_name (i := 8) sc_heaps.nd rfl (.inl rfl)) (it_rng1 (n := 2 * L) (by simp) (by omega) T.range (ed_mul (.inl ⟨by decide, by decide⟩) ed_int (ed_lk (L := L) (js := j1) (ed_name 0 rfl)))) (fun d hd Γ1 => tg_one 8) (fun B12 H12 g12 => ⟨_, _, _, rfl, gE5.trans g12⟩) ?_ ?_
        · rintro i2 d2 _ B12 H12 hd2 ⟨s8', s9', s10', rfl, g12⟩ sb12 B13 H13 g13
          have hh := hst_go M0 M1 hx i2
          have eS2 : itr (hst (mt j1) (mt j2)) (i2 + 1) ([x], 0) = hst (mt j1) (mt j2) (itr (hst (mt j1) (mt j2)) i2 ([x], 0)) := rfl
          simp only [eS2]
          generalize itr (hst (mt j1) (mt j2)) i2 ([x], 0) = st2 at hh ⊢
          obtain ⟨hp, at2⟩ := st2
          have hpl : hp.length ≤ 2 * L := nd_len _ _ hh.nd hh.lt
          refine bd_if (t := decide (((at2 : Nat) : Int) < ((hp.map eN).length : Nat))) (et_lt (ed_name 7 rfl) (ed_len (.inl rfl) T.len (ed_nameL 6 rfl))) (fun hb2 B14 H14 g14 => ?_) (fun hb2 B14 H14 g14 => ?_)
          · have hlt : at2 < hp.length := by
              have := of_decide_eq_true hb2
              rw [List.length_map] at this
              omega
            have ea : hp[at2]? = some hp[at2] := List.getElem?_eq_getElem hlt
            have eg : hp.getD at2 0 = hp[at2] := by rw [List.getD_eq_getElem?_getD, ea]; rfl
            have e2 : hst (mt j1) (mt j2) (hp, at2) = (hadd (mt j2) (hadd (mt j1) hp hp[at2]) hp[at2], at2 + 1) := by
              unfold hst
              simp only [hlt, if_true, eg]
            rw [e2]
            generalize hy : hp[at2] = y at ea ⊢
            -- the two dicts, one behind the other
            let hv : Nat → List Nat := fun kx => match kx with
              | 0 => hp
              | 1 => hadd (mt j1) hp y
              | _ => hadd (mt j2) (hadd (mt j1) hp y) y
            have hvl : ∀ kx, (hv kx).length ≤ 100 := fun kx => by
              have a1 := hadd_len (mt j1) hp y
              have a2 := hadd_len (mt j2) (hadd (mt j1) hp y) y
              match kx with
              | 0 => show hp.length ≤ 100; omega
              | 1 => show (hadd (mt j1) hp y).length ≤ 100; omega
              | _ + 2 => show (hadd (mt j2) (hadd (mt j1) hp y) y).length ≤ 100; omega
            have hvg : ∀ kx, (hv kx)[at2]? = some y := fun kx => match kx with
              | 0 => ea
              | 1 => hadd_get _ ea
              | _ + 2 => hadd_get _ (hadd_get _ ea)
            have sb14 : Same E4 B14 := ((((sb6.trans g7.b).trans g8.b).trans gE5.b).trans (sb12.trans g13.b)).trans g14.b
            refine bd_forV (xs := [.ref q1, .ref q2]) 2 9 (fun kx Γ' B' H' => ∃ (s9 s10 : Sl), Γ' = [.dat (eLay L j1), .dat (eLay L j2), .raw (.ref l), .lst ((x :: left).map eN), .raw (.ref l3), .dat d, .lst ((hv kx).map eN), .dat (eN at2), .dat d2, s9, s10] ∧ Grow B14 H14 B' H') rfl PassesOwn.never sc_heaps.nd rfl (g14.bh _ _ (sb14 _ _ lE)) ⟨_, _, rfl, Grow.refl g14.bh⟩ (fun kx Γ1 B1 H1 ⟨s9, s10, e, g⟩ => ⟨by rw [e]; show 9 < 11; decide, g.bh _ _ (g.b _ _ (sb14 _ _ lE))⟩) ?_ ?_
            · rintro kx v _ B15 H15 hv15 ⟨s9, s10, rfl, g15⟩ sb15
              obtain ⟨ff, sz, q, rfl, dkE, e15⟩ : ∃ ff sz q, v = .ref q ∧ Dk E4 q sz (dmV ff) ∧ hv (kx + 1) = hadd ff (hv kx) y := by
                match kx, hv15 with
                | 0, hv15 => cases hv15; exact ⟨_, _, _, rfl, dE1, rfl⟩
                | 1, hv15 => cases hv15; exact ⟨_, _, _, rfl, dE2, rfl⟩
                | _ + 2, hv15 => simp at hv15
              have dk15 : Dk H15 q sz (dmV ff) := ((dkE.same sb14).same g15.b).same g15.bh
              have hlk := hvl kx
              have hgk := hvg kx
              rw [e15]
              generalize hv kx = hq at hlk hgk ⊢
              have ix : ∀ {Γ : List Sl} {B H : Hp} {p1 p2 p3 : Pos}, Γ[6]? = some (.lst (hq.map eN)) → Γ[7]? = some (.dat (eN at2)) → ED (bodyX P w K mg base N_heaps "_law_heaps" s_heaps fa cdv A outer s HH) Γ B H (.Subscript (.Name "_law_heap" p1) (.Name "_law_at" p2) p3) (eN y) := fun h6 h7 => ed_ixL (ds := hq.map eN) (k := at2) (by rw [List.getElem?_map, hgk]; rfl) rfl (ed_nameL 6 h6) (ed_name 7 h7)
              refine bd_set 10 sc_heaps.nd (d := eN ((ff y).getD y)) (ed_get2K (i := (y : Nat)) (j := (y : Nat)) (t := ((ff y).getD y : Nat)) 9 rfl dk15 room.units (by rw [dmV_nat]; cases ff y <;> rfl) (ix rfl rfl) (ix rfl rfl) ⟨rfl, rfl, rfl, rfl⟩) fun B16 H16 g16 => ?_
              refine bd_setL 6 sc_heaps.nd (ds := (hadd ff hq y).map eN) ?_ fun B17 H17 g17 => ?_
              · rw [← hadd_eN]
                refine el_cat (by rw [List.length_map, List.length_replicate]; split <;> omega) (em_name 6 rfl) (EL.em (el_rep1 (i := (if (!decide (((((ff y).getD y : Nat)) : Int) ∈ hq.map fun n : Nat => (n : Int))) then 1 else 0)) ?_ (by split <;> decide) (EL.em (el_lst (ds := [eN ((ff y).getD y)]) (ea_cons (ed_name 10 rfl) ea_nil) (by show 1 ≤ 1000; decide))) (ed_intB T.int (ed_ninI (ns := hq.map fun n : Nat => (n : Int)) room.units (.inl (by rw [← eNs_eq])) (ed_name 10 rfl) (ed_nameL 6 rfl)))))
                rw [cast_dec]
                by_cases h : (ff y).getD y ∈ hq
                · rw [decide_eq_true h, if_pos h]
                  rfl
                · rw [decide_eq_false h, if_neg h]
                  rfl
              · exact bd_turn rfl (Weak.refl _) (g16.b.trans g17.b) ⟨_, _, rfl, (g15.trans g16).trans g17⟩
            · rintro _ B15 H15 ⟨s9, s10, rfl, g15⟩ sb15
              refine bd_set 7 sc_heaps.nd (d := eN (at2 + 1)) (ed_i (ed_add (ed_name 7 rfl) ed_int) (by show ((at2 : Nat) : Int) + 1 = ((at2 + 1 : Nat) : Int); omega)) fun B16 H16 g16 => ?_
              exact bd_fall (bd_turn rfl (Weak.refl _) ((g14.b.trans g15.b).trans g16.b) ⟨_, _, _, rfl, (((g12.trans g13).trans g14).trans g15).trans g16⟩)
          · have hlt : ¬ at2 < hp.length := by
              have := of_decide_eq_false hb2
              rw [List.length_map] at this
              omega
            have e2 : hst (mt j1) (mt j2) (hp, at2) = (hp, at2) := by
              unfold hst
              simp only [hlt, if_false]
            rw [e2]
            exact bd_fall (bd_turn rfl (Weak.refl _) g14.b ⟨_, _, _, rfl, (g12.trans g13).trans g14⟩)
        · rintro _ B12 H12 ⟨s8', s9', s10', rfl, g12⟩ sb12
          rw [rng_len]
          have hhp : (itr (hst (mt j1) (mt j2)) (2 * L) ([x], 0)).1 = heapOf (mt j1) (mt j2) (2 * L) x := rfl
          rw [hhp]
          have hl := nd_len _ _ (heapOf_ok M0 M1 hx).2.1 (heapOf_ok M0 M1 hx).2.2.1
          have e2 : htn sortN (mt j1) (mt j2) (2 * L) (x :: left, found) = ((x :: left).filter fun z => !decide (z ∈ heapOf (mt j1) (mt j2) (2 * L) x), found ++ [sortN (heapOf (mt j1) (mt j2) (2 * L) x)]) := rfl
          rw [e2]
          generalize heapOf (mt j1) (mt j2) (2 * L) x = hp at hl ⊢
          generalize (itr (hst (mt j1) (mt j2)) (2 * L) ([x], 0)).2 = at2
          have m12 := (m8.grow g12)
          refine bd_append (d := eR (sortN hp)) 4 rfl m12 (by rw [List.length_map]; exact Nat.lt_of_le_of_lt hfound (by omega)) (ed_to (ed_tuple (.inl rfl) T.tuple (EL.ed (el_sorted room.units T.sorted (eN_alike hp) (eN_sortable hp) (eN_depth hp) (ed_nameL 6 rfl)))) (by rw [sortD_eN]; rfl)) fun B13 H13 g13 m13 H14 m14 o14 => ?_
          have g14 : Grow B H B13 H14 := ((g68.trans g12).trans g13).mut hl3H m13.out o14
          refine bd_lcm1 3 (ee := eN) (xs := x :: left) (f := fun z => !decide (z ∈ hp)) (v := eN) (own := [("_law_end", 10)]) (js := [10]) (Γd := fun d => (wipeG _ [10]).set 10 (.dat d)) eN_inj rfl sc_heaps.nd (blkOk_by (N := N_heaps) (sc := defScope s_heaps) (by decide +kernel)) (fun _ _ _ _ _ => pg_name (i := 10) sc_heaps.nd rfl (.inl rfl)) (it_list (ed_nameL 3 rfl)) (Nat.le_trans hleft (by omega)) (by simp) (fun d hd => tg_one 10) (fun z hz s0 H0 C cl fp B' H' g' => et_to (et_ninI (ns := hp.map fun n : Nat => (n : Int)) room.units (.inl (by rw [← eNs_eq])) (ed_name 10 rfl) (ed_nameL 6 rfl)) (by rw [cast_dec])) (fun z hz _ s0 H0 C cl fp B' H' g' => ed_name 10 rfl) fun B15 H15 g15 => ?_
          refine bd_fall (bd_turn rfl (Weak.refl _) (((g8.b.trans g12.b).trans g13.b).trans g15.b) ⟨_, _, _, _, _, _, rfl, g14.trans g15, ?_⟩)
          rw [List.map_append]
          exact m14.grow g15
    · cases left with
      | cons x left => cases hb
      | nil => exact bd_fall (bd_turn rfl (Weak.refl _) g8.b ⟨_, _, _, _, _, _, rfl, (g6.trans g7).trans g8, (m6.grow g7).grow g8⟩)
  · rintro _ B6 H6 ⟨s5, s6, s7, s8, s9, s10, rfl, g6, m6⟩ _
    rw [rng_len] at m6
    have ok2 := heapsF_ok sortN sortN_perm M0 M1 (n := 2 * L)
    refine bd_fixM 4 rfl m6 fun B8 s8 f8 => ?_
    have g8 := f8 B H g6 hl3H
    refine bd_ret (R := isD K (.list ((heapsS L j1 j2).map eR))) (ed_to (EL.ed (el_sorted room.units T.sorted (eR_alike (heapsF sortN (2 * L) (mt j1) (mt j2))) (eR_sortable fun r hr => (ok2.each r hr).ne) (eR_depth _) (ed_nameL 4 rfl))) (by rw [sortD_eR]; rfl)) fun v B9 H9 g9 r9 => k v _ B9 H9 rfl (g8.trans g9) r9
end
end Dc
/-! The walks, tenth part: _law_steps, _law_after. -/
namespace Dc
open PySem PySem.Spec PyProof.Rows L2
abbrev Stp := List Jt × List Jt
def eS (s : Stp) : PyData := .tuple [.tuple (s.1.map eJ), .tuple (s.2.map eJ)]
theorem eS_inj (p q : Stp) (h : eS p = eS q) : p = q := by
  obtain ⟨a, b⟩ := p
  obtain ⟨c, d⟩ := q
  simp only [eS, PyData.tuple.injEq, List.cons.injEq] at h
  rw [eJs_inj _ _ h.1, eJs_inj _ _ h.2.1]
theorem alike_eJs : ∀ xs ys : List Jt, PySem.W.alikeAll (xs.map eJ) (ys.map eJ) = true
  | [], _ => by simp [PySem.W.alikeAll]
  | _ :: _, [] => by simp [PySem.W.alikeAll]
  | x :: xs, y :: ys => by
    show PySem.W.alikeAll (eJ x :: xs.map eJ) (eJ y :: ys.map eJ) = true
    rw [PySem.W.alikeAll, alike_eJs xs ys]
    simp [eJ, PySem.W.alike, PySem.W.alikeAll]
theorem eS_alike (ss : List Stp) : PySem.W.AllAlike (ss.map eS) := PySem.W.AllAlike.of fun a b => by simp [eS, PySem.W.alike, PySem.W.alikeAll, alike_eJs]
theorem eS_sortable (ss : List Stp) : PySem.W.Sortable (ss.map eS) := PySem.W.Sortable.tuples fun b => ⟨_, _, rfl⟩
theorem depA_eJs : ∀ js : List Jt, PyData.depthAll (js.map eJ) ≤ 1
  | [] => by simp [PyData.depthAll]
  | p :: js => by
    have ih := depA_eJs js
    show PyData.depthAll (eJ p :: js.map eJ) ≤ 1
    rw [PyData.depthAll]
    have : PyData.depth (eJ p) = 1 := by simp [eJ, PyData.depth, PyData.depthAll]
    omega
theorem eS_depth (ss : List Stp) : ∀ d ∈ ss.map eS, d.depth ≤ 60 := fun d h => by
  obtain ⟨s, _, rfl⟩ := List.mem_map.mp h
  have h1 := depA_eJs s.1
  have h2 := depA_eJs s.2
  simp [eS, PyData.depth, PyData.depthAll]
  omega
def sortS (ss : List Stp) : List Stp := ss.mergeSort (PySem.W.dataLe false eS)
theorem sortS_perm (ss : List Stp) : (sortS ss).Perm ss := List.mergeSort_perm _ _
theorem sortD_eS (ss : List Stp) : sortD (ss.map eS) = (sortS ss).map eS := (PySem.W.sort_maps eS (fun _ _ _ _ => rfl)).symm
/-- a step that may be taken: joints of the lay out, joints in at ends that are loose then -/
structure StepOk (L : Nat) (js : List Jt) (s : Stp) : Prop where
  rm : ∀ p ∈ s.1, p ∈ js
  ad : ∀ p ∈ s.2, p.1 < p.2 ∧ p.2 < 2 * L
  nd : (ptsJ s.2).Nodup
  at' : ∀ z ∈ ptsJ s.2, z ∉ ptsJ js ∨ z ∈ ptsJ s.1
def aft (js : List Jt) (s : Stp) : List Jt := js.filter (fun p => !decide (p ∈ s.1)) ++ s.2
/-- the ends without a mate -/
def loose (L : Nat) (js : List Jt) : List Nat := (List.range (2 * L)).filter fun z => !((dmV (mt js) ((z : Nat) : Int)).isSome)
theorem loose_mem {L : Nat} {js : List Jt} (hl : Lay L js) {z : Nat} : z ∈ loose L js ↔ z < 2 * L ∧ z ∉ ptsJ js := by
  unfold loose
  rw [List.mem_filter, List.mem_range]
  have : (!(dmV (mt js) ((z : Nat) : Int)).isSome) = true ↔ z ∉ ptsJ js := by
    rw [dmV_nat]
    constructor
    · intro h hz
      obtain ⟨p, hp, e⟩ := pts_mem.mp hz
      have := mt_at hl.nd hp
      rcases e with e | e
      · rw [e, this.1] at h
        cases h
      · rw [e, this.2] at h
        cases h
    · intro h
      rw [mt_out h]
      rfl
  rw [this]
theorem loose_asc (L : Nat) (js : List Jt) : (loose L js).Pairwise (· < ·) := List.pairwise_lt_range.filter _
theorem loose_len (L : Nat) (js : List Jt) : (loose L js).length ≤ 2 * L := by
  have := List.length_filter_le (fun z => !((dmV (mt js) ((z : Nat) : Int)).isSome)) (List.range (2 * L))
  rw [List.length_range] at this
  exact this
theorem sort2 {a b : Nat} (h : a ≠ b) : sortI [((a : Nat) : Int), ((b : Nat) : Int)] = [(((jo a b).1 : Nat) : Int), (((jo a b).2 : Nat) : Int)] := by
  refine List.Perm.eq_of_pairwise (le := fun a b => a ≤ b) (fun a b _ _ h1 h2 => by omega) (sortI_up _) ?_ ?_
  · unfold jo
    split <;> simp <;> omega
  · refine (sortI_perm _).trans ?_
    unfold jo
    split
    · exact .refl _
    · exact .swap _ _ _
theorem pts_jo (a b : Nat) {z : Nat} : z = (jo a b).1 ∨ z = (jo a b).2 ↔ z = a ∨ z = b := by
  unfold jo
  split
  · exact Iff.rfl
  · exact or_comm
theorem jo_lt {a b : Nat} (h : a ≠ b) : (jo a b).1 < (jo a b).2 := by
  unfold jo
  split <;> simp <;> omega
theorem two_ends {L : Nat} {js : List Jt} (hl : Lay L js) {p q : Jt} (hp : p ∈ js) (hq : q ∈ js) (hn : p ≠ q) : p.1 ≠ q.1 ∧ p.1 ≠ q.2 ∧ p.2 ≠ q.1 ∧ p.2 ≠ q.2 := by
  have a := mt_at hl.nd hp
  have b := mt_at hl.nd hq
  have c := hl.each p hp
  have d := hl.each q hq
  refine ⟨fun z => ?_, fun z => ?_, fun z => ?_, fun z => ?_⟩
  · rw [z, b.1] at a
    exact hn (Prod.ext z (Option.some.inj a.1).symm)
  · rw [z, b.2] at a
    have := Option.some.inj a.1
    omega
  · rw [z, b.1] at a
    have := Option.some.inj a.2
    omega
  · rw [z, b.2] at a
    exact hn (Prod.ext (Option.some.inj a.2).symm z)
theorem pts_two (p q : Jt) : ptsJ [p, q] = [p.1, p.2, q.1, q.2] := rfl
theorem st_one {L : Nat} {js : List Jt} {p : Jt} (hp : p ∈ js) : StepOk L js ([p], []) := ⟨fun q hq => by simp at hq; rw [hq]; exact hp, nofun, by simp, nofun⟩
theorem st_end {L : Nat} {js : List Jt} (hl : Lay L js) {p : Jt} (hp : p ∈ js) {z e : Nat} (hz : z = p.1 ∨ z = p.2) (he : e ∈ loose L js) : StepOk L js ([p], [(if e < z then e else z, if e > z then e else z)]) := by
  obtain ⟨h1, h2⟩ := (loose_mem hl).mp he
  have hzp : z ∈ ptsJ js := pts_mem.mpr ⟨p, hp, hz⟩
  have ne : e ≠ z := fun w => h2 (w ▸ hzp)
  have hb := hl.each p hp
  have hzl : z < 2 * L := by omega
  have hl2 : (if e < z then e else z) < (if e > z then e else z) := by split <;> split <;> omega
  refine ⟨fun q hq => by simp at hq; rw [hq]; exact hp, fun q hq => ?_, ?_, fun y hy => ?_⟩
  · simp only [List.mem_singleton] at hq
    rw [hq]
    exact ⟨hl2, by show (if e > z then e else z) < 2 * L; split <;> omega⟩
  · show ([if e < z then e else z, if e > z then e else z] : List Nat).Nodup
    simp only [List.nodup_cons, List.mem_singleton, List.not_mem_nil, not_false_eq_true, List.nodup_nil, and_true]
    omega
  · have hy' : y = (if e < z then e else z) ∨ y = (if e > z then e else z) := by
      have : y ∈ [if e < z then e else z, if e > z then e else z] := hy
      simpa using this
    have hy2 : y = e ∨ y = z := by rcases hy' with w | w <;> (rw [w]; split <;> simp)
    rcases hy2 with rfl | rfl
    · exact .inl h2
    · exact .inr (by show y ∈ [p.1, p.2]; simpa using hz)
theorem st_swap {L : Nat} {js : List Jt} (hl : Lay L js) {p q : Jt} (hp : p ∈ js) (hq : q ∈ js) (hn : p ≠ q) {a b : Nat} (hab : (a = q.1 ∧ b = q.2) ∨ (a = q.2 ∧ b = q.1)) : StepOk L js ([p, q], sortJ [jo p.1 a, jo p.2 b]) := by
  have t := two_ends hl hp hq hn
  have bp := hl.each p hp
  have bq := hl.each q hq
  have n1 : p.1 ≠ a := by rcases hab with w | w <;> omega
  have n2 : p.2 ≠ b := by rcases hab with w | w <;> omega
  have ab : a ≠ b := by rcases hab with w | w <;> omega
  have ps := sortJ_perm [jo p.1 a, jo p.2 b]
  have pp : (ptsJ (sortJ [jo p.1 a, jo p.2 b])).Perm [(jo p.1 a).1, (jo p.1 a).2, (jo p.2 b).1, (jo p.2 b).2] := ps.flatMap_right _
  have l1 := jo_lt n1
  have l2 := jo_lt n2
  have e1 : (jo p.1 a = (p.1, a)) ∨ (jo p.1 a = (a, p.1)) := by unfold jo; split <;> simp
  have e2 : (jo p.2 b = (p.2, b)) ∨ (jo p.2 b = (b, p.2)) := by unfold jo; split <;> simp
  refine ⟨fun r hr => ?_, fun r hr => ?_, ?_, fun y hy => ?_⟩
  · have : r = p ∨ r = q := by simpa using hr
    rcases this with rfl | rfl <;> assumption
  · have hr' := ps.mem_iff.mp hr
    have : r = jo p.1 a ∨ r = jo p.2 b := by simpa using hr'
    rcases this with rfl | rfl
    · refine ⟨l1, ?_⟩
      rcases e1 with w | w <;> rw [w] <;> show _ < 2 * L <;> omega
    · refine ⟨l2, ?_⟩
      rcases e2 with w | w <;> rw [w] <;> show _ < 2 * L <;> omega
  · rw [pp.nodup_iff]
    simp only [List.nodup_cons, List.mem_cons, List.not_mem_nil, not_false_eq_true, List.nodup_nil, and_true, or_false, not_or]
    rcases e1 with w | w <;> rcases e2 with w2 | w2 <;> rw [w, w2] <;> simp only [] <;> omega
  · have hy' := pp.mem_iff.mp hy
    right
    show y ∈ [p.1, p.2, q.1, q.2]
    simp only [List.mem_cons, List.not_mem_nil, or_false] at hy' ⊢
    have : y = p.1 ∨ y = a ∨ y = p.2 ∨ y = b := by
      rcases hy' with w | w | w | w
      · rcases (pts_jo p.1 a).mp (.inl w) with v | v <;> simp [v]
      · rcases (pts_jo p.1 a).mp (.inr w) with v | v <;> simp [v]
      · rcases (pts_jo p.2 b).mp (.inl w) with v | v <;> simp [v]
      · rcases (pts_jo p.2 b).mp (.inr w) with v | v <;> simp [v]
    omega
theorem st_two {L : Nat} {js : List Jt} (hl : Lay L js) {a b : Nat} (ha : a ∈ loose L js) (hb : b ∈ loose L js) (h : a < b) : StepOk L js ([], [(a, b)]) := by
  have h1 := (loose_mem hl).mp ha
  have h2 := (loose_mem hl).mp hb
  refine ⟨nofun, fun q hq => ?_, ?_, fun y hy => ?_⟩
  · simp at hq
    rw [hq]
    exact ⟨h, h2.1⟩
  · show ([a, b] : List Nat).Nodup
    simp
    omega
  · have : y = a ∨ y = b := by
      have : y ∈ [a, b] := hy
      simpa using this
    rcases this with rfl | rfl
    · exact .inl h1.2
    · exact .inl h2.2
theorem mk_lay {L : Nat} {js : List Jt} (h1 : 1 ≤ L) (h2 : L ≤ 12) (each : ∀ p ∈ js, p.1 < p.2 ∧ p.2 < 2 * L) (nd : (ptsJ js).Nodup) : Lay L (sortJ js) := by
  have ps := sortJ_perm js
  have pp : (ptsJ (sortJ js)).Perm (ptsJ js) := ps.flatMap_right _
  refine ⟨h1, h2, fun p hp => each p (ps.mem_iff.mp hp), pp.nodup_iff.mpr nd, sortJ_asc ?_⟩
  -- the first ends are among all
  clear ps pp each
  induction js with
  | nil => simp
  | cons p js ih =>
    have e : ptsJ (p :: js) = p.1 :: p.2 :: ptsJ js := rfl
    rw [e, List.nodup_cons, List.nodup_cons] at nd
    rw [List.map_cons, List.nodup_cons]
    refine ⟨fun hm => ?_, ih nd.2.2⟩
    obtain ⟨q, hq, e2⟩ := List.mem_map.mp hm
    refine nd.1 (List.mem_cons_of_mem _ (pts_mem.mpr ⟨q, hq, .inl e2.symm⟩))
theorem pts_filter_sub (f : Jt → Bool) (js : List Jt) : (ptsJ (js.filter f)).Sublist (ptsJ js) := by
  induction js with
  | nil => simp [ptsJ]
  | cons p js ih =>
    have e : ptsJ (p :: js) = [p.1, p.2] ++ ptsJ js := rfl
    by_cases h : f p = true
    · rw [List.filter_cons_of_pos h]
      have e2 : ptsJ (p :: js.filter f) = [p.1, p.2] ++ ptsJ (js.filter f) := rfl
      rw [e, e2]
      exact (List.Sublist.refl _).append ih
    · rw [List.filter_cons_of_neg h, e]
      exact ih.trans (List.sublist_append_right _ _)
theorem pts_len : ∀ js : List Jt, js.length ≤ (ptsJ js).length
  | [] => by simp
  | p :: js => by
    have ih := pts_len js
    have e : ptsJ (p :: js) = p.1 :: p.2 :: ptsJ js := rfl
    rw [e, List.length_cons, List.length_cons, List.length_cons]
    omega
/-- a step leads to a lay -/
theorem lay_aft {L : Nat} {js : List Jt} (hl : Lay L js) {s : Stp} (hs : StepOk L js s) : Lay L (sortJ (aft js s)) := by
  refine mk_lay hl.pos hl.le (fun p hp => ?_) ?_
  · rcases List.mem_append.mp hp with h | h
    · exact hl.each p (List.mem_filter.mp h).1
    · exact hs.ad p h
  · have e : ptsJ (aft js s) = ptsJ (js.filter fun p => !decide (p ∈ s.1)) ++ ptsJ s.2 := by
      unfold aft ptsJ
      rw [List.flatMap_append]
    rw [e, List.nodup_append]
    refine ⟨(pts_filter_sub _ js).nodup hl.nd, hs.nd, fun a ha b hb w => ?_⟩
    subst w
    obtain ⟨p, hp, ep⟩ := pts_mem.mp ha
    obtain ⟨hp1, hp2⟩ := List.mem_filter.mp hp
    have hp2' : p ∉ s.1 := by simpa using hp2
    have hpa : a ∈ ptsJ js := pts_mem.mpr ⟨p, hp1, ep⟩
    rcases hs.at' a hb with h | h
    · exact h hpa
    · obtain ⟨q, hq, eq⟩ := pts_mem.mp h
      have hqj := hs.rm q hq
      have : p ≠ q := fun z => hp2' (z ▸ hq)
      have t := two_ends hl hp1 hqj this
      rcases ep with w | w <;> rcases eq with v | v <;> omega
section
variable {P : Program} {w : World} {K : PySem.W.Frag} {mg : Str → Option Value} {base : Heap}
/-! _law_after -/
abbrev s_after : Stmt := top 57
abbrev N_after : List Str := ["_law_lay_here", "_law_step_so", "_law_stay", "_law_joint"]
theorem sc_after : FnScope N_after ["_law_lay_here", "_law_step_so"] (defScope s_after) := ⟨rfl, rfl, rfl, by decide +kernel, rfl, by decide +kernel, by decide +kernel⟩
abbrev p_after (K : PySem.W.Frag) : Pr := PrF K (α := Nat × List Jt × Stp) (fun m => [eLay m.1 m.2.1, eS m.2.2]) (fun m => Lay m.1 m.2.1 ∧ StepOk m.1 m.2.1 m.2.2) fun m => eLay m.1 (sortJ (aft m.2.1 m.2.2))
theorem w_after {f : Addr} {fd : FuncData} (F : Fun K "_law_after" "_law_after" s_after f fd) (T : Bi mg) : FnG P w K mg base 1 f fd ["_law_lay_here", "_law_step_so"] (p_after K) := by
  refine fnP F sc_after (fun _ => rfl) fun cdv A outer s B H Q m room gd sb hp k => ?_
  obtain ⟨L, js, st⟩ := m
  obtain ⟨hl, hs⟩ : Lay L js ∧ StepOk L js st := hp
  have hlen := hl.len
  have hle := hl.le
  have hlf : (js.filter fun p => !decide (p ∈ st.1)).length ≤ js.length := List.length_filter_le _ _
  have hadl : st.2.length ≤ 100 := by
    have a1 := nd_len (2 * L) _ hs.nd fun z hz => by
      obtain ⟨p, hp, e⟩ := pts_mem.mp hz
      have := hs.ad p hp
      omega
    have a2 := pts_len st.2
    omega
  refine bd_lcm1 2 (ee := eJ) (xs := js) (f := fun p => !decide (p ∈ st.1)) (v := eJ) (own := [("_law_joint", 3)]) (js := [3]) (Γd := fun d => (wipeG _ [3]).set 3 (.dat d)) eJ_inj rfl sc_after.nd (blkOk_by (N := N_after) (sc := defScope s_after) (by decide +kernel)) (fun _ _ _ _ _ => pg_name (i := 3) sc_after.nd rfl (.inl rfl)) (it_tup (ed_js (L := L) (js := js) (ed_name 0 rfl))) (by omega) (by simp) (fun d hd => tg_one 3) (fun p hp s0 H0 C cl fp B' H' g' => et_nin (ds := st.1.map eJ) room.units (.inr rfl) (lay_eJ p) (lay_eJs st.1) (dep_eJ p) (by rw [in_eJ]) (ed_name 3 rfl) (ed_ixT (ds := [.tuple (st.1.map eJ), .tuple (st.2.map eJ)]) (k := 0) rfl rfl (ed_name 1 rfl) ed_int)) (fun p hp _ s0 H0 C cl fp B' H' g' => ed_name 3 rfl) fun B2 H2 g2 => ?_
  refine bd_ret (R := isD K (eLay L (sortJ (aft js st)))) (ed_tup (ds := [.int (L : Nat), .tuple ((sortJ (aft js st)).map eJ)]) (ea_cons (ed_lk (L := L) (js := js) (ed_name 0 rfl)) (ea_cons (ed_to (ed_tuple (.inl rfl) T.tuple (EL.ed (el_sorted room.units T.sorted (eJ_alike (aft js st)) (eJ_sortable _) (eJ_depth _) (ed_to (EL.ed (el_cat (by rw [List.length_map, List.length_map]; omega) (em_name 2 rfl) (EL.em (el_list (.inr rfl) T.list (ed_ixT (ds := [.tuple (st.1.map eJ), .tuple (st.2.map eJ)]) (k := 1) rfl rfl (ed_name 1 rfl) ed_int))))) (by rw [← List.map_append]; rfl))))) (by rw [sortD_eJ])) ea_nil)) (by show 2 ≤ 1000; decide)) fun v B4 H4 g4 r => k v _ B4 H4 rfl (g2.trans g4) r
end
end Dc
/-! The walks, eleventh part: _law_steps. -/
namespace Dc
open PySem PySem.Spec PyProof.Rows L2
section
variable {P : Program} {w : World} {K : PySem.W.Frag} {mg : Str → Option Value} {base : Heap}
abbrev s_steps : Stmt := top 56
abbrev N_steps : List Str := ["_law_lay_here", "_law_known", "_law_end", "_law_loose", "_law_found", "_law_k", "_law_joint", "_law_near", "_law_other", "_law_swap", "_law_made", "_law_far"]
theorem sc_steps : FnScope N_steps ["_law_lay_here"] (defScope s_steps) := ⟨rfl, rfl, rfl, by decide +kernel, rfl, by decide +kernel, by decide +kernel⟩
/-- what is found so far -/
structure Fnd (L : Nat) (js : List Jt) (n : Nat) (ss : List Stp) : Prop where
  ok : ∀ s ∈ ss, StepOk L js s
  len : ss.length ≤ n
theorem Fnd.snoc {L : Nat} {js : List Jt} {n : Nat} {ss : List Stp} {s : Stp} (F : Fnd L js n ss) (h : StepOk L js s) : Fnd L js (n + 1) (ss ++ [s]) :=
  ⟨fun t ht => by
    rcases List.mem_append.mp ht with q | q
    · exact F.ok t q
    · rw [List.mem_singleton] at q
      rw [q]
      exact h, by rw [List.length_append]; show _ + 1 ≤ _; have := F.len; omega⟩
theorem Fnd.up {L : Nat} {js : List Jt} {n m : Nat} {ss : List Stp} (F : Fnd L js n ss) (h : n ≤ m) : Fnd L js m ss := ⟨F.ok, Nat.le_trans F.len h⟩
abbrev p_steps (K : PySem.W.Frag) : Pr := PrR K (α := Nat × List Jt) (fun m => [eLay m.1 m.2]) (fun m => Lay m.1 m.2) fun m d => ∃ ss, d = .list (ss.map eS) ∧ ss ≠ [] ∧ ss.length ≤ 100000 ∧ ∀ s ∈ ss, StepOk m.1 m.2 s
theorem at_eN {ns : List Nat} {i : Nat} {d : PyData} (h : (ns.map eN)[i]? = some d) : ∃ z, ns[i]? = some z ∧ d = eN z := by
  rw [List.getElem?_map] at h
  cases q : ns[i]? with
  | none => rw [q] at h; cases h
  | some p => rw [q] at h; exact ⟨p, rfl, (Option.some.inj h).symm⟩
theorem w_steps {f : Addr} {fd : FuncData} (F : Fun K "_law_steps" "_law_steps" s_steps f fd) (T : Bi mg) (G1 : Has P w K mg base 1 "_law_mates" ["_law_lay_here"] (p_lmates K)) : FnG P w K mg base 2 f fd ["_law_lay_here"] (p_steps K) := by
  refine fnP F sc_steps (fun _ => rfl) fun cdv A outer s B H Q m room gd sb hp k => ?_
  let HH := H
  obtain ⟨L, js⟩ := m
  have hl : Lay L js := hp
  have hle := hl.le
  have hpos := hl.pos
  have hlen := hl.len
  have hlo := loose_len L js
  refine bd_setK 1 sc_steps.nd (ek_call G1 (L, js) room gd hl (ea_cons (ed_name 0 rfl) ea_nil)) fun q B1 H1 g1 hq0 hqb dk => ?_
  refine bd_par2 3 4 rfl sc_steps.nd (by decide) (el_lcm1 (ee := eN) (xs := List.range (2 * L)) (f := fun z => !((dmV (mt js) ((z : Nat) : Int)).isSome)) (v := eN) (own := [("_law_end", 2)]) (js := [2]) (Γd := fun d => (wipeG _ [2]).set 2 (.dat d)) eN_inj rfl sc_steps.nd (blkOk_by (N := N_steps) (sc := defScope s_steps) (by decide +kernel)) (fun _ _ _ _ _ => pg_name (i := 2) sc_steps.nd rfl (.inl rfl)) (rng0 (2 * L) ▸ it_rng1 (n := 2 * L) (by simp) (by omega) T.range (ed_mul (.inl ⟨by decide, by decide⟩) ed_int (ed_lk (L := L) (js := js) (ed_name 0 rfl)))) (by rw [List.length_range]; omega) (by simp) (fun d hd => tg_one 2) (fun z hz s0 H0 C cl fp B' H' g' => et_ninK 1 rfl (dk.same g'.h) room.units (ed_name 2 rfl)) (fun z hz _ s0 H0 C cl fp B' H' g' => ed_name 2 rfl)) (el_lst (ds := []) ea_nil) fun v1 v2 B2 H2 B3 H3 g2 r2 g3 r3 σ ok => ?_
  obtain ⟨l1, xs1, rfl, hl1, hx1, hb1, hd1⟩ := r2
  obtain ⟨l, xs, rfl, hl0, hlx, hlb, hld⟩ := r3
  have gA := (g1.trans g2).trans g3
  have hlH : H l = none := (g1.trans g2).h.free hl0
  obtain ⟨E1, gE1, sE1, bE1, oE1⟩ := fixG gA (g1.h.free hl1) (g3.h _ _ hx1)
  have n1 : l ≠ l1 := (ne_of_none hx1 hl0).symm
  have lE : E1 l = none := by rw [oE1 l n1]; exact hlb
  have m1 : Mt K E1 H3 l (([] : List Stp).map eS) := ⟨⟨xs, hlx, by cases hld; exact .nil⟩, lE⟩
  have ok' := ((ok.to sE1 gE1.bh).set 3 (s := .lst ((loose L js).map eN)) ⟨l1, xs1, rfl, bE1, dps_mono (g3.b.trans sE1) hd1⟩).set 4 (s := .raw (.ref l)) rfl
  refine (?_ : BD (bodyX P w K mg base N_steps "_law_steps" s_steps f cdv A outer s H) [.dat (eLay L js), .raw (.ref q), .unk, .lst ((loose L js).map eN), .raw (.ref l), .unk, .unk, .unk, .unk, .unk, .unk, .unk] E1 H3 _ _) _ ok'
  -- the joints
  refine bd_for (fun i Γ' B' H' => ∃ (s2 s5 s6 s7 s8 s9 s10 : Sl) (ss : List Stp), Γ' = [.dat (eLay L js), .raw (.ref q), s2, .lst ((loose L js).map eN), .raw (.ref l), s5, s6, s7, s8, s9, s10, .unk] ∧ Grow B H B' H' ∧ Mt K B' H' l (ss.map eS) ∧ Fnd L js (i * 1000) ss ∧ (0 < i → ss ≠ [])) rfl PassesOwn.never
    (pg_tup rfl (pgs_cons (pg_name (i := 5) sc_steps.nd rfl (.inl rfl)) (pgs_cons (pg_name (i := 6) sc_steps.nd rfl (.inl rfl)) pgs_nil))) (it_enumT T.enumerate (ed_js (L := L) (js := js) (ed_name 0 rfl))) (fun d hd Γ1 => tg_pr 5 6 (pr_numb d hd))
    (fun B4 H4 g4 => ⟨_, _, _, _, _, _, _, [], rfl, gE1.trans g4, m1.grow g4, ⟨nofun, by simp⟩, fun h => by omega⟩) ?_ ?_
  · rintro i d _ B4 H4 hd ⟨s2, s5, s6, s7, s8, s9, s10, ss, rfl, g4, m4, f4, _⟩ _ B5 H5 g5
    obtain ⟨e, he, rfl⟩ := at_numb hd
    obtain ⟨p, hpi, rfl⟩ := at_eJ he
    have hpm : p ∈ js := List.mem_of_getElem? hpi
    have hi : i < js.length := (List.getElem?_eq_some_iff.mp hpi).1
    have bp := hl.each p hpm
    refine bd_is (Γ' := [.dat (eLay L js), .raw (.ref q), s2, .lst ((loose L js).map eN), .raw (.ref l), .dat (.int (i : Nat)), .dat (eJ p), s7, s8, s9, s10, .unk]) rfl ?_
    have fl := f4.len
    refine bd_append (d := eS ([p], [])) 4 rfl (m4.grow g5) (by rw [List.length_map]; omega) (ed_tup (ds := [.tuple [eJ p], .tuple []]) (ea_cons (ed_tup (ds := [eJ p]) (ea_cons (ed_name 6 rfl) ea_nil) (by show 1 ≤ 1000; decide)) (ea_cons (ed_tup (ds := []) ea_nil) ea_nil)) (by show 2 ≤ 1000; decide)) fun B6 H6 g6 m6 H7 m7 o7 => ?_
    have g7 : Grow B H B6 H7 := ((g4.trans g5).trans g6).mut hlH m6.out o7
    have f7 : Fnd L js (i * 1000 + 1) (ss ++ [([p], [])]) := f4.snoc (st_one hpm)
    rw [show ss.map eS ++ [eS ([p], [])] = (ss ++ [([p], [])]).map eS by simp] at m7
    generalize hss : ss ++ [([p], [])] = ss1 at m7 f7
    have ne1 : ss1 ≠ [] := by rw [← hss]; simp
    -- for end in loose
    refine bd_for (fun i2 Γ' B' H' => ∃ (s2 s7 : Sl) (ss : List Stp), Γ' = [.dat (eLay L js), .raw (.ref q), s2, .lst ((loose L js).map eN), .raw (.ref l), .dat (.int (i : Nat)), .dat (eJ p), s7, s8, s9, s10, .unk] ∧ Grow B H B' H' ∧ Mt K B' H' l (ss.map eS) ∧ Fnd L js (i * 1000 + 1 + 2 * i2) ss ∧ ss ≠ []) rfl PassesOwn.never (pg_name (i := 2) sc_steps.nd rfl (.inl rfl)) (it_list (ed_nameL 3 rfl)) (fun d hd Γ1 => tg_one 2)
      (fun B8 H8 g8 => ⟨_, _, ss1, rfl, g7.trans g8, m7.grow g8, f7, ne1⟩) ?_ ?_
    · rintro i2 d2 _ B8 H8 hd2 ⟨s2', s7', ss2, rfl, g8, m8, f8, ne8⟩ _ B9 H9 g9
      obtain ⟨en, hen, rfl⟩ := at_eN hd2
      have henm : en ∈ loose L js := List.mem_of_getElem? hen
      have hi2 : i2 < (loose L js).length := (List.getElem?_eq_some_iff.mp hen).1
      refine bd_for (fun i3 Γ' B' H' => ∃ (s7 : Sl) (ss : List Stp), Γ' = [.dat (eLay L js), .raw (.ref q), .dat (eN en), .lst ((loose L js).map eN), .raw (.ref l), .dat (.int (i : Nat)), .dat (eJ p), s7, s8, s9, s10, .unk] ∧ Grow B H B' H' ∧ Mt K B' H' l (ss.map eS) ∧ Fnd L js (i * 1000 + 1 + 2 * i2 + i3) ss ∧ ss ≠ []) rfl PassesOwn.never (pg_name (i := 7) sc_steps.nd rfl (.inl rfl)) (it_tup (ds := [p.1, p.2].map eN) (ed_name 6 rfl)) (fun d hd Γ1 => tg_one 7)
        (fun B10 H10 g10 => ⟨_, ss2, rfl, (g8.trans g9).trans g10, (m8.grow g9).grow g10, f8, ne8⟩) ?_ ?_
      · rintro i3 d3 _ B10 H10 hd3 ⟨s7'', ss3, rfl, g10, m10, f10, ne10⟩ _ B11 H11 g11
        obtain ⟨z, hz, rfl⟩ := at_eN hd3
        have hzp : z = p.1 ∨ z = p.2 := by simpa using List.mem_of_getElem? hz
        have hi3 : i3 < 2 := (List.getElem?_eq_some_iff.mp hz).1
        have fl2 := f10.len
        refine bd_append (d := eS ([p], [(if en < z then en else z, if en > z then en else z)])) 4 rfl (m10.grow g11) (by rw [List.length_map]; omega) (ed_tup (ds := [.tuple [eJ p], .tuple [eJ (if en < z then en else z, if en > z then en else z)]]) (ea_cons (ed_tup (ds := [eJ p]) (ea_cons (ed_name 6 rfl) ea_nil) (by show 1 ≤ 1000; decide)) (ea_cons (ed_tup (ds := [eJ (if en < z then en else z, if en > z then en else z)]) (ea_cons (ed_tup (ds := [.int ((if en < z then en else z : Nat) : Int), .int ((if en > z then en else z : Nat) : Int)]) (ea_cons (ed_i (ed_min2 rfl T.min (ed_name 7 rfl) (ed_name 2 rfl)) ?_) (ea_cons (ed_i (ed_max2 rfl T.max (ed_name 7 rfl) (ed_name 2 rfl)) ?_) ea_nil)) (by show 2 ≤ 1000; decide)) ea_nil) (by show 1 ≤ 1000; decide)) ea_nil)) (by show 2 ≤ 1000; decide)) fun B12 H12 g12 m12 H13 m13 o13 => ?_
        · by_cases h : en < z
          · rw [if_pos h, if_pos (by omega)]
          · rw [if_neg h, if_neg (by omega)]
        · by_cases h : en > z
          · rw [if_pos h, if_pos (by omega)]
          · rw [if_neg h, if_neg (by omega)]
        · refine bd_turn rfl (Weak.refl _) g12.b ⟨_, ss3 ++ [([p], [(if en < z then en else z, if en > z then en else z)])], rfl, ((g10.trans g11).trans g12).mut hlH m12.out o13, ?_, f10.snoc (st_end hl hpm hzp henm), by simp⟩
          rw [List.map_append]
          exact m13
      · rintro _ B10 H10 ⟨s7'', ss3, rfl, g10, m10, f10, ne10⟩ s910
        exact bd_turn rfl (Weak.refl _) s910 ⟨_, _, ss3, rfl, g10, m10, f10.up (by show _ + 2 ≤ _; omega), ne10⟩
    · rintro _ B8 H8 ⟨s2', s7', ss2, rfl, g8, m8, f8, ne8⟩ s68
      rw [List.length_map] at f8
      -- for other in the joints behind
      refine bd_for (fun i2 Γ' B' H' => ∃ (s8 s9 s10 : Sl) (ss : List Stp), Γ' = [.dat (eLay L js), .raw (.ref q), s2', .lst ((loose L js).map eN), .raw (.ref l), .dat (.int (i : Nat)), .dat (eJ p), s7', s8, s9, s10, .unk] ∧ Grow B H B' H' ∧ Mt K B' H' l (ss.map eS) ∧ Fnd L js (i * 1000 + 100 + 2 * i2) ss ∧ ss ≠ []) rfl PassesOwn.never (pg_name (i := 8) sc_steps.nd rfl (.inl rfl)) (it_tup (ds := (js.drop (i + 1)).map eJ) (ed_to (ed_slFromT (k := i + 1) rfl (by omega) (by rw [List.length_map]; omega) (ed_js (L := L) (js := js) (ed_name 0 rfl)) (ed_i (ed_add (ed_name 5 rfl) ed_int) (by show ((i : Nat) : Int) + 1 = ((i + 1 : Nat) : Int); omega))) (by rw [List.map_drop]))) (fun d hd Γ1 => tg_one 8)
        (fun B9 H9 g9 => ⟨_, _, _, ss2, rfl, g8.trans g9, m8.grow g9, f8.up (by omega), ne8⟩) ?_ ?_
      · rintro i2 d2 _ B9 H9 hd2 ⟨s8', s9', s10', ss3, rfl, g9, m9, f9, ne9⟩ _ B10 H10 g10
        obtain ⟨r, hr, rfl⟩ := at_eJ hd2
        have hrm : r ∈ js := List.mem_of_mem_drop (List.mem_of_getElem? hr)
        have hi2 : i2 < (js.drop (i + 1)).length := (List.getElem?_eq_some_iff.mp hr).1
        rw [List.length_drop] at hi2
        have hpr : p ≠ r := fun z => by
          rw [List.getElem?_drop] at hr
          have h1 := (List.getElem?_eq_some_iff.mp hr)
          have h2 := (List.getElem?_eq_some_iff.mp hpi)
          have := List.pairwise_iff_getElem.mp hl.asc i (i + 1 + i2) h2.1 h1.1 (by omega)
          rw [h2.2, h1.2, z] at this
          omega
        have br := hl.each r hrm
        refine bd_for (fun i3 Γ' B' H' => ∃ (s9 s10 : Sl) (ss : List Stp), Γ' = [.dat (eLay L js), .raw (.ref q), s2', .lst ((loose L js).map eN), .raw (.ref l), .dat (.int (i : Nat)), .dat (eJ p), s7', .dat (eJ r), s9, s10, .unk] ∧ Grow B H B' H' ∧ Mt K B' H' l (ss.map eS) ∧ Fnd L js (i * 1000 + 100 + 2 * i2 + i3) ss ∧ ss ≠ []) rfl PassesOwn.never (pg_name (i := 9) sc_steps.nd rfl (.inl rfl)) (it_tup (ds := [(r.1, r.2), (r.2, r.1)].map eJ) (ed_tup (ds := [eJ r, eJ (r.2, r.1)]) (ea_cons (ed_name 8 rfl) (ea_cons (ed_rev2 (da := .int (r.1 : Nat)) (db := .int (r.2 : Nat)) (ed_name 8 rfl)) ea_nil)) (by show 2 ≤ 1000; decide))) (fun d hd Γ1 => tg_one 9)
          (fun B11 H11 g11 => ⟨_, _, ss3, rfl, (g9.trans g10).trans g11, (m9.grow g10).grow g11, f9, ne9⟩) ?_ ?_
        · rintro i3 d3 _ B11 H11 hd3 ⟨s9'', s10'', ss4, rfl, g11, m11, f11, ne11⟩ _ B12 H12 g12
          obtain ⟨⟨a, b⟩, hab, rfl⟩ := at_eJ hd3
          have hab2 : (a = r.1 ∧ b = r.2) ∨ (a = r.2 ∧ b = r.1) := by
            have := List.mem_of_getElem? hab
            simp only [List.mem_cons, List.not_mem_nil, or_false, Prod.mk.injEq] at this
            exact this
          have hi3 : i3 < 2 := (List.getElem?_eq_some_iff.mp hab).1
          have te := two_ends hl hpm hrm hpr
          have n1 : p.1 ≠ a := by rcases hab2 with w | w <;> omega
          have n2 : p.2 ≠ b := by rcases hab2 with w | w <;> omega
          have srt : ∀ (X : Cx) (Γ : List Sl) (B H : Hp) (e1 e2 : Expr) (p1 p2 p3 p4 p5 : Pos) (u v : Nat), u ≠ v → X = bodyX P w K mg base N_steps "_law_steps" s_steps f cdv A outer s HH → ED X Γ B H e1 (.int (u : Nat)) → ED X Γ B H e2 (.int (v : Nat)) → starEach [e1, e2] X.env = (false, eval e1 X.env) :: starEach [e2] X.env → starEach [e2] X.env = (false, eval e2 X.env) :: starEach [] X.env → ED X Γ B H (.Call (.Name "tuple" p1) [.Call (.Name "sorted" p2) [.List [e1, e2] p3] [] p4] [] p5) (eJ (jo u v)) := by
            intro X Γ B H e1 e2 p1 p2 p3 p4 p5 u v huv hX h1 h2 h3 h4
            subst hX
            refine ed_to (ed_tuple (.inl rfl) T.tuple (EL.ed (el_sorted room.units T.sorted (ints_alike [((u : Nat) : Int), ((v : Nat) : Int)]) (ints_sortable _) (ints_depth _) (EL.ed (el_lst (ds := [.int (u : Nat), .int (v : Nat)]) (ea_cons h1 (ea_cons h2 ea_nil h4) h3) (by show 2 ≤ 1000; decide)))))) ?_
            rw [sortD_int, sort2 huv]
            rfl
          refine bd_setL 10 sc_steps.nd (ds := [jo p.1 a, jo p.2 b].map eJ) (el_lst (ea_cons (srt _ _ _ _ _ _ _ _ _ _ _ p.1 a n1 rfl (ed_j0 (r := p) (ed_name 6 rfl)) (ed_j0 (r := (a, b)) (ed_name 9 rfl)) rfl rfl) (ea_cons (srt _ _ _ _ _ _ _ _ _ _ _ p.2 b n2 rfl (ed_j1 (r := p) (ed_name 6 rfl)) (ed_j1 (r := (a, b)) (ed_name 9 rfl)) rfl rfl) ea_nil)) (by show 2 ≤ 1000; decide)) fun B13 H13 g13 => ?_
          have fl2 := f11.len
          refine bd_append (d := eS ([p, r], sortJ [jo p.1 a, jo p.2 b])) 4 rfl ((m11.grow g12).grow g13) (by rw [List.length_map]; omega) (ed_tup (ds := [.tuple [eJ p, eJ r], .tuple ((sortJ [jo p.1 a, jo p.2 b]).map eJ)]) (ea_cons (ed_tup (ds := [eJ p, eJ r]) (ea_cons (ed_name 6 rfl) (ea_cons (ed_name 8 rfl) ea_nil)) (by show 2 ≤ 1000; decide)) (ea_cons (ed_to (ed_tuple (.inl rfl) T.tuple (EL.ed (el_sorted room.units T.sorted (eJ_alike [jo p.1 a, jo p.2 b]) (eJ_sortable _) (eJ_depth _) (ed_nameL 10 rfl)))) (by rw [sortD_eJ])) ea_nil)) (by show 2 ≤ 1000; decide)) fun B14 H14 g14 m14 H15 m15 o15 => ?_
          refine bd_turn rfl (Weak.refl _) (g13.b.trans g14.b) ⟨_, _, ss4 ++ [([p, r], sortJ [jo p.1 a, jo p.2 b])], rfl, (((g11.trans g12).trans g13).trans g14).mut hlH m14.out o15, ?_, f11.snoc (st_swap hl hpm hrm hpr hab2), by simp⟩
          rw [List.map_append]
          exact m15
        · rintro _ B11 H11 ⟨s9'', s10'', ss4, rfl, g11, m11, f11, ne11⟩ s1011
          exact bd_turn rfl (Weak.refl _) s1011 ⟨_, _, _, ss4, rfl, g11, m11, f11.up (by show _ + 2 ≤ _; omega), ne11⟩
      · rintro _ B9 H9 ⟨s8', s9', s10', ss3, rfl, g9, m9, f9, ne9⟩ s89
        rw [List.length_map, List.length_drop] at f9
        exact bd_turn rfl (Weak.refl _) ((g6.b.trans s68).trans s89) ⟨_, _, _, _, _, _, _, ss3, rfl, g9, m9, f9.up (by omega), fun _ => ne9⟩
  · rintro _ B4 H4 ⟨s2, s5, s6, s7, s8, s9, s10, ss, rfl, g4, m4, f4, n4⟩ s14
    rw [numb_len, List.length_map] at f4 n4
    have lasc := loose_asc L js
    -- pairs of loose ends
    refine bd_for (fun i Γ' B' H' => ∃ (s5 s7 s11 : Sl) (ss : List Stp), Γ' = [.dat (eLay L js), .raw (.ref q), s2, .lst ((loose L js).map eN), .raw (.ref l), s5, s6, s7, s8, s9, s10, s11] ∧ Grow B H B' H' ∧ Mt K B' H' l (ss.map eS) ∧ Fnd L js (24000 + i * 100) ss ∧ ((0 < js.length ∨ (0 < i ∧ 2 ≤ (loose L js).length)) → ss ≠ [])) rfl PassesOwn.never
      (pg_tup rfl (pgs_cons (pg_name (i := 5) sc_steps.nd rfl (.inl rfl)) (pgs_cons (pg_name (i := 7) sc_steps.nd rfl (.inl rfl)) pgs_nil))) (it_enum T.enumerate (ed_nameL 3 rfl)) (fun d hd Γ1 => tg_pr 5 7 (pr_numb d hd))
      (fun B5 H5 g5 => ⟨_, _, _, ss, rfl, g4.trans g5, m4.grow g5, f4.up (by omega), fun h => n4 (by omega)⟩) ?_ ?_
    · rintro i d _ B5 H5 hd ⟨s5', s7', s11, ss1, rfl, g5, m5, f5, n5⟩ _ B6 H6 g6
      obtain ⟨e, he, rfl⟩ := at_numb hd
      obtain ⟨z, hz, rfl⟩ := at_eN he
      have hzm : z ∈ loose L js := List.mem_of_getElem? hz
      have hi : i < (loose L js).length := (List.getElem?_eq_some_iff.mp hz).1
      refine bd_is (Γ' := [.dat (eLay L js), .raw (.ref q), s2, .lst ((loose L js).map eN), .raw (.ref l), .dat (.int (i : Nat)), s6, .dat (eN z), s8, s9, s10, s11]) rfl ?_
      refine bd_for (fun i2 Γ' B' H' => ∃ (s11 : Sl) (ss : List Stp), Γ' = [.dat (eLay L js), .raw (.ref q), s2, .lst ((loose L js).map eN), .raw (.ref l), .dat (.int (i : Nat)), s6, .dat (eN z), s8, s9, s10, s11] ∧ Grow B H B' H' ∧ Mt K B' H' l (ss.map eS) ∧ Fnd L js (24000 + i * 100 + i2) ss ∧ ((0 < js.length ∨ (0 < i ∧ 2 ≤ (loose L js).length) ∨ 0 < i2) → ss ≠ [])) rfl PassesOwn.never (pg_name (i := 11) sc_steps.nd rfl (.inl rfl)) (it_list (ds := ((loose L js).drop (i + 1)).map eN) (ed_to (EL.ed (el_slFrom (k := i + 1) rfl (ed_nameL 3 rfl) (ed_i (ed_add (ed_name 5 rfl) ed_int) (by show ((i : Nat) : Int) + 1 = ((i + 1 : Nat) : Int); omega)))) (by rw [List.map_drop]))) (fun d hd Γ1 => tg_one 11)
        (fun B7 H7 g7 => ⟨_, ss1, rfl, (g5.trans g6).trans g7, (m5.grow g6).grow g7, f5, fun h => n5 (by omega)⟩) ?_ ?_
      · rintro i2 d2 _ B7 H7 hd2 ⟨s11', ss2, rfl, g7, m7, f7, n7⟩ _ B8 H8 g8
        obtain ⟨y, hy, rfl⟩ := at_eN hd2
        have hi2 : i2 < ((loose L js).drop (i + 1)).length := (List.getElem?_eq_some_iff.mp hy).1
        rw [List.length_drop] at hi2
        have hym : y ∈ loose L js := List.mem_of_mem_drop (List.mem_of_getElem? hy)
        have hzy : z < y := by
          rw [List.getElem?_drop] at hy
          have h1 := (List.getElem?_eq_some_iff.mp hy)
          have h2 := (List.getElem?_eq_some_iff.mp hz)
          have := List.pairwise_iff_getElem.mp lasc i (i + 1 + i2) h2.1 h1.1 (by omega)
          rw [h2.2, h1.2] at this
          exact this
        have fl2 := f7.len
        refine bd_append (d := eS ([], [(z, y)])) 4 rfl (m7.grow g8) (by rw [List.length_map]; omega) (ed_tup (ds := [.tuple [], .tuple [eJ (z, y)]]) (ea_cons (ed_tup (ds := []) ea_nil) (ea_cons (ed_tup (ds := [eJ (z, y)]) (ea_cons (ed_tup (ds := [.int (z : Nat), .int (y : Nat)]) (ea_cons (ed_name 7 rfl) (ea_cons (ed_name 11 rfl) ea_nil)) (by show 2 ≤ 1000; decide)) ea_nil) (by show 1 ≤ 1000; decide)) ea_nil)) (by show 2 ≤ 1000; decide)) fun B9 H9 g9 m9 H10 m10 o10 => ?_
        refine bd_turn rfl (Weak.refl _) g9.b ⟨_, ss2 ++ [([], [(z, y)])], rfl, ((g7.trans g8).trans g9).mut hlH m9.out o10, ?_, f7.snoc (st_two hl hzm hym hzy), fun _ => by simp⟩
        rw [List.map_append]
        exact m10
      · rintro _ B7 H7 ⟨s11', ss2, rfl, g7, m7, f7, n7⟩ s67
        rw [List.length_map, List.length_drop] at f7 n7
        exact bd_turn rfl (Weak.refl _) s67 ⟨_, _, _, ss2, rfl, g7, m7, f7.up (by omega), fun h => n7 (by omega)⟩
    · rintro _ B5 H5 ⟨s5', s7', s11, ss1, rfl, g5, m5, f5, n5⟩ _
      rw [numb_len, List.length_map] at f5 n5
      have ne : ss1 ≠ [] := n5 (by
        by_cases h : 0 < js.length
        · exact .inl h
        · right
          have hj : js = [] := List.length_eq_zero_iff.mp (by omega)
          have : (loose L js).length = 2 * L := by
            have e : loose L js = List.range (2 * L) := by
              unfold loose
              rw [List.filter_eq_self]
              intro z _
              rw [hj, dmV_nat]
              rfl
            rw [e, List.length_range]
          omega)
      refine bd_fixM 4 rfl m5 fun B8 s8 f8 => ?_
      have g8 := f8 B H g5 hlH
      have fl2 := f5.len
      refine bd_ret (R := isD K (.list ((sortS ss1).map eS))) (ed_to (EL.ed (el_sorted room.units T.sorted (eS_alike ss1) (eS_sortable ss1) (eS_depth _) (ed_nameL 4 rfl))) (by rw [sortD_eS])) fun v B9 H9 g9 r9 => k v _ B9 H9 ⟨sortS ss1, rfl, fun z => ne (List.Perm.nil_eq (z ▸ (sortS_perm ss1))).symm, by rw [(sortS_perm ss1).length_eq]; omega, fun t ht => f5.ok t ((sortS_perm ss1).mem_iff.mp ht)⟩ (g8.trans g9) r9
end
end Dc
/-! The walks, twelfth part: _law_measure_right, _law_hand_right. -/
namespace Dc
open PySem PySem.Spec PyProof.Rows L2
/-! small data can be shown -/
structure Sm (d : PyData) (w k : Nat) : Prop where
  sh : d.showable = true
  nd : d.hasDict = false
  lf : d.leavesShort 8 = true
  we : d.weight ≤ w
  dp : d.depth ≤ k
theorem sm_int {i : Int} (h0 : 0 ≤ i) (h : i < 1000) : Sm (.int i) 11 0 := by
  have hn : i.natAbs < 2 ^ 10 := by omega
  have hl : i.natAbs ≠ 0 → i.natAbs.log2 < 10 := fun z => (Nat.log2_lt z).mpr hn
  have hl2 : i.natAbs.log2 < 10 := by
    by_cases z : i.natAbs = 0
    · rw [z]; decide
    · exact hl z
  refine ⟨?_, by simp only [PyData.hasDict], ?_, ?_, by simp only [PyData.depth]; exact Nat.le_refl _⟩
  · simp only [PyData.showable, decide_eq_true_eq]
    omega
  · simp only [PyData.leavesShort, decide_eq_true_eq, PyData.shown]
    have := PyProof.Rows.toString_length_le (v := i) h0 (k := 3) (by decide) (by omega)
    exact decide_eq_true (Nat.le_trans this (by decide : 3 ≤ 8))
  · simp only [PyData.weight]
    split <;> omega
theorem sm_bool (b : Bool) : Sm (.bool b) 0 0 := ⟨by simp only [PyData.showable], by simp only [PyData.hasDict], by simp only [PyData.leavesShort], by simp only [PyData.weight]; exact Nat.le_refl _, by simp only [PyData.depth]; exact Nat.le_refl _⟩
theorem sm_kd (k : Kd) : Sm (.str (kdS k)) 11 0 := by
  refine ⟨by simp only [PyData.showable], by simp only [PyData.hasDict], ?_, ?_, by simp only [PyData.depth]; exact Nat.le_refl _⟩
  · simp only [PyData.leavesShort]
    cases k <;> decide +kernel
  · simp only [PyData.weight]
    cases k <;> decide +kernel
theorem sm_all {w k : Nat} : ∀ ds : List PyData, (∀ d ∈ ds, Sm d w k) → PyData.showableAll ds = true ∧ PyData.hasDictAll ds = false ∧ PyData.leavesShortAll 8 ds = true ∧ PyData.weightAll ds ≤ (w + 1) * ds.length ∧ PyData.depthAll ds ≤ k
  | [], _ => ⟨by simp only [PyData.showableAll], by simp only [PyData.hasDictAll], by simp only [PyData.leavesShortAll], by simp [PyData.weightAll], by simp [PyData.depthAll]⟩
  | d :: ds, h => by
    obtain ⟨a, b, c, e, f⟩ := sm_all ds fun x hx => h x (List.mem_cons_of_mem _ hx)
    have hd := h d List.mem_cons_self
    refine ⟨by simp only [PyData.showableAll, hd.sh, a, Bool.and_self], by simp only [PyData.hasDictAll, hd.nd, b, Bool.or_self], by simp only [PyData.leavesShortAll, hd.lf, c, Bool.and_self], ?_, ?_⟩
    · simp only [PyData.weightAll, List.length_cons]
      have := hd.we
      rw [Nat.mul_add]
      omega
    · simp only [PyData.depthAll]
      have := hd.dp
      omega
theorem sm_list {w k : Nat} {ds : List PyData} (h : ∀ d ∈ ds, Sm d w k) : Sm (.list ds) ((w + 1) * ds.length) (k + 1) := by
  obtain ⟨a, b, c, e, f⟩ := sm_all ds h
  exact ⟨by simp only [PyData.showable, a], by simp only [PyData.hasDict, b], by simp only [PyData.leavesShort, c], by simp only [PyData.weight]; exact e, by simp only [PyData.depth]; omega⟩
theorem sm_tup {w k : Nat} {ds : List PyData} (h : ∀ d ∈ ds, Sm d w k) : Sm (.tuple ds) ((w + 1) * ds.length) (k + 1) := by
  obtain ⟨a, b, c, e, f⟩ := sm_all ds h
  exact ⟨by simp only [PyData.showable, a], by simp only [PyData.hasDict, b], by simp only [PyData.leavesShort, c], by simp only [PyData.weight]; exact e, by simp only [PyData.depth]; omega⟩
theorem Sm.up {d : PyData} {w k w' k' : Nat} (h : Sm d w k) (hw : w ≤ w') (hk : k ≤ k') : Sm d w' k' := ⟨h.sh, h.nd, h.lf, Nat.le_trans h.we hw, Nat.le_trans h.dp hk⟩
/-- what _law_like asks -/
theorem Sm.like {d : PyData} {w k : Nat} (h : Sm d w k) (hd : isDisplay d = true) (hw : w ≤ 1000000) (hk : k ≤ 60) : isDisplay d = true ∧ d.showable = true ∧ d.hasDict = false ∧ d.depth ≤ 60 ∧ d.shown.length ≤ sizeLine :=
  ⟨hd, h.sh, h.nd, Nat.le_trans h.dp hk, PyData.shown_fits (B := 8) (by decide) (by decide) h.lf (Nat.le_trans h.we (Nat.le_trans hw (by decide)))⟩
theorem eqv_eJs : ∀ a b : List Jt, PyData.eqvAll (a.map eJ) (b.map eJ) = decide (a = b)
  | [], [] => by simp [PyData.eqvAll]
  | [], _ :: _ => by simp [PyData.eqvAll]
  | _ :: _, [] => by simp [PyData.eqvAll]
  | p :: a, q :: b => by
    show PyData.eqvAll (eJ p :: a.map eJ) (eJ q :: b.map eJ) = _
    rw [PyData.eqvAll, eqv_eJ, eqv_eJs a b]
    by_cases h1 : p = q
    · by_cases h2 : a = b
      · subst h1 h2
        simp
      · simp [h2]
    · simp [h1]
theorem eqv_eLay (L : Nat) (a b : List Jt) : PyData.eqv (eLay L a) (eLay L b) = decide (a = b) := by
  have e : PyData.eqv (eLay L a) (eLay L b) = (PyData.eqv (.int (L : Nat)) (.int (L : Nat)) && PyData.eqvAll (a.map eJ) (b.map eJ)) := by simp [eLay, PyData.eqv, PyData.eqvAll]
  rw [e, eqv_int, eqv_eJs]
  simp
theorem lay_eLay (L : Nat) (a : List Jt) : PyData.canLay0 (eLay L a) = true := by simp [eLay, PyData.canLay0, PyData.canLayAll0, lay_eJs]
theorem dep_eLay (L : Nat) (a : List Jt) : PyData.depth (eLay L a) ≤ 60 := by
  have := depA_eJs a
  simp [eLay, PyData.depth, PyData.depthAll]
  omega
/-- the tests' lays -/
def hL : List (List Jt) := [[], [(1, 2)], [(0, 3), (1, 2)], [(0, 2), (1, 3)], [(0, 1), (2, 3)]]
def hD : List (List Int) := [[0, 1, 2, 2, 2], [1, 0, 1, 2, 2], [2, 1, 0, 1, 1], [2, 2, 1, 0, 1], [2, 2, 1, 1, 0]]
/-- what the plain law must show -/
structure Facts : Prop where
  same : ∀ L j1 j2, Lay L j1 → Lay L j2 → pcsH L j1 j2 = pcs L j1 j2
  costH : ∀ L j1 j2, Lay L j1 → Lay L j2 → costH L j1 j2 = cost L j1 j2
  sym : ∀ L j1 j2, Lay L j1 → Lay L j2 → cost L j1 j2 = cost L j2 j1
  zero : ∀ L j1 j2, Lay L j1 → Lay L j2 → (cost L j1 j2 = 0 ↔ j1 = j2)
  pos : ∀ L j1 j2, Lay L j1 → Lay L j2 → 0 ≤ cost L j1 j2
  le : ∀ L j1 j2, Lay L j1 → Lay L j2 → cost L j1 j2 ≤ (L : Nat)
  tri : ∀ L j1 j2 j3, Lay L j1 → Lay L j2 → Lay L j3 → cost L j1 j2 ≤ cost L j1 j3 + cost L j3 j2
  renL : ∀ L j os, Lay L j → IsOrd L os → Lay L (sortJ (ren os j))
  ren : ∀ L j1 j2 os, Lay L j1 → Lay L j2 → IsOrd L os → pcs L (sortJ (ren os j1)) (sortJ (ren os j2)) = pcs L j1 j2
  besL : ∀ L M j1 j2, Lay L j1 → Lay M j2 → L + M ≤ 12 → Lay (L + M) (sortJ (bes L j1 j2))
  bes : ∀ L M j1 j2 j3 j4, Lay L j1 → Lay M j2 → Lay L j3 → Lay M j4 → L + M ≤ 12 → cost (L + M) (sortJ (bes L j1 j2)) (sortJ (bes L j3 j4)) = cost L j1 j3 + cost M j2 j4
  woL : ∀ L j n, Lay L j → n < L → 2 ≤ L → Lay (L - 1) (sortJ (wo j n))
  wo : ∀ L j1 j2 n, Lay L j1 → Lay L j2 → n < L → 2 ≤ L → cost (L - 1) (sortJ (wo j1 n)) (sortJ (wo j2 n)) ≤ cost L j1 j2
  knd : ∀ L j1 j2, Lay L j1 → Lay L j2 → (L : Int) - (knd L j1 j2).getD 0 0 - (knd L j1 j2).getD 1 0 / 2 = cost L j1 j2
  sgl : ∀ L j1 j2, Lay L j1 → Lay L j2 → cost L j1 j2 ≤ sgl j1 j2 ∧ sgl j1 j2 ≤ 4 * cost L j1 j2
  hand : hL.map (fun a => hL.map fun b => cost 2 a b) = hD
section
variable {X : Cx} {Γ : List Sl} {B H : Hp} {pos p : Pos} {x : Str} {k : Nat} {sp : Pr}
theorem we_call0 {σ : L2.St} {Q : VK} (F : Has X.prog X.w X.K X.mg X.base k x [] sp) (hr : Room k X.A) (hg : X.A.guards = some []) (hgl : Gl X x) (h : sp [] H Q)
    (hdb : (x == ("__debug__" : Str)) = false := by decide) : WE X (.Call (.Name x p) [] [] pos) σ H Q := by
  intro pins s I
  obtain ⟨f, fd, G, hm, hk, hb⟩ := F.is
  refine wpAny_Call_Name_kw (ld_glob I hgl hm ?_ hdb)
  refine PySem.W.callWith_K0 I.kIn hk ?_
  have bi : BindsTo s fd ⟨[], []⟩ (([] : List Str).zip []) := hb s [] I.kIn rfl
  refine wpAny_call (codeAny_mono (G.run X.A X.stack s H ⟨[], []⟩ [] [] Q hr hg I.env0 bi .nil h) fun r s' hq => ?_)
  cases r with
  | error e => exact False.elim hq
  | ok fl =>
    cases fl with
    | ret u => exact I.after hq
    | next => exact False.elim hq
    | brk => exact False.elim hq
    | cont => exact False.elim hq
theorem ed_call0 {α : Type} {args : α → List PyData} {pre : α → Prop} {f : α → PyData} (F : Has X.prog X.w X.K X.mg X.base k x [] (PrF X.K args pre f)) (m : α) (hr : Room k X.A) (hg : X.A.guards = some []) (hp : pre m) (ha : args m = []) (hgl : Gl X x := by rfl)
    (hdb : (x == ("__debug__" : Str)) = false := by decide) : ED X Γ B H (.Call (.Name x p) [] [] pos) (f m) := fun σ B1 H1 g ok Q q =>
  we_call0 F hr hg hgl ⟨B1, m, ok.same, by rw [ha]; exact .nil, hp, fun v d B2 H2 e g2 dd => q v B2 H2 g2 (by show Dp X.K B2 v (f m); rw [← e]; exact dd)⟩ hdb
end
section
variable {P : Program} {w : World} {K : PySem.W.Frag} {mg : Str → Option Value} {base : Heap}
/-! _law_measure_right -/
abbrev s_measure : Stmt := top 60
abbrev N_measure : List Str := ["_law_some", "_law_one", "_law_far", "_law_table", "_law_k", "_law_j", "_law_i", "_law_mid", "_law_by_way"]
theorem sc_measure : FnScope N_measure ["_law_some"] (defScope s_measure) := ⟨rfl, rfl, rfl, by decide +kernel, rfl, by decide +kernel, by decide +kernel⟩
abbrev p_measure (K : PySem.W.Frag) : Pr := PrF K (α := Nat × List (List Jt)) (fun m => [.list (m.2.map (eLay m.1))]) (fun m => (∀ j ∈ m.2, Lay m.1 j) ∧ m.2.length ≤ 10) fun _ => .bool true
theorem at_eLay {L : Nat} {xs : List (List Jt)} {i : Nat} {d : PyData} (h : (xs.map (eLay L))[i]? = some d) : ∃ z, xs[i]? = some z ∧ d = eLay L z := by
  rw [List.getElem?_map] at h
  cases q : xs[i]? with
  | none => rw [q] at h; cases h
  | some p => rw [q] at h; exact ⟨p, rfl, (Option.some.inj h).symm⟩
theorem sm_table {L : Nat} (MF : Facts) {xs : List (List Jt)} (hx : ∀ j ∈ xs, Lay L j) (hl : xs.length ≤ 10) : Sm (.list (xs.map fun a => .list (xs.map fun b => .int (cost L a b)))) 1210 2 := by
  refine (sm_list (w := 120) (k := 1) fun d hd => ?_).up (by rw [List.length_map]; omega) (Nat.le_refl _)
  obtain ⟨a, ha, rfl⟩ := List.mem_map.mp hd
  refine (sm_list (w := 11) (k := 0) fun d hd => ?_).up (by rw [List.length_map]; omega) (Nat.le_refl _)
  obtain ⟨b, hb, rfl⟩ := List.mem_map.mp hd
  have h1 := MF.pos L a b (hx a ha) (hx b hb)
  have h2 := MF.le L a b (hx a ha) (hx b hb)
  have := (hx a ha).le
  exact sm_int h1 (by omega)
theorem w_measure {f : Addr} {fd : FuncData} (F : Fun K "_law_measure_right" "_law_measure_right" s_measure f fd) (T : Bi mg) (MF : Facts) (G1 : Has P w K mg base 6 "least_steps" ["one", "other"] (p_least_steps K)) (G2 : Has P w K mg base 6 "_law_cost" ["_law_one", "_law_other"] (p_lcost K)) (G3 : Has P w K mg base 6 "_law_like" ["_law_got", "_law_due"] (p_like K)) (G4 : Has P w K mg base 6 "is_between" ["one", "third", "other"] (p_is_between K)) : FnG P w K mg base 7 f fd ["_law_some"] (p_measure K) := by
  refine fnP F sc_measure (fun _ => rfl) fun cdv A outer s B H Q m room gd sb hp k => ?_
  let HH := H
  obtain ⟨L, xs⟩ := m
  obtain ⟨hx, hl⟩ : (∀ j ∈ xs, Lay L j) ∧ xs.length ≤ 10 := hp
  have hD := (sm_table MF hx hl).like rfl (by decide) (by decide)
  refine bd_lcm0 3 (ee := eLay L) (xs := xs) (v := fun a => .list (xs.map fun b => .int (cost L a b))) (own := [("_law_one", 1)]) (js := [1]) (Γd := fun d => (wipeG _ [1]).set 1 (.dat d)) (eLay_inj L) rfl sc_measure.nd (blkOk_by (N := N_measure) (sc := defScope s_measure) (by decide +kernel)) (fun _ _ _ _ _ => pg_name (i := 1) sc_measure.nd rfl (.inr rfl)) (it_list (ed_name 0 rfl)) (by omega) (by simp) (fun d hd => tg_one 1) (fun a ha s0 H0 C cl fp B' H' g' => EL.ed (el_lcm0 (ee := eLay L) (xs := xs) (v := fun b => .int (cost L a b)) (own := [("_law_far", 2)]) (js := [2]) (Γd := fun d => (wipeG _ [2]).set 2 (.dat d)) (eLay_inj L) rfl sc_measure.nd (blkOk_by (N := N_measure) (sc := { kind := .function, names := [(".0", .local), ("_law_one", .cell), ("_law_some", .cell)], isGenerator := false, isCoroutine := false }) (by decide +kernel)) (fun _ _ _ _ _ => pg_name (i := 2) sc_measure.nd rfl (.inl rfl)) (it_list (ed_name 0 rfl)) (by omega) (by simp) (fun d hd => tg_one 2) (fun b hb s1 H1 C1 cl1 fp1 B'' H'' g'' => ed_to (ed_call G1 (L, a, b) room gd ⟨hx a ha, hx b hb⟩ (ea_cons (ed_name 1 rfl) (ea_cons (ed_name 2 rfl) ea_nil))) rfl))) fun B2 H2 g2 => ?_
  refine bd_skip (et_not (x := true) (et_val (by intro _; rfl) (ed_to (ed_call G3 (PyData.list (xs.map fun a => .list (xs.map fun b => .int (cost L a b)))) room gd hD (ea_cons (ed_nameL 3 rfl) (ea_cons (EL.ed (el_lcm0 (ee := eLay L) (xs := xs) (v := fun a => .list (xs.map fun b => .int (cost L a b))) (own := [("_law_one", 1)]) (js := [1]) (Γd := fun d => (wipeG _ [1]).set 1 (.dat d)) (eLay_inj L) rfl sc_measure.nd (blkOk_by (N := N_measure) (sc := defScope s_measure) (by decide +kernel)) (fun _ _ _ _ _ => pg_name (i := 1) sc_measure.nd rfl (.inr rfl)) (it_list (ed_name 0 rfl)) (by omega) (by simp) (fun d hd => tg_one 1) (fun a ha s0 H0 C cl fp B' H' g' => EL.ed (el_lcm0 (ee := eLay L) (xs := xs) (v := fun b => .int (cost L a b)) (own := [("_law_far", 2)]) (js := [2]) (Γd := fun d => (wipeG _ [2]).set 2 (.dat d)) (eLay_inj L) rfl sc_measure.nd (blkOk_by (N := N_measure) (sc := { kind := .function, names := [(".0", .local), ("_law_one", .cell), ("_law_some", .cell)], isGenerator := false, isCoroutine := false }) (by decide +kernel)) (fun _ _ _ _ _ => pg_name (i := 2) sc_measure.nd rfl (.inl rfl)) (it_list (ed_name 0 rfl)) (by omega) (by simp) (fun d hd => tg_one 2) (fun b hb s1 H1 C1 cl1 fp1 B'' H'' g'' => ed_to (ed_call G2 (L, a, b) room gd ⟨hx a ha, hx b hb⟩ (ea_cons (ed_name 1 rfl) (ea_cons (ed_name 2 rfl) ea_nil))) (by show PyData.int (costH L a b) = PyData.int (cost L a b); rw [MF.costH L a b (hx a ha) (hx b hb)])))))) ea_nil))) rfl))) rfl fun B3 H3 g3 => ?_
  have gA := g2.trans g3
  -- table[a][b]
  have tab : ∀ (Γ : List Sl) (B H : Hp) (e1 e2 : Expr) (p1 p2 p3 : Pos) (i j : Nat) (a b : List Jt), Γ[3]? = some (.lst (xs.map fun a => .list (xs.map fun b => .int (cost L a b)))) → xs[i]? = some a → xs[j]? = some b → ED (bodyX P w K mg base N_measure "_law_measure_right" s_measure f cdv A outer s HH) Γ B H e1 (.int (i : Nat)) → ED (bodyX P w K mg base N_measure "_law_measure_right" s_measure f cdv A outer s HH) Γ B H e2 (.int (j : Nat)) → PlainIx e1 → PlainIx e2 → ED (bodyX P w K mg base N_measure "_law_measure_right" s_measure f cdv A outer s HH) Γ B H (.Subscript (.Subscript (.Name "_law_table" p1) e1 p2) e2 p3) (.int (cost L a b)) := fun Γ B H e1 e2 p1 p2 p3 i j a b h3 hi hj he1 he2 n1 n2 =>
    ed_ixL (ds := xs.map fun b => .int (cost L a b)) (k := j) (by rw [List.getElem?_map, hj]; rfl) rfl (ed_ixL (ds := xs.map fun a => .list (xs.map fun b => .int (cost L a b))) (k := i) (by rw [List.getElem?_map, hi]; rfl) rfl (ed_nameL 3 h3) he1 n1) he2 n2
  refine bd_for (fun i Γ' B' H' => ∃ (s1 s2 s4 s5 s6 s7 s8 : Sl), Γ' = [.dat (.list (xs.map (eLay L))), s1, s2, .lst (xs.map fun a => .list (xs.map fun b => .int (cost L a b))), s4, s5, s6, s7, s8] ∧ Grow B H B' H') rfl PassesOwn.never
    (pg_tup rfl (pgs_cons (pg_name (i := 4) sc_measure.nd rfl (.inl rfl)) (pgs_cons (pg_name (i := 1) sc_measure.nd rfl (.inl rfl)) pgs_nil))) (it_enum T.enumerate (ed_name 0 rfl)) (fun d hd Γ1 => tg_pr 4 1 (pr_numb d hd)) (fun B4 H4 g4 => ⟨_, _, _, _, _, _, _, rfl, gA.trans g4⟩) ?_ ?_
  · rintro i d _ B4 H4 hd ⟨s1, s2, s4, s5, s6, s7, s8, rfl, g4⟩ _ B5 H5 g5
    obtain ⟨e, he, rfl⟩ := at_numb hd
    obtain ⟨a, ha, rfl⟩ := at_eLay he
    have La := hx a (List.mem_of_getElem? ha)
    refine bd_is (Γ' := [.dat (.list (xs.map (eLay L))), .dat (eLay L a), s2, .lst (xs.map fun a => .list (xs.map fun b => .int (cost L a b))), .dat (.int (i : Nat)), s5, s6, s7, s8]) rfl ?_
    refine bd_for (fun j Γ' B' H' => ∃ (s2 s5 s6 s7 s8 : Sl), Γ' = [.dat (.list (xs.map (eLay L))), .dat (eLay L a), s2, .lst (xs.map fun a => .list (xs.map fun b => .int (cost L a b))), .dat (.int (i : Nat)), s5, s6, s7, s8] ∧ Grow B H B' H') rfl PassesOwn.never
      (pg_tup rfl (pgs_cons (pg_name (i := 5) sc_measure.nd rfl (.inl rfl)) (pgs_cons (pg_name (i := 2) sc_measure.nd rfl (.inl rfl)) pgs_nil))) (it_enum T.enumerate (ed_name 0 rfl)) (fun d hd Γ1 => tg_pr 5 2 (pr_numb d hd)) (fun B6 H6 g6 => ⟨_, _, _, _, _, rfl, (g4.trans g5).trans g6⟩) ?_ ?_
    · rintro j d2 _ B6 H6 hd2 ⟨s2', s5', s6', s7', s8', rfl, g6⟩ _ B7 H7 g7
      obtain ⟨e2, he2, rfl⟩ := at_numb hd2
      obtain ⟨b, hb, rfl⟩ := at_eLay he2
      have Lb := hx b (List.mem_of_getElem? hb)
      have sym := MF.sym L a b La Lb
      have zero := MF.zero L a b La Lb
      have le := MF.le L a b La Lb
      refine bd_is (Γ' := [.dat (.list (xs.map (eLay L))), .dat (eLay L a), .dat (eLay L b), .lst (xs.map fun a => .list (xs.map fun b => .int (cost L a b))), .dat (.int (i : Nat)), .dat (.int (j : Nat)), s6', s7', s8']) rfl ?_
      refine bd_skip (et_or3 (x := false) (y := false) (z := false) (et_to (et_neI (tab _ _ _ _ _ _ _ _ i j a b rfl ha hb (ed_name 4 rfl) (ed_name 5 rfl) (fun _ _ => rfl) (fun _ _ => rfl)) (tab _ _ _ _ _ _ _ _ j i b a rfl hb ha (ed_name 5 rfl) (ed_name 4 rfl) (fun _ _ => rfl) (fun _ _ => rfl))) (by rw [decide_eq_true sym]; rfl)) (fun _ => et_to (et_neB (x := decide (cost L a b = 0)) (y := decide (a = b)) (ed_eqI (tab _ _ _ _ _ _ _ _ i j a b rfl ha hb (ed_name 4 rfl) (ed_name 5 rfl) (fun _ _ => rfl) (fun _ _ => rfl)) ed_int) (ed_eqD room.units (lay_eLay L a) (lay_eLay L b) (dep_eLay L a) (dep_eLay L b) (eqv_eLay L a b) (ed_name 1 rfl) (ed_name 2 rfl))) (by
          have : decide (cost L a b = 0) = decide (a = b) := decide_eq_decide.mpr zero
          rw [this]
          simp)) (fun _ _ => et_to (et_gt (tab _ _ _ _ _ _ _ _ i j a b rfl ha hb (ed_name 4 rfl) (ed_name 5 rfl) (fun _ _ => rfl) (fun _ _ => rfl)) (ed_lk (L := L) (js := a) (ed_name 1 rfl))) (decide_eq_false (by omega)))) rfl fun B8 H8 g8 => ?_
      refine bd_for (fun jk Γ' B' H' => ∃ (s6 s7 s8 : Sl), Γ' = [.dat (.list (xs.map (eLay L))), .dat (eLay L a), .dat (eLay L b), .lst (xs.map fun a => .list (xs.map fun b => .int (cost L a b))), .dat (.int (i : Nat)), .dat (.int (j : Nat)), s6, s7, s8] ∧ Grow B H B' H') rfl PassesOwn.never
        (pg_tup rfl (pgs_cons (pg_name (i := 6) sc_measure.nd rfl (.inl rfl)) (pgs_cons (pg_name (i := 7) sc_measure.nd rfl (.inl rfl)) pgs_nil))) (it_enum T.enumerate (ed_name 0 rfl)) (fun d hd Γ1 => tg_pr 6 7 (pr_numb d hd)) (fun B9 H9 g9 => ⟨_, _, _, rfl, ((g6.trans g7).trans g8).trans g9⟩) ?_ ?_
      · rintro n d3 _ B9 H9 hd3 ⟨s6'', s7'', s8'', rfl, g9⟩ _ B10 H10 g10
        obtain ⟨e3, he3, rfl⟩ := at_numb hd3
        obtain ⟨c, hc, rfl⟩ := at_eLay he3
        have Lc := hx c (List.mem_of_getElem? hc)
        have tri := MF.tri L a b c La Lb Lc
        refine bd_is (Γ' := [.dat (.list (xs.map (eLay L))), .dat (eLay L a), .dat (eLay L b), .lst (xs.map fun a => .list (xs.map fun b => .int (cost L a b))), .dat (.int (i : Nat)), .dat (.int (j : Nat)), .dat (.int (n : Nat)), .dat (eLay L c), s8'']) rfl ?_
        refine bd_set 8 sc_measure.nd (d := .int (cost L a c + cost L c b)) (ed_add (tab _ _ _ _ _ _ _ _ i n a c rfl ha hc (ed_name 4 rfl) (ed_name 6 rfl) (fun _ _ => rfl) (fun _ _ => rfl)) (tab _ _ _ _ _ _ _ _ n j c b rfl hc hb (ed_name 6 rfl) (ed_name 5 rfl) (fun _ _ => rfl) (fun _ _ => rfl))) fun B11 H11 g11 => ?_
        refine bd_skip (et_or2 (x := false) (y := false) (et_to (et_gt (tab _ _ _ _ _ _ _ _ i j a b rfl ha hb (ed_name 4 rfl) (ed_name 5 rfl) (fun _ _ => rfl) (fun _ _ => rfl)) (ed_name 8 rfl)) (decide_eq_false (by omega))) (fun _ => et_to (et_neB (x := decide (cost L a c + cost L c b = cost L a b)) (y := decide (cost L a b = cost L a c + cost L c b)) (ed_to (ed_call G4 (L, a, c, b) room gd ⟨La, Lc, Lb⟩ (ea_cons (ed_name 1 rfl) (ea_cons (ed_name 7 rfl) (ea_cons (ed_name 2 rfl) ea_nil)))) rfl) (ed_eqI (tab _ _ _ _ _ _ _ _ i j a b rfl ha hb (ed_name 4 rfl) (ed_name 5 rfl) (fun _ _ => rfl) (fun _ _ => rfl)) (ed_name 8 rfl))) (by
            have : decide (cost L a c + cost L c b = cost L a b) = decide (cost L a b = cost L a c + cost L c b) := decide_eq_decide.mpr ⟨Eq.symm, Eq.symm⟩
            rw [this]
            simp))) rfl fun B12 H12 g12 => ?_
        exact bd_turn rfl (Weak.refl _) (g11.b.trans g12.b) ⟨_, _, _, rfl, ((g9.trans g10).trans g11).trans g12⟩
      · rintro _ B9 H9 ⟨s6'', s7'', s8'', rfl, g9⟩ s89
        exact bd_turn rfl (Weak.refl _) (g8.b.trans s89) ⟨_, _, _, _, _, rfl, g9⟩
    · rintro _ B6 H6 ⟨s2', s5', s6', s7', s8', rfl, g6⟩ s56
      exact bd_turn rfl (Weak.refl _) s56 ⟨_, _, _, _, _, _, _, rfl, g6⟩
  · rintro _ B4 H4 ⟨s1, s2, s4, s5, s6, s7, s8, rfl, g4⟩ _
    exact bd_ret (R := isD K (.bool true)) ed_bl fun v B5 H5 g5 r => k v _ B5 H5 rfl (g4.trans g5) r
end
end Dc
/-! Own layer, part J6: a state that changes: a dict with text keys, a list of ints that it holds. -/
namespace Dc
open PySem PySem.Spec PyProof.Rows L2
/-- the state: the dict at q, its list at g, at most b draws so far -/
structure SM (K : PySem.W.Frag) (B H : Hp) (q g : Addr) (b : Nat) : Prop where
  ex : ∃ (kvs : List (Key × V)) (cl : V) (cells gs : List Int) (n : Nat), H q = some (.dK kvs) ∧ kvs.length ≤ 10 + b ∧ valV kvs (Sum.inr "cells") = some cl ∧ valV kvs (Sum.inr "great") = some (.ref g) ∧ valV kvs (Sum.inr "spot") = some (.int (n : Nat)) ∧ n ≤ b ∧
    Dp K B cl (.list (cells.map .int)) ∧ cells.length = 64 ∧ H g = some (.lst (gs.map V.int)) ∧ gs.length ≤ 63
  qb : B q = none
  gb : B g = none
  ne : q ≠ g
structure GS (q g : Addr) (B H B2 H2 : Hp) : Prop where
  b : Same B B2
  h : ∀ a o, a ≠ q → a ≠ g → H a = some o → H2 a = some o
  bh : Same B2 H2
  out : ∀ a o, H a = some o → B a = none → B2 a = none
  fr : ∀ a, H2 a = none → H a = none
section
variable {K : PySem.W.Frag} {q g l : Addr} {B H B1 H1 B2 H2 H3 : Hp} {b c : Nat}
theorem GS.of (w : Grow B H B2 H2) : GS q g B H B2 H2 := ⟨w.b, fun a o _ _ e => w.h a o e, w.bh, w.out, fun a e => w.h.free e⟩
theorem GS.refl (s : Same B H) : GS q g B H B H := GS.of (Grow.refl s)
theorem GS.trans (u : GS q g B H B1 H1) (v : GS q g B1 H1 B2 H2) : GS q g B H B2 H2 := by
  refine ⟨u.b.trans v.b, fun a o h1 h2 e => v.h a o h1 h2 (u.h a o h1 h2 e), v.bh, fun a o e n => ?_, fun a e => u.fr a (v.fr a e)⟩
  cases w : H1 a with
  | none =>
    have := u.fr a w
    rw [this] at e
    cases e
  | some o' => exact v.out a o' w (u.out a o e n)
theorem SM.grow (s : SM K B H q g b) (w : Grow B H B2 H2) : SM K B2 H2 q g b := by
  obtain ⟨kvs, cl, cells, gs, n, h1, h2, h3, h4, h5, h6, h7, h8, h9, h10⟩ := s.ex
  exact ⟨⟨kvs, cl, cells, gs, n, w.h _ _ h1, h2, h3, h4, h5, h6, dp_mono w.b h7, h8, w.h _ _ h9, h10⟩, w.out _ _ h1 s.qb, w.out _ _ h9 s.gb, s.ne⟩
theorem SM.up (s : SM K B H q g b) (h : b ≤ c) : SM K B H q g c := by
  obtain ⟨kvs, cl, cells, gs, n, h1, h2, h3, h4, h5, h6, h7⟩ := s.ex
  exact ⟨⟨kvs, cl, cells, gs, n, h1, by omega, h3, h4, h5, by omega, h7⟩, s.qb, s.gb, s.ne⟩
/-- what is made since is none of the state -/
theorem SM.off (s : SM K B H q g b) (h : H l = none) : l ≠ q ∧ l ≠ g := by
  obtain ⟨kvs, cl, cells, gs, n, h1, h2, h3, h4, h5, h6, h7, h8, h9, h10⟩ := s.ex
  exact ⟨fun z => (by rw [z, h1] at h; exact nomatch h), fun z => (by rw [z, h9] at h; exact nomatch h)⟩
theorem Mt.gs {ds : List PyData} (m : Mt K B H l ds) (w : GS q g B H B2 H2) (h1 : l ≠ q) (h2 : l ≠ g) : Mt K B2 H2 l ds := by
  obtain ⟨⟨xs, a1, a2⟩, a3⟩ := m
  exact ⟨⟨xs, w.h _ _ h1 h2 a1, dps_mono w.b a2⟩, w.out _ _ a1 a3⟩
/-- a list made since was changed -/
theorem GS.mut (w : GS q g B H B2 H2) (h0 : H l = none) (hb : B2 l = none) (hs : (H3 l).isSome = true) (h : ∀ a, a ≠ l → H3 a = H2 a) : GS q g B H B2 H3 := by
  refine ⟨w.b, fun a o h1 h2 e => ?_, fun a o e => ?_, w.out, fun a e => ?_⟩
  · rw [h a (ne_of_none e h0)]
    exact w.h a o h1 h2 e
  · rw [h a (ne_of_none e hb)]
    exact w.bh a o e
  · by_cases z : a = l
    · subst z
      exact h0
    · rw [h a z] at e
      exact w.fr a e
theorem SM.far (s : SM K B H q g b) (h1 : l ≠ q) (h2 : l ≠ g) (h : ∀ a, a ≠ l → H3 a = H a) : SM K B H3 q g b := by
  obtain ⟨kvs, cl, cells, gs, n, a1, a2, a3, a4, a5, a6, a7, a8, a9, a10⟩ := s.ex
  exact ⟨⟨kvs, cl, cells, gs, n, by rw [h q (Ne.symm h1)]; exact a1, a2, a3, a4, a5, a6, a7, a8, by rw [h g (Ne.symm h2)]; exact a9, a10⟩, s.qb, s.gb, s.ne⟩
theorem Mt.some {ds : List PyData} (m : Mt K B H l ds) : (H l).isSome = true := by
  obtain ⟨⟨xs, a1, _⟩, _⟩ := m
  rw [a1]
  rfl
end
/-! ### promises of defs on the state -/
def PrS (K : PySem.W.Frag) {α : Type} (args : α → List PyData) (pre : α → Prop) (c : Nat) (post : α → PyData → Prop) : Pr := fun vs H Q => ∃ (B : Hp) (q g : Addr) (b : Nat) (a : α) (us : List V), vs = .ref q :: us ∧ Same B H ∧ SM K B H q g b ∧ b + c ≤ 100000 ∧ DpAll K B us (args a) ∧ pre a ∧
  ∀ v d B2 H2, post a d → GS q g B H B2 H2 → SM K B2 H2 q g (b + c) → Dp K B2 v d → Q v H2
theorem fnS {P : Program} {w : World} {K : PySem.W.Frag} {mg : Str → Option Value} {base : Heap} {α : Type} {args : α → List PyData} {pre : α → Prop} {c : Nat} {post : α → PyData → Prop} {x qual : Str} {st : Stmt} {f : Addr} {fd : FuncData} {N ps : List Str} {k : Nat} (F : Fun K x qual st f fd) (S : FnScope N ps (defScope st)) (hn : ∀ m, (args m).length + 1 = ps.length)
    (body : ∀ (cdv : Value) (A : Around) (outer : List Env) (s : Shared) (B H : Hp) (Q : VK) (q g : Addr) (b : Nat) (m : α), Room k (A.deeper (envOfC qual (defScope st) s.heap.objs.size f cdv)) → A.guards = some [] → Same B H → SM K B H q g b → b + c ≤ 100000 → pre m → (∀ v d B2 H2, post m d → GS q g B H B2 H2 → SM K B2 H2 q g (b + c) → Dp K B2 v d → Q v H2) →
      BD (bodyX P w K mg base N qual st f cdv A outer s H) (.raw (.ref q) :: ((args m).map Sl.dat ++ List.replicate (N.length - ((args m).length + 1)) .unk)) B H (defBody st) { nx := fun _ H' => Q .non H', rt := Q }) : FnG P w K mg base (k + 1) f fd ps (PrS K args pre c post) := by
  refine fnG F S (fun vs H Q ⟨B, q, g, b, m, us, e, _, _, _, hd, _⟩ => by rw [e, List.length_cons, dps_len hd, hn m]) fun cdv A outer s H vs Q room gd ⟨B, q, g, b, m, us, e, sb, sm, hb, hd, hp, kk⟩ => ?_
  subst e
  have hlen := congrArg List.length S.pre
  rw [List.length_take] at hlen
  have hn' := hn m
  refine body cdv A outer s B H Q q g b m room gd sb sm hb hp kk _ ⟨sb, ?_, fun i t ht => ?_⟩
  · have := dps_len hd
    unfold L2.start
    simp
    omega
  · cases i with
    | zero =>
      rw [List.getElem?_cons_zero] at ht
      cases ht
      show (L2.start N (.ref q :: us))[0]? = some (some (.ref q))
      unfold L2.start
      simp
    | succ i =>
      rw [List.getElem?_cons_succ] at ht
      have e2 : (L2.start N (.ref q :: us))[i + 1]? = (us.map some ++ List.replicate (N.length - (us.length + 1)) none)[i]? := by
        unfold L2.start
        simp
      rw [e2]
      by_cases h : i < (args m).length
      · rw [List.getElem?_append_left (by simpa using h), List.getElem?_map] at ht
        cases w : (args m)[i]? with
        | none => rw [w] at ht; cases ht
        | some d =>
          rw [w] at ht
          cases ht
          obtain ⟨v, h1, h2⟩ := dps_get hd w
          refine ⟨v, ?_, h2⟩
          have := dps_len hd
          rw [List.getElem?_append_left (by simp; omega), List.getElem?_map, h1]
          rfl
      · rw [List.getElem?_append_right (by simpa using h), List.getElem?_replicate] at ht
        split at ht
        · cases ht
          trivial
        · cases ht
/-! ### expressions with draws in them -/
def EVS (X : Cx) (Γ : List Sl) (B H : Hp) (q g : Addr) (b c : Nat) (e : Expr) (R : V → Hp → Hp → Hp → Prop) : Prop :=
  ∀ (σ : L2.St) (B1 H1 : Hp), GS q g B H B1 H1 → SM X.K B1 H1 q g b → Good X.K Γ σ B1 H1 → ∀ Q : VK, (∀ v B2 H2, GS q g B1 H1 B2 H2 → SM X.K B2 H2 q g (b + c) → R v H1 B2 H2 → Q v H2) → WE X e σ H1 Q
def isP (K : PySem.W.Frag) (P : PyData → Prop) : V → Hp → Hp → Hp → Prop := fun v _ B2 _ => ∃ d, P d ∧ Dp K B2 v d
abbrev EST (X : Cx) (Γ : List Sl) (B H : Hp) (q g : Addr) (b c : Nat) (e : Expr) (P : PyData → Prop) : Prop := EVS X Γ B H q g b c e (isP X.K P)
def ETS (X : Cx) (Γ : List Sl) (B H : Hp) (q g : Addr) (b c : Nat) (e : Expr) : Prop :=
  ∀ (σ : L2.St) (B1 H1 : Hp), GS q g B H B1 H1 → SM X.K B1 H1 q g b → Good X.K Γ σ B1 H1 → ∀ Q : Bool → Hp → Prop, (∀ t B2 H2, GS q g B1 H1 B2 H2 → SM X.K B2 H2 q g (b + c) → Q t H2) → WT X e σ H1 Q
section
variable {X : Cx} {Γ : List Sl} {B H : Hp} {q g l : Addr} {b c c2 : Nat} {e a f : Expr} {es : List Expr} {pos p p2 : Pos} {d da db : PyData} {ds : List PyData} {P P' : PyData → Prop} {R : V → Hp → Hp → Hp → Prop} {x y z : Str} {rest : List Stmt} {D : Ends} {i j : Int}
theorem Good.gs {K : PySem.W.Frag} {σ : L2.St} {B2 H2 : Hp} (ok : Good K Γ σ B H) (w : GS q g B H B2 H2) : Good K Γ σ B2 H2 := ok.to w.b w.bh
theorem evs_of (h : ∀ B1 H1, GS q g B H B1 H1 → EV X Γ B1 H1 e R) : EVS X Γ B H q g b 0 e R := fun σ B1 H1 w sm ok Q k => h B1 H1 w σ B1 H1 (Grow.refl ok.same) ok Q fun v B2 H2 g2 r => k v B2 H2 (GS.of g2) (sm.grow g2) r
theorem est_ed (h : ∀ B1 H1, GS q g B H B1 H1 → ED X Γ B1 H1 e d) : EST X Γ B H q g b 0 e (fun d' => d' = d) := evs_of fun B1 H1 w => (h B1 H1 w).imp fun v H1 B2 H2 r => ⟨d, rfl, r⟩
theorem EVS.imp {R' : V → Hp → Hp → Hp → Prop} (h : EVS X Γ B H q g b c e R) (i : ∀ v H1 B2 H2, R v H1 B2 H2 → R' v H1 B2 H2) : EVS X Γ B H q g b c e R' := fun σ B1 H1 w sm ok Q k => h σ B1 H1 w sm ok Q fun v B2 H2 w2 sm2 r => k v B2 H2 w2 sm2 (i _ _ _ _ r)
/-- f(m, e): a def on the state -/
theorem est_call {k : Nat} {ps : List Str} {α : Type} {args : α → List PyData} {pre : α → Prop} {post : α → PyData → Prop} {m : Str} {pm : Pos} (F : Has X.prog X.w X.K X.mg X.base k x ps (PrS X.K args pre c2 post)) (n : Nat) (hr : Room k X.A) (hg : X.A.guards = some []) (hm : Γ[n]? = some (.raw (.ref q))) (hb : b + c + c2 ≤ 100000)
    (h : EST X Γ B H q g b c e P) (hp : ∀ d, P d → ∃ v, args v = [d] ∧ pre v ∧ ∀ d', post v d' → P' d') (hgl : Gl X x := by rfl) (hN : X.N[n]? = some m := by rfl) (hv : Vis X.env.scope m := by first | exact Or.inl rfl | exact Or.inr (Or.inl rfl) | exact Or.inr (Or.inr rfl)) (h1 : (m == ("__debug__" : Str)) = false := by decide) (h2 : (m == ("__classdict__" : Str)) = false := by decide)
    (hdb : (x == ("__debug__" : Str)) = false := by decide) (he : starEach [.Name m pm, e] X.env = (false, eval (.Name m pm) X.env) :: starEach [e] X.env := by rfl) (he2 : starEach [e] X.env = (false, eval e X.env) :: starEach [] X.env := by rfl) (hpl : (backTo pos (starEach [e] X.env)).any (·.1) = false := by rfl) : EST X Γ B H q g b (c + c2) (.Call (.Name x p) [.Name m pm, e] [] pos) P' := fun σ B1 H1 w sm ok Q k => by
  refine we_call F hr hg hgl (wa_of (pa_cons (pe_var hN hv h1 h2) (pa_cons (pe X e) pa_nil he2) he) ⟨_, ok.ok n _ hm, h σ B1 H1 w sm ok _ fun v B2 H2 w2 sm2 r => ?_⟩) hdb he hpl
  obtain ⟨d, pd, dd⟩ := r
  obtain ⟨u, ea, pu, pp⟩ := hp d pd
  refine ⟨B2, q, g, b + c, u, [v], rfl, w2.bh, sm2, hb, by rw [ea]; exact .cons dd .nil, pu, fun v' d' B3 H3 pd' w3 sm3 dd' => k v' B3 H3 (w2.trans w3) (by rw [← Nat.add_assoc]; exact sm3) ⟨d', pp d' pd', dd'⟩⟩
/-- i + e -/
theorem est_add (ha : ∀ B1 H1, GS q g B H B1 H1 → ED X Γ B1 H1 a (.int i)) (h : EST X Γ B H q g b c e P) (hp : ∀ d, P d → ∃ j, d = .int j ∧ P' (.int (i + j))) : EST X Γ B H q g b c (.BinOp a .Add e pos) P' := fun σ B1 H1 w sm ok Q k =>
  we_of (pe_op op_add (pe X a) (pe X e)) (ha B1 H1 w σ B1 H1 (Grow.refl ok.same) ok _ fun v B2 H2 g2 r => h σ B2 H2 (w.trans (GS.of g2)) (sm.grow g2) (ok.grow g2) _ fun u B3 H3 w3 sm3 ⟨d, pd, dd⟩ => by
    obtain ⟨j, rfl, pj⟩ := hp d pd
    exact ⟨i, j, dp_int r, dp_int dd, k _ B3 H3 ((GS.of g2).trans w3) sm3 ⟨_, pj, .int _⟩⟩)
/-- xs[e] -/
theorem est_ixL (ha : ∀ B1 H1, GS q g B H B1 H1 → ED X Γ B1 H1 a (.list ds)) (h : EST X Γ B H q g b c e P) (hp : ∀ d, P d → ∃ (n : Nat) (d' : PyData), d = .int (n : Nat) ∧ ds[n]? = some d' ∧ P' d') (hs : PlainIx e := by exact fun _ _ => rfl) : EST X Γ B H q g b c (.Subscript a e pos) P' := fun σ B1 H1 w sm ok Q k =>
  we_of (pe_ix ix_list (pe X a) (pe X e) hs) (ha B1 H1 w σ B1 H1 (Grow.refl ok.same) ok _ fun v B2 H2 g2 r => h σ B2 H2 (w.trans (GS.of g2)) (sm.grow g2) (ok.grow g2) _ fun u B3 H3 w3 sm3 ⟨d, pd, dd⟩ => by
    obtain ⟨n, d', rfl, hn, pd'⟩ := hp d pd
    cases r with
    | lst h1 h2 =>
      obtain ⟨v, h3, h4⟩ := atI_dps (dps_mono w3.b h2) hn
      exact ⟨_, _, (n : Nat), v, rfl, dp_int dd, w3.bh.seq (w3.b.seq h1), h3, k _ B3 H3 ((GS.of g2).trans w3) sm3 ⟨d', pd', h4⟩⟩)
/-- e > i, e == i as tests -/
theorem ets_gt (hb : ∀ B1 H1, GS q g B H B1 H1 → ED X Γ B1 H1 f (.int i)) (h : EST X Γ B H q g b c e P) (hp : ∀ d, P d → ∃ j, d = .int j) : ETS X Γ B H q g b c (.Compare e [.Gt] [f] pos) := fun σ B1 H1 w sm ok Q k =>
  wt_of (pt_cmpR op_gt (pe X e) (pe X f) (nomark _)) (h σ B1 H1 w sm ok _ fun v B2 H2 w2 sm2 ⟨d, pd, dd⟩ => hb B2 H2 (w.trans w2) σ B2 H2 (Grow.refl w2.bh) (ok.gs w2) _ fun u B3 H3 g3 r => by
    obtain ⟨j, rfl⟩ := hp d pd
    exact ⟨j, i, dp_int dd, dp_int r, _, rfl, k _ B3 H3 (w2.trans (GS.of g3)) (sm2.grow g3)⟩)
theorem ets_eq (hb : ∀ B1 H1, GS q g B H B1 H1 → ED X Γ B1 H1 f (.int i)) (h : EST X Γ B H q g b c e P) (hp : ∀ d, P d → ∃ j, d = .int j) : ETS X Γ B H q g b c (.Compare e [.Eq] [f] pos) := fun σ B1 H1 w sm ok Q k =>
  wt_of (pt_cmpR op_eq (pe X e) (pe X f) (nomark _)) (h σ B1 H1 w sm ok _ fun v B2 H2 w2 sm2 ⟨d, pd, dd⟩ => hb B2 H2 (w.trans w2) σ B2 H2 (Grow.refl w2.bh) (ok.gs w2) _ fun u B3 H3 g3 r => by
    obtain ⟨j, rfl⟩ := hp d pd
    rw [dp_int dd, dp_int r]
    exact ⟨rfl, _, rfl, k _ B3 H3 (w2.trans (GS.of g3)) (sm2.grow g3)⟩)
/-- a if test else f -/
theorem est_if {t : Expr} (ht : ETS X Γ B H q g b c t) (ha : ∀ B1 H1, GS q g B H B1 H1 → ED X Γ B1 H1 a da) (hb : ∀ B1 H1, GS q g B H B1 H1 → ED X Γ B1 H1 f db) (h1 : P da) (h2 : P db) : EST X Γ B H q g b c (.IfExp t a f pos) P := fun σ B1 H1 w sm ok Q k =>
  we_of (pe_ifExp (pt X t) (pe X a) (pe X f)) (ht σ B1 H1 w sm ok _ fun v B2 H2 w2 sm2 => by
    cases v with
    | true => exact iteT (ha B2 H2 (w.trans w2) σ B2 H2 (Grow.refl w2.bh) (ok.gs w2) _ fun u B3 H3 g3 r => k _ B3 H3 (w2.trans (GS.of g3)) (sm2.grow g3) ⟨da, h1, r⟩)
    | false => exact iteF (hb B2 H2 (w.trans w2) σ B2 H2 (Grow.refl w2.bh) (ok.gs w2) _ fun u B3 H3 g3 r => k _ B3 H3 (w2.trans (GS.of g3)) (sm2.grow g3) ⟨db, h2, r⟩))
/-! ### statements -/
theorem bds_set (i : Nat) {pos' : Pos} (hN : X.N.Nodup) (sm : SM X.K B H q g b) (he : EST X Γ B H q g b c e P) (k : ∀ d B2 H2, P d → GS q g B H B2 H2 → SM X.K B2 H2 q g (b + c) → BD X (Γ.set i (.dat d)) B2 H2 rest D)
    (hi : X.N[i]? = some y := by rfl) (hx : Loc X.env.scope y := by first | exact Or.inl rfl | exact Or.inr rfl) (hs : swapsWith e (some (.Name y pos')) pos.line X.env = pure false := by rfl)
    (hf : X.fn y = true ∨ X.env.scope.names.lookup y = some .local := by first | exact .inl rfl | exact .inr rfl) : BD X Γ B H (.Assign [.Name y pos'] e pos :: rest) D := fun σ ok =>
  wb_cons (ps_set hN hi hx (pe X e) hs hf) (he σ B H (GS.refl ok.same) sm ok _ fun v B2 H2 w sm2 ⟨d, pd, dd⟩ => k d B2 H2 pd w sm2 _ ((ok.gs w).set i (s := .dat d) ⟨v, rfl, dd⟩))
theorem bds_ret (sm : SM X.K B H q g b) (he : EST X Γ B H q g b c e P) (k : ∀ v d B2 H2, P d → GS q g B H B2 H2 → SM X.K B2 H2 q g (b + c) → Dp X.K B2 v d → D.rt v H2) : BD X Γ B H (.Return (some e) pos :: rest) D := fun σ ok =>
  wb_of (pss_cons (ps_ret (pe X e)) (pb X rest)) (he σ B H (GS.refl ok.same) sm ok _ fun v B2 H2 w sm2 ⟨d, pd, dd⟩ => k v d B2 H2 pd w sm2 dd)
theorem bds_if {t : Expr} {s1 s2 : List Stmt} (sm : SM X.K B H q g b) (ht : ETS X Γ B H q g b c t) (h1 : ∀ B2 H2, GS q g B H B2 H2 → SM X.K B2 H2 q g (b + c) → BD X Γ B2 H2 s1 (nxt X rest D)) (h2 : ∀ B2 H2, GS q g B H B2 H2 → SM X.K B2 H2 q g (b + c) → BD X Γ B2 H2 s2 (nxt X rest D)) : BD X Γ B H (.If t s1 s2 pos :: rest) D := fun σ ok =>
  wb_cons (ps_if (pt X t) (pb X s1) (pb X s2)) (ht σ B H (GS.refl ok.same) sm ok _ fun v B2 H2 w sm2 => by
    cases v with
    | true => exact iteT (h1 B2 H2 w sm2 σ (ok.gs w))
    | false => exact iteF (h2 B2 H2 w sm2 σ (ok.gs w)))
/-- x, y, z = a, e, f: plain locals -/
theorem bds_par3 {Ra Rb Rc : RV4} {px py pz pt pt2 : Pos} {kt k2 : Nat} {c1 c3 : Nat} (i j n : Nat) (hc : X.calm = true) (hN : X.N.Nodup) (hij : i ≠ j) (hin : i ≠ n) (hjn : j ≠ n) (sm : SM X.K B H q g b) (ha : EVS X Γ B H q g b c1 a Ra) (hb : EVS X Γ B H q g (b + c1) c2 e Rb) (hcc : EVS X Γ B H q g (b + c1 + c2) c3 f Rc)
    (k : ∀ v1 v2 v3 B1 H1 B2 H2 B3 H3, GS q g B H B1 H1 → SM X.K B1 H1 q g (b + c1) → Ra v1 H B1 H1 → GS q g B1 H1 B2 H2 → SM X.K B2 H2 q g (b + c1 + c2) → Rb v2 H1 B2 H2 → GS q g B2 H2 B3 H3 → SM X.K B3 H3 q g (b + c1 + c2 + c3) → Rc v3 H2 B3 H3 → ∀ σ, Good X.K Γ σ B3 H3 → WB X rest D (((σ.set i (some v1)).set j (some v2)).set n (some v3)) H3)
    (hi : X.N[i]? = some x := by rfl) (hj : X.N[j]? = some y := by rfl) (hn : X.N[n]? = some z := by rfl) (hx : X.env.scope.names.lookup x = some .local := by rfl) (hy : X.env.scope.names.lookup y = some .local := by rfl) (hz : X.env.scope.names.lookup z = some .local := by rfl)
    (hw : swappedStores [.Tuple [.Name x px, .Name y py, .Name z pz] kt pt] (.Tuple [a, e, f] k2 pt2) X.env = pure (some [x, y, z]) := by rfl)
    (hs : swapsWithSole [.Tuple [.Name x px, .Name y py, .Name z pz] kt pt] (.Tuple [a, e, f] k2 pt2) pos.line X.env = pure false := by rfl)
    (h1 : starEach [a, e, f] X.env = (false, eval a X.env) :: starEach [e, f] X.env := by rfl) (h2 : starEach [e, f] X.env = (false, eval e X.env) :: starEach [f] X.env := by rfl) (h3 : starEach [f] X.env = (false, eval f X.env) :: starEach [] X.env := by rfl) :
    BD X Γ B H (.Assign [.Tuple [.Name x px, .Name y py, .Name z pz] kt pt] (.Tuple [a, e, f] k2 pt2) pos :: rest) D := fun σ ok =>
  wb_cons (ps_par3 hc hN hi hj hn hij hin hjn hx hy hz (pa_cons (pe X a) (pa_cons (pe X e) (pa_cons (pe X f) pa_nil h3) h2) h1) hw hs) (ha σ B H (GS.refl ok.same) sm ok _ fun v1 B1 H1 w1 sm1 r1 => hb σ B1 H1 w1 sm1 (ok.gs w1) _ fun v2 B2 H2 w2 sm2 r2 => hcc σ B2 H2 (w1.trans w2) sm2 ((ok.gs w1).gs w2) _ fun v3 B3 H3 w3 sm3 r3 => ⟨v1, v2, v3, rfl, k v1 v2 v3 B1 H1 B2 H2 B3 H3 w1 sm1 r1 w2 sm2 r2 w3 sm3 r3 σ (((ok.gs w1).gs w2).gs w3)⟩)
/-- l.append(e), e with draws in it -/
theorem bds_append {cpos apos p1 : Pos} (i : Nat) (hr : Γ[i]? = some (.raw (.ref l))) (sm : SM X.K B H q g b) (hlq : l ≠ q) (hlg : l ≠ g) (m : Mt X.K B H l ds) (hl : ds.length < 1000000) (he : EST X Γ B H q g b c e P)
    (k : ∀ d B2 H2, P d → GS q g B H B2 H2 → SM X.K B2 H2 q g (b + c) → Mt X.K B2 H2 l ds → ∀ H3, Mt X.K B2 H3 l (ds ++ [d]) → (∀ a, a ≠ l → H3 a = H2 a) → BD X Γ B2 H3 rest D)
    (hN : X.N[i]? = some y := by rfl) (hv : Vis X.env.scope y := by first | exact Or.inl rfl | exact Or.inr (Or.inl rfl) | exact Or.inr (Or.inr rfl)) (h1 : (y == ("__debug__" : Str)) = false := by decide) (h2 : (y == ("__classdict__" : Str)) = false := by decide)
    (hse : starEach [e] X.env = (false, eval e X.env) :: starEach [] X.env := by rfl)
    (hfew : ((backTo cpos (starEach [e] X.env)).all (fun x => !x.1) && (backToKw cpos (keywordEach [] X.env)).all (fun x => x.1.isSome) && decide ([e].length + ([] : List Keyword).length + (if ([] : List Keyword).isEmpty then 0 else 1) < 30)) = true := by rfl)
    (hline : (apos.endLine == cpos.line) = true := by rfl) :
    BD X Γ B H (.Expr (.Call (.Attribute (.Name y p1) "append" apos) [e] [] cpos) pos :: rest) D := fun σ ok => by
  refine wb_cons (ps_expr (pe_bm PySem.F.plainAttrs_list PySem.F.slot_list_append PySem.F.type_list_append mt_append (pe_var hN hv h1 h2) (pa_cons (pe X e) pa_nil hse) (hfew := hfew) (hline := hline) (hs := hse))) ?_
  obtain ⟨⟨xs, m1, m2⟩, m3⟩ := id m
  refine ⟨_, ok.ok i _ hr, .inl ⟨rfl, _, SqL.of m1⟩, he σ B H (GS.refl ok.same) sm ok _ fun v B2 H2 w sm2 ⟨d, pd, dd⟩ => ?_⟩
  have mg := m.gs w hlq hlg
  refine ⟨l, xs, v, rfl, rfl, w.h _ _ hlq hlg m1, Nat.lt_of_lt_of_le (by rw [dps_len m2]; exact hl) (by decide : 1000000 ≤ sizeLine), ?_⟩
  refine k d B2 H2 pd w sm2 mg (upd H2 l (.lst (xs ++ [v]))) ⟨⟨_, upd_same, dps_app (dps_mono w.b m2) (.cons dd .nil)⟩, mg.out⟩ (fun q hq => upd_ne hq) σ ?_
  exact (ok.gs w).to (Same.refl _) (same_mut w.bh mg.out)
/-- x = l.pop(e) -/
theorem bds_pop {cpos apos p1 pos' : Pos} (i j : Nat) (hNd : X.N.Nodup) (hr : Γ[i]? = some (.raw (.ref l))) (sm : SM X.K B H q g b) (hlq : l ≠ q) (hlg : l ≠ g) (m : Mt X.K B H l ds) (he : EST X Γ B H q g b c e P) (hp : ∀ d, P d → ∃ n : Nat, d = .int (n : Nat) ∧ n < ds.length ∧ n < 1000000)
    (k : ∀ (n : Nat) (d : PyData) B2 H2, ds[n]? = some d → GS q g B H B2 H2 → SM X.K B2 H2 q g (b + c) → Mt X.K B2 H2 l ds → ∀ H3, Mt X.K B2 H3 l (ds.eraseIdx n) → (∀ a, a ≠ l → H3 a = H2 a) → BD X (Γ.set j (.dat d)) B2 H3 rest D)
    (hN : X.N[i]? = some y := by rfl) (hv : Vis X.env.scope y := by first | exact Or.inl rfl | exact Or.inr (Or.inl rfl) | exact Or.inr (Or.inr rfl)) (h1 : (y == ("__debug__" : Str)) = false := by decide) (h2 : (y == ("__classdict__" : Str)) = false := by decide)
    (hj : X.N[j]? = some x := by rfl) (hx : Loc X.env.scope x := by first | exact Or.inl rfl | exact Or.inr rfl)
    (hf : X.fn x = true ∨ X.env.scope.names.lookup x = some .local := by first | exact .inl rfl | exact .inr rfl)
    (hse : starEach [e] X.env = (false, eval e X.env) :: starEach [] X.env := by rfl)
    (hfew : ((backTo cpos (starEach [e] X.env)).all (fun x => !x.1) && (backToKw cpos (keywordEach [] X.env)).all (fun x => x.1.isSome) && decide ([e].length + ([] : List Keyword).length + (if ([] : List Keyword).isEmpty then 0 else 1) < 30)) = true := by rfl)
    (hline : (apos.endLine == cpos.line) = true := by rfl)
    (hs : swapsWith (.Call (.Attribute (.Name y p1) "pop" apos) [e] [] cpos) (some (.Name x pos')) pos.line X.env = pure false := by rfl) :
    BD X Γ B H (.Assign [.Name x pos'] (.Call (.Attribute (.Name y p1) "pop" apos) [e] [] cpos) pos :: rest) D := fun σ ok => by
  refine wb_cons (ps_set hNd hj hx (pe_bm PySem.F.plainAttrs_list PySem.F.slot_list_pop PySem.F.type_list_pop mt_popAt (pe_var hN hv h1 h2) (pa_cons (pe X e) pa_nil hse) (hfew := hfew) (hline := hline) (hs := hse)) hs hf) ?_
  obtain ⟨⟨xs, m1, m2⟩, m3⟩ := id m
  refine ⟨_, ok.ok i _ hr, .inl ⟨rfl, _, SqL.of m1⟩, he σ B H (GS.refl ok.same) sm ok _ fun v B2 H2 w sm2 ⟨d, pd, dd⟩ => ?_⟩
  obtain ⟨n, rfl, hn, hn2⟩ := hp d pd
  have mg := m.gs w hlq hlg
  have hlen : xs.length = ds.length := dps_len m2
  have hg : ds[n]? = some ds[n] := List.getElem?_eq_getElem hn
  obtain ⟨u, hu, du⟩ := dps_get (dps_mono w.b m2) hg
  refine ⟨l, xs, (n : Nat), n, u, rfl, by rw [dp_int dd], w.h _ _ hlq hlg m1, by omega, by omega, ?_, hu, ?_⟩
  · have z := seqIndex_of (k := ((n : Nat) : Int)) (n := xs.length) (by omega) (by omega)
    rw [Int.toNat_natCast] at z
    exact z
  · have er : ∀ {vs : List V} {es : List PyData} (n : Nat), DpAll X.K B2 vs es → DpAll X.K B2 (vs.eraseIdx n) (es.eraseIdx n) := by
      intro vs es n h
      induction n generalizing vs es with
      | zero => cases h with
        | nil => exact .nil
        | cons a t => exact t
      | succ n ih => cases h with
        | nil => exact .nil
        | cons a t => exact .cons a (ih t)
    refine k n ds[n] B2 H2 hg w sm2 mg (upd H2 l (.lst (xs.eraseIdx n))) ⟨⟨_, upd_same, er n (dps_mono w.b m2)⟩, mg.out⟩ (fun q hq => upd_ne hq) _ ?_
    exact ((ok.gs w).to (Same.refl _) (same_mut w.bh mg.out)).set j (s := .dat ds[n]) ⟨u, rfl, du⟩
/-- for y in range(e), e with draws in it -/
theorem bds_forR {body : List Stmt} {py : Pos} (j : Nat) (M : Nat) (hM : M ≤ 1000000) (sm : SM X.K B H q g b) (I : Nat → Nat → List Sl → Hp → Hp → Prop) (hc : X.calm = true) (hp : PassesOwn (model X.prog X.w) X.A X.env X.xe) (hN : X.N.Nodup) (hm : X.mg "range" = none) (he : EST X Γ B H q g b c e fun d => ∃ n : Nat, d = eN n ∧ n ≤ M)
    (h0 : ∀ n B2 H2, n ≤ M → GS q g B H B2 H2 → SM X.K B2 H2 q g (b + c) → I n 0 Γ B2 H2)
    (hs : ∀ n i Γ1 B1 H1, n ≤ M → i < n → I n i Γ1 B1 H1 → BD X (Γ1.set j (.dat (.int (0 + ((i : Nat) : Int))))) B1 H1 body { D with nx := toN X.K (I n (i + 1)) B1, ct := toN X.K (I n (i + 1)) B1, bk := fun σ H => WB X rest D σ H })
    (hd : ∀ n Γ1 B1 H1, n ≤ M → I n n Γ1 B1 H1 → BD X Γ1 B1 H1 rest D)
    (hgl : Gl X "range" := by rfl) (hs0 : starEach [e] X.env = [(false, eval e X.env)] := by rfl)
    (hi : X.N[j]? = some y := by rfl) (hx : Loc X.env.scope y := by first | exact Or.inl rfl | exact Or.inr rfl)
    (hf : X.fn y = true ∨ X.env.scope.names.lookup y = some .local := by first | exact .inl rfl | exact .inr rfl)
    (hs1 : ∀ v, foldedSetIterable (.Call (.Name "range" p) [e] [] p2) X.env v = pure v := by intro _; rfl) : BD X Γ B H (.For (.Name y py) (.Call (.Name "range" p) [e] [] p2) body [] pos :: rest) D := fun σ ok => by
  refine wb_cons (ps_for hp hc (pi_range1 hgl hm (pa X [e]) hs0) (pg_name hN hi hx hf) (pb X body) hs1) ?_
  refine wa_of (pa_cons (pe X e) pa_nil hs0) (he σ B H (GS.refl ok.same) sm ok _ fun v B0 H0 w0 sm0 ⟨d, ⟨n, ed, hn⟩, dd⟩ => ?_)
  subst ed
  refine ⟨(n : Nat), by rw [dp_int dd], by omega, by omega, ?_⟩
  rw [Int.toNat_natCast]
  refine ⟨fun i m σ H' => m = n - i ∧ i ≤ n ∧ ∃ Γ1 B1, Good X.K Γ1 σ B1 H' ∧ I n i Γ1 B1 H', ⟨n, by simp, Nat.zero_le _, Γ, B0, ok.gs w0, h0 n B0 H0 hn w0 sm0⟩, ?_⟩
  rintro i m σ1 H1 ⟨rfl, hi1, Γ1, B1, ok1, iv⟩
  by_cases hlt : i < n
  · refine .inr ⟨hlt, fun σ' H' => ∃ Γ2 B2, Good X.K Γ2 σ' B2 H' ∧ I n (i + 1) Γ2 B2 H', fun σ' H' q => ⟨_, by omega, rfl, hlt, q⟩, fun y H2 hy => ?_⟩
    obtain ⟨rfl, rfl⟩ := hy
    have step := hs n i Γ1 B1 _ hn hlt iv _ (ok1.set j (s := .dat (.int (0 + ((i : Nat) : Int)))) ⟨_, rfl, .int _⟩)
    have lift : ∀ σ' H', toN X.K (I n (i + 1)) B1 σ' H' → ∃ Γ2 B2, Good X.K Γ2 σ' B2 H' ∧ I n (i + 1) Γ2 B2 H' := fun σ' H' ⟨Γ2, B3, a1, a2, a3⟩ => ⟨Γ2, B3, a1, a3⟩
    intro pins s I1
    refine thn (step pins s I1) fun f s1 q => ?_
    cases f with
    | next => obtain ⟨σ', H', J', q⟩ := q; exact ⟨σ', H', J', lift _ _ q⟩
    | cont => obtain ⟨σ', H', J', q⟩ := q; exact ⟨σ', H', J', lift _ _ q⟩
    | brk => exact q
    | ret v => exact q
  · have e : i = n := by omega
    subst e
    exact .inl ⟨Nat.le_refl _, hd i Γ1 B1 H1 hn iv σ1 ok1⟩
/-! ### the dict with text keys, by a raw name -/
theorem ev_dgS {t : Str} {jj : Nat} {kvs : List (Key × V)} {v : V} {pt : Pos} (n : Nat) (hr : Γ[n]? = some (.raw (.ref q))) (hq : H q = some (.dK kvs)) (hu : X.A.units + 64 < cLine) (hk : valV kvs (Sum.inr t) = some v) (hN : X.N[n]? = some y := by rfl) (hv : Vis X.env.scope y := by first | exact Or.inl rfl | exact Or.inr (Or.inl rfl) | exact Or.inr (Or.inr rfl)) (h1 : (y == ("__debug__" : Str)) = false := by decide) (h2 : (y == ("__classdict__" : Str)) = false := by decide) : EV X Γ B H (.Subscript (.Name y p2) (.Constant (.str t) jj pt) pos) fun u _ _ _ => u = v := fun σ B1 H1 w ok Q k =>
  we_of (pe_dget (by omega) (pe_var hN hv h1 h2) pe_str (fun _ _ => rfl)) ⟨_, ok.ok n _ hr, q, v, rfl, by rw [← hk]; exact DGet.k (k := Sum.inr t) (w.h _ _ hq), k _ _ _ (Grow.refl ok.same) rfl⟩
theorem bd_putS {t : Str} {jj : Nat} {kvs : List (Key × V)} {pt pos' : Pos} (n : Nat) (hr : Γ[n]? = some (.raw (.ref q))) (hq : H q = some (.dK kvs)) (hb : B q = none) (hz : kvs.length ≤ 1000000) (hu : X.A.units + 64 < cLine) {Rv : V → Hp → Hp → Hp → Prop} (he : EV X Γ B H e Rv)
    (k : ∀ v B2 H2, Grow B H B2 H2 → Rv v H B2 H2 → B2 q = none → H2 q = some (.dK kvs) → BD X Γ B2 (upd H2 q (.dK (putK kvs (Sum.inr t) v))) rest D)
    (hN : X.N[n]? = some y := by rfl) (hv : Vis X.env.scope y := by first | exact Or.inl rfl | exact Or.inr (Or.inl rfl) | exact Or.inr (Or.inr rfl)) (h1 : (y == ("__debug__" : Str)) = false := by decide) (h2 : (y == ("__classdict__" : Str)) = false := by decide)
    (hs : swapsWith e (some (.Subscript (.Name y p2) (.Constant (.str t) jj pt) pos')) pos.line X.env = pure false := by rfl) : BD X Γ B H (.Assign [.Subscript (.Name y p2) (.Constant (.str t) jj pt) pos'] e pos :: rest) D := fun σ ok => by
  refine wb_cons (ps_dput (by omega) (pe_var hN hv h1 h2) pe_str (pe X e) hs) ?_
  refine he σ B H (Grow.refl ok.same) ok _ fun u B2 H2 w r => ⟨_, ok.ok n _ hr, ?_⟩
  have hq2 := w.h _ _ hq
  have hb2 := w.out _ _ hq hb
  refine ⟨q, _, rfl, DPut.k (k := Sum.inr t) hq2 (Nat.lt_of_le_of_lt hz (by decide)), ?_⟩
  exact k u B2 H2 w r hb2 hq2 σ ((ok.grow w).to (Same.refl _) (same_mut w.bh hb2))
/-- l[k], l a raw list -/
theorem ed_ixM {k : Nat} {p1 : Pos} (n : Nat) (hr : Γ[n]? = some (.raw (.ref l))) (m : Mt X.K B H l ds) (hk : ds[k]? = some d) (hi : i = (k : Int)) (hb : ED X Γ B H f (.int i)) (hN : X.N[n]? = some y := by rfl) (hv : Vis X.env.scope y := by first | exact Or.inl rfl | exact Or.inr (Or.inl rfl) | exact Or.inr (Or.inr rfl)) (h1 : (y == ("__debug__" : Str)) = false := by decide) (h2 : (y == ("__classdict__" : Str)) = false := by decide) (hs : PlainIx f := by exact fun _ _ => rfl) : ED X Γ B H (.Subscript (.Name y p1) f pos) d := fun σ B1 H1 w ok Q q =>
  we_of (pe_ix ix_list (pe_var hN hv h1 h2) (pe X f) hs) ⟨_, ok.ok n _ hr, hb σ B1 H1 w ok _ fun u B2 H2 g2 r => by
    obtain ⟨⟨xs, a1, a2⟩, a3⟩ := m
    obtain ⟨v, h3, h4⟩ := atI_dps (dps_mono (w.trans g2).b a2) hk
    exact ⟨_, _, i, v, rfl, dp_int r, .inl (.inl ((w.trans g2).h _ _ a1)), by rw [hi]; exact h3, q _ _ _ g2 h4⟩⟩
/-- a raw list against a new empty one -/
theorem et_neG {ns : List Int} {k3 : Pos} (hu : X.A.units + 64 < cLine) (ha : EV X Γ B H a fun u _ _ _ => u = .ref l) (hl : H l = some (.lst (ns.map V.int))) : ET X Γ B H (.Compare a [.NotEq] [.List [] k3] pos) (!ns.isEmpty) := fun σ B1 H1 w ok Q q =>
  wt_of (pt_cmpR (op_neD hu) (pe X a) (pe X _) (nomark _)) (ha σ B1 H1 w ok _ fun v B2 H2 g2 e => EL.ed (el_lst (ds := []) ea_nil) σ B2 H2 (w.trans g2) (ok.grow g2) _ fun u B3 H3 g3 r => by
    subst e
    have c1 : PyData.canLay0 (.list (ns.map .int)) = true := by simp only [PyData.canLay0]; exact lay_ints _
    have ev : PyData.eqv (.list (ns.map .int)) (.list []) = ns.isEmpty := by cases ns <;> simp [PyData.eqv, PyData.eqvAll]
    refine ⟨.list (ns.map .int), .list [], .lst (.inl (.inl ((g2.trans g3).h _ _ (w.h _ _ hl)))) (ints_dps ns), dp_mono g3.bh r, sh_of c1 (dep_ints ns), sh_of (by simp [PyData.canLay0, PyData.canLayAll0]) (by simp [PyData.depth, PyData.depthAll]), ?_⟩
    rw [ev]
    exact ⟨_, rfl, q B3 H3 (g2.trans g3)⟩)
end
end Dc
/-! The walks, thirteenth part: _law_mixed, _law_folded, _law_draw, _law_begun, _law_of. -/
namespace Dc
open PySem PySem.Spec PyProof.Rows L2
section
variable {X : Cx} {Γ : List Sl} {B H : Hp} {e a b c tg iter elt : Expr} {es : List Expr} {pos p : Pos} {d da db : PyData} {ds : List PyData} {i j : Int} {x : Str} {K : PySem.W.Frag} {rest : List Stmt} {D : Ends}
theorem bd_lc0M (i : Nat) {y : Str} {py spos : Pos} {scope : Scope} {own : List (Str × Nat)} {g : TG} {js : List Nat} {v : PyData → PyData} {Γd : PyData → List Sl} (hc : X.calm = true) (hN : X.N.Nodup) (okb : BlkOk X.N X.env.scope scope own)
    (hgp : ∀ (s : Shared) (H : Hp) (C : Addr) (cl : List (Str × Addr)) (fp : List Addr), PG (X.blk s H scope (compEnvC scope cl C X.env) fp) tg g)
    (hi : IterD X Γ B H tg iter ds) (hn : ds.length ≤ 1000000) (hj : ∀ i ∈ js, i ∈ own.map (·.2))
    (hg : ∀ d ∈ ds, TgD X.K g js d (wipeG Γ (own.map (·.2))) (Γd d))
    (he : ∀ d ∈ ds, ∀ s H0 C cl fp B' H', Grow B H B' H' → ED (blkX X s H0 scope C cl fp) (Γd d) B' H' elt (v d))
    (k : ∀ l B2 H2, Grow B H B2 H2 → H l = none → Mt X.K B2 H2 l (ds.map v) → BD X (Γ.set i (.raw (.ref l))) B2 H2 rest D)
    (hy : X.N[i]? = some y := by rfl) (hyl : X.env.scope.names.lookup y = some .local := by rfl)
    (hsw : swapsWith (.ListComp elt [⟨tg, iter, [], 0⟩] scope pos) (some (.Name y py)) spos.line X.env = pure true := by exact sw_true rfl rfl rfl (by decide +kernel))
    (hs : ∀ x, foldedSetIterable iter X.env x = pure x := by intro _; rfl) : BD X Γ B H (.Assign [.Name y py] (.ListComp elt [⟨tg, iter, [], 0⟩] scope pos) spos :: rest) D := fun σ ok =>
  wb_cons (ps_setLc hc hN hy hyl hsw (pii X tg iter) okb hgp (fun _ _ _ _ _ => pts_nil) (peAll X scope elt) hs) (lc0_te hi hn hj hg he (Grow.refl ok.same) ok fun v' B2 H2 g2 ⟨l, xs, e, h0, h2, hb, hd⟩ => by
    subst e
    exact k l B2 H2 g2 h0 ⟨⟨xs, h2, hd⟩, hb⟩ _ ((ok.grow g2).set i (s := .raw (.ref l)) rfl))
end
def mixI (c n : Int) : Int := (((c * (3 + 2 * n) * 69621) % 2147483647 + 104729 * n * n + 7919 * n) * 48271) % 2147483629 / 9
theorem mixI_pos (c n : Int) : 0 ≤ mixI c n := by
  unfold mixI
  exact Int.ediv_nonneg (Int.emod_nonneg _ (by decide)) (by decide)
section
variable {P : Program} {w : World} {K : PySem.W.Frag} {mg : Str → Option Value} {base : Heap}
/-! _law_mixed -/
abbrev s_mixed : Stmt := top 44
abbrev N_mixed : List Str := ["_law_cell", "_law_n", "_law_blend"]
theorem sc_mixed : FnScope N_mixed ["_law_cell", "_law_n"] (defScope s_mixed) := ⟨rfl, rfl, rfl, by decide +kernel, rfl, by decide +kernel, by decide +kernel⟩
abbrev p_mixed (K : PySem.W.Frag) : Pr := PrF K (α := Int × Nat) (fun m => [.int m.1, .int (m.2 : Nat)]) (fun m => m.2 ≤ 10000000) fun m => .int (mixI m.1 m.2)
theorem w_mixed {f : Addr} {fd : FuncData} (F : Fun K "_law_mixed" "_law_mixed" s_mixed f fd) (T : Bi mg) : FnG P w K mg base 1 f fd ["_law_cell", "_law_n"] (p_mixed K) := by
  refine fnP F sc_mixed (fun _ => rfl) fun cdv A outer s B H Q m room gd sb hp k => ?_
  obtain ⟨c, n⟩ := m
  have hn : n ≤ 10000000 := hp
  have sn : -(2 ^ 64) < ((n : Nat) : Int) ∧ ((n : Nat) : Int) < 2 ^ 64 := by constructor <;> omega
  have s3 : -(2 ^ 64) < 3 + 2 * ((n : Nat) : Int) ∧ 3 + 2 * ((n : Nat) : Int) < 2 ^ 64 := by constructor <;> omega
  refine bd_set 2 sc_mixed.nd (d := .int ((c * (3 + 2 * (n : Nat)) * 69621) % 2147483647 + 104729 * (n : Nat) * (n : Nat) + 7919 * (n : Nat))) (ed_add (ed_add (ed_mod (by decide) (ed_intI T.int (ed_mul (.inr ⟨by decide, by decide⟩) (ed_mul (.inr s3) (ed_name 0 rfl) (ed_add ed_int (ed_mul (.inl ⟨by decide, by decide⟩) ed_int (ed_name 1 rfl)))) ed_int)) ed_int) (ed_mul (.inr sn) (ed_mul (.inl ⟨by decide, by decide⟩) ed_int (ed_name 1 rfl)) (ed_name 1 rfl))) (ed_mul (.inl ⟨by decide, by decide⟩) ed_int (ed_name 1 rfl))) fun B1 H1 g1 => ?_
  refine bd_ret (R := isD K (.int (mixI c n))) (ed_fdiv ⟨by decide, by decide⟩ (ed_mod (by decide) (ed_intI T.int (ed_mul (.inr ⟨by decide, by decide⟩) (ed_name 2 rfl) ed_int)) ed_int) ed_int) fun v B4 H4 g4 r => k v _ B4 H4 rfl (g1.trans g4) r
/-! _law_folded -/
abbrev s_folded : Stmt := top 45
abbrev N_folded : List Str := ["_law_script", "_law_n", "_law_found", "_law_cell"]
theorem sc_folded : FnScope N_folded ["_law_script"] (defScope s_folded) := ⟨rfl, rfl, rfl, by decide +kernel, rfl, by decide +kernel, by decide +kernel⟩
abbrev p_folded (K : PySem.W.Frag) : Pr := PrR K (α := List Int) (fun m => [.list (m.map .int)]) (fun m => m.length ≤ 63) fun m d => ∃ cs : List Int, d = .list (cs.map .int) ∧ cs.length = 64
theorem w_folded {f : Addr} {fd : FuncData} (F : Fun K "_law_folded" "_law_folded" s_folded f fd) (T : Bi mg) : FnG P w K mg base 1 f fd ["_law_script"] (p_folded K) := by
  refine fnP F sc_folded (fun _ => rfl) fun cdv A outer s B H Q sc room gd sb hp k => ?_
  have hsc : sc.length ≤ 63 := hp
  refine bd_lc0M 2 (ds := rng 0 64) (v := fun d => match d with | .int n => .int (29 + 3 * n) | _ => .none) (own := [("_law_n", 1)]) (js := [1]) (Γd := fun d => (wipeG _ [1]).set 1 (.dat d)) rfl sc_folded.nd (blkOk_by (N := N_folded) (sc := defScope s_folded) (by decide +kernel)) (fun _ _ _ _ _ => pg_name (i := 1) sc_folded.nd rfl (.inl rfl)) (it_rng1 (n := 64) rfl (by decide) T.range ed_int) (by rw [rng_len]; decide) (by simp) (fun d hd => tg_one 1) (fun d hd s0 H0 C cl fp B' H' g' => ?_) fun l B1 H1 g1 hl0 m1 => ?_
  · obtain ⟨n, _, rfl⟩ := List.mem_map.mp hd
    exact ed_add ed_int (ed_mul (.inl ⟨by decide, by decide⟩) ed_int (ed_name 1 rfl))
  have e0 : (rng 0 64).map (fun d => match d with | .int n => PyData.int (29 + 3 * n) | _ => .none) = ((List.range 64).map fun k => 29 + 3 * (0 + ((k : Nat) : Int))).map .int := by
    unfold rng
    rw [List.map_map, List.map_map]
    rfl
  rw [e0] at m1
  refine bd_for (fun i Γ' B' H' => ∃ (s1 s3 : Sl) (cs : List Int), Γ' = [.dat (.list (sc.map .int)), s1, .raw (.ref l), s3] ∧ Grow B H B' H' ∧ Mt K B' H' l (cs.map .int) ∧ cs.length = 64) rfl PassesOwn.never
    (pg_tup rfl (pgs_cons (pg_name (i := 1) sc_folded.nd rfl (.inl rfl)) (pgs_cons (pg_name (i := 3) sc_folded.nd rfl (.inl rfl)) pgs_nil))) (it_enum T.enumerate (ed_name 0 rfl)) (fun d hd Γ1 => tg_pr 1 3 (pr_numb d hd)) (fun B4 H4 g4 => ⟨_, _, _, rfl, g1.trans g4, m1.grow g4, by simp⟩) ?_ ?_
  · rintro i d _ B4 H4 hd ⟨s1, s3, cs, rfl, g4, m4, hcs⟩ _ B5 H5 g5
    obtain ⟨e, he, rfl⟩ := at_numb hd
    obtain ⟨z, rfl⟩ : ∃ z, e = .int z := by
      obtain ⟨z, _, rfl⟩ := List.mem_map.mp (List.mem_of_getElem? he)
      exact ⟨z, rfl⟩
    refine bd_is (Γ' := [.dat (.list (sc.map .int)), .dat (.int (i : Nat)), .raw (.ref l), .dat (.int z)]) rfl ?_
    have hk : i % 64 < cs.length := by rw [hcs]; exact Nat.mod_lt _ (by decide)
    have hix : ∀ {Γ : List Sl} {B H : Hp} {e : Expr} {p : Pos}, True := trivial
    refine bd_setIx (d := .int ((cs[i % 64] * 69621 + z) % 2147483647)) (kx := i % 64) 2 rfl (m4.grow g5) (ed_mod (by decide) (ed_intI T.int (ed_add (ed_mul (.inr ⟨by decide, by decide⟩) (ed_ixM (k := i % 64) 2 rfl (m4.grow g5) (by rw [List.getElem?_map, List.getElem?_eq_getElem hk]; rfl) (by show ((i : Nat) : Int) % 64 = ((i % 64 : Nat) : Int); omega) (ed_mod (by decide) (ed_intI T.int (ed_name 1 rfl)) ed_int)) ed_int) (ed_name 3 rfl))) ed_int) (ed_mod (by decide) (ed_intI T.int (ed_name 1 rfl)) ed_int) (by omega) (by rw [List.length_map]; exact hk) fun B6 H6 g6 m6 H7 m7 o7 => ?_
    refine bd_turn rfl (Weak.refl _) g6.b ⟨_, _, cs.set (i % 64) ((cs[i % 64] * 69621 + z) % 2147483647), rfl, ((g4.trans g5).trans g6).mut hl0 m6.out o7, ?_, by rw [List.length_set]; exact hcs⟩
    rw [List.map_set]
    exact m7
  · rintro _ B4 H4 ⟨s1, s3, cs, rfl, g4, m4, hcs⟩ _
    refine bd_for (fun i Γ' B' H' => ∃ (s1 : Sl) (cs : List Int), Γ' = [.dat (.list (sc.map .int)), s1, .raw (.ref l), s3] ∧ Grow B H B' H' ∧ Mt K B' H' l (cs.map .int) ∧ cs.length = 64) rfl PassesOwn.never (pg_name (i := 1) sc_folded.nd rfl (.inl rfl)) (it_rng2 (n := 63) (by decide) (by decide) (by decide) (by decide) T.range ed_int ed_int) (fun d hd Γ1 => tg_one 1) (fun B5 H5 g5 => ⟨_, cs, rfl, g4.trans g5, m4.grow g5, hcs⟩) ?_ ?_
    · rintro i d _ B5 H5 hd ⟨s1, cs2, rfl, g5, m5, hcs2⟩ _ B6 H6 g6
      have hi : i < 63 := by
        have := (List.getElem?_eq_some_iff.mp hd).1
        rw [rng_len] at this
        exact this
      rw [rng_get hi] at hd
      cases hd
      have h1 : i + 1 < cs2.length := by omega
      have h2 : i < cs2.length := by omega
      refine bd_setIx (d := .int ((cs2[i + 1] + cs2[i] * 48271) % 2147483647)) (kx := i + 1) 2 rfl (m5.grow g6) (ed_mod (by decide) (ed_intI T.int (ed_add (ed_ixM (k := i + 1) 2 rfl (m5.grow g6) (by rw [List.getElem?_map, List.getElem?_eq_getElem h1]; rfl) (by omega) (ed_name 1 rfl)) (ed_mul (.inr ⟨by decide, by decide⟩) (ed_ixM (k := i) 2 rfl (m5.grow g6) (by rw [List.getElem?_map, List.getElem?_eq_getElem h2]; rfl) (by omega) (ed_sub (ed_name 1 rfl) ed_int)) ed_int))) ed_int) (ed_name 1 rfl) (by omega) (by rw [List.length_map]; exact h1) fun B7 H7 g7 m7 H8 m8 o8 => ?_
      refine bd_turn rfl (Weak.refl _) g7.b ⟨_, cs2.set (i + 1) ((cs2[i + 1] + cs2[i] * 48271) % 2147483647), rfl, ((g5.trans g6).trans g7).mut hl0 m7.out o8, ?_, by rw [List.length_set]; exact hcs2⟩
      rw [List.map_set]
      exact m8
    · rintro _ B5 H5 ⟨s1, cs2, rfl, g5, m5, hcs2⟩ _
      exact bd_retM 2 rfl m5 g5 hl0 fun v B6 g6 r => k v _ B6 _ ⟨cs2, rfl, hcs2⟩ g6 r
/-! _law_draw -/
abbrev s_draw : Stmt := top 46
abbrev N_draw : List Str := ["_law_m", "_law_limit", "_law_n", "_law_lot", "_law_here", "_law_cell"]
theorem sc_draw : FnScope N_draw ["_law_m", "_law_limit"] (defScope s_draw) := ⟨rfl, rfl, rfl, by decide +kernel, rfl, by decide +kernel, by decide +kernel⟩
abbrev p_draw (K : PySem.W.Frag) : Pr := PrS K (α := Nat) (fun n => [.int (n : Nat)]) (fun n => 1 ≤ n ∧ n ≤ 1000000) 1 fun n d => ∃ r : Nat, d = eN r ∧ r < n
theorem w_draw {f : Addr} {fd : FuncData} (F : Fun K "_law_draw" "_law_draw" s_draw f fd) (T : Bi mg) (G1 : Has P w K mg base 1 "_law_mixed" ["_law_cell", "_law_n"] (p_mixed K)) : FnG P w K mg base 2 f fd ["_law_m", "_law_limit"] (p_draw K) := by
  refine fnS F sc_draw (fun _ => rfl) fun cdv A outer s B H Q q g b lim room gd sb sm hb hp k => ?_
  obtain ⟨hl1, hl2⟩ : 1 ≤ lim ∧ lim ≤ 1000000 := hp
  obtain ⟨kvs, cl, cells, gs, n, a1, a2, a3, a4, a5, a6, a7, a8, a9, a10⟩ := id sm.ex
  have hlim : CDiv (0 : Int) ((lim : Nat) : Int) := ⟨by omega, by omega⟩
  refine bd_setV 2 (ev_dgS (t := "spot") 0 rfl a1 room.units a5) (fun v B1 H1 g1 e σ ok => ?_) sc_draw.nd
  subst e
  have ok' := ok.set 2 (s := .dat (.int (n : Nat))) ⟨_, rfl, .int _⟩
  refine (?_ : BD (bodyX P w K mg base N_draw "_law_draw" s_draw f cdv A outer s H) [.raw (.ref q), .dat (.int (lim : Nat)), .dat (.int (n : Nat)), .unk, .unk, .unk] B1 H1 _ _) _ ok'
  have sm1 := sm.grow g1
  refine bd_putS (t := "spot") 0 rfl (g1.h _ _ a1) sm1.qb (by omega) room.units (Rv := fun v _ B2 _ => Dp K B2 v (.int (((n : Nat) : Int) + 1))) (ed_add (ed_name 2 rfl) ed_int) fun v B2 H2 g2 dv hb2 hq2 => ?_
  have ev : v = .int ((n + 1 : Nat) : Int) := by rw [dp_int dv]; rfl
  subst ev
  have n0 : ("spot" : Str) ≠ "cells" := by decide
  have n1 : ("spot" : Str) ≠ "great" := by decide
  have w2 := (g1.trans g2)
  -- the state behind
  have sm2 : SM K B2 (upd H2 q (.dK (putK kvs (Sum.inr "spot") (.int ((n + 1 : Nat) : Int))))) q g (b + 1) := by
    refine ⟨⟨_, cl, cells, gs, n + 1, upd_same, ?_, ?_, ?_, ?_, by omega, dp_mono w2.b a7, a8, ?_, a10⟩, (sm1.grow g2).qb, (sm1.grow g2).gb, sm.ne⟩
    · have := putK_len kvs (Sum.inr "spot") (.int ((n + 1 : Nat) : Int))
      omega
    · rw [valV_put, if_neg (by simp; exact fun z => n0 z.symm)]
      exact a3
    · rw [valV_put, if_neg (by simp; exact fun z => n1 z.symm)]
      exact a4
    · rw [valV_put, if_pos rfl]
    · rw [upd_ne (Ne.symm sm.ne)]
      exact w2.h _ _ a9
  have gs2 : GS q g B H B2 (upd H2 q (.dK (putK kvs (Sum.inr "spot") (.int ((n + 1 : Nat) : Int))))) := by
    refine ⟨w2.b, fun a o h1 h2 e => ?_, same_mut w2.bh hb2, w2.out, fun a e => ?_⟩
    · rw [upd_ne h1]
      exact w2.h _ _ e
    · by_cases z : a = q
      · subst z
        rw [upd_same] at e
        cases e
      · rw [upd_ne z] at e
        exact w2.h.free e
  generalize upd H2 q (.dK (putK kvs (Sum.inr "spot") (.int ((n + 1 : Nat) : Int)))) = H3 at sm2 gs2
  obtain ⟨kvs', cl', cells', gs', n', b1, b2, b3, b4, b5, b6, b7, b8, b9, b10⟩ := id sm2.ex
  -- the plain end
  have plain : ∀ (s3 s4 s5 : Sl) (B4 H4 : Hp), Grow B2 H3 B4 H4 → BD (bodyX P w K mg base N_draw "_law_draw" s_draw f cdv A outer s H) [.raw (.ref q), .dat (.int (lim : Nat)), .dat (.int (n : Nat)), s3, s4, s5] B4 H4 ((defBody s_draw).drop 3) { nx := fun _ H' => Q .non H', rt := Q } := by
    intro s3 s4 s5 B4 H4 g4
    refine bd_setV 3 (ev_dgS (t := "cells") 0 rfl (g4.h _ _ b1) room.units b3) (fun v B5 H5 g5 e σ ok => ?_) sc_draw.nd
    subst e
    have dcl : Dp K B5 v (.list (cells'.map .int)) := dp_mono (g4.trans g5).b b7
    have ok' := ok.set 3 (s := .dat (.list (cells'.map .int))) ⟨_, rfl, dcl⟩
    refine (?_ : BD (bodyX P w K mg base N_draw "_law_draw" s_draw f cdv A outer s H) [.raw (.ref q), .dat (.int (lim : Nat)), .dat (.int (n : Nat)), .dat (.list (cells'.map .int)), s4, s5] B5 H5 _ _) _ ok'
    have hk : n % 64 < cells'.length := by rw [b8]; exact Nat.mod_lt _ (by decide)
    have nn := mixI_pos (mixI (cells'[n % 64] + 37 * (((n : Nat) : Int) / 64)) ((n : Nat) : Int)) ((n + 5 : Nat) : Int)
    have hp1 : n + 5 ≤ 10000000 := by omega
    have hp2 : n ≤ 10000000 := by omega
    refine bd_ret (R := isD K (.int (mixI (mixI (cells'[n % 64] + 37 * (((n : Nat) : Int) / 64)) ((n : Nat) : Int)) ((n + 5 : Nat) : Int) % ((lim : Nat) : Int)))) (ed_mod hlim.1 (ed_intI T.int ?_) (ed_name 1 rfl)) fun v B6 H6 g6 r => ?_
    · refine ed_to (ed_call G1 (mixI (cells'[n % 64] + 37 * (((n : Nat) : Int) / 64)) ((n : Nat) : Int), n + 5) room gd hp1 (ea_cons ?_ (ea_cons (ed_i (ed_add (ed_name 2 rfl) ed_int) (by show ((n : Nat) : Int) + 5 = ((n + 5 : Nat) : Int); omega)) ea_nil))) rfl
      refine ed_to (ed_call G1 (cells'[n % 64] + 37 * (((n : Nat) : Int) / 64), n) room gd hp2 (ea_cons ?_ (ea_cons (ed_name 2 rfl) ea_nil))) rfl
      refine ed_to (ed_add (i := cells'[n % 64]) (j := 37 * (((n : Nat) : Int) / 64)) (ed_ixL (d := .int cells'[n % 64]) (ds := cells'.map .int) (k := n % 64) (i := ((n : Nat) : Int) % 64) ?_ ?_ (ed_name 3 rfl) (ed_mod (by decide) (ed_intI T.int (ed_name 2 rfl)) ed_int)) (ed_mul (.inl ⟨by decide, by decide⟩) ed_int (ed_fdiv ⟨by decide, by decide⟩ (ed_name 2 rfl) ed_int))) rfl
      · rw [List.getElem?_map, List.getElem?_eq_getElem hk]
        rfl
      · show ((n : Nat) : Int) % 64 = ((n % 64 : Nat) : Int)
        omega
    have gg := (g4.trans g5).trans g6
    generalize mixI (mixI (cells'[n % 64] + 37 * (((n : Nat) : Int) / 64)) ((n : Nat) : Int)) ((n + 5 : Nat) : Int) = z at nn r
    have m0 : 0 ≤ z % ((lim : Nat) : Int) := Int.emod_nonneg _ (by omega)
    have m1 : z % ((lim : Nat) : Int) < ((lim : Nat) : Int) := Int.emod_lt_of_pos _ (by omega)
    refine k v _ B6 H6 ⟨(z % ((lim : Nat) : Int)).toNat, ?_, by omega⟩ (gs2.trans (GS.of gg)) (sm2.grow gg) r
    unfold eN
    rw [Int.toNat_of_nonneg m0]
  refine bd_if (t := !gs'.isEmpty) (et_neG room.units (ev_dgS (t := "great") 0 rfl b1 room.units b4) b9) (fun ht B4 H4 g4 => ?_) (fun ht B4 H4 g4 => bd_fall (plain _ _ _ B4 H4 g4))
  have hne : 0 < gs'.length := by
    cases gs' with
    | nil => cases ht
    | cons z t => simp
  refine bd_setV 3 (ev_dgS (t := "great") 0 rfl (g4.h _ _ b1) room.units b4) (fun v B5 H5 g5 e σ ok => ?_) sc_draw.nd
  subst e
  have ok' := ok.set 3 (s := .raw (.ref g)) rfl
  refine (?_ : BD (bodyX P w K mg base N_draw "_law_draw" s_draw f cdv A outer s H) [.raw (.ref q), .dat (.int (lim : Nat)), .dat (.int (n : Nat)), .raw (.ref g), .unk, .unk] B5 H5 _ _) _ ok'
  have g45 := g4.trans g5
  have m5 : Mt K B5 H5 g (gs'.map .int) := ⟨⟨_, g45.h _ _ b9, ints_dps gs'⟩, (sm2.grow g45).gb⟩
  have hk : n % gs'.length < gs'.length := Nat.mod_lt _ hne
  refine bd_set 4 sc_draw.nd (d := .int ((n % gs'.length : Nat) : Int)) (ed_i (ed_mod (j := ((gs'.length : Nat) : Int)) (by omega) (ed_intI T.int (ed_name 2 rfl)) (ed_i (ed_lenM 3 rfl m5 T.len) (by rw [List.length_map]))) (by simp)) fun B6 H6 g6 => ?_
  have m6 := m5.grow g6
  refine bd_set 5 sc_draw.nd (d := .int gs'[n % gs'.length]) (ed_ixM (k := n % gs'.length) 3 rfl m6 (by rw [List.getElem?_map, List.getElem?_eq_getElem hk]; rfl) rfl (ed_name 4 rfl)) fun B7 H7 g7 => ?_
  have m7 := m6.grow g7
  refine bd_if (et_gt (ed_name 5 rfl) ed_int) (fun ht B8 H8 g8 => ?_) (fun ht B8 H8 g8 => bd_fall (bd_fall (plain _ _ _ B8 H8 (((g45.trans g6).trans g7).trans g8))))
  have m8 := m7.grow g8
  have cd : CDiv gs'[n % gs'.length] ((lim : Nat) : Int) := ⟨by omega, by omega⟩
  refine bd_setIx (d := .int (gs'[n % gs'.length] / ((lim : Nat) : Int))) (kx := n % gs'.length) 3 rfl m8 (ed_fdiv cd (ed_name 5 rfl) (ed_name 1 rfl)) (ed_name 4 rfl) rfl (by rw [List.length_map]; exact hk) fun B9 H9 g9 m9 H10 m10 o10 => ?_
  have gg := (((g45.trans g6).trans g7).trans g8).trans g9
  have sm9 := sm2.grow gg
  obtain ⟨kvs9, cl9, cells9, gs9, n9, d1, d2, d3, d4, d5, d6, d7, d8, d9, d10⟩ := id sm9.ex
  have sm10 : SM K B9 H10 q g (b + 1) := by
    obtain ⟨⟨xs, e1, e2⟩, e3⟩ := m10
    refine ⟨⟨kvs9, cl9, cells9, gs'.set (n % gs'.length) (gs'[n % gs'.length] / ((lim : Nat) : Int)), n9, by rw [o10 q sm.ne]; exact d1, d2, d3, d4, d5, d6, d7, d8, ?_, by rw [List.length_set]; exact b10⟩, sm9.qb, sm9.gb, sm9.ne⟩
    rw [← List.map_set] at e2
    rw [e1, dps_ints e2]
  have gs10 : GS q g B H B9 H10 := by
    have w := gs2.trans (GS.of gg)
    refine ⟨w.b, fun a o h1 h2 e => ?_, fun a o e => ?_, w.out, fun a e => ?_⟩
    · rw [o10 a h2]
      exact w.h a o h1 h2 e
    · rw [o10 a (ne_of_none e sm9.gb)]
      exact w.bh a o e
    · by_cases z : a = g
      · subst z
        have := m10.some
        rw [e] at this
        cases this
      · rw [o10 a z] at e
        exact w.fr a e
  refine bd_ret (R := isD K (.int (gs'[n % gs'.length] % ((lim : Nat) : Int)))) (ed_mod hlim.1 (ed_intI T.int (ed_name 5 rfl)) (ed_name 1 rfl)) fun v B11 H11 g11 r => ?_
  have m0 : 0 ≤ gs'[n % gs'.length] % ((lim : Nat) : Int) := Int.emod_nonneg _ (by omega)
  have m1 : gs'[n % gs'.length] % ((lim : Nat) : Int) < ((lim : Nat) : Int) := Int.emod_lt_of_pos _ (by omega)
  refine k v _ B11 H11 ⟨(gs'[n % gs'.length] % ((lim : Nat) : Int)).toNat, ?_, by omega⟩ (gs10.trans (GS.of g11)) (sm10.grow g11) r
  unfold eN
  rw [Int.toNat_of_nonneg m0]
/-! _law_of -/
abbrev s_of : Stmt := top 49
abbrev N_of : List Str := ["_law_m", "_law_some"]
theorem sc_of : FnScope N_of ["_law_m", "_law_some"] (defScope s_of) := ⟨rfl, rfl, rfl, by decide +kernel, rfl, by decide +kernel, by decide +kernel⟩
abbrev p_of (K : PySem.W.Frag) : Pr := PrS K (α := List PyData) (fun ds => [.list ds]) (fun ds => ds ≠ [] ∧ ds.length ≤ 1000000) 1 fun ds d => d ∈ ds
theorem w_of {f : Addr} {fd : FuncData} (F : Fun K "_law_of" "_law_of" s_of f fd) (T : Bi mg) (G1 : Has P w K mg base 2 "_law_draw" ["_law_m", "_law_limit"] (p_draw K)) : FnG P w K mg base 3 f fd ["_law_m", "_law_some"] (p_of K) := by
  refine fnS F sc_of (fun _ => rfl) fun cdv A outer s B H Q q g b ds room gd sb sm hb hp k => ?_
  obtain ⟨h1, h2⟩ : ds ≠ [] ∧ ds.length ≤ 1000000 := hp
  have h0 : 1 ≤ ds.length := List.length_pos_iff.mpr h1
  refine bds_ret sm (c := 0 + 1) (P := fun d => d ∈ ds) (est_ixL (ds := ds) (fun B1 H1 w => ed_name 1 rfl) (est_call (P := fun d => d = .int ((ds.length : Nat) : Int)) (P' := fun d => ∃ r : Nat, d = eN r ∧ r < ds.length) G1 0 room gd rfl (by omega) (est_ed fun B1 H1 w => ed_len (.inl rfl) T.len (ed_name 1 rfl)) (fun d hd => ⟨ds.length, by rw [hd], ⟨h0, h2⟩, fun d' h => h⟩)) (fun d ⟨r, hr, hl⟩ => ⟨r, ds[r], hr, List.getElem?_eq_getElem hl, List.getElem_mem hl⟩)) fun v d B2 H2 pd w sm2 dd => ?_
  exact k v d B2 H2 pd w sm2 dd
end
end Dc
/-! Own layer, part J7: more on the state; unpacking a list. -/
namespace Dc
open PySem PySem.Spec PyProof.Rows L2
section
variable {K : PySem.W.Frag} {q g l p : Addr} {B H B1 H1 B2 H2 B3 H3 B0 H0 : Hp} {b c : Nat} {o : HO}
theorem GS.fix (w : GS q g B0 H0 B H) (h : H0 l = none) (s1 : Same B B2) (s2 : Same B2 H) (off : ∀ a, a ≠ l → B2 a = B a) : GS q g B0 H0 B2 H :=
  ⟨w.b.trans s1, w.h, s2, fun a o e n => by rw [off a (ne_of_none e h)]; exact w.out a o e n, w.fr⟩
theorem SM.fix (s : SM K B H q g b) (h1 : l ≠ q) (h2 : l ≠ g) (s1 : Same B B2) (off : ∀ a, a ≠ l → B2 a = B a) : SM K B2 H q g b := by
  obtain ⟨kvs, cl, cells, gs, n, a1, a2, a3, a4, a5, a6, a7, a8, a9, a10⟩ := s.ex
  exact ⟨⟨kvs, cl, cells, gs, n, a1, a2, a3, a4, a5, a6, dp_mono s1 a7, a8, a9, a10⟩, by rw [off q (Ne.symm h1)]; exact s.qb, by rw [off g (Ne.symm h2)]; exact s.gb, s.ne⟩
theorem fixS (bh : Same B2 H2) (h2 : H2 p = some o) : ∃ B3, Same B2 B3 ∧ Same B3 H2 ∧ B3 p = some o ∧ ∀ a, a ≠ p → B3 a = B2 a := by
  cases q : B2 p with
  | none =>
    refine ⟨upd B2 p o, same_new q, fun a u e => ?_, upd_same, fun a ha => upd_ne ha⟩
    by_cases z : a = p
    · subst z
      rw [upd_same] at e
      rw [h2]
      exact e
    · rw [upd_ne z] at e
      exact bh a u e
  | some o' =>
    have := bh _ _ q
    rw [h2] at this
    cases this
    exact ⟨B2, Same.refl _, bh, q, fun _ _ => rfl⟩
end
section
variable {X : Cx} {Γ : List Sl} {B H : Hp} {q g l : Addr} {b c c2 : Nat} {e a f : Expr} {es : List Expr} {pos p p2 : Pos} {d da db : PyData} {ds : List PyData} {P P' : PyData → Prop} {R : V → Hp → Hp → Hp → Prop} {x y z : Str} {rest sts : List Stmt} {D : Ends} {i j : Int}
/-- a list that changed so far is fixed; the state stays -/
theorem bd_fixS (i : Nat) (hr : Γ[i]? = some (.raw (.ref l))) (m : Mt X.K B H l ds)
    (k : ∀ B2, Same B B2 → Same B2 H → (∀ a, a ≠ l → B2 a = B a) → BD X (Γ.set i (.lst ds)) B2 H sts D) : BD X Γ B H sts D := fun σ ok => by
  obtain ⟨⟨xs, h1, h2⟩, h3⟩ := m
  obtain ⟨B3, s1, s2, e3, off⟩ := fixS ok.same h1
  refine k B3 s1 s2 off σ ⟨s2, by rw [List.length_set]; exact ok.len, fun n s hs => ?_⟩
  by_cases z : i = n
  · subst z
    rw [List.getElem?_set_self (by rw [List.getElem?_eq_some_iff] at hr; exact hr.1)] at hs
    cases hs
    exact ⟨l, xs, ok.ok i _ hr, e3, dps_mono s1 h2⟩
  · rw [List.getElem?_set_ne z] at hs
    exact (ok.ok n s hs).mono s1
/-- a pure def, its second argument with draws in it -/
theorem est_pcall {k : Nat} {ps : List Str} {α : Type} {args : α → List PyData} {pre : α → Prop} {post : α → PyData → Prop} (F : Has X.prog X.w X.K X.mg X.base k x ps (PrR X.K args pre post)) (hr : Room k X.A) (hg : X.A.guards = some [])
    (ha : ∀ B1 H1, GS q g B H B1 H1 → ED X Γ B1 H1 a da) (h : EST X Γ B H q g b c e P) (hp : ∀ d, P d → ∃ v, args v = [da, d] ∧ pre v ∧ ∀ d', post v d' → P' d') (hgl : Gl X x := by rfl)
    (hdb : (x == ("__debug__" : Str)) = false := by decide) (he : starEach [a, e] X.env = (false, eval a X.env) :: starEach [e] X.env := by rfl) (he2 : starEach [e] X.env = (false, eval e X.env) :: starEach [] X.env := by rfl) (hpl : (backTo pos (starEach [e] X.env)).any (·.1) = false := by rfl) : EST X Γ B H q g b c (.Call (.Name x p) [a, e] [] pos) P' := fun σ B1 H1 w sm ok Q k => by
  refine we_call F hr hg hgl (wa_of (pa_cons (pe X a) (pa_cons (pe X e) pa_nil he2) he) (ha B1 H1 w σ B1 H1 (Grow.refl ok.same) ok _ fun v1 B2 H2 g2 r1 => h σ B2 H2 (w.trans (GS.of g2)) (sm.grow g2) (ok.grow g2) _ fun v B3 H3 w3 sm3 r => ?_)) hdb he hpl
  obtain ⟨d, pd, dd⟩ := r
  obtain ⟨u, ea, pu, pp⟩ := hp d pd
  exact ⟨B3, u, w3.bh, by rw [ea]; exact .cons (dp_mono w3.b r1) (.cons dd .nil), pu, fun v' d' B4 H4 pd' g4 dd' => k v' B4 H4 (((GS.of g2).trans w3).trans (GS.of g4)) (sm3.grow g4) ⟨d', pp d' pd', dd'⟩⟩
/-- tests that are told, draws in them -/
def ETB (X : Cx) (Γ : List Sl) (B H : Hp) (q g : Addr) (b c : Nat) (e : Expr) (t : Bool) : Prop :=
  ∀ (σ : L2.St) (B1 H1 : Hp), GS q g B H B1 H1 → SM X.K B1 H1 q g b → Good X.K Γ σ B1 H1 → ∀ Q : Bool → Hp → Prop, (∀ B2 H2, GS q g B1 H1 B2 H2 → SM X.K B2 H2 q g (b + c) → Q t H2) → WT X e σ H1 Q
theorem etb_val {t : Bool} (he : ∀ whole, isTrue e X.env whole = (do let v ← whole; standAt e.pos; holding [v] (truthy v))) (h : EST X Γ B H q g b c e fun d => d = .bool t) : ETB X Γ B H q g b c e t := fun σ B1 H1 w sm ok Q k =>
  wt_of (pt_val (pe X e) he) (h σ B1 H1 w sm ok _ fun v B2 H2 w2 sm2 ⟨d, ed, dd⟩ => ⟨t, by subst ed; exact dp_bl dd, k B2 H2 w2 sm2⟩)
theorem etb_not {t : Bool} (h : ETB X Γ B H q g b c e t) : ETB X Γ B H q g b c (.UnaryOp .Not e pos) (!t) := fun σ B1 H1 w sm ok Q k => wt_of (pt_not (pt X e)) (h σ B1 H1 w sm ok _ fun B2 H2 w2 sm2 => k B2 H2 w2 sm2)
theorem etb_or2 {t u : Bool} (ha : ∀ B1 H1, GS q g B H B1 H1 → ET X Γ B1 H1 a t) (ht : t = false) (h : ETB X Γ B H q g b c e u) : ETB X Γ B H q g b c (.BoolOp .Or [a, e] pos) u := fun σ B1 H1 w sm ok Q k =>
  wt_of (PW.pt (pw_or (pt X a) (pw_or1 (pt X e)))) (ha B1 H1 w σ B1 H1 (Grow.refl ok.same) ok _ fun B2 H2 g2 => by
    subst ht
    exact iteF (h σ B2 H2 (w.trans (GS.of g2)) (sm.grow g2) (ok.grow g2) _ fun B3 H3 w3 sm3 => k B3 H3 ((GS.of g2).trans w3) sm3))
theorem bds_skip {s1 : List Stmt} (sm : SM X.K B H q g b) (ht : ETB X Γ B H q g b c e false) (h : ∀ B2 H2, GS q g B H B2 H2 → SM X.K B2 H2 q g (b + c) → BD X Γ B2 H2 rest D) : BD X Γ B H (.If e s1 [] pos :: rest) D := fun σ ok =>
  wb_cons (ps_if (pt X e) (pb X s1) (pb X [])) (ht σ B H (GS.refl ok.same) sm ok _ fun B2 H2 w sm2 => iteF (bd_fall (h B2 H2 w sm2) σ (ok.gs w)))
/-- x, y, z = xs: a list of three -/
theorem bd_unl3 {d1 d2 d3 : PyData} {px py pz pt : Pos} {kt : Nat} (i j n : Nat) (hc : X.calm = true) (hN : X.N.Nodup) (ha : ED X Γ B H a (.list [d1, d2, d3]))
    (k : ∀ B2 H2, Grow B H B2 H2 → BD X (((Γ.set i (.dat d1)).set j (.dat d2)).set n (.dat d3)) B2 H2 rest D)
    (hi : X.N[i]? = some x := by rfl) (hj : X.N[j]? = some y := by rfl) (hn : X.N[n]? = some z := by rfl) (hx : Loc X.env.scope x := by first | exact Or.inl rfl | exact Or.inr rfl) (hy : Loc X.env.scope y := by first | exact Or.inl rfl | exact Or.inr rfl) (hz : Loc X.env.scope z := by first | exact Or.inl rfl | exact Or.inr rfl)
    (hfx : X.fn x = true ∨ X.env.scope.names.lookup x = some .local := by first | exact .inl rfl | exact .inr rfl) (hfy : X.fn y = true ∨ X.env.scope.names.lookup y = some .local := by first | exact .inl rfl | exact .inr rfl) (hfz : X.fn z = true ∨ X.env.scope.names.lookup z = some .local := by first | exact .inl rfl | exact .inr rfl)
    (q1 : swapsWithSole [.Tuple [.Name x px, .Name y py, .Name z pz] kt pt] a pos.line X.env = pure false := by rfl) (q2 : swappedStores [.Tuple [.Name x px, .Name y py, .Name z pz] kt pt] a X.env = pure none := by rfl)
    (q3 : (assignEach [.Tuple [.Name x px, .Name y py, .Name z pz] kt pt] X.env).map (·.2) = [assign (.Tuple [.Name x px, .Name y py, .Name z pz] kt pt) X.env] := by rfl)
    (e1 : (assignEach [.Name x px, .Name y py, .Name z pz] X.env).map (·.2) = assign (.Name x px) X.env :: (assignEach [.Name y py, .Name z pz] X.env).map (·.2) := by rfl) (e2 : (assignEach [.Name y py, .Name z pz] X.env).map (·.2) = assign (.Name y py) X.env :: (assignEach [.Name z pz] X.env).map (·.2) := by rfl) (e22 : (assignEach [.Name z pz] X.env).map (·.2) = assign (.Name z pz) X.env :: (assignEach [] X.env).map (·.2) := by rfl) (e3 : (assignEach [.Name x px, .Name y py, .Name z pz] X.env).length = 3 := by rfl) (e4 : (assignEach [.Name x px, .Name y py, .Name z pz] X.env).findIdx? (·.1) = none := by rfl) :
    BD X Γ B H (.Assign [.Tuple [.Name x px, .Name y py, .Name z pz] kt pt] a pos :: rest) D := fun σ ok =>
  wb_cons (ps_asg (pe X a) (pg_unl hc (pgs_cons (pg_name hN hi hx hfx) (pgs_cons (pg_name hN hj hy hfy) (pgs_cons (pg_name hN hn hz hfz) pgs_nil e22) e2) e1) e3 e4) q1 q2 q3) (ha σ B H (Grow.refl ok.same) ok _ fun v B2 H2 g2 r => by
    cases r with
    | @lst l xs _ h1 h2 =>
      cases h2 with
      | @cons v1 _ _ _ r1 t1 => cases t1 with
        | @cons v2 _ _ _ r2 t2 => cases t2 with
          | @cons v3 _ _ _ r3 t3 =>
            cases t3
            exact ⟨l, [v1, v2, v3], rfl, g2.bh.seq h1, rfl, v1, _, rfl, v2, _, rfl, v3, _, rfl, rfl, k B2 H2 g2 _ (((ok.grow g2).set i (s := .dat d1) ⟨v1, rfl, r1⟩).set j (s := .dat d2) ⟨v2, rfl, r2⟩ |>.set n (s := .dat d3) ⟨v3, rfl, r3⟩)⟩)
end
end Dc
/-! The walks, fourteenth part: _law_begun, _law_lay, _law_order, _law_triple. -/
namespace Dc
open PySem PySem.Spec PyProof.Rows L2
section
variable {X : Cx} {Γ : List Sl} {B H : Hp} {f1 f2 f3 : Expr} {t1 t2 t3 : Str} {j1 j2 j3 : Nat} {p1 p2 p3 pos : Pos} {P1 : PyData → Prop} {z : Int}
/-- {t1: f1, t2: f2, t3: f3}: texts to some data, a new list, an int -/
theorem ev_dict3T (h12 : t1 ≠ t2) (h13 : t1 ≠ t3) (h1 : ES X Γ B H f1 P1) (h2 : EL X Γ B H f2 []) (h3 : ED X Γ B H f3 (.int z)) : EV X Γ B H (.Dict [some (.Constant (.str t1) j1 p1), some (.Constant (.str t2) j2 p2), some (.Constant (.str t3) j3 p3)] [f1, f2, f3] pos) fun v H1 B2 H2 => ∃ (q : Addr) (kvs : List (Key × V)) (cl : V) (d : PyData), v = .ref q ∧ H1 q = none ∧ B2 q = none ∧ H2 q = some (.dK kvs) ∧ kvs.length ≤ 3 ∧ valV kvs (Sum.inr t1) = some cl ∧ valV kvs (Sum.inr t3) = some (.int z) ∧ Dp X.K B2 cl d ∧ P1 d := fun σ B1 H1 w1 ok Q k =>
  we_of (pe_disp (pps_cons pe_str (pe X f1) (pps_cons pe_str (pe X f2) (pps_cons pe_str (pe X f3) pps_nil))) (by rfl) (by rfl) (fun z => by cases z) (by show 3 ≤ 15; decide)) fun q hq => by
    have g0 := Grow.newM (o := .dK []) ok.same hq
    have ok1 := ok.grow g0
    refine h1 σ _ _ (w1.trans g0) ok1 _ fun v1 B2 H2 g2 r2 => ?_
    obtain ⟨d1, pd1, dd1⟩ := r2
    refine h2 σ _ _ ((w1.trans g0).trans g2) (ok1.grow g2) _ fun v2 B3 H3 g3 r3 => ?_
    refine h3 σ _ _ (((w1.trans g0).trans g2).trans g3) ((ok1.grow g2).grow g3) _ fun v3 B4 H4 g4 r4 => ?_
    have g24 := (g2.trans g3).trans g4
    have hq4 : H4 q = some (.dK []) := g24.h _ _ upd_same
    have hb4 : B4 q = none := g24.out q _ upd_same (ok.same.free hq)
    refine ⟨hq4, [(Sum.inr t1, v1), (Sum.inr t2, v2), (Sum.inr t3, v3)], rfl, by simp, ?_⟩
    refine k _ B4 _ ⟨(g0.trans g24).b, same_mut (g0.trans g24).h hq, same_mut g24.bh hb4, (g0.trans g24).out⟩ ⟨q, _, v1, d1, rfl, hq, hb4, upd_same, merge_len [(Sum.inr t1, v1), (Sum.inr t2, v2), (Sum.inr t3, v3)] [], ?_, ?_, dp_mono (g3.b.trans g4.b) dd1, pd1⟩
    · show valV (putK (putK (putK ([] : List (Key × V)) (Sum.inr t1) v1) (Sum.inr t2) v2) (Sum.inr t3) v3) (Sum.inr t1) = _
      rw [valV_put, if_neg (by simp; exact h13), valV_put, if_neg (by simp; exact h12), valV_put, if_pos rfl]
    · show valV (putK (putK (putK ([] : List (Key × V)) (Sum.inr t1) v1) (Sum.inr t2) v2) (Sum.inr t3) v3) (Sum.inr t3) = _
      rw [valV_put, if_pos rfl, dp_int r4]
end
section
variable {P : Program} {w : World} {K : PySem.W.Frag} {mg : Str → Option Value} {base : Heap}
/-! _law_begun -/
abbrev s_begun : Stmt := top 47
abbrev N_begun : List Str := ["_law_script", "_law_m", "_law_cell"]
theorem sc_begun : FnScope N_begun ["_law_script"] (defScope s_begun) := ⟨rfl, rfl, rfl, by decide +kernel, rfl, by decide +kernel, by decide +kernel⟩
def p_begun (K : PySem.W.Frag) : Pr := fun vs H Q => ∃ (B : Hp) (sc : List Int), Same B H ∧ DpAll K B vs [.list (sc.map .int)] ∧ sc.length ≤ 63 ∧ ∀ q g B2 H2, Grow B H B2 H2 → SM K B2 H2 q g 0 → H q = none → H g = none → Q (.ref q) H2
theorem w_begun {f : Addr} {fd : FuncData} (F : Fun K "_law_begun" "_law_begun" s_begun f fd) (T : Bi mg) (G1 : Has P w K mg base 1 "_law_folded" ["_law_script"] (p_folded K)) : FnG P w K mg base 2 f fd ["_law_script"] (p_begun K) := by
  refine fnG F sc_begun (fun vs H Q ⟨B, m, _, hd, _⟩ => by rw [dps_len hd]; rfl) fun cdv A outer s H vs Q room gd ⟨B, sc, sb, hd, hsc, k⟩ => ?_
  refine (?_ : BD (bodyX P w K mg base N_begun "_law_begun" s_begun f cdv A outer s H) ([PyData.list (sc.map .int)].map Sl.dat ++ List.replicate (N_begun.length - [PyData.list (sc.map .int)].length) .unk) B H (defBody s_begun) { nx := fun _ H' => Q .non H', rt := Q }) _ (good_start (N := N_begun) sb hd (by show 1 ≤ 3; decide))
  -- the dict
  refine bd_setV 1 (ev_dict3T (P1 := fun d => ∃ cs : List Int, d = .list (cs.map .int) ∧ cs.length = 64) (by decide) (by decide) (es_call (post := fun (m : List Int) d => ∃ cs : List Int, d = .list (cs.map .int) ∧ cs.length = 64) G1 sc room gd hsc (ea_cons (ed_name 0 rfl) ea_nil)) (el_lst (ds := []) ea_nil) ed_int) (fun v B1 H1 g1 r σ ok => ?_) sc_begun.nd
  · obtain ⟨q, kvs, cl, d, rfl, hq0, hqb, hqd, hkl, hc1, hc3, dcl, cells, rfl, hcs⟩ := r
    have ok' := ok.set 1 (s := .raw (.ref q)) rfl
    refine (?_ : BD (bodyX P w K mg base N_begun "_law_begun" s_begun f cdv A outer s H) [.dat (.list (sc.map .int)), .raw (.ref q), .unk] B1 H1 _ _) _ ok'
    refine bd_putS (t := "great") 1 rfl hqd hqb (by omega) room.units (Rv := isL K (sc.map fun c => PyData.int (if c ≥ 10 ^ 18 then c else 0))) (el_lcm0 (ee := PyData.int) (xs := sc) (v := fun c => PyData.int (if c ≥ 10 ^ 18 then c else 0)) (own := [("_law_cell", 2)]) (js := [2]) (Γd := fun d => (wipeG _ [2]).set 2 (.dat d)) int_inj rfl sc_begun.nd (blkOk_by (N := N_begun) (sc := defScope s_begun) (by decide +kernel)) (fun _ _ _ _ _ => pg_name (i := 2) sc_begun.nd rfl (.inl rfl)) (it_list (ed_name 0 rfl)) (by omega) (by simp) (fun d hd => tg_one 2) (fun c hc s0 H0 C cl fp B' H' g' => ?_)) fun v B2 H2 g2 r2 hb2 hq2 => ?_
    · refine ed_if (k := decide (10 ^ 18 ≤ c)) (et_ge (ed_name 2 rfl) (ed_to (ed_pow ⟨by decide, by decide, by decide⟩ ed_int ed_int) rfl)) (fun hk => ?_) (fun hk => ?_)
      · rw [if_pos (of_decide_eq_true hk)]
        exact ed_name 2 rfl
      · rw [if_neg (of_decide_eq_false hk)]
        exact ed_int
    · obtain ⟨g, xs, rfl, hg0, hgx, hgb, hgd⟩ := r2
      have ngq : q ≠ g := ne_of_none hqd hg0
      have n1 : ("cells" : Str) ≠ "great" := by decide
      have n3 : ("spot" : Str) ≠ "great" := by decide
      have gg : Grow B H B2 (upd H2 q (.dK (putK kvs (Sum.inr "great") (.ref g)))) := (g1.trans g2).mut hq0 hb2 fun a ha => upd_ne ha
      have sm : SM K B2 (upd H2 q (.dK (putK kvs (Sum.inr "great") (.ref g)))) q g 0 := by
        refine ⟨⟨_, cl, cells, sc.map fun c => if c ≥ 10 ^ 18 then c else 0, 0, upd_same, ?_, ?_, ?_, ?_, Nat.le_refl _, dp_mono g2.b dcl, hcs, ?_, by rw [List.length_map]; exact hsc⟩, hb2, hgb, ngq⟩
        · -- the key is there: no more keys
          have := putK_len kvs (Sum.inr "great") (.ref g)
          omega
        · rw [valV_put, if_neg (by simp; exact n1)]
          exact hc1
        · rw [valV_put, if_pos rfl]
        · rw [valV_put, if_neg (by simp; exact n3)]
          exact hc3
        · rw [upd_ne (Ne.symm ngq), hgx]
          have e : (sc.map fun c => PyData.int (if c ≥ 10 ^ 18 then c else 0)) = (sc.map fun c => if c ≥ 10 ^ 18 then c else 0).map .int := by rw [List.map_map]; rfl
          rw [e] at hgd
          rw [dps_ints hgd]
      exact bd_ret (ev_raw 1 rfl) fun v B3 H3 g3 e => by
        subst e
        exact k q g B3 H3 (gg.trans g3) (sm.grow g3) hq0 (g1.h.free hg0)
end
end Dc
/-! The walks, fifteenth part: _law_lay, _law_order, _law_triple. -/
namespace Dc
open PySem PySem.Spec PyProof.Rows L2
/-- what a lay is drawn with -/
structure LS (L i : Nat) (left : List Nat) (js : List Jt) : Prop where
  asc : left.Pairwise (· < ·)
  lt : ∀ z ∈ left, z < 2 * L
  each : ∀ p ∈ js, p.1 < p.2 ∧ p.2 < 2 * L
  nd : (ptsJ js).Nodup
  off : ∀ z ∈ left, z ∉ ptsJ js
  few : js.length ≤ i
theorem LS.more {L i : Nat} {x y : Nat} {left : List Nat} {js : List Jt} (S : LS L i (x :: left) js) (hy : y ∈ left) : LS L (i + 1) ((x :: left).filter fun z => !decide (z = x ∨ z = y)) (js ++ [(x, y)]) := by
  have hxy : x < y := (List.pairwise_cons.mp S.asc).1 y hy
  have hyl := S.lt y (List.mem_cons_of_mem _ hy)
  refine ⟨S.asc.filter _, fun z hz => S.lt z (List.mem_filter.mp hz).1, fun p hp => ?_, ?_, fun z hz => ?_, ?_⟩
  · rcases List.mem_append.mp hp with h | h
    · exact S.each p h
    · simp at h
      rw [h]
      exact ⟨hxy, hyl⟩
  · rw [pts_snoc, List.nodup_append]
    refine ⟨S.nd, by simp; omega, fun a ha b hb e => ?_⟩
    subst e
    have : a = x ∨ a = y := by simpa using hb
    rcases this with rfl | rfl
    · exact S.off a List.mem_cons_self ha
    · exact S.off a (List.mem_cons_of_mem _ hy) ha
  · obtain ⟨h1, h2⟩ := List.mem_filter.mp hz
    have h2' : ¬ (z = x ∨ z = y) := by simpa using h2
    rw [pts_snoc, List.mem_append]
    rintro (h | h)
    · exact S.off z h1 h
    · exact h2' (by simpa using h)
  · rw [List.length_append]
    have := S.few
    show _ + 1 ≤ _
    omega
theorem LS.less {L i : Nat} {x : Nat} {left : List Nat} {js : List Jt} (S : LS L i (x :: left) js) : LS L (i + 1) left js :=
  ⟨(List.pairwise_cons.mp S.asc).2, fun z hz => S.lt z (List.mem_cons_of_mem _ hz), S.each, S.nd, fun z hz => S.off z (List.mem_cons_of_mem _ hz), by have := S.few; omega⟩
theorem LS.len {L i : Nat} {left : List Nat} {js : List Jt} (S : LS L i left js) : left.length ≤ 2 * L := nd_len _ _ (S.asc.imp fun h => Nat.ne_of_lt h) S.lt
/-- what an order is drawn with -/
structure OS (L i : Nat) (left os : List Int) : Prop where
  len : left.length + i = L
  olen : os.length = i
  lt : ∀ z ∈ left, 1 ≤ z ∧ z ≤ (L : Int)
  nd : left.Nodup
  each : ∀ o ∈ os, o ≠ 0 ∧ -(L : Int) ≤ o ∧ o ≤ (L : Int)
  ond : (os.map Int.natAbs).Nodup
  off : ∀ z ∈ left, z.natAbs ∉ os.map Int.natAbs
theorem OS.more {L i : Nat} {left os : List Int} (S : OS L i left os) {k : Nat} {z o : Int} (hk : left[k]? = some z) (ho : o = z ∨ o = 0 - z) : OS L (i + 1) (left.eraseIdx k) (os ++ [o]) := by
  have hkl : k < left.length := (List.getElem?_eq_some_iff.mp hk).1
  have hz := S.lt z (List.mem_of_getElem? hk)
  have ab : o.natAbs = z.natAbs := by rcases ho with rfl | rfl <;> omega
  have sub : ∀ y ∈ left.eraseIdx k, y ∈ left ∧ y ≠ z := fun y hy => by
    refine ⟨List.mem_of_mem_eraseIdx hy, fun e => ?_⟩
    subst e
    obtain ⟨i, hi, hi2⟩ := List.mem_eraseIdx_iff_getElem?.mp hy
    obtain ⟨p, h3⟩ := List.getElem?_eq_some_iff.mp hi2
    obtain ⟨q, h4⟩ := List.getElem?_eq_some_iff.mp hk
    have w := List.pairwise_iff_getElem.mp S.nd
    rcases Nat.lt_trichotomy i k with z | z | z
    · exact absurd (h3.trans h4.symm) (w i k p q z)
    · exact hi z
    · exact absurd (h4.trans h3.symm) (w k i q p z)
  refine ⟨?_, by rw [List.length_append, S.olen]; rfl, fun y hy => S.lt y (sub y hy).1, S.nd.sublist (List.eraseIdx_sublist _ _), fun y hy => ?_, ?_, fun y hy => ?_⟩
  · rw [List.length_eraseIdx_of_lt hkl]
    have := S.len
    omega
  · rcases List.mem_append.mp hy with h | h
    · exact S.each y h
    · simp at h
      rcases ho with e | e <;> omega
  · rw [List.map_append, List.nodup_append]
    refine ⟨S.ond, by simp, fun a ha b hb e => ?_⟩
    simp at hb
    rw [e, hb, ab] at ha
    exact S.off z (List.mem_of_getElem? hk) ha
  · rw [List.map_append, List.mem_append]
    obtain ⟨h1, h2⟩ := sub y hy
    rintro (h | h)
    · exact S.off y h1 h
    · simp at h
      have := S.lt y h1
      omega
theorem OS.done {L : Nat} {left os : List Int} (S : OS L L left os) : IsOrd L os := ⟨S.olen, S.each, S.ond⟩
section
variable {P : Program} {w : World} {K : PySem.W.Frag} {mg : Str → Option Value} {base : Heap}
/-! _law_lay -/
abbrev s_llay : Stmt := top 50
abbrev N_llay : List Str := ["_law_m", "_law_links", "_law_left", "_law_joints_so", "_law_share", "_law_turn", "_law_end", "_law_mate", "_law_other"]
theorem sc_llay : FnScope N_llay ["_law_m", "_law_links"] (defScope s_llay) := ⟨rfl, rfl, rfl, by decide +kernel, rfl, by decide +kernel, by decide +kernel⟩
abbrev p_llay (K : PySem.W.Frag) : Pr := PrS K (α := Nat) (fun n => [.int (n : Nat)]) (fun n => 1 ≤ n ∧ n ≤ 12) 60 fun n d => ∃ js, d = eLay n js ∧ Lay n js
theorem w_llay {f : Addr} {fd : FuncData} (F : Fun K "_law_lay" "_law_lay" s_llay f fd) (T : Bi mg) (G1 : Has P w K mg base 3 "_law_draw" ["_law_m", "_law_limit"] (p_draw K)) (G2 : Has P w K mg base 3 "_law_of" ["_law_m", "_law_some"] (p_of K)) : FnG P w K mg base 4 f fd ["_law_m", "_law_links"] (p_llay K) := by
  refine fnS F sc_llay (fun _ => rfl) fun cdv A outer s B H Q q g b L room gd sb sm hb hp k => ?_
  obtain ⟨h1, h12⟩ : 1 ≤ L ∧ L ≤ 12 := hp
  have hof : ∀ d, d = PyData.list ([1, 2, 3, 3, 5, 9].map eN) → ∃ v : List PyData, [PyData.list v] = [d] ∧ (v ≠ [] ∧ v.length ≤ 1000000) ∧ ∀ d', d' ∈ v → ∃ n : Nat, d' = eN n ∧ 1 ≤ n ∧ n ≤ 9 := fun d hd => by
    refine ⟨[1, 2, 3, 3, 5, 9].map eN, by rw [hd], ⟨by simp, by decide⟩, fun d' h => ?_⟩
    obtain ⟨n, hn, rfl⟩ := List.mem_map.mp h
    refine ⟨n, rfl, ?_⟩
    simp only [List.mem_cons, List.not_mem_nil, or_false] at hn
    omega
  refine bds_par3 2 3 4 rfl sc_llay.nd (by decide) (by decide) (by decide) sm (c1 := 0) (c2 := 0) (c3 := 0 + 1) (evs_of fun B1 H1 w1 => el_listR1 (n := 2 * L) (by simp) (by omega) rfl T.range T.list (ed_mul (.inl ⟨by decide, by decide⟩) ed_int (ed_name 1 rfl))) (evs_of fun B1 H1 w1 => el_lst (ds := []) ea_nil) (est_call (P := fun d => d = PyData.list ([1, 2, 3, 3, 5, 9].map eN)) (P' := fun d => ∃ n : Nat, d = eN n ∧ 1 ≤ n ∧ n ≤ 9) G2 0 room gd rfl (by omega) (est_ed fun B1 H1 w1 => EL.ed (el_lst (ds := [1, 2, 3, 3, 5, 9].map eN) (ea_cons ed_int (ea_cons ed_int (ea_cons ed_int (ea_cons ed_int (ea_cons ed_int (ea_cons ed_int ea_nil)))))) (by decide))) hof) fun v1 v2 v3 B1 H1 B2 H2 B3 H3 w1 sm1 r1 w2 sm2 r2 w3 sm3 r3 σ ok => ?_
  obtain ⟨l1, xs1, rfl, hl1, hx1, hb1, hd1⟩ := r1
  obtain ⟨l, xs, rfl, hl0, hlx, hlb, hld⟩ := r2
  obtain ⟨_, ⟨sh, rfl, hs1, hs9⟩, dsh⟩ := r3
  have o1 := sm.off hl1
  have o2 := sm1.off hl0
  have hl0H : H l = none := w1.fr l hl0
  have n1 : l ≠ l1 := (ne_of_none hx1 hl0).symm
  have hx3 : H3 l1 = some (.lst xs1) := (w2.trans w3).h _ _ o1.1 o1.2 hx1
  have m3 : Mt K B3 H3 l (([] : List Jt).map eJ) := (Mt.mk ⟨xs, hlx, hld⟩ hlb : Mt K B2 H2 l []).gs w3 o2.1 o2.2
  obtain ⟨E1, s1, s2, bE1, off1⟩ := fixS ok.same hx3
  have wA : GS q g B H E1 H3 := ((w1.trans w2).trans w3).fix hl1 s1 s2 off1
  have smA : SM K E1 H3 q g (b + 1) := (sm3.fix o1.1 o1.2 s1 off1).up (by omega)
  have mA : Mt K E1 H3 l (([] : List Jt).map eJ) := ⟨by obtain ⟨⟨xs', a1, a2⟩, a3⟩ := m3; exact ⟨xs', a1, dps_mono s1 a2⟩, by rw [off1 l n1]; exact m3.out⟩
  have ok' := (((ok.to s1 s2).set 2 (s := .lst ((List.range (2 * L)).map eN)) ⟨l1, xs1, rfl, bE1, rng0 (2 * L) ▸ dps_mono ((w2.trans w3).b.trans s1) hd1⟩).set 3 (s := .raw (.ref l)) rfl).set 4 (s := .dat (eN sh)) ⟨v3, rfl, dp_mono s1 dsh⟩
  refine (?_ : BD (bodyX P w K mg base N_llay "_law_lay" s_llay f cdv A outer s H) [.raw (.ref q), .dat (.int (L : Nat)), .lst ((List.range (2 * L)).map eN), .raw (.ref l), .dat (eN sh), .unk, .unk, .unk, .unk] E1 H3 _ _) _ ok'
  refine bd_for (fun i Γ' B' H' => ∃ (s5 s6 s7 : Sl) (left : List Nat) (js : List Jt), Γ' = [.raw (.ref q), .dat (.int (L : Nat)), .lst (left.map eN), .raw (.ref l), .dat (eN sh), s5, s6, s7, .unk] ∧ GS q g B H B' H' ∧ SM K B' H' q g (b + 1 + 2 * i) ∧ Mt K B' H' l (js.map eJ) ∧ LS L i left js) rfl PassesOwn.never (pg_name (i := 5) sc_llay.nd rfl (.inl rfl)) (it_rng1 (n := 2 * L) (by simp) (by omega) T.range (ed_mul (.inl ⟨by decide, by decide⟩) ed_int (ed_name 1 rfl))) (fun d hd Γ1 => tg_one 5)
    (fun B4 H4 g4 => ⟨_, _, _, List.range (2 * L), [], rfl, wA.trans (GS.of g4), (smA.grow g4), mA.grow g4, ⟨List.pairwise_lt_range, fun z hz => List.mem_range.mp hz, nofun, by simp, by simp, by simp⟩⟩) ?_ ?_
  · rintro i d _ B4 H4 hd ⟨s5, s6, s7, left, js, rfl, w4, sm4, m4, S⟩ _ B5 H5 g5
    have hi : i < 2 * L := by
      have := (List.getElem?_eq_some_iff.mp hd).1
      rw [rng_len] at this
      exact this
    have w5 := w4.trans (GS.of g5)
    have sm5 := sm4.grow g5
    have m5 := m4.grow g5
    have hfew := S.few
    refine bd_if (t := decide (1 < left.length)) (et_to (et_gt (ed_len (.inl rfl) T.len (ed_nameL 2 rfl)) ed_int) (by rw [List.length_map]; exact decide_eq_decide.mpr (by omega))) (fun ht B6 H6 g6 => ?_) (fun ht B6 H6 g6 => ?_)
    · have hlen : 1 < left.length := of_decide_eq_true ht
      obtain ⟨x, rest, rfl⟩ : ∃ x t, left = x :: t := by
        cases left with
        | nil => simp at hlen
        | cons x t => exact ⟨x, t, rfl⟩
      have hleft := S.len
      have w6 := w5.trans (GS.of g6)
      have sm6 := sm5.grow g6
      have m6 := m5.grow g6
      refine bd_set 6 sc_llay.nd (d := eN x) (ed_ixL (ds := (x :: rest).map eN) (k := 0) rfl rfl (ed_nameL 2 rfl) ed_int) fun B7 H7 g7 => ?_
      have w7 := w6.trans (GS.of g7)
      have sm7 := sm6.grow g7
      have m7 := m6.grow g7
      have dr : ∀ (n : Nat) (d : PyData), 1 ≤ n ∧ n ≤ 1000000 → d = .int ((n : Nat) : Int) → ∃ v : Nat, [PyData.int ((v : Nat) : Int)] = [d] ∧ (1 ≤ v ∧ v ≤ 1000000) ∧ ∀ d', (∃ r : Nat, d' = eN r ∧ r < v) → ∃ r : Nat, d' = eN r ∧ r < n := fun n d hn hd => ⟨n, by rw [hd], hn, fun d' h => h⟩
      refine bds_if sm7 (c := 0 + 1) (ets_gt (i := 0) (P := fun d => ∃ r : Nat, d = eN r ∧ r < sh) (fun B1 H1 w1 => ed_int) (est_call (P := fun d => d = .int ((sh : Nat) : Int)) G1 0 room gd rfl (by omega) (est_ed fun B1 H1 w1 => ed_name 4 rfl) (fun d hd => dr sh d ⟨hs1, by omega⟩ hd)) (fun d ⟨r, hr, _⟩ => ⟨_, hr⟩)) (fun B8 H8 w8 sm8 => ?_) (fun B8 H8 w8 sm8 => ?_)
      · have hm8 := m7.gs w8 o2.1 o2.2
        have hrl : 1 ≤ rest.length := by
          have : 1 < rest.length + 1 := hlen
          omega
        refine bds_set 7 sc_llay.nd sm8 (c := 0 + 1) (P := fun d => ∃ y, y ∈ rest ∧ d = eN y) (est_ixL (ds := (x :: rest).map eN) (P := fun d => ∃ r : Nat, d = .int ((1 + r : Nat) : Int) ∧ r < rest.length) (fun B1 H1 w1 => ed_nameL 2 rfl) (est_add (i := 1) (P := fun d => ∃ r : Nat, d = eN r ∧ r < rest.length) (fun B1 H1 w1 => ed_int) (est_call (P := fun d => d = .int ((rest.length : Nat) : Int)) G1 0 room gd rfl (by omega) (est_ed fun B1 H1 w1 => ed_i (ed_sub (ed_len (.inl rfl) T.len (ed_nameL 2 rfl)) ed_int) (by simp)) (fun d hd => dr rest.length d ⟨hrl, by simp at hleft; omega⟩ hd)) (fun d ⟨r, hr, hl⟩ => ⟨(r : Nat), hr, r, by rw [Int.natCast_add]; rfl, hl⟩)) (fun d ⟨r, hr, hl⟩ => ⟨1 + r, eN rest[r], hr, by rw [Nat.add_comm, List.map_cons, List.getElem?_cons_succ, List.getElem?_map, List.getElem?_eq_getElem hl]; rfl, rest[r], List.getElem_mem hl, rfl⟩)) fun d9 B9 H9 pd9 w9 sm9 => ?_
        obtain ⟨y, hy, rfl⟩ := pd9
        have m9 := hm8.gs w9 o2.1 o2.2
        refine bd_append (d := eJ (x, y)) 3 rfl m9 (by rw [List.length_map]; omega) (ed_tup (ds := [.int (x : Nat), .int (y : Nat)]) (ea_cons (ed_name 6 rfl) (ea_cons (ed_name 7 rfl) ea_nil)) (by show 2 ≤ 1000; decide)) fun B10 H10 g10 m10 H11 m11 o11 => ?_
        have w11 : GS q g B H B10 H11 := (((w7.trans w8).trans w9).trans (GS.of g10)).mut hl0H m10.out m11.some o11
        have sm11 := (sm9.grow g10).far o2.1 o2.2 o11
        refine bd_lcm1 2 (ee := eN) (xs := x :: rest) (f := fun z => !decide (z = x ∨ z = y)) (v := eN) (own := [("_law_other", 8)]) (js := [8]) (Γd := fun d => (wipeG _ [8]).set 8 (.dat d)) eN_inj rfl sc_llay.nd (blkOk_by (N := N_llay) (sc := defScope s_llay) (by decide +kernel)) (fun _ _ _ _ _ => pg_name (i := 8) sc_llay.nd rfl (.inl rfl)) (it_list (ed_nameL 2 rfl)) (by omega) (by simp) (fun d hd => tg_one 8) (fun z hz s0 H0 C cl fp B' H' g' => et_to (et_ninI (ns := [((x : Nat) : Int), ((y : Nat) : Int)]) room.units (.inr rfl) (ed_name 8 rfl) (ed_tup (ds := [.int (x : Nat), .int (y : Nat)]) (ea_cons (ed_name 6 rfl) (ea_cons (ed_name 7 rfl) ea_nil)) (by show 2 ≤ 1000; decide))) (congrArg (!·) (decide_eq_decide.mpr (by simp; omega)))) (fun z hz _ s0 H0 C cl fp B' H' g' => ed_name 8 rfl) fun B12 H12 g12 => ?_
        refine bd_fall (bd_fall (bd_turn rfl (Weak.refl _) ((((((g6.b.trans g7.b).trans w8.b).trans w9.b).trans g10.b).trans g12.b)) ⟨_, _, _, (x :: rest).filter (fun z => !decide (z = x ∨ z = y)), js ++ [(x, y)], rfl, w11.trans (GS.of g12), (sm11.grow g12).up (by omega), ?_, S.more hy⟩))
        rw [List.map_append]
        exact m11.grow g12
      · have hm8 := m7.gs w8 o2.1 o2.2
        refine bd_setL 2 sc_llay.nd (ds := rest.map eN) (el_slFrom (ds := (x :: rest).map eN) (k := 1) rfl (ed_nameL 2 rfl) ed_int) fun B9 H9 g9 => ?_
        exact bd_fall (bd_fall (bd_turn rfl (Weak.refl _) (((g6.b.trans g7.b).trans w8.b).trans g9.b) ⟨_, _, _, rest, js, rfl, (w7.trans w8).trans (GS.of g9), (sm8.grow g9).up (by omega), hm8.grow g9, S.less⟩))
    · refine bd_fall (bd_turn rfl (Weak.refl _) g6.b ⟨_, _, _, left, js, rfl, w5.trans (GS.of g6), (sm5.grow g6).up (by omega), m5.grow g6, ⟨S.asc, S.lt, S.each, S.nd, S.off, by omega⟩⟩)
  · rintro _ B4 H4 ⟨s5, s6, s7, left, js, rfl, w4, sm4, m4, S⟩ _
    rw [rng_len] at sm4 S
    refine bd_fixS 3 rfl m4 fun B5 t1 t2 off5 => ?_
    have w5 := w4.fix hl0H t1 t2 off5
    have sm5 := sm4.fix o2.1 o2.2 t1 off5
    refine bd_ret (R := isD K (eLay L (sortJ js))) (ed_tup (ds := [.int (L : Nat), .tuple ((sortJ js).map eJ)]) (ea_cons (ed_name 1 rfl) (ea_cons (ed_to (ed_tuple (.inl rfl) T.tuple (EL.ed (el_sorted room.units T.sorted (eJ_alike js) (eJ_sortable js) (eJ_depth js) (ed_nameL 3 rfl)))) (by rw [sortD_eJ])) ea_nil)) (by show 2 ≤ 1000; decide)) fun v B6 H6 g6 r => k v _ B6 H6 ⟨sortJ js, rfl, mk_lay h1 h12 S.each S.nd⟩ (w5.trans (GS.of g6)) ((sm5.grow g6).up (by omega)) r
end
end Dc
/-! The walks, sixteenth part: _law_order, _law_triple. -/
namespace Dc
open PySem PySem.Spec PyProof.Rows L2
theorem erase_map {α β : Type} (f : α → β) : ∀ (l : List α) (k : Nat), (l.map f).eraseIdx k = (l.eraseIdx k).map f
  | [], _ => rfl
  | _ :: _, 0 => rfl
  | a :: l, k + 1 => by
    show f a :: (l.map f).eraseIdx k = f a :: (l.eraseIdx k).map f
    rw [erase_map f l k]
theorem dr_of (n : Nat) (d : PyData) (hn : 1 ≤ n ∧ n ≤ 1000000) (hd : d = .int ((n : Nat) : Int)) : ∃ v : Nat, [PyData.int ((v : Nat) : Int)] = [d] ∧ (1 ≤ v ∧ v ≤ 1000000) ∧ ∀ d', (∃ r : Nat, d' = eN r ∧ r < v) → ∃ r : Nat, d' = eN r ∧ r < n := ⟨n, by rw [hd], hn, fun d' h => h⟩
section
variable {P : Program} {w : World} {K : PySem.W.Frag} {mg : Str → Option Value} {base : Heap}
/-! _law_order -/
abbrev s_order : Stmt := top 58
abbrev N_order : List Str := ["_law_m", "_law_many", "_law_left", "_law_found", "_law_turn", "_law_one"]
theorem sc_order : FnScope N_order ["_law_m", "_law_many"] (defScope s_order) := ⟨rfl, rfl, rfl, by decide +kernel, rfl, by decide +kernel, by decide +kernel⟩
abbrev p_order (K : PySem.W.Frag) : Pr := PrS K (α := Nat) (fun n => [.int (n : Nat)]) (fun n => 1 ≤ n ∧ n ≤ 12) 30 fun n d => ∃ os, d = .tuple (os.map .int) ∧ IsOrd n os
theorem w_order {f : Addr} {fd : FuncData} (F : Fun K "_law_order" "_law_order" s_order f fd) (T : Bi mg) (G1 : Has P w K mg base 3 "_law_draw" ["_law_m", "_law_limit"] (p_draw K)) : FnG P w K mg base 4 f fd ["_law_m", "_law_many"] (p_order K) := by
  refine fnS F sc_order (fun _ => rfl) fun cdv A outer s B H Q q g b L room gd sb sm hb hp k => ?_
  obtain ⟨h1, h12⟩ : 1 ≤ L ∧ L ≤ 12 := hp
  refine bd_par2 2 3 rfl sc_order.nd (by decide) (el_listR2 (n := L) (i := 1) (j := ((L : Nat) : Int) + 1) (by omega) (by omega) (by omega) (by omega) rfl T.range T.list ed_int (ed_add (ed_name 1 rfl) ed_int)) (el_lst (ds := []) ea_nil) fun v1 v2 B1 H1 B2 H2 g1 r1 g2 r2 σ ok => ?_
  obtain ⟨l1, xs1, rfl, hl1, hx1, hb1, hd1⟩ := r1
  obtain ⟨l, xs, rfl, hl0, hlx, hlb, hld⟩ := r2
  have o1 := sm.off hl1
  have o2 := (sm.grow g1).off hl0
  have hlH : H l = none := g1.h.free hl0
  have nl : l1 ≠ l := ne_of_none hx1 hl0
  have e0 : rng 1 L = ((List.range L).map fun k => (1 : Int) + ((k : Nat) : Int)).map .int := by unfold rng; rw [List.map_map]; rfl
  have m1 : Mt K B2 H2 l1 (((List.range L).map fun k => (1 : Int) + ((k : Nat) : Int)).map .int) := (Mt.mk ⟨xs1, hx1, e0 ▸ hd1⟩ hb1 : Mt K B1 H1 l1 _).grow g2
  have m2 : Mt K B2 H2 l (([] : List Int).map .int) := ⟨⟨xs, hlx, hld⟩, hlb⟩
  have ok' := (ok.set 2 (s := .raw (.ref l1)) rfl).set 3 (s := .raw (.ref l)) rfl
  refine (?_ : BD (bodyX P w K mg base N_order "_law_order" s_order f cdv A outer s H) [.raw (.ref q), .dat (.int (L : Nat)), .raw (.ref l1), .raw (.ref l), .unk, .unk] B2 H2 _ _) _ ok'
  refine bd_for (fun i Γ' B' H' => ∃ (s4 s5 : Sl) (left os : List Int), Γ' = [.raw (.ref q), .dat (.int (L : Nat)), .raw (.ref l1), .raw (.ref l), s4, s5] ∧ GS q g B H B' H' ∧ SM K B' H' q g (b + 2 * i) ∧ Mt K B' H' l1 (left.map .int) ∧ Mt K B' H' l (os.map .int) ∧ OS L i left os) rfl PassesOwn.never (pg_name (i := 4) sc_order.nd rfl (.inl rfl)) (it_rng1 (n := L) rfl (by omega) T.range (ed_name 1 rfl)) (fun d hd Γ1 => tg_one 4)
    (fun B4 H4 g4 => ⟨_, _, _, [], rfl, GS.of ((g1.trans g2).trans g4), sm.grow ((g1.trans g2).trans g4), m1.grow g4, m2.grow g4, ⟨by simp, rfl, fun z hz => by
      obtain ⟨k, hk, rfl⟩ := List.mem_map.mp hz
      have := List.mem_range.mp hk
      omega, by
      rw [List.Nodup, List.pairwise_map]
      exact List.nodup_range.imp fun h => by omega, nofun, by simp, by simp⟩⟩) ?_ ?_
  · rintro i d _ B4 H4 hd ⟨s4, s5, left, os, rfl, w4, sm4, ma4, mb4, S⟩ _ B5 H5 g5
    have hi : i < L := by
      have := (List.getElem?_eq_some_iff.mp hd).1
      rw [rng_len] at this
      exact this
    have hll := S.len
    have hol := S.olen
    have w5 := w4.trans (GS.of g5)
    have sm5 := sm4.grow g5
    refine bds_pop (c := 0 + 1) (P := fun d => ∃ r : Nat, d = eN r ∧ r < left.length) 2 5 sc_order.nd rfl sm5 o1.1 o1.2 (ma4.grow g5) (est_call (P := fun d => d = .int ((left.length : Nat) : Int)) G1 0 room gd rfl (by omega) (est_ed fun B1 H1 w1 => ed_i (ed_lenM 2 rfl ((ma4.grow g5).gs w1 o1.1 o1.2) T.len) (by rw [List.length_map])) (fun d hd => dr_of left.length d ⟨by omega, by omega⟩ hd)) (fun d ⟨r, hr, hl⟩ => ⟨r, hr, by rw [List.length_map]; exact hl, by omega⟩) fun n d6 B6 H6 hn w6 sm6 m6 H7 m7 o7 => ?_
    obtain ⟨z, hz, rfl⟩ : ∃ z, left[n]? = some z ∧ d6 = .int z := by
      rw [List.getElem?_map] at hn
      cases q : left[n]? with
      | none => rw [q] at hn; cases hn
      | some z => rw [q] at hn; exact ⟨z, rfl, (Option.some.inj hn).symm⟩
    have w7 : GS q g B H B6 H7 := (w5.trans w6).mut hl1 m6.out m7.some o7
    have sm7 := sm6.far o1.1 o1.2 o7
    have mb7 : Mt K B6 H7 l (os.map .int) := ((mb4.grow g5).gs w6 o2.1 o2.2).far2 (Ne.symm nl) o7
    refine bds_append (c := 0 + 1) (P := fun d => d = .int z ∨ d = .int (0 - z)) 3 rfl sm7 o2.1 o2.2 mb7 (by rw [List.length_map]; omega) (est_if (da := .int z) (db := .int (0 - z)) (ets_eq (i := 0) (P := fun d => ∃ r : Nat, d = eN r ∧ r < 2) (fun B1 H1 w1 => ed_int) (est_call (P := fun d => d = .int ((2 : Nat) : Int)) G1 0 room gd rfl (by omega) (est_ed fun B1 H1 w1 => ed_int) (fun d hd => dr_of 2 d ⟨by decide, by decide⟩ hd)) (fun d ⟨r, hr, _⟩ => ⟨_, hr⟩)) (fun B1 H1 w1 => ed_name 5 rfl) (fun B1 H1 w1 => ed_sub ed_int (ed_name 5 rfl)) (.inl rfl) (.inr rfl)) fun d8 B8 H8 pd8 w8 sm8 mb8 H9 mb9 o9 => ?_
    obtain ⟨o, rfl, ho⟩ : ∃ o, d8 = .int o ∧ (o = z ∨ o = 0 - z) := by
      rcases pd8 with h | h
      · exact ⟨_, h, .inl rfl⟩
      · exact ⟨_, h, .inr rfl⟩
    have ma9 : Mt K B8 H9 l1 ((left.eraseIdx n).map .int) := by
      have := (m7.gs w8 o1.1 o1.2).far2 nl o9
      rw [erase_map] at this
      exact this
    refine bd_turn rfl (Weak.refl _) (w6.b.trans w8.b) ⟨_, _, left.eraseIdx n, os ++ [o], rfl, (w7.trans w8).mut hlH mb8.out mb9.some o9, (sm8.far o2.1 o2.2 o9).up (by omega), ma9, ?_, S.more hz ho⟩
    rw [List.map_append]
    exact mb9
  · rintro _ B4 H4 ⟨s4, s5, left, os, rfl, w4, sm4, ma4, mb4, S⟩ _
    rw [rng_len] at sm4 S
    refine bd_fixS 3 rfl mb4 fun B5 t1 t2 off5 => ?_
    have w5 := w4.fix hlH t1 t2 off5
    have sm5 := sm4.fix o2.1 o2.2 t1 off5
    exact bd_ret (R := isD K (.tuple (os.map .int))) (ed_tuple (.inl rfl) T.tuple (ed_nameL 3 rfl)) fun v B6 H6 g6 r => k v _ B6 H6 ⟨os, rfl, S.done⟩ (w5.trans (GS.of g6)) ((sm5.grow g6).up (by omega)) r
/-! _law_triple -/
abbrev s_triple : Stmt := top 59
abbrev N_triple : List Str := ["_law_m", "_law_many", "_law_first", "_law_second", "_law_third", "_law_turn"]
theorem sc_triple : FnScope N_triple ["_law_m", "_law_many"] (defScope s_triple) := ⟨rfl, rfl, rfl, by decide +kernel, rfl, by decide +kernel, by decide +kernel⟩
abbrev p_triple (K : PySem.W.Frag) : Pr := PrS K (α := Nat) (fun n => [.int (n : Nat)]) (fun n => 1 ≤ n ∧ n ≤ 12) 200 fun n d => ∃ a b c, d = .list [eLay n a, eLay n b, eLay n c] ∧ Lay n a ∧ Lay n b ∧ Lay n c
theorem w_triple {f : Addr} {fd : FuncData} (F : Fun K "_law_triple" "_law_triple" s_triple f fd) (T : Bi mg) (G1 : Has P w K mg base 4 "_law_draw" ["_law_m", "_law_limit"] (p_draw K)) (G2 : Has P w K mg base 4 "_law_of" ["_law_m", "_law_some"] (p_of K)) (G3 : Has P w K mg base 4 "_law_lay" ["_law_m", "_law_links"] (p_llay K)) (G4 : Has P w K mg base 4 "_law_after" ["_law_lay_here", "_law_step_so"] (p_after K)) (G5 : Has P w K mg base 4 "_law_steps" ["_law_lay_here"] (p_steps K)) : FnG P w K mg base 5 f fd ["_law_m", "_law_many"] (p_triple K) := by
  refine fnS F sc_triple (fun _ => rfl) fun cdv A outer s B H Q q g b L room gd sb sm hb hp k => ?_
  obtain ⟨h1, h12⟩ : 1 ≤ L ∧ L ≤ 12 := hp
  have hlay : ∀ d, d = PyData.int ((L : Nat) : Int) → ∃ v : Nat, [PyData.int ((v : Nat) : Int)] = [d] ∧ (1 ≤ v ∧ v ≤ 12) ∧ ∀ d', (∃ js, d' = eLay v js ∧ Lay v js) → ∃ js, d' = eLay L js ∧ Lay L js := fun d hd => ⟨L, by rw [hd], ⟨h1, h12⟩, fun d' h => h⟩
  refine bds_par3 2 3 4 rfl sc_triple.nd (by decide) (by decide) (by decide) sm (c1 := 0 + 60) (c2 := 0 + 60) (c3 := 0 + 60) (est_call (P := fun d => d = PyData.int ((L : Nat) : Int)) (P' := fun d' => ∃ js, d' = eLay L js ∧ Lay L js) G3 0 room gd rfl (by omega) (est_ed fun B1 H1 w1 => ed_name 1 rfl) hlay) (est_call (P := fun d => d = PyData.int ((L : Nat) : Int)) (P' := fun d' => ∃ js, d' = eLay L js ∧ Lay L js) G3 0 room gd rfl (by omega) (est_ed fun B1 H1 w1 => ed_name 1 rfl) hlay) (est_call (P := fun d => d = PyData.int ((L : Nat) : Int)) (P' := fun d' => ∃ js, d' = eLay L js ∧ Lay L js) G3 0 room gd rfl (by omega) (est_ed fun B1 H1 w1 => ed_name 1 rfl) hlay) fun v1 v2 v3 B1 H1 B2 H2 B3 H3 w1 sm1 r1 w2 sm2 r2 w3 sm3 r3 σ ok => ?_
  obtain ⟨_, ⟨ja, rfl, La⟩, da⟩ := r1
  obtain ⟨_, ⟨jb, rfl, Lb⟩, db⟩ := r2
  obtain ⟨_, ⟨jc, rfl, Lc⟩, dc⟩ := r3
  have ok' := ((ok.set 2 (s := .dat (eLay L ja)) ⟨v1, rfl, dp_mono (w2.b.trans w3.b) da⟩).set 3 (s := .dat (eLay L jb)) ⟨v2, rfl, dp_mono w3.b db⟩).set 4 (s := .dat (eLay L jc)) ⟨v3, rfl, dc⟩
  have wA := (w1.trans w2).trans w3
  refine (?_ : BD (bodyX P w K mg base N_triple "_law_triple" s_triple f cdv A outer s H) [.raw (.ref q), .dat (.int (L : Nat)), .dat (eLay L ja), .dat (eLay L jb), .dat (eLay L jc), .unk] B3 H3 _ _) _ ok'
  have fin : ∀ (jd : List Jt) (s5 : Sl) (p1 p2 p3 p4 p5 : Pos) (B9 H9 : Hp), Lay L jd → GS q g B H B9 H9 → SM K B9 H9 q g (b + 200) → BD (bodyX P w K mg base N_triple "_law_triple" s_triple f cdv A outer s H) [.raw (.ref q), .dat (.int (L : Nat)), .dat (eLay L ja), .dat (eLay L jb), .dat (eLay L jd), s5] B9 H9 [.Return (some (.List [.Name "_law_first" p1, .Name "_law_second" p2, .Name "_law_third" p3] p4)) p5] { nx := fun _ H' => Q .non H', rt := Q } := fun jd s5 p1 p2 p3 p4 p5 B9 H9 Ld w9 sm9 =>
    bd_ret (R := isD K (.list [eLay L ja, eLay L jb, eLay L jd])) (EL.ed (el_lst (ds := [eLay L ja, eLay L jb, eLay L jd]) (ea_cons (ed_name 2 rfl) (ea_cons (ed_name 3 rfl) (ea_cons (ed_name 4 rfl) ea_nil))) (by show 3 ≤ 1000; decide))) fun v B10 H10 g10 r => k v _ B10 H10 ⟨ja, jb, jd, rfl, La, Lb, Ld⟩ (w9.trans (GS.of g10)) (sm9.grow g10) r
  refine bds_if sm3 (c := 0 + 1) (ets_eq (i := 0) (P := fun d => ∃ r : Nat, d = eN r ∧ r < 2) (fun B1 H1 w1 => ed_int) (est_call (P := fun d => d = .int ((2 : Nat) : Int)) G1 0 room gd rfl (by omega) (est_ed fun B1 H1 w1 => ed_int) (fun d hd => dr_of 2 d ⟨by decide, by decide⟩ hd)) (fun d ⟨r, hr, _⟩ => ⟨_, hr⟩)) (fun B4 H4 w4 sm4 => ?_) (fun B4 H4 w4 sm4 => bd_fall (fin jc _ _ _ _ _ _ B4 H4 Lc (wA.trans w4) (sm4.up (by omega))))
  refine bd_set 4 sc_triple.nd (d := eLay L ja) (ed_name 2 rfl) fun B5 H5 g5 => ?_
  have w5 := (wA.trans w4).trans (GS.of g5)
  have sm5 := sm4.grow g5
  refine bds_forR 5 2 (by decide) sm5 (c := 0 + 1) (fun n i Γ' B' H' => ∃ (s5 : Sl) (jd : List Jt), Γ' = [.raw (.ref q), .dat (.int (L : Nat)), .dat (eLay L ja), .dat (eLay L jb), .dat (eLay L jd), s5] ∧ GS q g B H B' H' ∧ SM K B' H' q g (b + 190 + i) ∧ Lay L jd) rfl PassesOwn.never sc_triple.nd T.range ?_ ?_ ?_ ?_
  · refine est_call (P := fun d => d = .int ((3 : Nat) : Int)) (P' := fun d => ∃ n : Nat, d = eN n ∧ n ≤ 2) G1 0 room gd rfl (by omega) (est_ed fun B1 H1 w1 => ed_int) (fun d hd => ?_)
    obtain ⟨v, a1, a2, a3⟩ := dr_of 3 d ⟨by decide, by decide⟩ hd
    exact ⟨v, a1, a2, fun d' hd' => by
      obtain ⟨r, hr, hl⟩ := a3 d' hd'
      exact ⟨r, hr, by omega⟩⟩
  · exact fun n B6 H6 hn w6 sm6 => ⟨_, ja, rfl, w5.trans w6, sm6.up (by omega), La⟩
  · rintro n i _ B6 H6 hn hi ⟨s5, jd, rfl, w6, sm6, Ld⟩
    refine bds_set 4 sc_triple.nd sm6 (c := 0 + 1) (P := fun d => ∃ je, d = eLay L je ∧ Lay L je) (est_pcall (da := eLay L jd) (P := fun d => ∃ st, d = eS st ∧ StepOk L jd st) G4 room gd (fun B1 H1 w1 => ed_name 4 rfl) (est_call (P := fun d => ∃ ss : List Stp, d = .list (ss.map eS) ∧ ss ≠ [] ∧ ss.length ≤ 100000 ∧ ∀ t ∈ ss, StepOk L jd t) G2 0 room gd rfl (by omega) (evs_of fun B1 H1 w1 => es_call (post := fun (m : Nat × List Jt) d => ∃ ss : List Stp, d = .list (ss.map eS) ∧ ss ≠ [] ∧ ss.length ≤ 100000 ∧ ∀ t ∈ ss, StepOk m.1 m.2 t) G5 (L, jd) room gd Ld (ea_cons (ed_name 4 rfl) ea_nil)) (fun d ⟨ss, hd, hne, hlen, hok⟩ => ⟨ss.map eS, by rw [hd], ⟨by simpa using hne, by rw [List.length_map]; omega⟩, fun d' h => by
      obtain ⟨t, ht, rfl⟩ := List.mem_map.mp h
      exact ⟨t, rfl, hok t ht⟩⟩)) (fun d ⟨st, hd, hs⟩ => ⟨(L, jd, st), by rw [hd], ⟨Ld, hs⟩, fun d' h => ⟨_, h, lay_aft Ld hs⟩⟩)) fun d7 B7 H7 pd7 w7 sm7 => ?_
    obtain ⟨je, rfl, Le⟩ := pd7
    exact bd_turn rfl (Weak.refl _) w7.b ⟨_, je, rfl, w6.trans w7, sm7.up (by omega), Le⟩
  · rintro n _ B6 H6 hn ⟨s5, jd, rfl, w6, sm6, Ld⟩
    exact bd_fall (fin jd _ _ _ _ _ _ B6 H6 Ld w6 (sm6.up (by omega)))
end
end Dc
/-! The walks, seventeenth part: _law_changed_right, _law_hand_right, law. -/
namespace Dc
open PySem PySem.Spec PyProof.Rows L2
theorem Grow.gs {q g : Addr} {B H B1 H1 B2 H2 : Hp} (u : Grow B H B1 H1) (v : GS q g B1 H1 B2 H2) (hq : H q = none) (hg : H g = none) : Grow B H B2 H2 :=
  ⟨u.b.trans v.b, fun a o e => v.h a o (ne_of_none e hq) (ne_of_none e hg) (u.h a o e), v.bh, fun a o e n => v.out a o (u.h a o e) (u.out a o e n)⟩
theorem pcs_size {L : Nat} {j1 j2 : List Jt} (h1 : Lay L j1) (h2 : Lay L j2) {p : Kd × Nat} (hp : p ∈ pcs L j1 j2) : p.2 ≤ 2 * L := by
  have ok := rowsS_ok h1 h2
  unfold pcs at hp
  obtain ⟨r, hr, rfl⟩ := List.mem_map.mp ((sortP_perm _).mem_iff.mp hp)
  exact nd_len _ r (flat_sub hr ok.nd) fun z hz => ok.lt z (List.mem_flatten.mpr ⟨r, hr, hz⟩)
theorem sm_pieces {L : Nat} {j1 j2 : List Jt} (h1 : Lay L j1) (h2 : Lay L j2) : Sm (.tuple ((pcs L j1 j2).map eP)) 25000 2 := by
  have few := pcs_few h1 h2
  have hle := h1.le
  refine (sm_tup (w := 24) (k := 1) fun d hd => ?_).up (by rw [List.length_map]; omega) (Nat.le_refl _)
  obtain ⟨p, hp, rfl⟩ := List.mem_map.mp hd
  have := pcs_size h1 h2 hp
  refine (sm_tup (w := 11) (k := 0) fun d hd => ?_).up (by show (11 + 1) * 2 ≤ 24; decide) (Nat.le_refl _)
  have : d = .str (kdS p.1) ∨ d = eN p.2 := by simpa using hd
  rcases this with rfl | rfl
  · exact sm_kd _
  · exact sm_int (by omega) (by omega)
theorem kd_all (l : List Kd) : l.count .ring + l.count .odd + l.count .opn + l.count .shut = l.length := by
  induction l with
  | nil => rfl
  | cons a l ih =>
    simp only [List.count_cons, List.length_cons]
    cases a <;> simp <;> omega
section
variable {P : Program} {w : World} {K : PySem.W.Frag} {mg : Str → Option Value} {base : Heap}
/-! _law_changed_right -/
abbrev s_changed : Stmt := top 61
abbrev N_changed : List Str := ["_law_m", "_law_some", "_law_one", "_law_far", "_law_mid", "_law_due", "_law_many", "_law_order_so", "_law_near", "_law_late", "_law_told", "_law_link_so", "_law_sorts_so"]
theorem sc_changed : FnScope N_changed ["_law_m", "_law_some"] (defScope s_changed) := ⟨rfl, rfl, rfl, by decide +kernel, rfl, by decide +kernel, by decide +kernel⟩
abbrev p_changed (K : PySem.W.Frag) : Pr := PrS K (α := Nat × List Jt × List Jt × List Jt) (fun m => [.list [eLay m.1 m.2.1, eLay m.1 m.2.2.1, eLay m.1 m.2.2.2]]) (fun m => 2 ≤ m.1 ∧ m.1 ≤ 6 ∧ Lay m.1 m.2.1 ∧ Lay m.1 m.2.2.1 ∧ Lay m.1 m.2.2.2) 40 fun m d => d = .bool true
theorem w_changed {f : Addr} {fd : FuncData} (F : Fun K "_law_changed_right" "_law_changed_right" s_changed f fd) (T : Bi mg) (MF : Facts) (G1 : Has P w K mg base 6 "least_steps" ["one", "other"] (p_least_steps K)) (G2 : Has P w K mg base 6 "_law_order" ["_law_m", "_law_many"] (p_order K)) (G3 : Has P w K mg base 6 "renamed" ["lay", "order"] (p_renamed K)) (G4 : Has P w K mg base 6 "_law_like" ["_law_got", "_law_due"] (p_like K)) (G5 : Has P w K mg base 6 "pieces" ["one", "other"] (p_pieces K)) (G6 : Has P w K mg base 6 "_law_pieces" ["_law_one", "_law_other"] (p_lpieces K)) (G7 : Has P w K mg base 6 "beside" ["one", "other"] (p_beside K)) (G8 : Has P w K mg base 6 "_law_draw" ["_law_m", "_law_limit"] (p_draw K)) (G9 : Has P w K mg base 6 "without" ["lay", "link"] (p_without K)) (G10 : Has P w K mg base 6 "kinds" ["one", "other"] (p_kinds K)) (G11 : Has P w K mg base 6 "single_number" ["one", "other"] (p_number_in K)) : FnG P w K mg base 7 f fd ["_law_m", "_law_some"] (p_changed K) := by
  refine fnS F sc_changed (fun _ => rfl) fun cdv A outer s B H Q q g b m room gd sb sm hb hp k => ?_
  obtain ⟨L, ja, jb, jc⟩ := m
  obtain ⟨h2, h6, La, Lb, Lc⟩ : 2 ≤ L ∧ L ≤ 6 ∧ Lay L ja ∧ Lay L jb ∧ Lay L jc := hp
  refine bd_unl3 (d1 := eLay L ja) (d2 := eLay L jb) (d3 := eLay L jc) 2 3 4 rfl sc_changed.nd (ed_name 1 rfl) fun B1 H1 g1 => ?_
  have sm1 := sm.grow g1
  refine bds_par3 5 6 7 rfl sc_changed.nd (by decide) (by decide) (by decide) sm1 (c1 := 0) (c2 := 0) (c3 := 0 + 30) (Ra := isD K (.int (cost L ja jb))) (Rb := isD K (.int (L : Nat))) (evs_of fun B1 H1 w1 => ed_to (ed_call G1 (L, ja, jb) room gd ⟨La, Lb⟩ (ea_cons (ed_name 2 rfl) (ea_cons (ed_name 3 rfl) ea_nil))) rfl) (evs_of fun B1 H1 w1 => ed_lk (L := L) (js := ja) (ed_name 2 rfl)) (est_call (P := fun d => d = .int ((L : Nat) : Int)) (P' := fun d => ∃ os, d = .tuple (os.map .int) ∧ IsOrd L os) G2 0 room gd rfl (by omega) (est_ed fun B1 H1 w1 => ed_lk (L := L) (js := ja) (ed_name 2 rfl)) (fun d hd => ⟨L, by rw [hd], ⟨by omega, by omega⟩, fun d' h => h⟩)) fun v1 v2 v3 B2 H2 B3 H3 B4 H4 w2 sm2 r1 w3 sm3 r2 w4 sm4 r3 σ ok => ?_
  obtain ⟨_, ⟨os, rfl, ho⟩, dos⟩ := r3
  have ok' := ((ok.set 5 (s := .dat (.int (cost L ja jb))) ⟨v1, rfl, dp_mono (w3.b.trans w4.b) r1⟩).set 6 (s := .dat (.int (L : Nat))) ⟨v2, rfl, dp_mono w4.b r2⟩).set 7 (s := .dat (.tuple (os.map .int))) ⟨v3, rfl, dos⟩
  have wA := (((GS.of g1).trans w2).trans w3).trans w4
  refine (?_ : BD (bodyX P w K mg base N_changed "_law_changed_right" s_changed f cdv A outer s H) [.raw (.ref q), .dat (.list [eLay L ja, eLay L jb, eLay L jc]), .dat (eLay L ja), .dat (eLay L jb), .dat (eLay L jc), .dat (.int (cost L ja jb)), .dat (.int (L : Nat)), .dat (.tuple (os.map .int)), .unk, .unk, .unk, .unk, .unk] B4 H4 _ _) _ ok'
  have Ra := MF.renL L ja os La ho
  have Rb := MF.renL L jb os Lb ho
  have hren := MF.ren L ja jb os La Lb ho
  have hcost : cost L (sortJ (ren os ja)) (sortJ (ren os jb)) = cost L ja jb := by unfold cost; rw [hren]
  refine bd_par2D 8 9 rfl sc_changed.nd (by decide) (da := eLay L (sortJ (ren os ja))) (db := eLay L (sortJ (ren os jb))) (ed_to (ed_call G3 (L, ja, os) room gd ⟨La, ho⟩ (ea_cons (ed_name 2 rfl) (ea_cons (ed_name 7 rfl) ea_nil))) rfl) (ed_to (ed_call G3 (L, jb, os) room gd ⟨Lb, ho⟩ (ea_cons (ed_name 3 rfl) (ea_cons (ed_name 7 rfl) ea_nil))) rfl) fun B5 H5 g5 => ?_
  have lk1 := (sm_pieces La Lb).like rfl (by decide) (by decide)
  refine bd_skip (et_or2 (x := false) (y := false) (et_to (et_neI (ed_to (ed_call G1 (L, sortJ (ren os ja), sortJ (ren os jb)) room gd ⟨Ra, Rb⟩ (ea_cons (ed_name 8 rfl) (ea_cons (ed_name 9 rfl) ea_nil))) rfl) (ed_name 5 rfl)) (by rw [decide_eq_true hcost]; rfl)) (fun _ => et_not (x := true) (et_val (by intro _; rfl) (ed_to (ed_call G4 (PyData.tuple ((pcs L ja jb).map eP)) room gd lk1 (ea_cons (ed_to (ed_call G5 (L, sortJ (ren os ja), sortJ (ren os jb)) room gd ⟨Ra, Rb⟩ (ea_cons (ed_name 8 rfl) (ea_cons (ed_name 9 rfl) ea_nil))) (congrArg (fun z => PyData.tuple (List.map eP z)) hren)) (ea_cons (ed_to (ed_tuple (.inl rfl) T.tuple (ed_to (ed_call G6 (L, ja, jb) room gd ⟨La, Lb⟩ (ea_cons (ed_name 2 rfl) (ea_cons (ed_name 3 rfl) ea_nil))) rfl)) (congrArg (fun z => PyData.tuple (List.map eP z)) (MF.same L ja jb La Lb))) ea_nil))) rfl)))) rfl fun B6 H6 g6 => ?_
  have bl : ∀ x y, Lay L x → Lay L y → Lay (L + L) (sortJ (bes L x y)) := fun x y hx hy => MF.besL L L x y hx hy (by omega)
  have z0 : cost L jc jc = 0 := (MF.zero L jc jc Lc Lc).mpr rfl
  have c1 : cost (L + L) (sortJ (bes L ja jb)) (sortJ (bes L jb ja)) = 2 * cost L ja jb := by
    rw [MF.bes L L ja jb jb ja La Lb Lb La (by omega), MF.sym L jb ja Lb La]
    omega
  have c2 : cost (L + L) (sortJ (bes L ja jc)) (sortJ (bes L jb jc)) = cost L ja jb := by
    rw [MF.bes L L ja jc jb jc La Lc Lb Lc (by omega), z0]
    omega
  have c3 : cost (L + L) (sortJ (bes L ja jc)) (sortJ (bes L jc jb)) = cost L ja jc + cost L jc jb := MF.bes L L ja jc jc jb La Lc Lc Lb (by omega)
  have pos := MF.pos L ja jb La Lb
  have le := MF.le L ja jb La Lb
  have lk2 : isDisplay (.list [.int (2 * cost L ja jb), .int (cost L ja jb)]) = true ∧ (PyData.list [.int (2 * cost L ja jb), .int (cost L ja jb)]).showable = true ∧ (PyData.list [.int (2 * cost L ja jb), .int (cost L ja jb)]).hasDict = false ∧ (PyData.list [.int (2 * cost L ja jb), .int (cost L ja jb)]).depth ≤ 60 ∧ (PyData.list [.int (2 * cost L ja jb), .int (cost L ja jb)]).shown.length ≤ sizeLine := by
    refine (sm_list (w := 11) (k := 0) fun d hd => ?_).like rfl (by show (11 + 1) * 2 ≤ 1000000; decide) (by decide)
    have : d = .int (2 * cost L ja jb) ∨ d = .int (cost L ja jb) := by simpa using hd
    rcases this with rfl | rfl
    · exact sm_int (by omega) (by omega)
    · exact sm_int (by omega) (by omega)
  have bp : ∀ x y, Lay L x → Lay L y → (Lay L x ∧ Lay L y ∧ L + L ≤ 12) := fun x y hx hy => ⟨hx, hy, by omega⟩
  have bq : ∀ x y u v, Lay L x → Lay L y → Lay L u → Lay L v → (Lay (L + L) (sortJ (bes L x y)) ∧ Lay (L + L) (sortJ (bes L u v))) := fun x y u v hx hy hu hv => ⟨bl _ _ hx hy, bl _ _ hu hv⟩
  refine bd_setL 10 sc_changed.nd (ds := [.int (2 * cost L ja jb), .int (cost L ja jb)]) (el_lst (ea_cons (ed_to ?_ (congrArg PyData.int c1)) (ea_cons (ed_to ?_ (congrArg PyData.int c2)) ea_nil)) (by show 2 ≤ 1000; decide)) fun B7 H7 g7 => ?_
  · refine ed_to (ed_call G1 (L + L, sortJ (bes L ja jb), sortJ (bes L jb ja)) room gd (bq _ _ _ _ La Lb Lb La) (ea_cons ?_ (ea_cons ?_ ea_nil))) rfl
    · exact ed_to (ed_call G7 ((L, ja), (L, jb)) room gd (bp _ _ La Lb) (ea_cons (ed_name 2 rfl) (ea_cons (ed_name 3 rfl) ea_nil))) rfl
    · exact ed_to (ed_call G7 ((L, jb), (L, ja)) room gd (bp _ _ Lb La) (ea_cons (ed_name 3 rfl) (ea_cons (ed_name 2 rfl) ea_nil))) rfl
  · refine ed_to (ed_call G1 (L + L, sortJ (bes L ja jc), sortJ (bes L jb jc)) room gd (bq _ _ _ _ La Lc Lb Lc) (ea_cons ?_ (ea_cons ?_ ea_nil))) rfl
    · exact ed_to (ed_call G7 ((L, ja), (L, jc)) room gd (bp _ _ La Lc) (ea_cons (ed_name 2 rfl) (ea_cons (ed_name 4 rfl) ea_nil))) rfl
    · exact ed_to (ed_call G7 ((L, jb), (L, jc)) room gd (bp _ _ Lb Lc) (ea_cons (ed_name 3 rfl) (ea_cons (ed_name 4 rfl) ea_nil))) rfl
  refine bd_skip (et_not (x := true) (et_val (by intro _; rfl) (ed_to (ed_call G4 (PyData.list [.int (2 * cost L ja jb), .int (cost L ja jb)]) room gd lk2 (ea_cons (ed_nameL 10 rfl) (ea_cons (EL.ed (el_lst (ea_cons (ed_mul (.inl ⟨by decide, by decide⟩) ed_int (ed_name 5 rfl)) (ea_cons (ed_name 5 rfl) ea_nil)) (by show 2 ≤ 1000; decide))) ea_nil))) rfl))) rfl fun B8 H8 g8 => ?_
  refine bd_skip (et_neI (i := cost L ja jc + cost L jc jb) (j := cost L ja jc + cost L jc jb) (ed_to ?_ (congrArg PyData.int c3)) (ed_add (ed_to (ed_call G1 (L, ja, jc) room gd ⟨La, Lc⟩ (ea_cons (ed_name 2 rfl) (ea_cons (ed_name 4 rfl) ea_nil))) rfl) (ed_to (ed_call G1 (L, jc, jb) room gd ⟨Lc, Lb⟩ (ea_cons (ed_name 4 rfl) (ea_cons (ed_name 3 rfl) ea_nil))) rfl))) (by simp) fun B9 H9 g9 => ?_
  · refine ed_to (ed_call G1 (L + L, sortJ (bes L ja jc), sortJ (bes L jc jb)) room gd (bq _ _ _ _ La Lc Lc Lb) (ea_cons ?_ (ea_cons ?_ ea_nil))) rfl
    · exact ed_to (ed_call G7 ((L, ja), (L, jc)) room gd (bp _ _ La Lc) (ea_cons (ed_name 2 rfl) (ea_cons (ed_name 4 rfl) ea_nil))) rfl
    · exact ed_to (ed_call G7 ((L, jc), (L, jb)) room gd (bp _ _ Lc Lb) (ea_cons (ed_name 4 rfl) (ea_cons (ed_name 3 rfl) ea_nil))) rfl
  have w9 := wA.trans (GS.of ((((g5.trans g6).trans g7).trans g8).trans g9))
  have sm9 := sm4.grow ((((g5.trans g6).trans g7).trans g8).trans g9)
  refine bds_set 11 sc_changed.nd sm9 (c := 0 + 1) (P := fun d => ∃ r : Nat, d = eN r ∧ r < L) (est_call (P := fun d => d = .int ((L : Nat) : Int)) G8 0 room gd rfl (by omega) (est_ed fun B1 H1 w1 => ed_name 6 rfl) (fun d hd => dr_of L d ⟨by omega, by omega⟩ hd)) fun d10 B10 H10 pd10 w10 sm10 => ?_
  obtain ⟨r, rfl, hr⟩ := pd10
  have Wa := MF.woL L ja r La hr h2
  have Wb := MF.woL L jb r Lb hr h2
  have hwo := MF.wo L ja jb r La Lb hr h2
  refine bd_skip (et_to (et_gt (ed_to ?_ rfl) (ed_name 5 rfl)) (decide_eq_false (show ¬ cost L ja jb < cost (L - 1) (sortJ (wo ja r)) (sortJ (wo jb r)) by omega))) rfl fun B11 H11 g11 => ?_
  · refine ed_to (ed_call G1 (L - 1, sortJ (wo ja r), sortJ (wo jb r)) room gd ⟨Wa, Wb⟩ (ea_cons ?_ (ea_cons ?_ ea_nil))) rfl
    · exact ed_to (ed_call G9 (L, ja, r) room gd ⟨La, hr, h2⟩ (ea_cons (ed_name 2 rfl) (ea_cons (ed_name 11 rfl) ea_nil))) rfl
    · exact ed_to (ed_call G9 (L, jb, r) room gd ⟨Lb, hr, h2⟩ (ea_cons (ed_name 3 rfl) (ea_cons (ed_name 11 rfl) ea_nil))) rfl
  refine bd_set 12 sc_changed.nd (d := .tuple ((knd L ja jb).map .int)) (ed_to (ed_call G10 (L, ja, jb) room gd ⟨La, Lb⟩ (ea_cons (ed_name 2 rfl) (ea_cons (ed_name 3 rfl) ea_nil))) rfl) fun B12 H12 g12 => ?_
  have hk := MF.knd L ja jb La Lb
  have hsum : (knd L ja jb).sum = (((pcsH L ja jb).map eP).length : Nat) := by
    rw [List.length_map, MF.same L ja jb La Lb]
    have := kd_all ((pcs L ja jb).map (·.1))
    rw [List.length_map] at this
    unfold knd
    simp only [List.map_cons, List.map_nil, List.sum_cons, List.sum_nil]
    omega
  refine bd_skip (et_or2 (x := false) (y := false) (et_to (et_neI (ed_sumT (ns := knd L ja jb) rfl T.sum (ed_name 12 rfl)) (ed_len (ds := (pcsH L ja jb).map eP) (.inl rfl) T.len (ed_to (ed_call G6 (L, ja, jb) room gd ⟨La, Lb⟩ (ea_cons (ed_name 2 rfl) (ea_cons (ed_name 3 rfl) ea_nil))) rfl))) (by rw [decide_eq_true hsum]; rfl)) (fun _ => et_to (et_neI (ed_sub (ed_sub (ed_name 6 rfl) (ed_ixT (d := .int ((knd L ja jb).getD 0 0)) (ds := (knd L ja jb).map .int) (k := 0) rfl rfl (ed_name 12 rfl) ed_int)) (ed_fdiv ⟨by decide, by decide⟩ (ed_ixT (d := .int ((knd L ja jb).getD 1 0)) (ds := (knd L ja jb).map .int) (k := 1) rfl rfl (ed_name 12 rfl) ed_int) ed_int)) (ed_name 5 rfl)) (by rw [decide_eq_true hk]; rfl))) rfl fun B13 H13 g13 => ?_
  obtain ⟨s1, s2⟩ := MF.sgl L ja jb La Lb
  refine bd_ret (R := isD K (.bool true)) (ed_to (chain_le (ed_name 5 rfl) (ed_to (ed_call G11 (L, ja, jb) room gd ⟨La, Lb⟩ (ea_cons (ed_name 2 rfl) (ea_cons (ed_name 3 rfl) ea_nil))) rfl) (ed_mul (.inl ⟨by decide, by decide⟩) ed_int (ed_name 5 rfl))) (by rw [decide_eq_true s1, decide_eq_true s2]; rfl)) fun v B14 H14 g14 rr => k v _ B14 H14 rfl ((w9.trans w10).trans (GS.of (((g11.trans g12).trans g13).trans g14))) ((sm10.grow (((g11.trans g12).trans g13).trans g14)).up (by omega)) rr
end
end Dc
/-! The walks, eighteenth part: _law_hand_right, law. -/
namespace Dc
open PySem PySem.Spec PyProof.Rows L2
theorem hL_lay : ∀ j ∈ hL, Lay 2 j := fun j hj => by
  simp only [hL, List.mem_cons, List.not_mem_nil, or_false] at hj
  rcases hj with rfl | rfl | rfl | rfl | rfl
  · exact ⟨by decide, by decide, by decide, by decide, by decide⟩
  · exact ⟨by decide, by decide, by decide, by decide, by decide⟩
  · exact ⟨by decide, by decide, by decide, by decide, by decide⟩
  · exact ⟨by decide, by decide, by decide, by decide, by decide⟩
  · exact ⟨by decide, by decide, by decide, by decide, by decide⟩
theorem hand_at (MF : Facts) (i j : Nat) (a b : List Jt) (c : Int) (hi : hL[i]? = some a) (hj : hL[j]? = some b) (hc : (hD.getD i []).getD j 0 = c) : cost 2 a b = c := by
  have h := MF.hand
  rw [← h] at hc
  have e1 : (hL.map (fun a => hL.map fun b => cost 2 a b)).getD i [] = hL.map fun b => cost 2 a b := by
    rw [List.getD_eq_getElem?_getD, List.getElem?_map, hi]
    rfl
  have e2 : (hL.map fun b => cost 2 a b).getD j 0 = cost 2 a b := by
    rw [List.getD_eq_getElem?_getD, List.getElem?_map, hj]
    rfl
  rw [e1, e2] at hc
  exact hc
section
variable {X : Cx} {Γ : List Sl} {B H : Hp} {e t1 t2 : Expr} {pos p p0 p1 p2 p3 p4 p5 : Pos} {x : Str} {k k1 k2 k3 k4 k5 n1 n2 : Nat} {sc : List Int} {a b c d : Nat}
theorem ev_begun (F : Has X.prog X.w X.K X.mg X.base k x ["_law_script"] (p_begun X.K)) (hr : Room k X.A) (hg : X.A.guards = some []) (hsc : sc.length ≤ 63) (ha : ED X Γ B H e (.list (sc.map .int))) (hgl : Gl X x := by rfl)
    (hdb : (x == ("__debug__" : Str)) = false := by decide) (he : starEach [e] X.env = (false, eval e X.env) :: starEach [] X.env := by rfl) (hpl : (backTo pos (starEach [] X.env)).any (·.1) = false := by rfl) : EV X Γ B H (.Call (.Name x p) [e] [] pos) fun v H1 B2 H2 => ∃ q g, v = .ref q ∧ SM X.K B2 H2 q g 0 ∧ H1 q = none ∧ H1 g = none := fun σ B1 H1 w1 ok Q' k' =>
  we_call F hr hg hgl (ea_cons ha ea_nil he σ B1 H1 w1 ok _ fun vs B2 H2 g2 r => ⟨B2, sc, g2.bh, r, hsc, fun q g B3 H3 g3 sm hq hg => k' _ B3 H3 (g2.trans g3) ⟨q, g, rfl, sm, g2.h.free hq, g2.h.free hg⟩⟩) hdb he hpl
theorem cJ {i j : Int} (hi : i = ((a : Nat) : Int)) (hj : j = ((b : Nat) : Int)) : ED X Γ B H (.Tuple [.Constant (.int i) k1 p1, .Constant (.int j) k2 p2] n1 pos) (eJ (a, b)) := by
  subst hi hj
  exact ed_tup (ds := [.int (a : Nat), .int (b : Nat)]) (ea_cons ed_int (ea_cons ed_int ea_nil)) (by show 2 ≤ 1000; decide)
theorem cL {L : Nat} {js : List Jt} {i : Int} (hi : i = ((L : Nat) : Int)) (h : ED X Γ B H t2 (.tuple (js.map eJ))) (hs : starEach [.Constant (.int i) k1 p1, t2] X.env = (false, eval (.Constant (.int i) k1 p1) X.env) :: starEach [t2] X.env := by rfl) (hs2 : starEach [t2] X.env = (false, eval t2 X.env) :: starEach [] X.env := by rfl) : ED X Γ B H (.Tuple [.Constant (.int i) k1 p1, t2] n1 pos) (eLay L js) := by
  subst hi
  exact ed_tup (ds := [.int (L : Nat), .tuple (js.map eJ)]) (ea_cons ed_int (ea_cons h ea_nil hs2) hs) (by show 2 ≤ 1000; decide)
end
theorem r5 {X : Cx} {Γ : List Sl} {B H : Hp} {a b c d e : Int} {p0 p1 p2 p3 p4 p5 : Pos} {k1 k2 k3 k4 k5 : Nat} : ED X Γ B H (.List [.Constant (.int a) k1 p1, .Constant (.int b) k2 p2, .Constant (.int c) k3 p3, .Constant (.int d) k4 p4, .Constant (.int e) k5 p5] p0) (.list ([a, b, c, d, e].map .int)) := EL.ed (el_lst (ds := [.int _, .int _, .int _, .int _, .int _]) (ea_cons ed_int (ea_cons ed_int (ea_cons ed_int (ea_cons ed_int (ea_cons ed_int ea_nil))))) (by show 5 ≤ 1000; decide))
section
variable {P : Program} {w : World} {K : PySem.W.Frag} {mg : Str → Option Value} {base : Heap}
/-! _law_hand_right -/
abbrev s_hand : Stmt := top 62
abbrev N_hand : List Str := ["_law_some", "_law_due", "_law_told", "_law_one", "_law_far"]
theorem sc_hand : FnScope N_hand [] (defScope s_hand) := ⟨rfl, rfl, rfl, by decide +kernel, rfl, by decide +kernel, by decide +kernel⟩
abbrev p_hand (K : PySem.W.Frag) : Pr := PrF K (α := Unit) (fun _ => []) (fun _ => True) fun _ => .bool true
theorem w_hand {f : Addr} {fd : FuncData} (F : Fun K "_law_hand_right" "_law_hand_right" s_hand f fd) (T : Bi mg) (MF : Facts) (G1 : Has P w K mg base 6 "least_steps" ["one", "other"] (p_least_steps K)) (G2 : Has P w K mg base 6 "is_between" ["one", "third", "other"] (p_is_between K)) (G3 : Has P w K mg base 6 "_law_like" ["_law_got", "_law_due"] (p_like K)) : FnG P w K mg base 7 f fd [] (p_hand K) := by
  refine fnP F sc_hand (fun _ => rfl) fun cdv A outer s B H Q m room gd sb hp k => ?_
  let HH := H
  have hx := hL_lay
  refine bd_setL 0 ?_ (ds := hL.map (eLay 2)) ?_ ?_
  · exact sc_hand.nd
  · refine el_lst ?_ ?_
    · show EA _ _ _ _ _ [eLay 2 [], eLay 2 [(1, 2)], eLay 2 [(0, 3), (1, 2)], eLay 2 [(0, 2), (1, 3)], eLay 2 [(0, 1), (2, 3)]]
      refine ea_cons ?_ ?_
      · refine cL ?_ ?_
        · rfl
        · refine ed_tup (ds := []) ?_ ?_
          · exact ea_nil
          · decide
      refine ea_cons ?_ ?_
      · refine cL ?_ ?_
        · rfl
        · refine ed_tup (ds := [eJ (1, 2)]) ?_ ?_
          · refine ea_cons ?_ ?_
            · exact cJ (a := 1) (b := 2) rfl rfl
            exact ea_nil
          · decide
      refine ea_cons ?_ ?_
      · refine cL ?_ ?_
        · rfl
        · refine ed_tup (ds := [eJ (0, 3), eJ (1, 2)]) ?_ ?_
          · refine ea_cons ?_ ?_
            · exact cJ (a := 0) (b := 3) rfl rfl
            refine ea_cons ?_ ?_
            · exact cJ (a := 1) (b := 2) rfl rfl
            exact ea_nil
          · decide
      refine ea_cons ?_ ?_
      · refine cL ?_ ?_
        · rfl
        · refine ed_tup (ds := [eJ (0, 2), eJ (1, 3)]) ?_ ?_
          · refine ea_cons ?_ ?_
            · exact cJ (a := 0) (b := 2) rfl rfl
            refine ea_cons ?_ ?_
            · exact cJ (a := 1) (b := 3) rfl rfl
            exact ea_nil
          · decide
      refine ea_cons ?_ ?_
      · refine cL ?_ ?_
        · rfl
        · refine ed_tup (ds := [eJ (0, 1), eJ (2, 3)]) ?_ ?_
          · refine ea_cons ?_ ?_
            · exact cJ (a := 0) (b := 1) rfl rfl
            refine ea_cons ?_ ?_
            · exact cJ (a := 2) (b := 3) rfl rfl
            exact ea_nil
          · decide
      exact ea_nil
    · decide
  intro B1 H1 g1
  refine bd_setL 1 ?_ (ds := hD.map fun r => .list (r.map .int)) ?_ ?_
  · exact sc_hand.nd
  · refine el_lst ?_ ?_
    · show EA _ _ _ _ _ [.list ([0, 1, 2, 2, 2].map .int), .list ([1, 0, 1, 2, 2].map .int), .list ([2, 1, 0, 1, 1].map .int), .list ([2, 2, 1, 0, 1].map .int), .list ([2, 2, 1, 1, 0].map .int)]
      refine ea_cons ?_ ?_
      · exact r5
      refine ea_cons ?_ ?_
      · exact r5
      refine ea_cons ?_ ?_
      · exact r5
      refine ea_cons ?_ ?_
      · exact r5
      refine ea_cons ?_ ?_
      · exact r5
      exact ea_nil
    · decide
  intro B2 H2 g2
  have hD2 := (sm_table MF hx (by show 5 ≤ 10; decide)).like rfl (by decide) (by decide)
  have hE : (hD.map fun r => PyData.list (r.map .int)) = hL.map fun a => .list (hL.map fun b => .int (cost 2 a b)) := by
    rw [← MF.hand, List.map_map]
    refine List.map_congr_left fun a _ => ?_
    show PyData.list ((hL.map fun b => cost 2 a b).map .int) = _
    rw [List.map_map]
    rfl
  refine bd_skip (et_not (x := true) (et_val (by intro _; rfl) (ed_to (ed_call G3 (PyData.list (hL.map fun a => .list (hL.map fun b => .int (cost 2 a b)))) room gd hD2 (ea_cons ?_ (ea_cons (ed_to (ed_nameL 1 rfl) (congrArg PyData.list hE)) ea_nil))) rfl))) rfl fun B3 H3 g3 => ?_
  · exact EL.ed (el_lcm0 (ee := eLay 2) (xs := hL) (v := fun a => .list (hL.map fun b => .int (cost 2 a b))) (own := [("_law_one", 3)]) (js := [3]) (Γd := fun d => (wipeG _ [3]).set 3 (.dat d)) (eLay_inj 2) rfl sc_hand.nd (blkOk_by (N := N_hand) (sc := defScope s_hand) (by decide +kernel)) (fun _ _ _ _ _ => pg_name (i := 3) sc_hand.nd rfl (.inr rfl)) (it_list (ed_nameL 0 rfl)) (by decide) (by simp) (fun d hd => tg_one 3) (fun a ha s0 H0 C cl fp B' H' g' => EL.ed (el_lcm0 (ee := eLay 2) (xs := hL) (v := fun b => .int (cost 2 a b)) (own := [("_law_far", 4)]) (js := [4]) (Γd := fun d => (wipeG _ [4]).set 4 (.dat d)) (eLay_inj 2) rfl sc_hand.nd (blkOk_by (N := N_hand) (sc := { kind := .function, names := [(".0", .local), ("_law_one", .cell), ("_law_some", .cell)], isGenerator := false, isCoroutine := false }) (by decide +kernel)) (fun _ _ _ _ _ => pg_name (i := 4) sc_hand.nd rfl (.inl rfl)) (it_list (ed_nameL 0 rfl)) (by decide) (by simp) (fun d hd => tg_one 4) (fun b hb s1 H1 C1 cl1 fp1 B'' H'' g'' => ed_to (ed_call G1 (2, a, b) room gd ⟨hx a ha, hx b hb⟩ (ea_cons (ed_name 3 rfl) (ea_cons (ed_name 4 rfl) ea_nil))) rfl))))
  -- is_between(some[i], some[j], some[k])
  have bt : ∀ {Γ : List Sl} {B H : Hp} {p0 p1 p2 p3 p4 p5 p6 p7 p8 p9 p10 : Pos} {k1 k2 k3 : Nat} (i j n : Nat) (a b c : List Jt) (t : Bool), Γ[0]? = some (.lst (hL.map (eLay 2))) → hL[i]? = some a → hL[j]? = some b → hL[n]? = some c → decide ((hD.getD i []).getD j 0 + (hD.getD j []).getD n 0 = (hD.getD i []).getD n 0) = t → ED (bodyX P w K mg base N_hand "_law_hand_right" s_hand f cdv A outer s HH) Γ B H (.Call (.Name "is_between" p0) [.Subscript (.Name "_law_some" p1) (.Constant (.int (i : Nat)) k1 p2) p3, .Subscript (.Name "_law_some" p4) (.Constant (.int (j : Nat)) k2 p5) p6, .Subscript (.Name "_law_some" p7) (.Constant (.int (n : Nat)) k3 p8) p9] [] p10) (.bool t) := by
    intro Γ B H p0 p1 p2 p3 p4 p5 p6 p7 p8 p9 p10 k1 k2 k3 i j n a b c t h0 hi hj hn ht
    have ha := hx a (List.mem_of_getElem? hi)
    have hb := hx b (List.mem_of_getElem? hj)
    have hc := hx c (List.mem_of_getElem? hn)
    have ix : ∀ {p1 p2 p3 : Pos} {k1 : Nat} (i : Nat) (a : List Jt), hL[i]? = some a → ED (bodyX P w K mg base N_hand "_law_hand_right" s_hand f cdv A outer s HH) Γ B H (.Subscript (.Name "_law_some" p1) (.Constant (.int (i : Nat)) k1 p2) p3) (eLay 2 a) := fun i a hi => ed_ixL (ds := hL.map (eLay 2)) (k := i) (by rw [List.getElem?_map, hi]; rfl) rfl (ed_nameL 0 h0) ed_int
    refine ed_to (ed_call G2 (2, a, b, c) room gd ⟨ha, hb, hc⟩ (ea_cons (ix i a hi) (ea_cons (ix j b hj) (ea_cons (ix n c hn) ea_nil)))) ?_
    show PyData.bool (decide (cost 2 a b + cost 2 b c = cost 2 a c)) = _
    rw [hand_at MF i j a b _ hi hj rfl, hand_at MF j n b c _ hj hn rfl, hand_at MF i n a c _ hi hn rfl, ht]
  refine bd_setL 2 ?_ (ds := [.bool true, .bool false]) ?_ ?_
  · exact sc_hand.nd
  · refine el_lst ?_ ?_
    · refine ea_cons ?_ ?_
      · exact bt 0 1 2 _ _ _ true rfl rfl rfl rfl (by decide)
      refine ea_cons ?_ ?_
      · exact bt 0 1 3 _ _ _ false rfl rfl rfl rfl (by decide)
      exact ea_nil
    · decide
  intro B4 H4 g4
  refine bd_setL 2 ?_ (ds := [.bool true, .bool false] ++ [.bool true, .bool false]) ?_ ?_
  · exact sc_hand.nd
  · refine el_cat ?_ ?_ ?_
    · decide
    · exact em_name 2 rfl
    · refine EL.em ?_
      refine el_lst ?_ ?_
      · refine ea_cons ?_ ?_
        · exact bt 1 2 3 _ _ _ true rfl rfl rfl rfl (by decide)
        refine ea_cons ?_ ?_
        · exact bt 2 3 4 _ _ _ false rfl rfl rfl rfl (by decide)
        exact ea_nil
      · decide
  intro B5 H5 g5
  have lk : isDisplay (.list [.bool true, .bool false, .bool true, .bool false]) = true ∧ (PyData.list [.bool true, .bool false, .bool true, .bool false]).showable = true ∧ (PyData.list [.bool true, .bool false, .bool true, .bool false]).hasDict = false ∧ (PyData.list [.bool true, .bool false, .bool true, .bool false]).depth ≤ 60 ∧ (PyData.list [.bool true, .bool false, .bool true, .bool false]).shown.length ≤ sizeLine := by
    refine (sm_list (w := 0) (k := 0) fun d hd => ?_).like rfl (by show (0 + 1) * 4 ≤ 1000000; decide) (by decide)
    simp only [List.mem_cons, List.not_mem_nil, or_false] at hd
    rcases hd with rfl | rfl | rfl | rfl <;> exact sm_bool _
  refine bd_ret (R := isD K (.bool true)) (ed_to (ed_call G3 (PyData.list [.bool true, .bool false, .bool true, .bool false]) room gd lk (ea_cons (ed_nameL 2 rfl) (ea_cons (EL.ed (el_lst (ea_cons ed_bl (ea_cons ed_bl (ea_cons ed_bl (ea_cons ed_bl ea_nil)))) (by show 4 ≤ 1000; decide))) ea_nil))) rfl) fun v B6 H6 g6 r => k v _ B6 H6 rfl (((((g1.trans g2).trans g3).trans g4).trans g5).trans g6) r
/-! law -/
abbrev s_law : Stmt := top 63
abbrev N_law : List Str := ["_law_script", "_law_m", "_law_turn", "_law_some"]
theorem sc_law : FnScope N_law ["_law_script"] (defScope s_law) := ⟨rfl, rfl, rfl, by decide +kernel, rfl, by decide +kernel, by decide +kernel⟩
abbrev p_law (K : PySem.W.Frag) : Pr := PrF K (α := List Int) (fun m => [.list (m.map .int)]) (fun m => m.length ≤ 63) fun _ => .bool true
theorem w_law {f : Addr} {fd : FuncData} (F : Fun K "law" "law" s_law f fd) (T : Bi mg) (G1 : Has P w K mg base 7 "_law_begun" ["_law_script"] (p_begun K)) (G2 : Has P w K mg base 7 "_law_triple" ["_law_m", "_law_many"] (p_triple K)) (G3 : Has P w K mg base 7 "_law_draw" ["_law_m", "_law_limit"] (p_draw K)) (G4 : Has P w K mg base 7 "_law_measure_right" ["_law_some"] (p_measure K)) (G5 : Has P w K mg base 7 "_law_changed_right" ["_law_m", "_law_some"] (p_changed K)) (G6 : Has P w K mg base 7 "_law_hand_right" [] (p_hand K)) : FnG P w K mg base 8 f fd ["_law_script"] (p_law K) := by
  refine fnP F sc_law (fun _ => rfl) fun cdv A outer s B H Q sc room gd sb hp k => ?_
  have hsc : sc.length ≤ 63 := hp
  refine bd_setV 1 (R := fun v H1 B2 H2 => ∃ q g, v = .ref q ∧ SM K B2 H2 q g 0 ∧ H1 q = none ∧ H1 g = none) (ev_begun G1 room gd hsc (ed_name 0 rfl)) (fun v B1 H1 g1 r σ ok => ?_) sc_law.nd
  obtain ⟨q, g, rfl, sm, hq, hg⟩ := r
  have ok' := ok.set 1 (s := .raw (.ref q)) rfl
  refine (?_ : BD (bodyX P w K mg base N_law "law" s_law f cdv A outer s H) [.dat (.list (sc.map .int)), .raw (.ref q), .unk, .unk] B1 H1 _ _) _ ok'
  have en : (1 : Int) + (if (1 : Int) < (((sc.map PyData.int).length : Nat) : Int) then 1 else (((sc.map PyData.int).length : Nat) : Int)) = ((1 + min sc.length 1 : Nat) : Int) := by
    rw [List.length_map]
    split <;> omega
  refine bd_for (fun i Γ' B' H' => ∃ (s2 s3 : Sl), Γ' = [.dat (.list (sc.map .int)), .raw (.ref q), s2, s3] ∧ GS q g B1 H1 B' H' ∧ SM K B' H' q g (300 * i)) rfl PassesOwn.never (pg_name (i := 2) sc_law.nd rfl (.inl rfl)) (it_rng1 (n := 1 + min sc.length 1) en (by omega) T.range (ed_add ed_int (ed_min2 rfl T.min (ed_len (.inl rfl) T.len (ed_name 0 rfl)) ed_int))) (fun d hd Γ1 => tg_one 2) (fun B2 H2 g2 => ⟨_, _, rfl, GS.of g2, sm.grow g2⟩) ?_ ?_
  · rintro i d _ B2 H2 hd ⟨s2, s3, rfl, w2, sm2⟩ _ B3 H3 g3
    have hi : i < 1 + min sc.length 1 := by
      have := (List.getElem?_eq_some_iff.mp hd).1
      rw [rng_len] at this
      exact this
    have w3 := w2.trans (GS.of g3)
    have sm3 := sm2.grow g3
    refine bds_set 3 sc_law.nd sm3 (c := 0 + 1 + 200) (P := fun d => ∃ (L : Nat) (a b c : List Jt), 2 ≤ L ∧ L ≤ 4 ∧ d = .list [eLay L a, eLay L b, eLay L c] ∧ Lay L a ∧ Lay L b ∧ Lay L c) (est_call (P := fun d => ∃ L : Nat, 2 ≤ L ∧ L ≤ 4 ∧ d = .int (L : Nat)) G2 1 room gd rfl (by omega) (est_add (i := 2) (P := fun d => ∃ r : Nat, d = eN r ∧ r < 3) (fun B1 H1 w1 => ed_int) (est_call (P := fun d => d = .int ((3 : Nat) : Int)) G3 1 room gd rfl (by omega) (est_ed fun B1 H1 w1 => ed_int) (fun d hd => dr_of 3 d ⟨by decide, by decide⟩ hd)) (fun d ⟨r, hr, hl⟩ => ⟨(r : Nat), hr, 2 + r, by omega, by omega, by rw [Int.natCast_add]; rfl⟩)) (fun d ⟨L, h2, h4, hd⟩ => ⟨L, by rw [hd], ⟨by omega, by omega⟩, fun d' ⟨a, b, c, e, la, lb, lc⟩ => ⟨L, a, b, c, h2, h4, e, la, lb, lc⟩⟩)) fun d4 B4 H4 pd4 w4 sm4 => ?_
    obtain ⟨L, a, b, c, h2, h4, rfl, La, Lb, Lc⟩ := pd4
    have hm : (∀ j ∈ [a, b, c], Lay L j) ∧ [a, b, c].length ≤ 10 := by
      refine ⟨fun j hj => ?_, by show 3 ≤ 10; decide⟩
      simp only [List.mem_cons, List.not_mem_nil, or_false] at hj
      rcases hj with rfl | rfl | rfl <;> assumption
    have h6 : L ≤ 6 := by omega
    refine bds_skip sm4 (c := 0 + 40) (etb_or2 (t := false) (u := false) (fun B1 H1 w1 => et_not (x := true) (et_val (by intro _; rfl) (ed_to (ed_call G4 (L, [a, b, c]) room gd hm (ea_cons (ed_name 3 rfl) ea_nil)) rfl))) rfl (etb_not (t := true) (etb_val (by intro _; rfl) (est_call (P := fun d => d = .list [eLay L a, eLay L b, eLay L c]) (P' := fun d => d = .bool true) G5 1 room gd rfl (by omega) (est_ed fun B1 H1 w1 => ed_name 3 rfl) (fun d hd => ⟨(L, a, b, c), by rw [hd], ⟨h2, h6, La, Lb, Lc⟩, fun d' h => h⟩))))) fun B5 H5 w5 sm5 => ?_
    exact bd_turn rfl (Weak.refl _) (w4.b.trans w5.b) ⟨_, _, rfl, (w3.trans w4).trans w5, sm5.up (by omega)⟩
  · rintro _ B2 H2 ⟨s2, s3, rfl, w2, sm2⟩ _
    refine bd_ret (R := isD K (.bool true)) (ed_to (ed_call0 G6 () room gd trivial rfl) rfl) fun v B3 H3 g3 r => k v _ B3 H3 rfl ((g1.gs w2 hq hg).trans g3) r
end
end Dc
/-! Plain law, part Q: contraction of two ends; what it does to the blocks. -/
namespace Dc
/-- two ends taken out, their mates joined -/
def Con (x y : Nat) (f : Nat → Option Nat) : Nat → Option Nat := fun z => if z = x ∨ z = y then none else if f z = some x then f y else if f z = some y then f x else f z
section
variable {n : Nat} {f s r : Nat → Option Nat} {x y : Nat}
theorem con_l : Con x y f x = none := by unfold Con; rw [if_pos (.inl rfl)]
theorem con_r : Con x y f y = none := by unfold Con; rw [if_pos (.inr rfl)]
theorem con_x {z : Nat} (h1 : z ≠ x) (h2 : z ≠ y) (h : f z = some x) : Con x y f z = f y := by
  unfold Con
  rw [if_neg (by simp [h1, h2]), if_pos h]
theorem con_y {z : Nat} (hxy : x ≠ y) (h1 : z ≠ x) (h2 : z ≠ y) (h : f z = some y) : Con x y f z = f x := by
  unfold Con
  rw [if_neg (by simp [h1, h2]), if_neg (by rw [h]; simp; exact fun q => hxy q.symm), if_pos h]
theorem con_o {z : Nat} (h1 : z ≠ x) (h2 : z ≠ y) (h3 : f z ≠ some x) (h4 : f z ≠ some y) : Con x y f z = f z := by
  unfold Con
  rw [if_neg (by simp [h1, h2]), if_neg h3, if_neg h4]
theorem con_swap (hxy : x ≠ y) : Con x y f = Con y x f := by
  funext z
  unfold Con
  by_cases h : z = x ∨ z = y
  · rw [if_pos h, if_pos (or_comm.mp h)]
  · rw [if_neg h, if_neg (fun q => h (or_comm.mp q))]
    by_cases h1 : f z = some x
    · rw [if_pos h1, if_neg (by rw [h1]; simpa using hxy), if_pos h1]
    · rw [if_neg h1, if_neg h1]
/-- what a new mate is -/
theorem con_some (M : Mat n f) (hxy : x ≠ y) {z w : Nat} (h : Con x y f z = some w) : z ≠ x ∧ z ≠ y ∧ w ≠ x ∧ w ≠ y ∧ (f z = some w ∨ (f z = some x ∧ f y = some w) ∨ (f z = some y ∧ f x = some w)) := by
  have h1 : z ≠ x := fun q => by rw [q, con_l] at h; cases h
  have h2 : z ≠ y := fun q => by rw [q, con_r] at h; cases h
  by_cases h3 : f z = some x
  · rw [con_x h1 h2 h3] at h
    refine ⟨h1, h2, fun q => ?_, fun q => ?_, .inr (.inl ⟨h3, h⟩)⟩
    · rw [q] at h
      have a := M.sym _ _ h
      rw [M.sym _ _ h3] at a
      exact h2 (Option.some.inj a)
    · rw [q] at h
      exact M.irr _ h
  · by_cases h4 : f z = some y
    · rw [con_y hxy h1 h2 h4] at h
      refine ⟨h1, h2, fun q => ?_, fun q => ?_, .inr (.inr ⟨h4, h⟩)⟩
      · rw [q] at h
        exact M.irr _ h
      · rw [q] at h
        have a := M.sym _ _ h
        rw [M.sym _ _ h4] at a
        exact h1 (Option.some.inj a)
    · rw [con_o h1 h2 h3 h4] at h
      exact ⟨h1, h2, fun q => h3 (q ▸ h), fun q => h4 (q ▸ h), .inl h⟩
theorem con_mat (M : Mat n f) (hxy : x ≠ y) : Mat n (Con x y f) := by
  refine ⟨fun a b h => ?_, fun a h => ?_, fun a b h => ?_⟩
  · obtain ⟨h1, h2, h3, h4, e⟩ := con_some M hxy h
    rcases e with e | ⟨e1, e2⟩ | ⟨e1, e2⟩
    · have e' := M.sym _ _ e
      rw [con_o h3 h4 (by rw [e']; simpa using h1) (by rw [e']; simpa using h2)]
      exact e'
    · rw [con_y hxy h3 h4 (M.sym _ _ e2)]
      exact M.sym _ _ e1
    · rw [con_x h3 h4 (M.sym _ _ e2)]
      exact M.sym _ _ e1
  · obtain ⟨h1, h2, h3, h4, e⟩ := con_some M hxy h
    rcases e with e | ⟨e1, e2⟩ | ⟨e1, e2⟩
    · exact M.irr _ e
    · have a := M.sym _ _ e1
      have b := M.sym _ _ e2
      rw [e1] at b
      exact hxy (Option.some.inj b)
    · have a := M.sym _ _ e1
      have b := M.sym _ _ e2
      rw [e1] at b
      exact hxy (Option.some.inj b).symm
  · obtain ⟨h1, h2, h3, h4, e⟩ := con_some M hxy h
    rcases e with e | ⟨e1, e2⟩ | ⟨e1, e2⟩
    · exact M.lt _ _ e
    · exact ⟨(M.lt _ _ e1).1, (M.lt _ _ e2).2⟩
    · exact ⟨(M.lt _ _ e1).1, (M.lt _ _ e2).2⟩
/-- a joint taken out changes no other mate -/
theorem con_joint (M : Mat n f) (h : f x = some y) {z : Nat} (h1 : z ≠ x) (h2 : z ≠ y) : Con x y f z = f z := by
  refine con_o h1 h2 (fun q => ?_) (fun q => ?_)
  · have := M.sym _ _ q
    rw [h] at this
    exact h2 (Option.some.inj this).symm
  · have := M.sym _ _ q
    rw [M.sym _ _ h] at this
    exact h1 (Option.some.inj this).symm
/-! counting -/
theorem perm_sumI {a b : List Int} (p : a.Perm b) : a.sum = b.sum := by
  induction p with
  | nil => rfl
  | cons x _ ih => rw [List.sum_cons, List.sum_cons, ih]
  | swap x y l =>
    rw [List.sum_cons, List.sum_cons, List.sum_cons, List.sum_cons]
    omega
  | trans _ _ h1 h2 => rw [h1, h2]
theorem cnt_one {p q : Nat → Bool} {u : Nat} : ∀ {l : List Nat}, l.Nodup → u ∈ l → (∀ z ∈ l, z ≠ u → p z = q z) → p u = true → q u = false → l.countP p = l.countP q + 1
  | [], _, h, _, _, _ => by cases h
  | a :: l, nd, h, e, hp, hq => by
    rw [List.nodup_cons] at nd
    rw [List.countP_cons, List.countP_cons]
    by_cases ha : a = u
    · subst ha
      rw [hp, hq]
      have : l.countP p = l.countP q := List.countP_congr fun z hz => by
        rw [e z (List.mem_cons_of_mem _ hz) (fun w => nd.1 (w ▸ hz))]
      rw [this]
      simp
    · have hu : u ∈ l := by
        rcases List.mem_cons.mp h with w | w
        · exact absurd w.symm ha
        · exact w
      rw [cnt_one nd.2 hu (fun z hz w => e z (List.mem_cons_of_mem _ hz) w) hp hq, e a List.mem_cons_self ha]
      omega
theorem cnt_two {p q : Nat → Bool} {u v : Nat} {l : List Nat} (nd : l.Nodup) (hu : u ∈ l) (hv : v ∈ l) (huv : u ≠ v) (e : ∀ z ∈ l, z ≠ u → z ≠ v → p z = q z) (pu : p u = true) (pv : p v = true) (qu : q u = false) (qv : q v = false) : l.countP p = l.countP q + 2 := by
  have h1 := cnt_one (p := p) (q := fun z => if z = u then false else p z) nd hu (fun z _ h => by simp [h]) pu (by simp)
  have h2 := cnt_one (p := fun z => if z = u then false else p z) (q := q) nd hv (fun z hz h => by
    by_cases w : z = u
    · subst w
      simp [qu]
    · simp [w]
      exact e z hz w h) (by simp [huv.symm, pv]) qv
  omega
/-- how many have a mate -/
def ct (f : Nat → Option Nat) (b : List Nat) : Nat := b.countP fun z => (f z).isSome
theorem ct_lk (f : Nat → Option Nat) : ∀ b : List Nat, ct f b + lk f b = b.length
  | [] => rfl
  | z :: b => by
    have ih := ct_lk f b
    unfold ct lk at ih ⊢
    rw [List.countP_cons, List.countP_cons, List.length_cons]
    cases f z <;> simp <;> omega
theorem ct_perm {a b : List Nat} (p : a.Perm b) : ct f a = ct f b := List.Perm.countP_eq _ p
theorem ct_congr {g : Nat → Option Nat} {b : List Nat} (h : ∀ z ∈ b, g z = f z) : ct g b = ct f b := List.countP_congr fun z hz => by rw [h z hz]
theorem ct_con (M : Mat n f) (hxy : x ≠ y) {b : List Nat} (nd : b.Nodup) (hx : x ∈ b) (hy : y ∈ b) (cl : ∀ z w, z ∈ b → f z = some w → w ∈ b) : ct (Con x y f) b + (if f x = none ∧ f y = none then 0 else 2) = ct f b := by
  unfold ct
  cases ex : f x with
  | none =>
    have nx : ∀ z, f z ≠ some x := fun z q => by
      rw [M.sym _ _ q] at ex
      cases ex
    cases ey : f y with
    | none =>
      have ny : ∀ z, f z ≠ some y := fun z q => by
        rw [M.sym _ _ q] at ey
        cases ey
      rw [if_pos ⟨rfl, rfl⟩, Nat.add_zero]
      refine List.countP_congr fun z hz => ?_
      by_cases h1 : z = x
      · rw [h1, con_l, ex]
      · by_cases h2 : z = y
        · rw [h2, con_r, ey]
        · rw [con_o h1 h2 (nx z) (ny z)]
    | some c =>
      rw [if_neg (by simp)]
      have hc := M.sym _ _ ey
      have c1 : c ≠ x := fun q => nx y (q ▸ ey)
      have c2 : c ≠ y := fun q => M.irr y (q ▸ ey)
      refine (cnt_two nd hy (cl _ _ hy ey) c2.symm (fun z hz h1 h2 => ?_) (by rw [ey]; rfl) (by rw [hc]; rfl) (by rw [con_r]; rfl) (by rw [con_y hxy c1 c2 hc, ex]; rfl)).symm
      by_cases h3 : z = x
      · rw [h3, con_l, ex]
      · rw [con_o h3 h1 (nx z) fun q => h2 (by
          have a := M.sym _ _ q
          rw [ey] at a
          exact (Option.some.inj a).symm)]
  | some a =>
    rw [if_neg (by simp)]
    have ha := M.sym _ _ ex
    have a2 : a ≠ x := fun q => M.irr x (q ▸ ex)
    cases ey : f y with
    | none =>
      have ny : ∀ z, f z ≠ some y := fun z q => by
        rw [M.sym _ _ q] at ey
        cases ey
      have a1 : a ≠ y := fun q => ny x (q ▸ ex)
      refine (cnt_two nd hx (cl _ _ hx ex) a2.symm (fun z hz h1 h2 => ?_) (by rw [ex]; rfl) (by rw [ha]; rfl) (by rw [con_l]; rfl) (by rw [con_x a2 a1 ha, ey]; rfl)).symm
      by_cases h3 : z = y
      · rw [h3, con_r, ey]
      · rw [con_o h1 h3 (fun q => h2 (by
          have a := M.sym _ _ q
          rw [ex] at a
          exact (Option.some.inj a).symm)) (ny z)]
    | some c =>
      refine (cnt_two nd hx hy hxy (fun z hz h1 h2 => ?_) (by rw [ex]; rfl) (by rw [ey]; rfl) (by rw [con_l]; rfl) (by rw [con_r]; rfl)).symm
      by_cases h3 : f z = some x
      · rw [con_x h1 h2 h3, h3, ey]
        rfl
      · by_cases h4 : f z = some y
        · rw [con_y hxy h1 h2 h4, h4, ex]
          rfl
        · rw [con_o h1 h2 h3 h4]
/-! blocks -/
variable {m0 m1 k0 k1 : Nat → Option Nat}
theorem mg_or {t z w : Nat} (h : Mg m0 m1 t z = some w) : m0 z = some w ∨ m1 z = some w := by
  unfold Mg at h
  split at h
  · exact .inl h
  · exact .inr h
theorem cl_of {S : Nat → Prop} (h0 : ∀ z w, S z → m0 z = some w → S w) (h1 : ∀ z w, S z → m1 z = some w → S w) : Cl m0 m1 S := fun t z w hz hw => (mg_or hw).elim (h0 z w hz) (h1 z w hz)
theorem Cl.one {S : Nat → Prop} (h : Cl m0 m1 S) {z w : Nat} (hz : S z) (e : m0 z = some w ∨ m1 z = some w) : S w := e.elim (fun e => h 0 z w hz e) (fun e => h 1 z w hz e)
theorem blk_congr {b : List Nat} (B : Blk m0 m1 b) (h0 : ∀ z ∈ b, k0 z = m0 z) (h1 : ∀ z ∈ b, k1 z = m1 z) : Blk k0 k1 b := by
  refine ⟨B.ne, cl_of (fun z w hz hw => B.cl.one hz (.inl (h0 z hz ▸ hw))) (fun z w hz hw => B.cl.one hz (.inr (h1 z hz ▸ hw))), fun S cs x hx hS y hy => ?_⟩
  refine (B.cn (fun z => z ∈ b ∧ S z) (cl_of (fun z w hz hw => ⟨B.cl.one hz.1 (.inl hw), cs.one hz.2 (.inl (by rw [h0 z hz.1]; exact hw))⟩) (fun z w hz hw => ⟨B.cl.one hz.1 (.inr hw), cs.one hz.2 (.inr (by rw [h1 z hz.1]; exact hw))⟩)) x hx ⟨hx, hS⟩ y hy).2
theorem blk_one {z : Nat} (h0 : m0 z = none) (h1 : m1 z = none) : Blk m0 m1 [z] := by
  refine ⟨by simp, cl_of (fun a w ha hw => ?_) (fun a w ha hw => ?_), fun S _ a ha hS c hc => ?_⟩
  · rw [List.mem_singleton] at ha
    rw [ha, h0] at hw
    cases hw
  · rw [List.mem_singleton] at ha
    rw [ha, h1] at hw
    cases hw
  · rw [List.mem_singleton] at ha hc
    rw [hc, ← ha]
    exact hS
/-- twice what a block costs -/
def vb (m0 m1 : Nat → Option Nat) (b : List Nat) : Int := 2 * ((b.length : Nat) / 2 : Nat) - (if lk m0 b = 0 ∧ lk m1 b = 0 then 2 else 0)
theorem lk_perm {a b : List Nat} (p : a.Perm b) : lk f a = lk f b := List.Perm.countP_eq _ p
theorem lk_congr {g : Nat → Option Nat} {b : List Nat} (h : ∀ z ∈ b, g z = f z) : lk g b = lk f b := List.countP_congr fun z hz => by rw [h z hz]
theorem vb_perm {a b : List Nat} (p : a.Perm b) : vb m0 m1 a = vb m0 m1 b := by
  unfold vb
  rw [lk_perm p, lk_perm p, p.length_eq]
theorem vb_congr {b : List Nat} (h0 : ∀ z ∈ b, k0 z = m0 z) (h1 : ∀ z ∈ b, k1 z = m1 z) : vb k0 k1 b = vb m0 m1 b := by
  unfold vb
  rw [lk_congr h0, lk_congr h1]
theorem vb_swap (b : List Nat) : vb m0 m1 b = vb m1 m0 b := by
  unfold vb
  simp only [and_comm]
theorem vb_one {z : Nat} (h : m0 z = none) : vb m0 m1 [z] = 0 := by
  have : lk m0 [z] = 1 := by simp [lk, h]
  unfold vb
  rw [this]
  simp
theorem HeapsOk.swap {hs : List (List Nat)} (H : HeapsOk n m0 m1 hs) : HeapsOk n m1 m0 hs := by
  have sw : ∀ S : Nat → Prop, Cl m0 m1 S → Cl m1 m0 S := fun S h => cl_of (fun z w hz hw => h.one hz (.inr hw)) (fun z w hz hw => h.one hz (.inl hw))
  have sw2 : ∀ S : Nat → Prop, Cl m1 m0 S → Cl m0 m1 S := fun S h => cl_of (fun z w hz hw => h.one hz (.inr hw)) (fun z w hz hw => h.one hz (.inl hw))
  exact ⟨H.nd, fun h hh => ⟨(H.each h hh).ne, sw _ (H.each h hh).cl, fun S cs => (H.each h hh).cn S (sw2 S cs)⟩, H.all⟩
/-- a block without two ends that one of both joins -/
theorem blk_con (hs : Mat n s) (hr : Mat n r) (hxy : r x = some y) {b b' : List Nat} (B : Blk s r b) (hx : x ∈ b) (hm : ∀ z, z ∈ b' ↔ z ∈ b ∧ z ≠ x ∧ z ≠ y) (ne : b' ≠ []) : Blk (Con x y s) (Con x y r) b' := by
  have nxy : x ≠ y := fun q => hr.irr x (by rw [hxy, ← q])
  have hy : y ∈ b := B.cl.one hx (.inr hxy)
  have hyx := hr.sym _ _ hxy
  refine ⟨ne, cl_of (fun z w hz hw => ?_) (fun z w hz hw => ?_), fun S cs p hp hS q hq => ?_⟩
  · obtain ⟨h1, h2, h3, h4, e⟩ := con_some hs nxy hw
    rw [hm] at hz ⊢
    refine ⟨?_, h3, h4⟩
    rcases e with e | ⟨_, e⟩ | ⟨_, e⟩
    · exact B.cl.one hz.1 (.inl e)
    · exact B.cl.one hy (.inl e)
    · exact B.cl.one hx (.inl e)
  · obtain ⟨h1, h2, h3, h4, e⟩ := con_some hr nxy hw
    rw [hm] at hz ⊢
    refine ⟨?_, h3, h4⟩
    rcases e with e | ⟨_, e⟩ | ⟨_, e⟩
    · exact B.cl.one hz.1 (.inr e)
    · exact B.cl.one hy (.inr e)
    · exact B.cl.one hx (.inr e)
  · let S' : Nat → Prop := fun z => if z = x ∨ z = y then ∃ a, (s x = some a ∨ s y = some a) ∧ a ≠ x ∧ a ≠ y ∧ S a else S z
    have sin : ∀ z, (z = x ∨ z = y) → (S' z ↔ ∃ a, (s x = some a ∨ s y = some a) ∧ a ≠ x ∧ a ≠ y ∧ S a) := fun z h => by
      show (if z = x ∨ z = y then _ else _) ↔ _
      rw [if_pos h]
    have sout : ∀ z, z ≠ x → z ≠ y → (S' z ↔ S z) := fun z h1 h2 => by
      show (if z = x ∨ z = y then _ else _) ↔ _
      rw [if_neg (by simp [h1, h2])]
    have cl' : Cl s r S' := by
      refine cl_of (fun z w hz hw => ?_) (fun z w hz hw => ?_)
      · by_cases z1 : z = x ∨ z = y
        · rw [sin z z1] at hz
          by_cases w1 : w = x ∨ w = y
          · rw [sin w w1]
            exact hz
          · have w2 : w ≠ x := fun q => w1 (.inl q)
            have w3 : w ≠ y := fun q => w1 (.inr q)
            rw [sout w w2 w3]
            obtain ⟨a, ha, a1, a2, sa⟩ := hz
            rcases z1 with z1 | z1
            · subst z1
              rcases ha with ha | ha
              · rw [hw] at ha
                exact Option.some.inj ha ▸ sa
              · exact cs.one sa (.inl (by rw [con_y nxy a1 a2 (hs.sym _ _ ha)]; exact hw))
            · subst z1
              rcases ha with ha | ha
              · exact cs.one sa (.inl (by rw [con_x a1 a2 (hs.sym _ _ ha)]; exact hw))
              · rw [hw] at ha
                exact Option.some.inj ha ▸ sa
        · have z2 : z ≠ x := fun q => z1 (.inl q)
          have z3 : z ≠ y := fun q => z1 (.inr q)
          rw [sout z z2 z3] at hz
          by_cases w1 : w = x ∨ w = y
          · rw [sin w w1]
            refine ⟨z, ?_, z2, z3, hz⟩
            rcases w1 with w1 | w1
            · exact .inl (w1 ▸ hs.sym _ _ hw)
            · exact .inr (w1 ▸ hs.sym _ _ hw)
          · have w2 : w ≠ x := fun q => w1 (.inl q)
            have w3 : w ≠ y := fun q => w1 (.inr q)
            rw [sout w w2 w3]
            exact cs.one hz (.inl (by rw [con_o z2 z3 (by rw [hw]; simpa using w2) (by rw [hw]; simpa using w3)]; exact hw))
      · by_cases z1 : z = x ∨ z = y
        · rw [sin z z1] at hz
          have w1 : w = x ∨ w = y := by
            rcases z1 with z1 | z1
            · rw [z1, hxy] at hw
              exact .inr (Option.some.inj hw).symm
            · rw [z1, hyx] at hw
              exact .inl (Option.some.inj hw).symm
          rw [sin w w1]
          exact hz
        · have z2 : z ≠ x := fun q => z1 (.inl q)
          have z3 : z ≠ y := fun q => z1 (.inr q)
          have e := con_joint hr hxy z2 z3
          rw [sout z z2 z3] at hz
          have hw2 := e.trans hw
          obtain ⟨_, _, w2, w3, _⟩ := con_some hr nxy hw2
          rw [sout w w2 w3]
          exact cs.one hz (.inr hw2)
    have hp' := (hm p).mp hp
    have hq' := (hm q).mp hq
    exact (sout q hq'.2.1 hq'.2.2).mp (B.cn S' cl' p hp'.1 ((sout p hp'.2.1 hp'.2.2).mpr hS) q hq'.1)
/-- blocks behind a contraction of a joint of the second one -/
theorem heaps_con (hs : Mat n s) (hr : Mat n r) (hxy : r x = some y) {hps : List (List Nat)} (H : HeapsOk n s r hps) : ∃ hps', HeapsOk n (Con x y s) (Con x y r) hps' ∧ (hps.map (vb s r)).sum = (if s x = some y then 0 else 2) + (hps'.map (vb (Con x y s) (Con x y r))).sum := by
  have nxy : x ≠ y := fun q => hr.irr x (by rw [hxy, ← q])
  have hyx := hr.sym _ _ hxy
  have hxn := (hr.lt _ _ hxy).1
  obtain ⟨b, hb, hx⟩ := List.mem_flatten.mp ((H.all x).mpr hxn)
  have B := H.each b hb
  have hy : y ∈ b := B.cl.one hx (.inr hxy)
  have bnd := flat_sub hb H.nd
  have p0 : hps.Perm (b :: hps.erase b) := List.perm_cons_erase hb
  have nd0 : (b ++ (hps.erase b).flatten).Nodup := by
    have := p0.flatten.nodup_iff.mp H.nd
    rwa [List.flatten_cons] at this
  have p1 : b.Perm (x :: b.erase x) := List.perm_cons_erase hx
  have hy1 : y ∈ b.erase x := (List.mem_erase_of_ne nxy.symm).mpr hy
  have p2 : b.Perm (x :: y :: (b.erase x).erase y) := p1.trans ((List.perm_cons_erase hy1).cons x)
  generalize hb' : (b.erase x).erase y = b' at p2
  have nd2 := p2.nodup_iff.mp bnd
  rw [List.nodup_cons, List.nodup_cons, List.mem_cons, not_or] at nd2
  have hm : ∀ z, z ∈ b' ↔ z ∈ b ∧ z ≠ x ∧ z ≠ y := fun z => by
    rw [p2.mem_iff, List.mem_cons, List.mem_cons]
    exact ⟨fun h => ⟨.inr (.inr h), fun q => nd2.1.2 (q ▸ h), fun q => nd2.2.1 (q ▸ h)⟩, fun ⟨h1, h2, h3⟩ => (h1.resolve_left h2).resolve_left h3⟩
  have lenb : b.length = b'.length + 2 := by rw [p2.length_eq]; rfl
  -- the other blocks stay
  have oth : ∀ h ∈ hps.erase b, (∀ z ∈ h, Con x y s z = s z) ∧ ∀ z ∈ h, Con x y r z = r z := fun h hh => by
    have Bh := H.each h (List.mem_of_mem_erase hh)
    have dis : ∀ z, z ∈ b → z ∉ h := fun z hz hzh => (List.nodup_append.mp nd0).2.2 z hz z (List.mem_flatten.mpr ⟨h, hh, hzh⟩) rfl
    have gen : ∀ f : Nat → Option Nat, (∀ z w, z ∈ h → f z = some w → w ∈ h) → ∀ z ∈ h, Con x y f z = f z := fun f cf z hz =>
      con_o (fun q => dis x hx (q ▸ hz)) (fun q => dis y hy (q ▸ hz)) (fun q => dis x hx (cf z x hz q)) (fun q => dis y hy (cf z y hz q))
    exact ⟨gen s fun z w hz hw => Bh.cl.one hz (.inl hw), gen r fun z w hz hw => Bh.cl.one hz (.inr hw)⟩
  have sumO : ((hps.erase b).map (vb (Con x y s) (Con x y r))).sum = ((hps.erase b).map (vb s r)).sum := congrArg List.sum (List.map_congr_left fun h hh => vb_congr (oth h hh).1 (oth h hh).2)
  have sum0 : (hps.map (vb s r)).sum = vb s r b + ((hps.erase b).map (vb s r)).sum := by
    rw [perm_sumI (p0.map _)]
    rfl
  have one : ∀ z, (z = x ∨ z = y) → Con x y s z = none ∧ Con x y r z = none := fun z h => by
    rcases h with h | h
    · rw [h]
      exact ⟨con_l, con_l⟩
    · rw [h]
      exact ⟨con_r, con_r⟩
  -- what the block costs
  have lr : lk r b = lk (Con x y r) b' := by
    have c1 := ct_con hr nxy bnd hx hy fun z w hz hw => B.cl.one hz (.inr hw)
    rw [if_neg (by rw [hxy]; simp)] at c1
    have c2 : ct (Con x y r) b = ct (Con x y r) b' := by
      rw [ct_perm p2]
      simp [ct, con_l, con_r]
    have l1 := ct_lk r b
    have l2 := ct_lk (Con x y r) b'
    omega
  have only : (∀ w, s x = some w → w = x ∨ w = y) → (∀ w, s y = some w → w = x ∨ w = y) → b' = [] := fun h1 h2 => by
    cases hbb : b' with
    | nil => rfl
    | cons z t =>
      exfalso
      have hz := (hm z).mp (by rw [hbb]; exact List.mem_cons_self)
      have := B.cn (fun z => z = x ∨ z = y) (cl_of (fun z w hz hw => by
        rcases hz with q | q
        · exact h1 w (q ▸ hw)
        · exact h2 w (q ▸ hw)) (fun z w hz hw => by
        rcases hz with q | q
        · rw [q, hxy] at hw
          exact .inr (Option.some.inj hw).symm
        · rw [q, hyx] at hw
          exact .inl (Option.some.inj hw).symm)) x hx (.inl rfl) z hz.1
      exact this.elim hz.2.1 hz.2.2
  have main : (b' = [] ∧ vb s r b = if s x = some y then 0 else 2) ∨ (b' ≠ [] ∧ s x ≠ some y ∧ vb s r b = 2 + vb (Con x y s) (Con x y r) b') := by
    by_cases h1 : s x = some y
    · left
      have e := only (fun w hw => .inr (by rw [h1] at hw; exact (Option.some.inj hw).symm)) (fun w hw => .inl (by rw [hs.sym _ _ h1] at hw; exact (Option.some.inj hw).symm))
      refine ⟨e, ?_⟩
      rw [e] at p2 lr
      have l0 : lk s b = 0 := by
        rw [lk_perm p2]
        simp [lk, h1, hs.sym _ _ h1]
      rw [if_pos h1]
      unfold vb
      rw [l0, lr, p2.length_eq]
      simp [lk]
    · by_cases h2 : s x = none ∧ s y = none
      · left
        have e := only (fun w hw => by rw [h2.1] at hw; cases hw) (fun w hw => by rw [h2.2] at hw; cases hw)
        refine ⟨e, ?_⟩
        rw [e] at p2 lr
        have l0 : lk s b = 2 := by
          rw [lk_perm p2]
          simp [lk, h2]
        rw [if_neg h1]
        unfold vb
        rw [l0, p2.length_eq]
        simp
      · right
        have ne : b' ≠ [] := by
          intro e
          have hall : ∀ z ∈ b, z = x ∨ z = y := fun z hz => Classical.byContradiction fun q => by
            have := (hm z).mpr ⟨hz, fun w => q (.inl w), fun w => q (.inr w)⟩
            rw [e] at this
            cases this
          cases ex : s x with
          | some a =>
            rcases hall a (B.cl.one hx (.inl ex)) with q | q
            · exact hs.irr x (q ▸ ex)
            · exact h1 (q ▸ ex)
          | none =>
            cases ey : s y with
            | none => exact h2 ⟨ex, ey⟩
            | some a =>
              rcases hall a (B.cl.one hy (.inl ey)) with q | q
              · exact h1 (hs.sym _ _ (q ▸ ey))
              · exact hs.irr y (q ▸ ey)
        refine ⟨ne, h1, ?_⟩
        have ls : lk s b = lk (Con x y s) b' := by
          have c1 := ct_con hs nxy bnd hx hy fun z w hz hw => B.cl.one hz (.inl hw)
          rw [if_neg h2] at c1
          have c2 : ct (Con x y s) b = ct (Con x y s) b' := by
            rw [ct_perm p2]
            simp [ct, con_l, con_r]
          have l1 := ct_lk s b
          have l2 := ct_lk (Con x y s) b'
          omega
        unfold vb
        rw [ls, lr, lenb]
        omega
  rcases main with ⟨e, hv⟩ | ⟨ne, h1, hv⟩
  · refine ⟨[x] :: [y] :: hps.erase b, ⟨?_, fun h hh => ?_, fun z => ?_⟩, ?_⟩
    · rw [e] at p2
      exact (p2.append_right _).nodup_iff.mp nd0
    · rcases List.mem_cons.mp hh with q | hh
      · rw [q]
        exact blk_one con_l con_l
      · rcases List.mem_cons.mp hh with q | hh
        · rw [q]
          exact blk_one con_r con_r
        · exact blk_congr (H.each h (List.mem_of_mem_erase hh)) (oth h hh).1 (oth h hh).2
    · rw [e] at p2
      rw [← H.all z, p0.flatten.mem_iff]
      exact ((p2.append_right _).mem_iff (a := z)).symm
    · rw [sum0, hv, List.map_cons, List.map_cons, List.sum_cons, List.sum_cons, vb_one con_l, vb_one con_r, sumO]
      omega
  · have pp : (b ++ (hps.erase b).flatten).Perm (b' :: [x] :: [y] :: hps.erase b).flatten := by
      refine (p2.append_right _).trans ?_
      show (x :: y :: (b' ++ (hps.erase b).flatten)).Perm (b' ++ x :: y :: (hps.erase b).flatten)
      exact ((List.perm_middle (l₁ := b')).trans ((List.perm_middle (l₁ := b')).cons x)).symm
    refine ⟨b' :: [x] :: [y] :: hps.erase b, ⟨pp.nodup_iff.mp nd0, fun h hh => ?_, fun z => ?_⟩, ?_⟩
    · rcases List.mem_cons.mp hh with q | hh
      · rw [q]
        exact blk_con hs hr hxy B hx hm ne
      · rcases List.mem_cons.mp hh with q | hh
        · rw [q]
          exact blk_one con_l con_l
        · rcases List.mem_cons.mp hh with q | hh
          · rw [q]
            exact blk_one con_r con_r
          · exact blk_congr (H.each h (List.mem_of_mem_erase hh)) (oth h hh).1 (oth h hh).2
    · rw [← H.all z, p0.flatten.mem_iff, List.flatten_cons]
      exact (pp.mem_iff (a := z)).symm
    · rw [sum0, hv, if_neg h1, List.map_cons, List.map_cons, List.map_cons, List.sum_cons, List.sum_cons, List.sum_cons, vb_one con_l, vb_one con_r, sumO]
      omega
end
end Dc
/-! Plain law, part Q2: twice the cost, as a measure. -/
namespace Dc
section
variable {n : Nat} {f s r t : Nat → Option Nat} {x y : Nat}
/-- twice the cost of a web -/
def D (n : Nat) (s r : Nat → Option Nat) : Int := ((heapsF id n s r).map (vb s r)).sum
theorem id_perm (l : List Nat) : (id l).Perm l := List.Perm.refl _
theorem D_of (hs : Mat n s) (hr : Mat n r) {hps : List (List Nat)} (H : HeapsOk n s r hps) : (hps.map (vb s r)).sum = D n s r := by
  have H2 := heapsF_ok id id_perm hs hr
  exact perm_sumI (parts_perm _ _ _ _ H.nd H2.nd H.each H2.each (fun z => (H.all z).trans (H2.all z).symm) fun a _ b _ p => vb_perm p)
theorem D_con (hs : Mat n s) (hr : Mat n r) (hxy : r x = some y) : D n s r = (if s x = some y then 0 else 2) + D n (Con x y s) (Con x y r) := by
  have nxy : x ≠ y := fun q => hr.irr x (by rw [hxy, ← q])
  obtain ⟨hps, H, e⟩ := heaps_con hs hr hxy (heapsF_ok id id_perm hs hr)
  rw [D_of (con_mat hs nxy) (con_mat hr nxy) H] at e
  exact e
theorem D_symm (hs : Mat n s) (hr : Mat n r) : D n s r = D n r s := by
  have H := (heapsF_ok id id_perm hs hr).swap
  rw [← D_of hr hs H]
  exact congrArg List.sum (List.map_congr_left fun b _ => vb_swap b)
theorem D_conL (hs : Mat n s) (hr : Mat n r) (hxy : s x = some y) : D n s r = (if r x = some y then 0 else 2) + D n (Con x y s) (Con x y r) := by
  have nxy : x ≠ y := fun q => hs.irr x (by rw [hxy, ← q])
  rw [D_symm hs hr, D_con hr hs hxy, D_symm (con_mat hr nxy) (con_mat hs nxy)]
/-- how many ends are in joints -/
def J (n : Nat) (f : Nat → Option Nat) : Nat := ct f (List.range n)
theorem J_con (M : Mat n f) (hxy : x ≠ y) (hx : x < n) (hy : y < n) : J n (Con x y f) + (if f x = none ∧ f y = none then 0 else 2) = J n f :=
  ct_con M hxy List.nodup_range (List.mem_range.mpr hx) (List.mem_range.mpr hy) fun z w _ hw => List.mem_range.mpr (M.lt _ _ hw).2
theorem J_joint (M : Mat n f) (h : f x = some y) : J n (Con x y f) + 2 = J n f := by
  have nxy : x ≠ y := fun q => M.irr x (by rw [h, ← q])
  have := J_con M nxy (M.lt _ _ h).1 (M.lt _ _ h).2
  rwa [if_neg (by rw [h]; simp)] at this
/-- the bare one -/
abbrev bare : Nat → Option Nat := fun _ => none
theorem bare_mat : Mat n bare := ⟨fun _ _ h => (by cases h), fun _ h => (by cases h), fun _ _ h => (by cases h)⟩
theorem J_bare : J n bare = 0 := by
  unfold J ct
  rw [List.countP_eq_zero]
  simp
theorem con_bare : Con x y bare = bare := by
  funext z
  unfold Con
  simp
theorem bare_or (f : Nat → Option Nat) : f = bare ∨ ∃ x y, f x = some y := by
  by_cases h : ∃ x y, f x = some y
  · exact .inr h
  · left
    funext z
    cases e : f z with
    | none => rfl
    | some w => exact absurd ⟨z, w, e⟩ h
/-- joint by joint -/
theorem mat_ind {P : (Nat → Option Nat) → Prop} (h0 : P bare) (h1 : ∀ r x y, Mat n r → r x = some y → P (Con x y r) → P r) : ∀ (k : Nat) (r : Nat → Option Nat), Mat n r → J n r ≤ k → P r
  | 0, r, M, h => by
    rcases bare_or r with e | ⟨x, y, e⟩
    · exact e ▸ h0
    · have := J_joint M e
      omega
  | k + 1, r, M, h => by
    rcases bare_or r with e | ⟨x, y, e⟩
    · exact e ▸ h0
    · have j := J_joint M e
      have nxy : x ≠ y := fun q => M.irr x (by rw [e, ← q])
      exact h1 r x y M e (mat_ind h0 h1 k _ (con_mat M nxy) (by omega))
theorem mat_rec {P : (Nat → Option Nat) → Prop} (h0 : P bare) (h1 : ∀ r x y, Mat n r → r x = some y → x ≠ y → P (Con x y r) → P r) {r : Nat → Option Nat} (M : Mat n r) : P r :=
  mat_ind (n := n) h0 (fun r x y M e h => h1 r x y M e (fun q => M.irr x (by rw [e, ← q])) h) _ r M (Nat.le_refl _)
theorem D_bare0 : D n bare bare = 0 := by
  unfold D
  have H := heapsF_ok id (n := n) id_perm bare_mat bare_mat
  have : ∀ z ∈ (heapsF id n bare bare).map (vb bare bare), z = 0 := fun z hz => by
    obtain ⟨h, hh, rfl⟩ := List.mem_map.mp hz
    have B := H.each h hh
    have nd := flat_sub hh H.nd
    obtain ⟨x, hx⟩ := List.exists_mem_of_ne_nil h B.ne
    have all : ∀ z ∈ h, z = x := B.cn (fun z => z = x) (cl_of (fun _ _ _ h => (by cases h)) (fun _ _ _ h => (by cases h))) x hx rfl
    match h, nd, all, B.ne with
    | [a], _, _, _ => exact vb_one rfl
    | a :: b :: l, nd, all, _ =>
      exfalso
      rw [List.nodup_cons] at nd
      exact nd.1 (by rw [all a (by simp), ← all b (by simp)]; simp)
  have gen : ∀ l : List Int, (∀ z ∈ l, z = 0) → l.sum = 0 := fun l => by
    induction l with
    | nil => intro _; rfl
    | cons a l ih =>
      intro h
      rw [List.sum_cons, h a (by simp), ih fun z hz => h z (List.mem_cons_of_mem _ hz)]
      rfl
  exact gen _ this
theorem D_bare (hs : Mat n s) : D n s bare = J n s := by
  refine mat_rec (n := n) (P := fun s => D n s bare = J n s) (by rw [D_bare0, J_bare]; rfl) (fun s x y M e nxy ih => ?_) hs
  have j := J_joint M e
  rw [D_conL M bare_mat e, con_bare, ih, if_neg (by simp)]
  omega
theorem D_self (hs : Mat n s) : D n s s = 0 := by
  refine mat_rec (n := n) (P := fun s => D n s s = 0) D_bare0 (fun s x y M e nxy ih => ?_) hs
  rw [D_con M M e, ih, if_pos e]
  rfl
theorem D_pos (hs : Mat n s) (hr : Mat n r) : 0 ≤ D n s r := by
  refine mat_rec (n := n) (P := fun r => ∀ s, Mat n s → 0 ≤ D n s r) (fun s hs => by rw [D_bare hs]; omega) (fun r x y M e nxy ih s hs => ?_) hr s hs
  have := ih _ (con_mat hs nxy)
  rw [D_con hs M e]
  split <;> omega
/-- joints that keep off two ends stay -/
theorem con_keep {u v : Nat} (h : f u = some v) (u1 : u ≠ x) (u2 : u ≠ y) (v1 : v ≠ x) (v2 : v ≠ y) : Con x y f u = some v := by
  rw [con_o u1 u2 (by rw [h]; simpa using v1) (by rw [h]; simpa using v2), h]
theorem D_zero (hs : Mat n s) (hr : Mat n r) (h : D n s r = 0) : s = r := by
  refine mat_rec (n := n) (P := fun r => ∀ s, Mat n s → D n s r = 0 → s = r) (fun s hs h => ?_) (fun r x y M e nxy ih s hs h => ?_) hr s hs h
  · rw [D_bare hs] at h
    rcases bare_or s with q | ⟨x, y, q⟩
    · exact q
    · have := J_joint hs q
      omega
  · rw [D_con hs M e] at h
    have p := D_pos (con_mat hs nxy) (con_mat M nxy)
    by_cases q : s x = some y
    · rw [if_pos q] at h
      have w := ih _ (con_mat hs nxy) (by omega)
      funext z
      by_cases z1 : z = x
      · rw [z1, q, e]
      · by_cases z2 : z = y
        · rw [z2, hs.sym _ _ q, M.sym _ _ e]
        · rw [← con_joint hs q z1 z2, ← con_joint M e z1 z2, w]
    · rw [if_neg q] at h
      omega
/-- contractions at unlike ends -/
theorem con_comm (M : Mat n f) {u v : Nat} (hxy : x ≠ y) (huv : u ≠ v) (ux : u ≠ x) (uy : u ≠ y) (vx : v ≠ x) (vy : v ≠ y) : Con u v (Con x y f) = Con x y (Con u v f) := by
  funext z
  have sy := M.sym
  have ir := M.irr
  unfold Con
  grind
end
end Dc
/-! Plain law, part Q3: contraction lessens, the triangle, single steps. -/
namespace Dc
section
variable {n : Nat} {f s r t : Nat → Option Nat} {x y : Nat}
/-- what a joint costs where two ends are not joined -/
theorem J_le (M : Mat n f) (hxy : x ≠ y) (hx : x < n) (hy : y < n) : J n (Con x y f) ≤ J n f ∧ J n f ≤ J n (Con x y f) + 2 := by
  have := J_con M hxy hx hy
  split at this <;> omega
theorem bare_of {g : Nat → Option Nat} (h : ∀ z, g z = none) : g = bare := funext h
/-- four ends, two ways to join them -/
theorem four {c d : Nat} (M : Mat n s) (hx : x < n) (hy : y < n) (hc : c < n) (hd : d < n) (xy : x ≠ y) (xc : x ≠ c) (xd : x ≠ d) (yc : y ≠ c) (yd : y ≠ d) (cd : c ≠ d) (n1 : s x ≠ some y) :
    ((if Con x y s c = some d then 0 else 2 : Int)) + (J n (Con c d (Con x y s)) : Nat) ≤ (if s x = some c then 0 else 2) + ((if Con x c s y = some d then 0 else 2) + (J n (Con y d (Con x c s)) : Nat)) := by
  have a1 := J_con M xy hx hy
  have a2 := J_con (con_mat M xy) cd hc hd
  have a3 := J_con M xc hx hc
  have a4 := J_con (con_mat M xc) yd hy hd
  have sy := M.sym
  have ir := M.irr
  have e1 : Con x y s c = if s c = some x then s y else if s c = some y then s x else s c := by
    unfold Con
    rw [if_neg (by omega)]
  have e2 : Con x y s d = if s d = some x then s y else if s d = some y then s x else s d := by
    unfold Con
    rw [if_neg (by omega)]
  have e3 : Con x c s y = if s y = some x then s c else if s y = some c then s x else s y := by
    unfold Con
    rw [if_neg (by omega)]
  have e4 : Con x c s d = if s d = some x then s c else if s d = some c then s x else s d := by
    unfold Con
    rw [if_neg (by omega)]
  rw [e1, e2] at a2
  rw [e3, e4] at a4
  rw [e1, e3]
  generalize J n (Con c d (Con x y s)) = j1 at *
  generalize J n (Con y d (Con x c s)) = j2 at *
  generalize J n (Con x y s) = j3 at *
  generalize J n (Con x c s) = j4 at *
  generalize J n s = j5 at *
  have q1 := sy x c
  have q2 := sy c x
  have q3 := sy x d
  have q4 := sy d x
  have q5 := sy y c
  have q6 := sy c y
  have q7 := sy y d
  have q8 := sy d y
  have q9 := sy c d
  have q10 := sy d c
  have q11 := sy y x
  clear e1 e2 e3 e4 sy M
  have i1 := ir x
  have i2 := ir y
  have i3 := ir c
  have i4 := ir d
  clear ir
  generalize s x = sx at *
  generalize s y = sy at *
  generalize s c = sc at *
  generalize s d = sd at *
  grind
/-- contraction lessens -/
theorem D_le (hs : Mat n s) (hr : Mat n r) (hx : x < n) (hy : y < n) (xy : x ≠ y) : D n (Con x y s) (Con x y r) ≤ D n s r := by
  have go : ∀ (k : Nat) (r : Nat → Option Nat), Mat n r → J n r ≤ k → ∀ s, Mat n s → D n (Con x y s) (Con x y r) ≤ D n s r := by
    intro k
    induction k with
    | zero =>
      intro r hr hk s hs
      rcases bare_or r with e | ⟨u, v, e⟩
      · rw [e, con_bare, D_bare hs, D_bare (con_mat hs xy)]
        have := J_le hs xy hx hy
        omega
      · have := J_joint hr e
        omega
    | succ k ih =>
      intro r hr hk s hs
      by_cases r1 : r x = some y
      · rw [D_con hs hr r1]
        split <;> omega
      by_cases s1 : s x = some y
      · rw [D_conL hs hr s1]
        split <;> omega
      by_cases off : ∃ u v, r u = some v ∧ u ≠ x ∧ u ≠ y ∧ v ≠ x ∧ v ≠ y
      · obtain ⟨u, v, e, ux, uy, vx, vy⟩ := off
        have uv : u ≠ v := fun q => hr.irr u (by rw [e, ← q])
        have j := J_joint hr e
        have w := ih _ (con_mat hr uv) (by omega) _ (con_mat hs uv)
        rw [D_con hs hr e, D_con (con_mat hs xy) (con_mat hr xy) (con_keep e ux uy vx vy), con_comm hs xy uv ux uy vx vy, con_comm hr xy uv ux uy vx vy]
        by_cases q : s u = some v
        · rw [if_pos q, if_pos (con_keep q ux uy vx vy)]
          omega
        · rw [if_neg q]
          split <;> omega
      -- each joint of r touches x or y
      have tou : ∀ u v, r u = some v → u = x ∨ u = y ∨ v = x ∨ v = y := fun u v e => Classical.byContradiction fun q => off ⟨u, v, e, fun z => q (.inl z), fun z => q (.inr (.inl z)), fun z => q (.inr (.inr (.inl z))), fun z => q (.inr (.inr (.inr z)))⟩
      have one : ∀ (x y c : Nat), x ≠ y → x < n → y < n → r x = some c → r y = none → c ≠ y → (∀ u v, r u = some v → u = x ∨ u = y ∨ v = x ∨ v = y) → D n (Con x y s) (Con x y r) ≤ D n s r := fun x y c xy hx hy e ey cy tou => by
        have ec := hr.sym _ _ e
        have hc := (hr.lt _ _ e).2
        have xc : x ≠ c := fun q => hr.irr x (by rw [e, ← q])
        have b1 : Con x y r = bare := bare_of fun z => by
          cases h : Con x y r z with
          | none => rfl
          | some w =>
            exfalso
            obtain ⟨h1, h2, h3, h4, h5⟩ := con_some hr xy h
            rcases h5 with h5 | ⟨h5, h6⟩ | ⟨h5, h6⟩
            · rcases tou z w h5 with q | q | q | q
              · exact h1 q
              · exact h2 q
              · exact h3 q
              · exact h4 q
            · rw [ey] at h6
              cases h6
            · rw [hr.sym _ _ h5] at ey
              cases ey
        have b2 : Con x c r = bare := bare_of fun z => by
          by_cases h1 : z = x
          · rw [h1, con_l]
          · by_cases h2 : z = c
            · rw [h2, con_r]
            · rw [con_joint hr e h1 h2]
              cases h : r z with
              | none => rfl
              | some w =>
                exfalso
                rcases tou z w h with q | q | q | q
                · exact h1 q
                · rw [q, ey] at h
                  cases h
                · have := hr.sym _ _ h
                  rw [q, e] at this
                  exact h2 (Option.some.inj this).symm
                · have := hr.sym _ _ h
                  rw [q, ey] at this
                  cases this
        rw [D_con hs hr e, b1, b2, D_bare (con_mat hs xy), D_bare (con_mat hs xc)]
        have j1 := J_con hs xy hx hy
        have j2 := J_con hs xc hx hc
        by_cases q : s x = some c
        · rw [if_neg (by rw [q]; simp)] at j1 j2
          rw [if_pos q]
          omega
        · rw [if_neg q]
          split at j1 <;> split at j2 <;> omega
      cases ex : r x with
      | none =>
        cases ey : r y with
        | none =>
          have e : r = bare := bare_of fun z => by
            cases h : r z with
            | none => rfl
            | some w =>
              exfalso
              rcases tou z w h with q | q | q | q
              · rw [q, ex] at h
                cases h
              · rw [q, ey] at h
                cases h
              · have := hr.sym _ _ h
                rw [q, ex] at this
                cases this
              · have := hr.sym _ _ h
                rw [q, ey] at this
                cases this
          rw [e, con_bare, D_bare hs, D_bare (con_mat hs xy)]
          have := J_le hs xy hx hy
          omega
        | some d =>
          have h := one y x d xy.symm hy hx ey ex (fun q => by
            have := hr.sym _ _ ey
            rw [q, ex] at this
            cases this) fun u v e => by
            rcases tou u v e with q | q | q | q
            · exact .inr (.inl q)
            · exact .inl q
            · exact .inr (.inr (.inr q))
            · exact .inr (.inr (.inl q))
          rw [con_swap xy.symm (f := s), con_swap xy.symm (f := r)] at h
          exact h
      | some c =>
        have cy : c ≠ y := fun q => r1 (by rw [ex, q])
        have ec := hr.sym _ _ ex
        have hc := (hr.lt _ _ ex).2
        have xc : x ≠ c := fun q => hr.irr x (by rw [ex, ← q])
        cases ey : r y with
        | none => exact one x y c xy hx hy ex ey cy tou
        | some d =>
          have ed := hr.sym _ _ ey
          have hd := (hr.lt _ _ ey).2
          have yd : y ≠ d := fun q => hr.irr y (by rw [ey, ← q])
          have xd : x ≠ d := fun q => by
            rw [← q, ex] at ed
            exact cy (Option.some.inj ed)
          have cd : c ≠ d := fun q => by
            rw [q, ed] at ec
            exact xy (Option.some.inj ec).symm
          have bb : ∀ z, z ≠ x → z ≠ y → z ≠ c → z ≠ d → r z = none := fun z h1 h2 h3 h4 => by
            cases h : r z with
            | none => rfl
            | some w =>
              exfalso
              rcases tou z w h with q | q | q | q
              · exact h1 q
              · exact h2 q
              · have := hr.sym _ _ h
                rw [q, ex] at this
                exact h3 (Option.some.inj this).symm
              · have := hr.sym _ _ h
                rw [q, ey] at this
                exact h4 (Option.some.inj this).symm
          have k1 : Con x y r c = some d := by rw [con_x xc.symm cy ec, ey]
          have k2 : Con c d (Con x y r) = bare := bare_of fun z => by
            by_cases h3 : z = c
            · rw [h3, con_l]
            · by_cases h4 : z = d
              · rw [h4, con_r]
              · rw [con_joint (con_mat hr xy) k1 h3 h4]
                by_cases h1 : z = x
                · rw [h1, con_l]
                · by_cases h2 : z = y
                  · rw [h2, con_r]
                  · have b := bb z h1 h2 h3 h4
                    rw [con_o h1 h2 (by rw [b]; simp) (by rw [b]; simp), b]
          have k3 : Con x c r y = some d := by rw [con_joint hr ex xy.symm cy.symm, ey]
          have k4 : Con y d (Con x c r) = bare := bare_of fun z => by
            by_cases h2 : z = y
            · rw [h2, con_l]
            · by_cases h4 : z = d
              · rw [h4, con_r]
              · rw [con_joint (con_mat hr xc) k3 h2 h4]
                by_cases h1 : z = x
                · rw [h1, con_l]
                · by_cases h3 : z = c
                  · rw [h3, con_r]
                  · rw [con_joint hr ex h1 h3]
                    exact bb z h1 h2 h3 h4
          rw [D_con hs hr ex, D_con (con_mat hs xc) (con_mat hr xc) k3, k4, D_con (con_mat hs xy) (con_mat hr xy) k1, k2, D_bare (con_mat (con_mat hs xy) cd), D_bare (con_mat (con_mat hs xc) yd)]
          exact four hs hx hy hc hd xy xc xd cy.symm yd cd s1
  exact go _ r hr (Nat.le_refl _) s hs
/-- a joint more or less on both -/
theorem D_key (hs : Mat n s) (hr : Mat n r) (hx : x < n) (hy : y < n) (xy : x ≠ y) : (if s x = some y then 0 else 2) + D n (Con x y s) (Con x y r) ≤ D n s r + (if r x = some y then 0 else 2) := by
  have w := D_le hs hr hx hy xy
  by_cases r1 : r x = some y
  · rw [D_con hs hr r1, if_pos r1]
    omega
  · rw [if_neg r1]
    split <;> omega
theorem D_tri0 (hs : Mat n s) (hr : Mat n r) : (J n s : Int) ≤ D n s r + (J n r : Nat) := by
  refine mat_rec (n := n) (P := fun r => ∀ s, Mat n s → (J n s : Int) ≤ D n s r + (J n r : Nat)) (fun s hs => by rw [D_bare hs, J_bare]; omega) (fun r x y M e nxy ih s hs => ?_) hr s hs
  have h := ih _ (con_mat hs nxy)
  have j := J_joint M e
  have j2 := J_le hs nxy (M.lt _ _ e).1 (M.lt _ _ e).2
  rw [D_con hs M e]
  split <;> omega
theorem D_tri (hs : Mat n s) (hr : Mat n r) (ht : Mat n t) : D n s t ≤ D n s r + D n r t := by
  refine mat_rec (n := n) (P := fun t => ∀ s r, Mat n s → Mat n r → D n s t ≤ D n s r + D n r t) (fun s r hs hr => ?_) (fun t x y M e nxy ih s r hs hr => ?_) ht s r hs hr
  · rw [D_bare hs, D_bare hr]
    exact D_tri0 hs hr
  · have h := ih _ _ (con_mat hs nxy) (con_mat hr nxy)
    have k := D_key hs hr (M.lt _ _ e).1 (M.lt _ _ e).2 nxy
    rw [D_con hs M e, D_con hr M e]
    omega
/-! single steps -/
/-- how many ends have the same mate in both -/
def Qm (n : Nat) (s r : Nat → Option Nat) : Nat := (List.range n).countP fun z => decide (s z = r z) && (s z).isSome
theorem cnt_le1 {p q : Nat → Bool} {u : Nat} : ∀ {l : List Nat}, l.Nodup → (∀ z ∈ l, z ≠ u → p z = true → q z = true) → l.countP p ≤ l.countP q + 1
  | [], _, _ => by simp
  | a :: l, nd, h => by
    rw [List.nodup_cons] at nd
    rw [List.countP_cons, List.countP_cons]
    by_cases e : a = u
    · have : l.countP p ≤ l.countP q := List.countP_mono_left fun z hz hp => h z (List.mem_cons_of_mem _ hz) (fun w => nd.1 (by rw [e, ← w]; exact hz)) hp
      split <;> split <;> omega
    · have ih := cnt_le1 (p := p) (q := q) (u := u) nd.2 fun z hz => h z (List.mem_cons_of_mem _ hz)
      have ha := h a List.mem_cons_self e
      by_cases hp : p a = true
      · rw [if_pos hp, if_pos (ha hp)]
        omega
      · rw [if_neg hp]
        omega
theorem cnt_le2 {p q : Nat → Bool} {u v : Nat} {l : List Nat} (nd : l.Nodup) (h : ∀ z ∈ l, z ≠ u → z ≠ v → p z = true → q z = true) : l.countP p ≤ l.countP q + 2 := by
  have h1 := cnt_le1 (p := p) (q := fun z => if z = v then p z else q z) (u := u) nd fun z hz hu hp => by
    by_cases e : z = v
    · simp only [if_pos e]
      exact hp
    · simp only [if_neg e]
      exact h z hz hu e hp
  have h2 := cnt_le1 (p := fun z => if z = v then p z else q z) (q := q) (u := v) nd fun z hz hv hp => by
    simpa only [if_neg hv] using hp
  omega
theorem D_single (hs : Mat n s) (hr : Mat n r) : D n s r + 2 * (Qm n s r : Nat) ≤ (J n s : Nat) + (J n r : Nat) ∧ ((J n s : Nat) : Int) + (J n r : Nat) ≤ 4 * D n s r + 2 * (Qm n s r : Nat) := by
  refine mat_rec (n := n) (P := fun r => ∀ s, Mat n s → D n s r + 2 * (Qm n s r : Nat) ≤ (J n s : Nat) + (J n r : Nat) ∧ ((J n s : Nat) : Int) + (J n r : Nat) ≤ 4 * D n s r + 2 * (Qm n s r : Nat)) (fun s hs => ?_) (fun r x y M e xy ih s hs => ?_) hr s hs
  · have q : Qm n s bare = 0 := by
      unfold Qm
      rw [List.countP_eq_zero]
      intro z _
      cases s z <;> simp
    rw [D_bare hs, J_bare, q]
    omega
  · obtain ⟨h1, h2⟩ := ih _ (con_mat hs xy)
    have hx := (M.lt _ _ e).1
    have hy := (M.lt _ _ e).2
    have j := J_joint M e
    have j2 := J_con hs xy hx hy
    have eyx := M.sym _ _ e
    have nd := List.nodup_range (n := n)
    by_cases q : s x = some y
    · have qyx := hs.sym _ _ q
      rw [D_con hs M e, if_pos q]
      rw [if_neg (by rw [q]; simp)] at j2
      have c : Qm n s r = Qm n (Con x y s) (Con x y r) + 2 := by
        refine cnt_two nd (List.mem_range.mpr hx) (List.mem_range.mpr hy) xy (fun z _ h1 h2 => ?_) (by simp [q, e]) (by simp [qyx, eyx]) (by simp [con_l]) (by simp [con_r])
        rw [con_joint hs q h1 h2, con_joint M e h1 h2]
      omega
    · rw [D_con hs M e, if_neg q]
      have up : Qm n s r ≤ Qm n (Con x y s) (Con x y r) := by
        refine List.countP_mono_left fun z _ hz => ?_
        simp only [Bool.and_eq_true, decide_eq_true_eq, Option.isSome_iff_exists] at hz
        obtain ⟨hz1, w, hz2⟩ := hz
        have rz : r z = some w := by rw [← hz1, hz2]
        have z1 : z ≠ x := fun p => q (by rw [← p, hz1, p, e])
        have z2 : z ≠ y := fun p => by
          rw [p, eyx] at rz
          rw [p, ← Option.some.inj rz] at hz2
          exact q (hs.sym _ _ hz2)
        have w1 : w ≠ x := fun p => by
          have := M.sym _ _ rz
          rw [p, e] at this
          exact z2 (Option.some.inj this).symm
        have w2 : w ≠ y := fun p => by
          have := M.sym _ _ rz
          rw [p, eyx] at this
          exact z1 (Option.some.inj this).symm
        rw [con_keep hz2 z1 z2 w1 w2, con_keep rz z1 z2 w1 w2]
        simp
      have only : ∀ u v : Nat, (∀ w, s x = some w → w = u) → (∀ w, s y = some w → w = v) → Qm n (Con x y s) (Con x y r) ≤ Qm n s r + 2 := fun u v hu hv => by
        refine cnt_le2 (u := u) (v := v) nd fun z _ h1 h2 hz => ?_
        simp only [Bool.and_eq_true, decide_eq_true_eq, Option.isSome_iff_exists] at hz
        obtain ⟨hz1, w, hz2⟩ := hz
        obtain ⟨z1, z2, _⟩ := con_some hs xy hz2
        have n1 : s z ≠ some x := fun p => h1 (hu z (hs.sym _ _ p))
        have n2 : s z ≠ some y := fun p => h2 (hv z (hs.sym _ _ p))
        rw [con_o z1 z2 n1 n2, con_joint M e z1 z2] at hz1
        rw [con_o z1 z2 n1 n2] at hz2
        rw [← hz1, hz2]
        simp
      have same : s x = none → s y = none → Qm n (Con x y s) (Con x y r) ≤ Qm n s r := fun ex ey => by
        refine List.countP_mono_left fun z _ hz => ?_
        simp only [Bool.and_eq_true, decide_eq_true_eq, Option.isSome_iff_exists] at hz
        obtain ⟨hz1, w, hz2⟩ := hz
        obtain ⟨z1, z2, _⟩ := con_some hs xy hz2
        have n1 : s z ≠ some x := fun p => by
          rw [hs.sym _ _ p] at ex
          cases ex
        have n2 : s z ≠ some y := fun p => by
          rw [hs.sym _ _ p] at ey
          cases ey
        rw [con_o z1 z2 n1 n2, con_joint M e z1 z2] at hz1
        rw [con_o z1 z2 n1 n2] at hz2
        rw [← hz1, hz2]
        simp
      have dn : Qm n (Con x y s) (Con x y r) ≤ Qm n s r + 2 := only ((s x).getD 0) ((s y).getD 0) (fun w h => by rw [h]; rfl) (fun w h => by rw [h]; rfl)
      by_cases b : s x = none ∧ s y = none
      · rw [if_pos b] at j2
        have := same b.1 b.2
        omega
      · rw [if_neg b] at j2
        omega
end
end Dc
/-! Plain law, part Q4: the cost as the program and the law reckon it. -/
namespace Dc
open PySem PySem.Spec PyProof.Rows L2
/-! the order of pieces -/
def rk : Kd → Nat
  | .odd => 0
  | .opn => 1
  | .ring => 2
  | .shut => 3
theorem rk_inj (a b : Kd) (h : rk a = rk b) : a = b := by
  revert h
  cases a <;> cases b <;> decide
theorem leP_eq : PySem.W.dataLe false eP = fun p q => decide (rk p.1 < rk q.1 ∨ (rk p.1 = rk q.1 ∧ p.2 ≤ q.2)) := by
  funext p q
  obtain ⟨a, n⟩ := p
  obtain ⟨b, m⟩ := q
  show (!PySem.W.dataLt (.tuple [.str (kdS b), .int (m : Nat)]) (.tuple [.str (kdS a), .int (n : Nat)])) = _
  rw [PySem.W.dataLt_pair (by simp [PySem.W.alike]) (by simp [PySem.W.alike]), PySem.W.dataLt_int, PySem.W.dataLt_str]
  have es : PyData.eqv (.str (kdS b)) (.str (kdS a)) = decide (rk b = rk a) := by
    cases a <;> cases b <;> decide
  have el : decide ((kdS b).cps.toList < (kdS a).cps.toList) = decide (rk b < rk a) := by
    cases a <;> cases b <;> decide
  have ei : PyData.eqv (.int (m : Nat)) (.int (n : Nat)) = decide (((m : Nat) : Int) = (n : Nat)) := eqv_int _ _
  rw [es, el, ei]
  show (!(if decide (rk b = rk a) = true then (if decide (((m : Nat) : Int) = (n : Nat)) = true then false else decide (((m : Nat) : Int) < (n : Nat))) else decide (rk b < rk a))) = decide (rk a < rk b ∨ (rk a = rk b ∧ n ≤ m))
  by_cases h1 : rk b = rk a
  · simp only [decide_eq_true h1, if_true]
    by_cases h2 : ((m : Nat) : Int) = (n : Nat)
    · simp only [decide_eq_true h2, if_true, Bool.not_false]
      exact (decide_eq_true (by omega)).symm
    · simp only [decide_eq_false h2]
      by_cases h3 : ((m : Nat) : Int) < (n : Nat)
      · rw [decide_eq_true h3]
        exact (decide_eq_false (by omega)).symm
      · rw [decide_eq_false h3]
        exact (decide_eq_true (by omega)).symm
  · simp only [decide_eq_false h1]
    by_cases h3 : rk b < rk a
    · simp [decide_eq_true h3]
      omega
    · simp [decide_eq_false h3]
      omega
theorem sortP_congr {a b : List (Kd × Nat)} (p : a.Perm b) : sortP a = sortP b := by
  have up : ∀ l, (sortP l).Pairwise fun p q => PySem.W.dataLe false eP p q = true := fun l => List.pairwise_mergeSort (fun a b c h1 h2 => by
      rw [leP_eq] at *
      simp only [decide_eq_true_eq] at *
      omega) (fun a b => by
      rw [leP_eq]
      simp only [Bool.or_eq_true, decide_eq_true_eq]
      omega) l
  refine List.Perm.eq_of_pairwise (le := fun p q => PySem.W.dataLe false eP p q = true) (fun p q _ _ h1 h2 => ?_) (up a) (up b) ((sortP_perm a).trans (p.trans (sortP_perm b).symm))
  rw [leP_eq] at h1 h2
  simp only [decide_eq_true_eq] at h1 h2
  exact Prod.ext (rk_inj _ _ (by omega)) (by omega)
section
variable {L : Nat} {j1 j2 j3 : List Jt} {n : Nat} {m0 m1 : Nat → Option Nat}
theorem rows_heaps (h0 : Mat n m0) (h1 : Mat n m1) {rs : List (List Nat)} (R : RowsOk n m0 m1 rs) : HeapsOk n m0 m1 rs :=
  ⟨R.nd, fun r hr => (R.each r hr).blk h0 h1, fun z => ⟨R.lt z, R.all z⟩⟩
theorem same_pcs (h1 : Lay L j1) (h2 : Lay L j2) : pcsH L j1 j2 = pcs L j1 j2 :=
  sortP_congr (heaps_rows h1.mat h2.mat (heapsS_ok h1 h2) (rowsS_ok h1 h2)).1
theorem pcs_of (h1 : Lay L j1) (h2 : Lay L j2) {hs : List (List Nat)} (H : HeapsOk (2 * L) (mt j1) (mt j2) hs) : sortP (hs.map (pcH (mt j1) (mt j2))) = pcs L j1 j2 :=
  sortP_congr (heaps_rows h1.mat h2.mat H (rowsS_ok h1 h2)).1
theorem sum2 {α : Type} (f g : α → Int) : ∀ l : List α, (∀ r ∈ l, 2 * f r = g r) → 2 * (l.map f).sum = (l.map g).sum
  | [], _ => rfl
  | a :: l, h => by
    have ih := sum2 f g l fun r hr => h r (List.mem_cons_of_mem _ hr)
    have ha := h a List.mem_cons_self
    rw [List.map_cons, List.map_cons, List.sum_cons, List.sum_cons]
    omega
theorem cst_vb (b : List Nat) : 2 * cst (pcH m0 m1 b) = vb m0 m1 b := by
  unfold cst vb pcH kdH
  by_cases h : lk m0 b = 0 ∧ lk m1 b = 0
  · simp only [if_pos h]
    show 2 * (((b.length : Nat) : Int) / 2 - (if Kd.ring = Kd.ring then 1 else 0)) = _
    rw [if_pos rfl]
    omega
  · simp only [if_neg h]
    have : ¬ ((if lk m0 b = 1 then Kd.odd else if lk m0 b = 2 then Kd.opn else Kd.shut) = Kd.ring) := by
      split
      · decide
      · split <;> decide
    show 2 * (((b.length : Nat) : Int) / 2 - (if (if lk m0 b = 1 then Kd.odd else if lk m0 b = 2 then Kd.opn else Kd.shut) = Kd.ring then 1 else 0)) = _
    rw [if_neg this]
    omega
theorem cost_D (h1 : Lay L j1) (h2 : Lay L j2) : 2 * cost L j1 j2 = D (2 * L) (mt j1) (mt j2) := by
  have R := rowsS_ok h1 h2
  rw [← D_of h1.mat h2.mat (rows_heaps h1.mat h2.mat R)]
  unfold cost pcs
  rw [perm_sumI ((sortP_perm _).map cst), List.map_map]
  refine sum2 _ _ _ fun r hr => ?_
  show 2 * cst (pcR (mt j1) (mt j2) r) = _
  rw [(row_kd h1.mat h2.mat (R.each r hr)).1]
  exact cst_vb r
theorem row_par {r : List Nat} (R : Row m0 m1 r) : (pcR m0 m1 r).1 = .odd ↔ r.length % 2 = 1 := by
  obtain ⟨t, b, k, a, c, hb, hk, ha, e⟩ := R.is
  unfold pcR
  rw [getD0 hb]
  show (if (m0 b).isSome = true ∧ (m1 b).isSome = true then Kd.ring else if r.length % 2 = 1 then .odd else if m0 b = none then .opn else .shut) = .odd ↔ _
  by_cases q : (m0 b).isSome = true ∧ (m1 b).isSome = true
  · rw [if_pos q]
    have : k % 2 = 1 := by
      rcases e with ⟨e1, _⟩ | ⟨e1, _⟩
      · exfalso
        unfold Mg at e1
        split at e1
        · rw [e1] at q
          exact absurd q.1 (by simp)
        · rw [e1] at q
          exact absurd q.2 (by simp)
      · exact e1
    constructor
    · intro h
      cases h
    · intro h
      omega
  · rw [if_neg q]
    by_cases p : r.length % 2 = 1
    · rw [if_pos p]
      exact ⟨fun _ => p, fun _ => rfl⟩
    · rw [if_neg p]
      constructor
      · intro h
        split at h <;> cases h
      · intro h
        exact absurd h p
theorem sum_kinds : ∀ ps : List (Kd × Nat), (∀ p ∈ ps, p.1 = .odd ↔ p.2 % 2 = 1) → 2 * (ps.map cst).sum + (((ps.map (·.1)).count .odd : Nat) : Int) + 2 * (((ps.map (·.1)).count .ring : Nat) : Int) = (((ps.map (·.2)).sum : Nat) : Int)
  | [], _ => rfl
  | p :: ps, h => by
    have ih := sum_kinds ps fun q hq => h q (List.mem_cons_of_mem _ hq)
    have hp := h p List.mem_cons_self
    obtain ⟨k, m⟩ := p
    simp only [List.map_cons, List.sum_cons, List.count_cons]
    have e : 2 * cst (k, m) + (if k = .odd then 1 else 0) + 2 * (if k = .ring then 1 else 0) = ((m : Nat) : Int) := by
      unfold cst
      have hp' : k = .odd ↔ m % 2 = 1 := hp
      show 2 * (((m : Nat) : Int) / 2 - (if k = .ring then 1 else 0)) + (if k = .odd then 1 else 0) + 2 * (if k = .ring then 1 else 0) = _
      by_cases q : m % 2 = 1
      · rw [if_pos (hp'.mpr q)]
        split <;> omega
      · rw [if_neg (fun w => q (hp'.mp w))]
        split <;> omega
    have e1 : (if (k == Kd.odd) = true then 1 else 0 : Nat) = (if k = .odd then 1 else 0 : Nat) := by cases k <;> rfl
    have e2 : (if (k == Kd.ring) = true then 1 else 0 : Nat) = (if k = .ring then 1 else 0 : Nat) := by cases k <;> rfl
    rw [e1, e2]
    cases k <;> simp at e ⊢ <;> omega
theorem flat_sum : ∀ rs : List (List Nat), (rs.map List.length).sum = rs.flatten.length
  | [] => rfl
  | r :: rs => by rw [List.map_cons, List.sum_cons, flat_sum rs, List.flatten_cons, List.length_append]
/-- links, less rings, less half the odd ones -/
theorem cost_kinds (h1 : Lay L j1) (h2 : Lay L j2) : 2 * cost L j1 j2 + ((((pcs L j1 j2).map (·.1)).count .odd : Nat) : Int) + 2 * ((((pcs L j1 j2).map (·.1)).count .ring : Nat) : Int) = 2 * ((L : Nat) : Int) := by
  have R := rowsS_ok h1 h2
  have hp : ∀ p ∈ pcs L j1 j2, p.1 = .odd ↔ p.2 % 2 = 1 := fun p hp => by
    have := (sortP_perm _).mem_iff.mp hp
    obtain ⟨r, hr, rfl⟩ := List.mem_map.mp this
    exact row_par (R.each r hr)
  have s := sum_kinds _ hp
  have e : ((pcs L j1 j2).map (·.2)).sum = 2 * L := by
    have e1 : ((pcs L j1 j2).map (·.2)).sum = (((rowsS L j1 j2).map (pcR (mt j1) (mt j2))).map (·.2)).sum := by
      unfold pcs
      exact List.Perm.sum_nat ((sortP_perm _).map _)
    rw [e1, List.map_map]
    have e2 : (rowsS L j1 j2).map ((·.2) ∘ pcR (mt j1) (mt j2)) = (rowsS L j1 j2).map List.length := List.map_congr_left fun r _ => rfl
    rw [e2, flat_sum]
    have p : (rowsS L j1 j2).flatten.Perm (List.range (2 * L)) := nodup_perm R.nd List.nodup_range fun z => by
      rw [List.mem_range]
      exact ⟨R.lt z, R.all z⟩
    rw [p.length_eq, List.length_range]
  unfold cost
  rw [e] at s
  omega
/-- a lay is what its mates are -/
theorem lay_ext (h1 : Lay L j1) (h2 : Lay L j2) (e : mt j1 = mt j2) : j1 = j2 := by
  have mem : ∀ {js : List Jt}, Lay L js → ∀ p : Jt, p ∈ js ↔ p.1 < p.2 ∧ mt js p.1 = some p.2 := fun {js} h p => by
    refine ⟨fun hp => ⟨(h.each p hp).1, (mt_at h.nd hp).1⟩, fun ⟨h3, h4⟩ => ?_⟩
    rcases mt_some h4 with q | q
    · exact q
    · have := (h.each _ q).1
      have h5 : p.2 < p.1 := this
      omega
  have nd : ∀ {js : List Jt}, Lay L js → js.Nodup := fun {js} h => h.asc.imp fun {a b} hab z => by
    rw [z] at hab
    exact Nat.lt_irrefl _ hab
  have sub : ∀ x ∈ j1, x ∈ j2 := fun p hp => (mem h2 p).mpr (e ▸ (mem h1 p).mp hp)
  have sub2 : ∀ x ∈ j2, x ∈ j1 := fun p hp => (mem h1 p).mpr (e ▸ (mem h2 p).mp hp)
  obtain ⟨c, p⟩ := sub_perm (nd h1) sub
  have hc : c = [] := by
    cases c with
    | nil => rfl
    | cons z c =>
      exfalso
      have n2 := p.nodup_iff.mp (nd h2)
      rw [List.nodup_append] at n2
      exact n2.2.2 z (sub2 z (p.mem_iff.mpr (by simp))) z (by simp) rfl
  rw [hc, List.append_nil] at p
  exact List.Perm.eq_of_pairwise (le := fun (p q : Jt) => p.1 < q.1) (fun a b _ _ h3 h4 => by omega) h1.asc h2.asc p.symm
theorem pts_dbl (js : List Jt) : (ptsJ js).length = 2 * js.length := by
  induction js with
  | nil => rfl
  | cons p js ih =>
    show (p.1 :: p.2 :: ptsJ js).length = _
    rw [List.length_cons, List.length_cons, ih, List.length_cons]
    omega
theorem pts_lt (h : Lay L j1) {z : Nat} (hz : z ∈ ptsJ j1) : z < 2 * L := by
  obtain ⟨p, hp, e⟩ := pts_mem.mp hz
  have := h.each p hp
  omega
theorem cnt_pts {js : List Jt} {p : Nat → Bool} (nd : (ptsJ js).Nodup) (h : ∀ z, z ∈ ptsJ js ↔ z < n ∧ p z = true) : (List.range n).countP p = 2 * js.length := by
  rw [List.countP_eq_length_filter, ← pts_dbl]
  refine (nodup_perm (List.Pairwise.filter _ List.nodup_range) nd fun z => ?_).length_eq
  rw [List.mem_filter, List.mem_range, h z]
theorem J_len (h : Lay L j1) : J (2 * L) (mt j1) = 2 * j1.length := by
  refine cnt_pts h.nd fun z => ⟨fun hz => ⟨pts_lt h hz, ?_⟩, fun ⟨_, hz⟩ => ?_⟩
  · obtain ⟨p, hp, e⟩ := pts_mem.mp hz
    have := mt_at h.nd hp
    rcases e with e | e
    · rw [e, this.1]
      rfl
    · rw [e, this.2]
      rfl
  · exact Classical.byContradiction fun q => by
      rw [mt_out q] at hz
      cases hz
theorem pts_sub (f : Jt → Bool) : ∀ js : List Jt, (ptsJ (js.filter f)).Sublist (ptsJ js)
  | [] => List.Sublist.refl _
  | p :: js => by
    have ih := pts_sub f js
    by_cases h : f p = true
    · rw [List.filter_cons_of_pos h]
      exact (ih.cons₂ _).cons₂ _
    · rw [List.filter_cons_of_neg h]
      exact (ih.cons _).cons _
theorem Q_len (h1 : Lay L j1) (h2 : Lay L j2) : Qm (2 * L) (mt j1) (mt j2) = 2 * (j1.filter fun p => decide (p ∈ j2)).length := by
  have nd : (ptsJ (j1.filter fun p => decide (p ∈ j2))).Nodup := by
    exact (pts_sub _ j1).nodup h1.nd
  refine cnt_pts nd fun z => ⟨fun hz => ?_, fun ⟨_, hz⟩ => ?_⟩
  · obtain ⟨p, hp, e⟩ := pts_mem.mp hz
    obtain ⟨q1, q2⟩ := List.mem_filter.mp hp
    have a := mt_at h1.nd q1
    have b := mt_at h2.nd (of_decide_eq_true q2)
    refine ⟨pts_lt h1 (pts_mem.mpr ⟨p, q1, e⟩), ?_⟩
    rcases e with e | e
    · rw [e, a.1, b.1]
      simp
    · rw [e, a.2, b.2]
      simp
  · simp only [Bool.and_eq_true, decide_eq_true_eq, Option.isSome_iff_exists] at hz
    obtain ⟨e, w, hw⟩ := hz
    have hw2 : mt j2 z = some w := by rw [← e, hw]
    rcases mt_some hw with a | a <;> rcases mt_some hw2 with b | b
    · exact pts_mem.mpr ⟨_, List.mem_filter.mpr ⟨a, decide_eq_true b⟩, .inl rfl⟩
    · have c : z < w := (h1.each _ a).1
      have d : w < z := (h2.each _ b).1
      omega
    · have c : w < z := (h1.each _ a).1
      have d : z < w := (h2.each _ b).1
      omega
    · exact pts_mem.mpr ⟨_, List.mem_filter.mpr ⟨a, decide_eq_true b⟩, .inr rfl⟩
theorem cost_symm (h1 : Lay L j1) (h2 : Lay L j2) : cost L j1 j2 = cost L j2 j1 := by
  have a := cost_D h1 h2
  have b := cost_D h2 h1
  rw [D_symm h2.mat h1.mat] at b
  omega
theorem cost_zero (h1 : Lay L j1) (h2 : Lay L j2) : cost L j1 j2 = 0 ↔ j1 = j2 := by
  have a := cost_D h1 h2
  refine ⟨fun h => lay_ext h1 h2 (D_zero h1.mat h2.mat (by omega)), fun h => ?_⟩
  subst h
  rw [D_self h1.mat] at a
  omega
theorem cost_pos (h1 : Lay L j1) (h2 : Lay L j2) : 0 ≤ cost L j1 j2 := by
  have a := cost_D h1 h2
  have := D_pos h1.mat h2.mat
  omega
theorem cost_le (h1 : Lay L j1) (h2 : Lay L j2) : cost L j1 j2 ≤ (L : Nat) := by
  have := cost_kinds h1 h2
  omega
theorem cost_tri (h1 : Lay L j1) (h2 : Lay L j2) (h3 : Lay L j3) : cost L j1 j2 ≤ cost L j1 j3 + cost L j3 j2 := by
  have a := cost_D h1 h2
  have b := cost_D h1 h3
  have c := cost_D h3 h2
  have := D_tri h1.mat h3.mat h2.mat
  omega
theorem cost_H (h1 : Lay L j1) (h2 : Lay L j2) : costH L j1 j2 = cost L j1 j2 := by
  unfold costH
  rw [same_pcs h1 h2]
  have := cost_kinds h1 h2
  omega
theorem cost_knd (h1 : Lay L j1) (h2 : Lay L j2) : (L : Int) - (knd L j1 j2).getD 0 0 - (knd L j1 j2).getD 1 0 / 2 = cost L j1 j2 := by
  have := cost_kinds h1 h2
  show (L : Int) - ((((pcs L j1 j2).map (·.1)).count .ring : Nat) : Int) - ((((pcs L j1 j2).map (·.1)).count .odd : Nat) : Int) / 2 = _
  omega
theorem cost_sgl (h1 : Lay L j1) (h2 : Lay L j2) : cost L j1 j2 ≤ sgl j1 j2 ∧ sgl j1 j2 ≤ 4 * cost L j1 j2 := by
  obtain ⟨a, b⟩ := D_single h1.mat h2.mat
  rw [← cost_D h1 h2, J_len h1, J_len h2, Q_len h1 h2] at a b
  unfold sgl
  omega
end
end Dc
/-! Plain law, part Q5: lays renamed, beside one another, without a link. -/
namespace Dc
open PySem PySem.Spec PyProof.Rows L2
section
variable {n N : Nat} {m0 m1 k0 k1 : Nat → Option Nat} {φ : Nat → Nat}
theorem blk_map {b : List Nat} (B : Blk k0 k1 b) (h0 : ∀ z ∈ b, m0 (φ z) = (k0 z).map φ) (h1 : ∀ z ∈ b, m1 (φ z) = (k1 z).map φ) : Blk m0 m1 (b.map φ) := by
  have step : ∀ (m k : Nat → Option Nat), (∀ z ∈ b, m (φ z) = (k z).map φ) → (∀ z w, z ∈ b → k z = some w → w ∈ b) → ∀ z w, z ∈ b.map φ → m z = some w → w ∈ b.map φ := fun m k h cl z w hz hw => by
    obtain ⟨u, hu, rfl⟩ := List.mem_map.mp hz
    rw [h u hu] at hw
    obtain ⟨v, hv, rfl⟩ := Option.map_eq_some_iff.mp hw
    exact List.mem_map.mpr ⟨v, cl u v hu hv, rfl⟩
  refine ⟨fun e => B.ne (List.map_eq_nil_iff.mp e), cl_of (step m0 k0 h0 fun z w hz hw => B.cl.one hz (.inl hw)) (step m1 k1 h1 fun z w hz hw => B.cl.one hz (.inr hw)), fun S cs x hx hS y hy => ?_⟩
  obtain ⟨u, hu, rfl⟩ := List.mem_map.mp hx
  obtain ⟨v, hv, rfl⟩ := List.mem_map.mp hy
  refine (B.cn (fun z => z ∈ b ∧ S (φ z)) (cl_of (fun z w hz hw => ⟨B.cl.one hz.1 (.inl hw), cs.one hz.2 (.inl (by rw [h0 z hz.1, hw]; rfl))⟩) (fun z w hz hw => ⟨B.cl.one hz.1 (.inr hw), cs.one hz.2 (.inr (by rw [h1 z hz.1, hw]; rfl))⟩)) u hu ⟨hu, hS⟩ v hv).2
theorem lk_map {b : List Nat} (h0 : ∀ z ∈ b, m0 (φ z) = (k0 z).map φ) : lk m0 (b.map φ) = lk k0 b := by
  unfold lk
  rw [List.countP_map]
  refine List.countP_congr fun z hz => ?_
  show (m0 (φ z)).isNone = true ↔ (k0 z).isNone = true
  rw [h0 z hz]
  cases k0 z <;> simp
theorem pcH_map {b : List Nat} (h0 : ∀ z ∈ b, m0 (φ z) = (k0 z).map φ) (h1 : ∀ z ∈ b, m1 (φ z) = (k1 z).map φ) : pcH m0 m1 (b.map φ) = pcH k0 k1 b := by
  unfold pcH kdH
  rw [lk_map h0, lk_map h1, List.length_map]
theorem vb_map {b : List Nat} (h0 : ∀ z ∈ b, m0 (φ z) = (k0 z).map φ) (h1 : ∀ z ∈ b, m1 (φ z) = (k1 z).map φ) : vb m0 m1 (b.map φ) = vb k0 k1 b := by
  unfold vb
  rw [lk_map h0, lk_map h1, List.length_map]
theorem flat_map (φ : Nat → Nat) : ∀ hs : List (List Nat), (hs.map (List.map φ)).flatten = hs.flatten.map φ
  | [] => rfl
  | h :: hs => by rw [List.map_cons, List.flatten_cons, flat_map φ hs, List.flatten_cons, List.map_append]
theorem nd_map {l : List Nat} (nd : l.Nodup) (inj : ∀ z w, z ∈ l → w ∈ l → φ z = φ w → z = w) : (l.map φ).Nodup := by
  induction l with
  | nil => exact List.nodup_nil
  | cons a l ih =>
    rw [List.nodup_cons] at nd
    rw [List.map_cons, List.nodup_cons]
    refine ⟨fun h => ?_, ih nd.2 fun z w hz hw => inj z w (List.mem_cons_of_mem _ hz) (List.mem_cons_of_mem _ hw)⟩
    obtain ⟨b, hb, e⟩ := List.mem_map.mp h
    have := inj b a (List.mem_cons_of_mem _ hb) List.mem_cons_self e
    exact nd.1 (this ▸ hb)
theorem opt_ext {α : Type} {a b : Option α} (h : ∀ w, a = some w ↔ b = some w) : a = b := by
  cases a with
  | none =>
    cases b with
    | none => rfl
    | some w => exact absurd ((h w).mpr rfl) (by simp)
  | some w => exact ((h w).mp rfl).symm
theorem mt_map {js js' : List Jt} (nd : (ptsJ js').Nodup) (z : Nat) (h : ∀ w, ((φ z, w) ∈ js' ∨ (w, φ z) ∈ js') ↔ ∃ v, mt js z = some v ∧ φ v = w) : mt js' (φ z) = (mt js z).map φ :=
  opt_ext fun w => by rw [mt_iff nd, h w, Option.map_eq_some_iff]
theorem pts_perm {js js' : List Jt} (p : js.Perm js') : (ptsJ js).Perm (ptsJ js') := p.flatMap_right _
theorem srt_mem {js : List Jt} {p : Jt} : p ∈ sortJ js ↔ p ∈ js := (sortJ_perm js).mem_iff
theorem srt_nd {js : List Jt} (h : (ptsJ js).Nodup) : (ptsJ (sortJ js)).Nodup := (pts_perm (sortJ_perm js)).nodup_iff.mpr h
/-! renamed -/
theorem rn_lt {L : Nat} {os : List Int} (h : IsOrd L os) {z : Nat} (hz : z < 2 * L) : rn os z < 2 * L := by
  have hi : z / 2 < os.length := by rw [h.len]; omega
  have e : os.getD (z / 2) 0 = os[z / 2] := by simp [List.getD_eq_getElem?_getD, hi]
  have ho := h.each _ (List.getElem_mem hi)
  unfold rn
  rw [e]
  generalize os[z / 2] = o at ho
  show (if (z % 2 = 0 ↔ 0 < o) then 2 * (o.natAbs - 1) else 2 * (o.natAbs - 1) + 1) < 2 * L
  split <;> omega
theorem rn_inj {L : Nat} {os : List Int} (h : IsOrd L os) {z w : Nat} (hz : z < 2 * L) (hw : w < 2 * L) (e : rn os z = rn os w) : z = w := by
  have hi : z / 2 < os.length := by rw [h.len]; omega
  have hj : w / 2 < os.length := by rw [h.len]; omega
  have e1 : os.getD (z / 2) 0 = os[z / 2] := by simp [List.getD_eq_getElem?_getD, hi]
  have e2 : os.getD (w / 2) 0 = os[w / 2] := by simp [List.getD_eq_getElem?_getD, hj]
  have h1 := h.each _ (List.getElem_mem hi)
  have h2 := h.each _ (List.getElem_mem hj)
  unfold rn at e
  rw [e1, e2] at e
  have half : z / 2 = w / 2 := by
    have en : os[z / 2].natAbs = os[w / 2].natAbs := by
      generalize os[z / 2] = o at *
      generalize os[w / 2] = o2 at *
      have e' : (if (z % 2 = 0 ↔ 0 < o) then 2 * (o.natAbs - 1) else 2 * (o.natAbs - 1) + 1) = (if (w % 2 = 0 ↔ 0 < o2) then 2 * (o2.natAbs - 1) else 2 * (o2.natAbs - 1) + 1) := e
      split at e' <;> split at e' <;> omega
    have a1 : (os.map Int.natAbs)[z / 2]? = some os[z / 2].natAbs := by rw [List.getElem?_map, List.getElem?_eq_getElem hi]; rfl
    have a2 : (os.map Int.natAbs)[w / 2]? = some os[z / 2].natAbs := by rw [List.getElem?_map, List.getElem?_eq_getElem hj, en]; rfl
    exact nd_at h.nd a1 a2
  have eo : os[z / 2] = os[w / 2] := by simp only [half]
  rw [eo] at e
  generalize os[w / 2] = o at *
  have e' : (if (z % 2 = 0 ↔ 0 < o) then 2 * (o.natAbs - 1) else 2 * (o.natAbs - 1) + 1) = (if (w % 2 = 0 ↔ 0 < o) then 2 * (o.natAbs - 1) else 2 * (o.natAbs - 1) + 1) := e
  split at e' <;> split at e' <;> omega
theorem jo_or (a b : Nat) : jo a b = (a, b) ∨ jo a b = (b, a) := by
  unfold jo
  split
  · exact .inl rfl
  · exact .inr rfl
theorem pts_ren (φ : Nat → Nat) : ∀ js : List Jt, (ptsJ (js.map fun p => jo (φ p.1) (φ p.2))).Perm ((ptsJ js).map φ)
  | [] => .nil
  | p :: js => by
    have ih := pts_ren φ js
    show ((jo (φ p.1) (φ p.2)).1 :: (jo (φ p.1) (φ p.2)).2 :: ptsJ (js.map fun p => jo (φ p.1) (φ p.2))).Perm (φ p.1 :: φ p.2 :: (ptsJ js).map φ)
    rcases jo_or (φ p.1) (φ p.2) with e | e
    · rw [e]
      exact (ih.cons _).cons _
    · rw [e]
      exact ((ih.cons _).cons _).trans (.swap _ _ _)
theorem pts_at {L : Nat} {js : List Jt} (h : Lay L js) {z : Nat} (hz : z ∈ ptsJ js) : z < 2 * L := pts_lt h hz
theorem ren_nd {L : Nat} {js : List Jt} {os : List Int} (h : Lay L js) (ho : IsOrd L os) : (ptsJ (ren os js)).Nodup :=
  (pts_ren (rn os) js).nodup_iff.mpr (nd_map h.nd fun z w hz hw e => rn_inj ho (pts_at h hz) (pts_at h hw) e)
theorem ren_lay {L : Nat} {js : List Jt} {os : List Int} (h : Lay L js) (ho : IsOrd L os) : Lay L (sortJ (ren os js)) := by
  refine mk_lay h.pos h.le (fun p hp => ?_) (ren_nd h ho)
  obtain ⟨q, hq, rfl⟩ := List.mem_map.mp hp
  have hb := h.each q hq
  have l1 := rn_lt ho (z := q.1) (by omega)
  have l2 := rn_lt ho hb.2
  have ne : rn os q.1 ≠ rn os q.2 := fun e => by
    have := rn_inj ho (by omega) hb.2 e
    omega
  refine ⟨jo_lt ne, ?_⟩
  rcases jo_or (rn os q.1) (rn os q.2) with e | e <;> rw [e] <;> assumption
theorem ren_mt {L : Nat} {js : List Jt} {os : List Int} (h : Lay L js) (ho : IsOrd L os) {z : Nat} (hz : z < 2 * L) : mt (sortJ (ren os js)) (rn os z) = (mt js z).map (rn os) := by
  refine mt_map (srt_nd (ren_nd h ho)) z fun w => ?_
  rw [srt_mem, srt_mem]
  constructor
  · intro hh
    have key : ∃ p ∈ js, (rn os z = rn os p.1 ∧ w = rn os p.2) ∨ (rn os z = rn os p.2 ∧ w = rn os p.1) := by
      rcases hh with hh | hh
      · obtain ⟨p, hp, e⟩ := List.mem_map.mp hh
        refine ⟨p, hp, ?_⟩
        have e' : jo (rn os p.1) (rn os p.2) = (rn os z, w) := e
        rcases jo_or (rn os p.1) (rn os p.2) with q | q
        · rw [q] at e'
          simp only [Prod.mk.injEq] at e'
          exact .inl ⟨e'.1.symm, e'.2.symm⟩
        · rw [q] at e'
          simp only [Prod.mk.injEq] at e'
          exact .inr ⟨e'.1.symm, e'.2.symm⟩
      · obtain ⟨p, hp, e⟩ := List.mem_map.mp hh
        refine ⟨p, hp, ?_⟩
        have e' : jo (rn os p.1) (rn os p.2) = (w, rn os z) := e
        rcases jo_or (rn os p.1) (rn os p.2) with q | q
        · rw [q] at e'
          simp only [Prod.mk.injEq] at e'
          exact .inr ⟨e'.2.symm, e'.1.symm⟩
        · rw [q] at e'
          simp only [Prod.mk.injEq] at e'
          exact .inl ⟨e'.2.symm, e'.1.symm⟩
    obtain ⟨p, hp, e⟩ := key
    have hb := h.each p hp
    have m := mt_at h.nd hp
    rcases e with ⟨e1, e2⟩ | ⟨e1, e2⟩
    · have := rn_inj ho hz (by omega) e1
      exact ⟨p.2, by rw [this, m.1], e2.symm⟩
    · have := rn_inj ho hz hb.2 e1
      exact ⟨p.1, by rw [this, m.2], e2.symm⟩
  · rintro ⟨v, hv, rfl⟩
    rcases mt_some hv with q | q
    · have hm : jo (rn os z) (rn os v) ∈ ren os js := List.mem_map.mpr ⟨_, q, rfl⟩
      rcases jo_or (rn os z) (rn os v) with e | e
      · rw [e] at hm
        exact .inl hm
      · rw [e] at hm
        exact .inr hm
    · have hm : jo (rn os v) (rn os z) ∈ ren os js := List.mem_map.mpr ⟨_, q, rfl⟩
      rcases jo_or (rn os v) (rn os z) with e | e
      · rw [e] at hm
        exact .inr hm
      · rw [e] at hm
        exact .inl hm
theorem ren_pcs {L : Nat} {j1 j2 : List Jt} {os : List Int} (h1 : Lay L j1) (h2 : Lay L j2) (ho : IsOrd L os) : pcs L (sortJ (ren os j1)) (sortJ (ren os j2)) = pcs L j1 j2 := by
  have H := rows_heaps h1.mat h2.mat (rowsS_ok h1 h2)
  have hlt : ∀ h ∈ rowsS L j1 j2, ∀ z ∈ h, z < 2 * L := fun h hh z hz => (H.all z).mp (List.mem_flatten.mpr ⟨h, hh, hz⟩)
  have inj : ∀ z w, z ∈ (rowsS L j1 j2).flatten → w ∈ (rowsS L j1 j2).flatten → rn os z = rn os w → z = w := fun z w hz hw e => rn_inj ho ((H.all z).mp hz) ((H.all w).mp hw) e
  have nd := nd_map H.nd inj
  have pr : ((rowsS L j1 j2).flatten.map (rn os)).Perm (List.range (2 * L)) := by
    refine perm_of_sub nd (fun x hx => ?_) ?_
    · obtain ⟨z, hz, rfl⟩ := List.mem_map.mp hx
      exact List.mem_range.mpr (rn_lt ho ((H.all z).mp hz))
    · rw [List.length_map, List.length_range]
      have := (nodup_perm H.nd List.nodup_range (fun z => by rw [List.mem_range]; exact H.all z)).length_eq
      rw [List.length_range] at this
      exact this
  have H2 : HeapsOk (2 * L) (mt (sortJ (ren os j1))) (mt (sortJ (ren os j2))) ((rowsS L j1 j2).map (List.map (rn os))) := by
    refine ⟨by rw [flat_map]; exact nd, fun h hh => ?_, fun z => ?_⟩
    · obtain ⟨b, hb, rfl⟩ := List.mem_map.mp hh
      exact blk_map (H.each b hb) (fun z hz => ren_mt h1 ho (hlt b hb z hz)) (fun z hz => ren_mt h2 ho (hlt b hb z hz))
    · rw [flat_map, pr.mem_iff, List.mem_range]
  rw [← pcs_of (ren_lay h1 ho) (ren_lay h2 ho) H2, ← pcs_of h1 h2 H, List.map_map]
  refine congrArg sortP (List.map_congr_left fun b hb => ?_)
  exact pcH_map (fun z hz => ren_mt h1 ho (hlt b hb z hz)) (fun z hz => ren_mt h2 ho (hlt b hb z hz))
/-! beside -/
theorem pts_bes (L : Nat) (j1 j2 : List Jt) : ptsJ (bes L j1 j2) = ptsJ j1 ++ (ptsJ j2).map (· + 2 * L) := by
  unfold bes ptsJ
  rw [List.flatMap_append, List.flatMap_map, List.map_flatMap]
  rfl
theorem bes_nd {L M : Nat} {j1 j2 : List Jt} (h1 : Lay L j1) (h2 : Lay M j2) : (ptsJ (bes L j1 j2)).Nodup := by
  rw [pts_bes, List.nodup_append]
  refine ⟨h1.nd, nd_map h2.nd fun z w _ _ e => by omega, fun z hz w hw e => ?_⟩
  have := pts_at h1 hz
  obtain ⟨v, hv, rfl⟩ := List.mem_map.mp hw
  have e' : z = v + 2 * L := e
  omega
theorem bes_lay {L M : Nat} {j1 j2 : List Jt} (h1 : Lay L j1) (h2 : Lay M j2) (h12 : L + M ≤ 12) : Lay (L + M) (sortJ (bes L j1 j2)) := by
  have := h1.pos
  refine mk_lay (by omega) h12 (fun p hp => ?_) (bes_nd h1 h2)
  rcases List.mem_append.mp hp with hp | hp
  · have := h1.each p hp
    omega
  · obtain ⟨q, hq, rfl⟩ := List.mem_map.mp hp
    have := h2.each q hq
    show q.1 + 2 * L < q.2 + 2 * L ∧ q.2 + 2 * L < 2 * (L + M)
    omega
theorem bes_mt1 {L M : Nat} {j1 j2 : List Jt} (h1 : Lay L j1) (h2 : Lay M j2) {z : Nat} (hz : z < 2 * L) : mt (sortJ (bes L j1 j2)) (id z) = (mt j1 z).map id := by
  refine mt_map (srt_nd (bes_nd h1 h2)) z fun w => ?_
  rw [srt_mem, srt_mem]
  have far : ∀ p ∈ j2.map (fun p : Jt => (p.1 + 2 * L, p.2 + 2 * L)), 2 * L ≤ p.1 ∧ 2 * L ≤ p.2 := fun p hp => by
    obtain ⟨q, _, rfl⟩ := List.mem_map.mp hp
    exact ⟨Nat.le_add_left _ _, Nat.le_add_left _ _⟩
  constructor
  · intro hh
    refine ⟨w, (mt_iff h1.nd).mpr ?_, rfl⟩
    rcases hh with hh | hh
    · rcases List.mem_append.mp hh with q | q
      · exact .inl q
      · have := (far _ q).1
        have : 2 * L ≤ z := this
        omega
    · rcases List.mem_append.mp hh with q | q
      · exact .inr q
      · have := (far _ q).2
        have : 2 * L ≤ z := this
        omega
  · rintro ⟨v, hv, rfl⟩
    rcases mt_some hv with q | q
    · exact .inl (List.mem_append_left _ q)
    · exact .inr (List.mem_append_left _ q)
theorem bes_mt2 {L M : Nat} {j1 j2 : List Jt} (h1 : Lay L j1) (h2 : Lay M j2) (z : Nat) : mt (sortJ (bes L j1 j2)) (z + 2 * L) = (mt j2 z).map (· + 2 * L) := by
  refine mt_map (φ := (· + 2 * L)) (srt_nd (bes_nd h1 h2)) z fun w => ?_
  rw [srt_mem, srt_mem]
  constructor
  · intro hh
    rcases hh with hh | hh
    · rcases List.mem_append.mp hh with q | q
      · have := h1.each _ q
        have h3 : z + 2 * L < w ∧ w < 2 * L := this
        omega
      · obtain ⟨p, hp, e⟩ := List.mem_map.mp q
        simp only [Prod.mk.injEq] at e
        have ez : p.1 = z := by omega
        exact ⟨p.2, by rw [← ez]; exact (mt_at h2.nd hp).1, e.2⟩
    · rcases List.mem_append.mp hh with q | q
      · have := h1.each _ q
        have h3 : w < z + 2 * L ∧ z + 2 * L < 2 * L := this
        omega
      · obtain ⟨p, hp, e⟩ := List.mem_map.mp q
        simp only [Prod.mk.injEq] at e
        have ez : p.2 = z := by omega
        exact ⟨p.1, by rw [← ez]; exact (mt_at h2.nd hp).2, e.1⟩
  · rintro ⟨v, hv, rfl⟩
    rcases mt_some hv with q | q
    · exact .inl (List.mem_append_right _ (List.mem_map.mpr ⟨_, q, rfl⟩))
    · exact .inr (List.mem_append_right _ (List.mem_map.mpr ⟨_, q, rfl⟩))
theorem sum_app (a b : List Int) : (a ++ b).sum = a.sum + b.sum := by
  induction a with
  | nil => simp
  | cons x a ih =>
    rw [List.cons_append, List.sum_cons, List.sum_cons, ih]
    omega
theorem bes_cost {L M : Nat} {j1 j2 j3 j4 : List Jt} (h1 : Lay L j1) (h2 : Lay M j2) (h3 : Lay L j3) (h4 : Lay M j4) (h12 : L + M ≤ 12) : cost (L + M) (sortJ (bes L j1 j2)) (sortJ (bes L j3 j4)) = cost L j1 j3 + cost M j2 j4 := by
  have A := heapsF_ok id id_perm h1.mat h3.mat
  have B := heapsF_ok id id_perm h2.mat h4.mat
  have b1 := bes_lay h1 h2 h12
  have b2 := bes_lay h3 h4 h12
  have ltA : ∀ h ∈ heapsF id (2 * L) (mt j1) (mt j3), ∀ z ∈ h, z < 2 * L := fun h hh z hz => (A.all z).mp (List.mem_flatten.mpr ⟨h, hh, hz⟩)
  have e1 := cost_D h1 h3
  have e2 := cost_D h2 h4
  have e3 := cost_D b1 b2
  unfold D at e1 e2
  generalize heapsF id (2 * L) (mt j1) (mt j3) = as at *
  generalize heapsF id (2 * M) (mt j2) (mt j4) = bs at *
  have H : HeapsOk (2 * (L + M)) (mt (sortJ (bes L j1 j2))) (mt (sortJ (bes L j3 j4))) (as.map (List.map id) ++ bs.map (List.map (· + 2 * L))) := by
    refine ⟨?_, fun h hh => ?_, fun z => ?_⟩
    · rw [List.flatten_append, flat_map, flat_map, List.nodup_append]
      refine ⟨by rw [List.map_id]; exact A.nd, nd_map B.nd fun z w _ _ e => by omega, fun z hz w hw e => ?_⟩
      rw [List.map_id] at hz
      have := (A.all z).mp hz
      obtain ⟨v, hv, rfl⟩ := List.mem_map.mp hw
      have e' : z = v + 2 * L := e
      omega
    · rcases List.mem_append.mp hh with hh | hh
      · obtain ⟨b, hb, rfl⟩ := List.mem_map.mp hh
        exact blk_map (A.each b hb) (fun z hz => bes_mt1 h1 h2 (ltA b hb z hz)) (fun z hz => bes_mt1 h3 h4 (ltA b hb z hz))
      · obtain ⟨b, hb, rfl⟩ := List.mem_map.mp hh
        exact blk_map (B.each b hb) (fun z hz => bes_mt2 h1 h2 z) (fun z hz => bes_mt2 h3 h4 z)
    · rw [List.flatten_append, flat_map, flat_map, List.mem_append, List.map_id, A.all, List.mem_map]
      constructor
      · rintro (h | ⟨v, hv, rfl⟩)
        · omega
        · have := (B.all v).mp hv
          omega
      · intro h
        by_cases q : z < 2 * L
        · exact .inl q
        · exact .inr ⟨z - 2 * L, (B.all _).mpr (by omega), by omega⟩
  rw [← D_of b1.mat b2.mat H, List.map_append, sum_app, List.map_map, List.map_map] at e3
  have s1 : as.map (vb (mt (sortJ (bes L j1 j2))) (mt (sortJ (bes L j3 j4))) ∘ List.map id) = as.map (vb (mt j1) (mt j3)) := List.map_congr_left fun b hb => vb_map (fun z hz => bes_mt1 h1 h2 (ltA b hb z hz)) (fun z hz => bes_mt1 h3 h4 (ltA b hb z hz))
  have s2 : bs.map (vb (mt (sortJ (bes L j1 j2))) (mt (sortJ (bes L j3 j4))) ∘ List.map (· + 2 * L)) = bs.map (vb (mt j2) (mt j4)) := List.map_congr_left fun b hb => vb_map (fun z hz => bes_mt2 h1 h2 z) (fun z hz => bes_mt2 h3 h4 z)
  rw [s1, s2] at e3
  omega
end
end Dc
/-! Plain law, part Q6: a lay without a link; all facts. -/
namespace Dc
open PySem PySem.Spec PyProof.Rows L2
section
variable {L n : Nat} {js j1 j2 : List Jt}
theorem offL_iff {p : Jt} : offL n p = true ↔ (p.1 ≠ 2 * n ∧ p.1 ≠ 2 * n + 1) ∧ p.2 ≠ 2 * n ∧ p.2 ≠ 2 * n + 1 := by
  unfold offL
  simp only [Bool.and_eq_true, Bool.not_eq_true', decide_eq_false_iff_not, List.mem_cons, List.not_mem_nil, or_false]
  omega
theorem wk_mem (h : Lay L js) {p : Jt} : p ∈ wk js n ↔ (p ∈ js ∧ (p.1 ≠ 2 * n ∧ p.1 ≠ 2 * n + 1) ∧ p.2 ≠ 2 * n ∧ p.2 ≠ 2 * n + 1) ∨ ∃ a b, mt js (2 * n) = some a ∧ mt js (2 * n + 1) = some b ∧ a ≠ 2 * n + 1 ∧ p = jo a b := by
  unfold wk
  rw [List.mem_append, List.mem_filter, offL_iff]
  refine or_congr Iff.rfl ?_
  cases ea : mt js (2 * n) with
  | none => simp
  | some a =>
    cases eb : mt js (2 * n + 1) with
    | none => simp
    | some b =>
      have na : a ≠ 2 * n := fun q => mt_irr h _ (q ▸ ea)
      show p ∈ (if a = 2 * n ∨ a = 2 * n + 1 then [] else [jo a b]) ↔ _
      by_cases q : a = 2 * n ∨ a = 2 * n + 1
      · rw [if_pos q]
        have q' : a = 2 * n + 1 := q.resolve_left na
        constructor
        · intro w
          cases w
        · rintro ⟨a', b', e1, e2, e3, _⟩
          exact absurd (Option.some.inj e1 ▸ q') (by simpa using e3)
      · rw [if_neg q, List.mem_singleton]
        constructor
        · intro w
          exact ⟨a, b, rfl, rfl, fun z => q (.inr z), w⟩
        · rintro ⟨a', b', e1, e2, e3, e4⟩
          rw [e4, ← Option.some.inj e1, ← Option.some.inj e2]
theorem wk_off (h : Lay L js) {p : Jt} (hp : p ∈ wk js n) : p.1 < p.2 ∧ p.2 < 2 * L ∧ (p.1 ≠ 2 * n ∧ p.1 ≠ 2 * n + 1) ∧ p.2 ≠ 2 * n ∧ p.2 ≠ 2 * n + 1 := by
  rcases (wk_mem h).mp hp with ⟨h1, h2⟩ | ⟨a, b, ea, eb, na, rfl⟩
  · have := h.each p h1
    exact ⟨this.1, this.2, h2⟩
  · have a0 : a ≠ 2 * n := fun q => mt_irr h _ (q ▸ ea)
    have b1 : b ≠ 2 * n + 1 := fun q => mt_irr h _ (q ▸ eb)
    have sa := mt_sym h.nd ea
    have sb := mt_sym h.nd eb
    have b0 : b ≠ 2 * n := fun q => by
      rw [q, ea] at sb
      exact na (Option.some.inj sb)
    have ab : a ≠ b := fun q => by
      rw [q, sb] at sa
      have := Option.some.inj sa
      omega
    have la := (mt_lt h ea).2
    have lb := (mt_lt h eb).2
    refine ⟨jo_lt ab, ?_⟩
    rcases jo_or a b with e | e
    · rw [e]
      exact ⟨lb, ⟨a0, na⟩, b0, b1⟩
    · rw [e]
      exact ⟨la, ⟨b0, b1⟩, a0, na⟩
theorem wk_nd (h : Lay L js) : (ptsJ (wk js n)).Nodup := by
  have ap : ∀ a b : List Jt, ptsJ (a ++ b) = ptsJ a ++ ptsJ b := fun a b => by
    unfold ptsJ
    rw [List.flatMap_append]
  have nf := (pts_sub (offL n) js).nodup h.nd
  have emp : ∀ l : List Jt, l = [] → (ptsJ (js.filter (offL n) ++ l)).Nodup := fun l e => by
    rw [e, List.append_nil]
    exact nf
  unfold wk
  cases ea : mt js (2 * n) with
  | none => exact emp _ rfl
  | some a =>
    cases eb : mt js (2 * n + 1) with
    | none => exact emp _ rfl
    | some b =>
      show (ptsJ (js.filter (offL n) ++ if a = 2 * n ∨ a = 2 * n + 1 then [] else [jo a b])).Nodup
      by_cases q : a = 2 * n ∨ a = 2 * n + 1
      · rw [if_pos q]
        exact emp _ rfl
      · rw [if_neg q]
        have sa := mt_sym h.nd ea
        have sb := mt_sym h.nd eb
        have ab : a ≠ b := fun z => by
          rw [z, sb] at sa
          have := Option.some.inj sa
          omega
        have no : ∀ c e, mt js c = some e → (e = 2 * n ∨ e = 2 * n + 1) → c ∉ ptsJ (js.filter (offL n)) := fun c e hc he hm => by
          obtain ⟨p, hp, ep⟩ := pts_mem.mp hm
          obtain ⟨h1, h2⟩ := List.mem_filter.mp hp
          have h3 := offL_iff.mp h2
          have m := mt_at h.nd h1
          rcases ep with ep | ep
          · rw [ep, m.1] at hc
            have := Option.some.inj hc
            omega
          · rw [ep, m.2] at hc
            have := Option.some.inj hc
            omega
        have na := no a _ sa (.inl rfl)
        have nb := no b _ sb (.inr rfl)
        rw [ap, List.nodup_append]
        have e : ptsJ [jo a b] = [(jo a b).1, (jo a b).2] := rfl
        rw [e]
        refine ⟨nf, ?_, fun z hz w hw zw => ?_⟩
        · rcases jo_or a b with e | e <;> rw [e] <;> simp
          · exact ab
          · exact ab.symm
        · have : w = a ∨ w = b := by
            rcases jo_or a b with e | e
            · rw [e] at hw
              simpa using hw
            · rw [e] at hw
              have : w = b ∨ w = a := by simpa using hw
              exact this.symm
          rcases this with q | q
          · exact na (by rw [← q, ← zw]; exact hz)
          · exact nb (by rw [← q, ← zw]; exact hz)
theorem wk_mt (h : Lay L js) (z : Nat) : mt (wk js n) z = Con (2 * n) (2 * n + 1) (mt js) z := by
  have M := h.mat
  have xy : 2 * n ≠ 2 * n + 1 := by omega
  refine opt_ext fun w => ?_
  rw [mt_iff (wk_nd h), wk_mem h, wk_mem h]
  constructor
  · intro hh
    rcases hh with (⟨h1, ⟨h2, h3⟩, h4, h5⟩ | ⟨a, b, ea, eb, na, e⟩) | (⟨h1, ⟨h2, h3⟩, h4, h5⟩ | ⟨a, b, ea, eb, na, e⟩)
    · exact con_keep (mt_at h.nd h1).1 h2 h3 h4 h5
    · have a0 : a ≠ 2 * n := fun q => mt_irr h _ (q ▸ ea)
      have sa := mt_sym h.nd ea
      have sb := mt_sym h.nd eb
      have b1 : b ≠ 2 * n + 1 := fun q => mt_irr h _ (q ▸ eb)
      have b0 : b ≠ 2 * n := fun q => by
        rw [q, ea] at sb
        exact na (Option.some.inj sb)
      rcases jo_or a b with q | q
      · rw [q] at e
        simp only [Prod.mk.injEq] at e
        rw [e.1, e.2, con_x a0 na sa, eb]
      · rw [q] at e
        simp only [Prod.mk.injEq] at e
        rw [e.1, e.2, con_y xy b0 b1 sb, ea]
    · exact con_keep (mt_at h.nd h1).2 h4 h5 h2 h3
    · have a0 : a ≠ 2 * n := fun q => mt_irr h _ (q ▸ ea)
      have sa := mt_sym h.nd ea
      have sb := mt_sym h.nd eb
      have b1 : b ≠ 2 * n + 1 := fun q => mt_irr h _ (q ▸ eb)
      have b0 : b ≠ 2 * n := fun q => by
        rw [q, ea] at sb
        exact na (Option.some.inj sb)
      rcases jo_or a b with q | q
      · rw [q] at e
        simp only [Prod.mk.injEq] at e
        rw [e.1, e.2, con_y xy b0 b1 sb, ea]
      · rw [q] at e
        simp only [Prod.mk.injEq] at e
        rw [e.1, e.2, con_x a0 na sa, eb]
  · intro hw
    obtain ⟨z1, z2, w1, w2, e⟩ := con_some M xy hw
    rcases e with e | ⟨e1, e2⟩ | ⟨e1, e2⟩
    · rcases mt_some e with q | q
      · exact .inl (.inl ⟨q, ⟨z1, z2⟩, w1, w2⟩)
      · exact .inr (.inl ⟨q, ⟨w1, w2⟩, z1, z2⟩)
    · have ez := mt_sym h.nd e1
      rcases jo_or z w with q | q
      · exact .inl (.inr ⟨z, w, ez, e2, z2, q.symm⟩)
      · exact .inr (.inr ⟨z, w, ez, e2, z2, q.symm⟩)
    · have ez := mt_sym h.nd e1
      rcases jo_or w z with q | q
      · exact .inr (.inr ⟨w, z, e2, ez, w2, q.symm⟩)
      · exact .inl (.inr ⟨w, z, e2, ez, w2, q.symm⟩)
/-- the ends, the link put back -/
def hi (n z : Nat) : Nat := if z < 2 * n then z else z + 2
theorem lo_hi (z : Nat) : lo n (hi n z) = z := by
  unfold lo hi
  split <;> split <;> omega
theorem hi_lo {z : Nat} (h1 : z ≠ 2 * n) (h2 : z ≠ 2 * n + 1) : hi n (lo n z) = z := by
  unfold lo hi
  split <;> split <;> omega
theorem hi_off (z : Nat) : hi n z ≠ 2 * n ∧ hi n z ≠ 2 * n + 1 := by
  unfold hi
  split <;> omega
theorem pts_wo (js : List Jt) : ptsJ (wo js n) = (ptsJ (wk js n)).map (lo n) := by
  unfold wo ptsJ
  rw [List.flatMap_map, List.map_flatMap]
  rfl
theorem wo_nd (h : Lay L js) : (ptsJ (wo js n)).Nodup := by
  rw [pts_wo]
  refine nd_map (wk_nd h) fun z w hz hw e => ?_
  have off : ∀ z, z ∈ ptsJ (wk js n) → z ≠ 2 * n ∧ z ≠ 2 * n + 1 := fun z hz => by
    obtain ⟨p, hp, e⟩ := pts_mem.mp hz
    obtain ⟨_, _, h1, h2⟩ := wk_off h hp
    rcases e with e | e <;> rw [e] <;> assumption
  rw [← hi_lo (off z hz).1 (off z hz).2, e, hi_lo (off w hw).1 (off w hw).2]
theorem wo_lay (h : Lay L js) (hn : n < L) (h2 : 2 ≤ L) : Lay (L - 1) (sortJ (wo js n)) := by
  have := h.le
  refine mk_lay (by omega) (by omega) (fun p hp => ?_) (wo_nd h)
  obtain ⟨q, hq, rfl⟩ := List.mem_map.mp hp
  obtain ⟨h1, h2, ⟨h3, h4⟩, h5, h6⟩ := wk_off h hq
  show lo n q.1 < lo n q.2 ∧ lo n q.2 < 2 * (L - 1)
  unfold lo
  split <;> split <;> omega
theorem wo_mt (h : Lay L js) (z : Nat) : Con (2 * n) (2 * n + 1) (mt js) (hi n z) = (mt (sortJ (wo js n)) z).map (hi n) := by
  rw [← wk_mt h]
  refine opt_ext fun w => ?_
  rw [Option.map_eq_some_iff, mt_iff (wk_nd h)]
  have mem : ∀ p, p ∈ wo js n ↔ ∃ q ∈ wk js n, (lo n q.1, lo n q.2) = p := fun p => List.mem_map
  constructor
  · intro hh
    refine ⟨lo n w, ?_, ?_⟩
    · rw [mt_iff (srt_nd (wo_nd h)), srt_mem, srt_mem]
      rcases hh with q | q
      · exact .inl ((mem _).mpr ⟨_, q, by rw [lo_hi]⟩)
      · exact .inr ((mem _).mpr ⟨_, q, by rw [lo_hi]⟩)
    · rcases hh with q | q
      · obtain ⟨_, _, _, h1, h2⟩ := wk_off h q
        exact hi_lo h1 h2
      · obtain ⟨_, _, ⟨h1, h2⟩, _⟩ := wk_off h q
        exact hi_lo h1 h2
  · rintro ⟨v, hv, rfl⟩
    rw [mt_iff (srt_nd (wo_nd h)), srt_mem, srt_mem] at hv
    rcases hv with q | q
    · obtain ⟨⟨a, b⟩, hq, e⟩ := (mem _).mp q
      obtain ⟨_, _, ⟨h3, h4⟩, h5, h6⟩ := wk_off h hq
      simp only [Prod.mk.injEq] at e
      rw [← e.1, ← e.2, hi_lo h3 h4, hi_lo h5 h6]
      exact .inl hq
    · obtain ⟨⟨a, b⟩, hq, e⟩ := (mem _).mp q
      obtain ⟨_, _, ⟨h3, h4⟩, h5, h6⟩ := wk_off h hq
      simp only [Prod.mk.injEq] at e
      rw [← e.1, ← e.2, hi_lo h3 h4, hi_lo h5 h6]
      exact .inr hq
theorem wo_cost (h1 : Lay L j1) (h2 : Lay L j2) (hn : n < L) (hL : 2 ≤ L) : cost (L - 1) (sortJ (wo j1 n)) (sortJ (wo j2 n)) ≤ cost L j1 j2 := by
  have w1 := wo_lay h1 hn hL
  have w2 := wo_lay h2 hn hL
  have xy : 2 * n ≠ 2 * n + 1 := by omega
  have c1 := con_mat h1.mat xy
  have c2 := con_mat h2.mat xy
  have A := heapsF_ok id id_perm w1.mat w2.mat
  have e1 := cost_D h1 h2
  have e2 := cost_D w1 w2
  have le := D_le h1.mat h2.mat (x := 2 * n) (y := 2 * n + 1) (by omega) (by omega) xy
  unfold D at e2
  generalize heapsF id (2 * (L - 1)) (mt (sortJ (wo j1 n))) (mt (sortJ (wo j2 n))) = as at *
  have H : HeapsOk (2 * L) (Con (2 * n) (2 * n + 1) (mt j1)) (Con (2 * n) (2 * n + 1) (mt j2)) ([2 * n] :: [2 * n + 1] :: as.map (List.map (hi n))) := by
    refine ⟨?_, fun b hb => ?_, fun z => ?_⟩
    · show ((2 * n) :: (2 * n + 1) :: (as.map (List.map (hi n))).flatten : List Nat).Nodup
      rw [flat_map, List.nodup_cons, List.nodup_cons, List.mem_cons, not_or]
      have no : ∀ y, (y = 2 * n ∨ y = 2 * n + 1) → y ∉ as.flatten.map (hi n) := fun y hy hm => by
        obtain ⟨v, _, e⟩ := List.mem_map.mp hm
        have := hi_off (n := n) v
        omega
      exact ⟨⟨xy, no _ (.inl rfl)⟩, no _ (.inr rfl), nd_map A.nd fun z w _ _ e => by rw [← lo_hi (n := n) z, e, lo_hi]⟩
    · rcases List.mem_cons.mp hb with q | hb
      · rw [q]
        exact blk_one con_l con_l
      · rcases List.mem_cons.mp hb with q | hb
        · rw [q]
          exact blk_one con_r con_r
        · obtain ⟨c, hc, rfl⟩ := List.mem_map.mp hb
          exact blk_map (A.each c hc) (fun z _ => wo_mt h1 z) (fun z _ => wo_mt h2 z)
    · show z ∈ ((2 * n) :: (2 * n + 1) :: (as.map (List.map (hi n))).flatten : List Nat) ↔ _
      rw [flat_map, List.mem_cons, List.mem_cons, List.mem_map]
      constructor
      · rintro (q | q | ⟨v, hv, rfl⟩)
        · omega
        · omega
        · have := (A.all v).mp hv
          unfold hi
          split <;> omega
      · intro hz
        by_cases q1 : z = 2 * n
        · exact .inl q1
        · by_cases q2 : z = 2 * n + 1
          · exact .inr (.inl q2)
          · refine .inr (.inr ⟨lo n z, (A.all _).mpr ?_, hi_lo q1 q2⟩)
            unfold lo
            split <;> omega
  have e3 := D_of c1 c2 H
  rw [List.map_cons, List.map_cons, List.sum_cons, List.sum_cons, vb_one con_l, vb_one con_r, List.map_map] at e3
  have s1 : as.map (vb (Con (2 * n) (2 * n + 1) (mt j1)) (Con (2 * n) (2 * n + 1) (mt j2)) ∘ List.map (hi n)) = as.map (vb (mt (sortJ (wo j1 n))) (mt (sortJ (wo j2 n)))) := List.map_congr_left fun b _ => vb_map (fun z _ => wo_mt h1 z) (fun z _ => wo_mt h2 z)
  rw [s1] at e3
  omega
end
/-! by hand -/
theorem lay_hL : ∀ j ∈ hL, Lay 2 j := fun j hj => by
  simp only [hL, List.mem_cons, List.not_mem_nil, or_false] at hj
  rcases hj with rfl | rfl | rfl | rfl | rfl
  · exact ⟨by decide, by decide, by decide, by decide, by decide⟩
  · exact ⟨by decide, by decide, by decide, by decide, by decide⟩
  · exact ⟨by decide, by decide, by decide, by decide, by decide⟩
  · exact ⟨by decide, by decide, by decide, by decide, by decide⟩
  · exact ⟨by decide, by decide, by decide, by decide, by decide⟩
theorem hand_ok : hL.map (fun a => hL.map fun b => cost 2 a b) = hD := by
  have e : hL.map (fun a => hL.map fun b => cost 2 a b) = hL.map (fun a => hL.map fun b => D (2 * 2) (mt a) (mt b) / 2) := by
    refine List.map_congr_left fun a ha => List.map_congr_left fun b hb => ?_
    have := cost_D (lay_hL a ha) (lay_hL b hb)
    omega
  rw [e]
  decide +kernel
theorem facts_ok : Facts where
  same := fun L j1 j2 => same_pcs
  costH := fun L j1 j2 => cost_H
  sym := fun L j1 j2 => cost_symm
  zero := fun L j1 j2 => cost_zero
  pos := fun L j1 j2 => cost_pos
  le := fun L j1 j2 => cost_le
  tri := fun L j1 j2 j3 => cost_tri
  renL := fun L j os => ren_lay
  ren := fun L j1 j2 os => ren_pcs
  besL := fun L M j1 j2 => bes_lay
  bes := fun L M j1 j2 j3 j4 => bes_cost
  woL := fun L j n => wo_lay
  wo := fun L j1 j2 n => wo_cost
  knd := fun L j1 j2 => cost_knd
  sgl := fun L j1 j2 => cost_sgl
  hand := hand_ok
end Dc
/-! The end: the law's call from its promise where guards are told. -/
namespace Dc
open PySem PySem.Spec PyProof.Rows L2
section
variable {P : Program} {w : World} {K : PySem.W.Frag} {mg mb : Str → Option Value} {k : Nat} {f a : Addr} {fd : FuncData} {x : Str} {sp : Pr} {s1 : Shared} {us : List Value} {ns : List Int}
/-- the object of the script -/
abbrev scriptO (us : List Value) : Obj := { cls := .type "list", data := .seq us.toArray }
/-- what the call of the law must end with -/
abbrev LawEnd (s1 : Shared) : Result → Shared → Prop := fun r s2 => r = .ok (.ret (.bool true)) ∧ OldK s1.heap s2.heap ∧ s2.os = s1.os ∧ AllBare s2.gens
/-- from a heap that tracks the script at most -/
theorem callG_core {H : Hp} (kin : K.In s1.heap) (glob : s1.heap.Ns mainGlobals mg) (blt : s1.heap.Ns builtinsNs mb) (boot : ∀ y : Str, y ≠ "__name__" → mb y = bootBuiltins y) (lim : s1.heap.NoLimit) (gens : s1.gens = #[])
    (obj : s1.heap.get? a = some (scriptO us)) (room : Room k callerA) (F : ∀ base : Heap, K.In base → base.Ns mainGlobals mg → FnG P w K mg base k f fd [x] sp) (bind : ∀ (s : Shared) (u : Value), BindsTo s fd ⟨[u], []⟩ [(x, u)])
    (tr : ∀ b u, H b = some u → b = a ∧ K.lookup b = none ∧ ∃ o xs, u = .frz o (.lst xs)) (ok : HOk P w H s1.heap) (pr : sp [.ref a] H fun v _ => v = .bl true) :
    codeAny (model P w) callerA (.call (.ref f) ⟨[.ref a], []⟩) (LawEnd s1) s1 := by
  have kept : ∀ {b : Addr} {m : Str → Option Value}, s1.heap.Ns b m → (hidT s1.heap H).Ns b m := fun {b m} q => by
    obtain ⟨o, es, ep, e, d, rest⟩ := q
    refine ⟨o, es, ep, hidT_get e ?_, d, rest⟩
    cases t : H b with
    | none => rfl
    | some u =>
      exfalso
      have hb := (tr b u t).1
      rw [hb, obj] at e
      rw [← Option.some.inj e] at d
      cases d
  have kinH : K.In (hidT s1.heap H) := fun b o e => by
    refine hidT_get (kin b o e) ?_
    cases t : H b with
    | none => rfl
    | some u =>
      have := (tr b u t).2.1
      rw [e] at this
      cases this
  have modu : Mod K mg (hidT s1.heap H) := by
    refine ⟨kinH, kept glob, ⟨mb, kept blt, boot⟩, ?_⟩
    obtain ⟨mc, q1, q2⟩ := lim
    exact ⟨mc, kept q1, q2⟩
  have none_in : ∀ b, b ∉ ([] : List Addr) := fun b => by simp
  have env : Env0 P w K mg (hidT s1.heap H) callerA [] s1 H :=
    { frames := rfl, mod := modu, bs := fun b o e => of_hidT e, bsz := Nat.le_of_eq (hidT_size _ _), funs := trivial, frf := fun b hb => absurd hb (none_in b), hok := ok, bare := .of_eq gens }
  have run := (F _ kinH (kept glob)).run callerA [] s1 H ⟨[.ref a], []⟩ [.ref a] [.ref a] _ room rfl env (bind s1 (.ref a)) (.cons rfl .nil) pr
  refine codeAny_mono run fun r s2 h => ?_
  match r, h with
  | .ok (.ret u), h =>
    obtain ⟨v, H2, hos, hbare, hun, hok2, hv, hq⟩ := h
    have hq' : v = .bl true := hq
    rw [hq'] at hv
    have hu : u = Value.bool true := hv
    refine ⟨by rw [hu], OldK.of_keep fun b o e => ?_, hos, hbare⟩
    cases t : H b with
    | none => exact hun.keep b o e t (none_in b) (by simp)
    | some u' =>
      obtain ⟨_, _, ob, xs, rfl⟩ := tr b u' t
      have one := (ok b _ t).1
      have two := (hok2 b _ (hun.frzs b ob _ t)).1
      rw [e] at one
      rw [two, ← one]
theorem law_callG (kin : K.In s1.heap) (glob : s1.heap.Ns mainGlobals mg) (blt : s1.heap.Ns builtinsNs mb) (boot : ∀ y : Str, y ≠ "__name__" → mb y = bootBuiltins y) (lim : s1.heap.NoLimit) (gens : s1.gens = #[])
    (obj : s1.heap.get? a = some (scriptO us)) (whole : IntsAre us ns) (few : ns.length ≤ sizeLine) (room : Room k callerA) (F : ∀ base : Heap, K.In base → base.Ns mainGlobals mg → FnG P w K mg base k f fd [x] sp) (bind : ∀ (s : Shared) (u : Value), BindsTo s fd ⟨[u], []⟩ [(x, u)])
    (pr : ∀ H : Hp, SqL K H a (ns.map V.int) → sp [.ref a] H fun v _ => v = .bl true) : codeAny (model P w) callerA (.call (.ref f) ⟨[.ref a], []⟩) (LawEnd s1) s1 := by
  have vals := vals_ints whole
  have few2 : (ns.map V.int).length ≤ sizeLine := by rw [List.length_map]; exact few
  cases own : K.lookup a with
  | some o =>
    have e := kin a o own
    rw [obj] at e
    have eo := Option.some.inj e
    subst eo
    refine callG_core (H := fun _ => none) kin glob blt boot lim gens obj room F bind (fun b u t => by cases t) (fun b u t => by cases t) (pr _ (.inr ⟨scriptO us, us.toArray, _, own, rfl, rfl, rfl, ?_, by simpa using vals⟩))
    rw [List.size_toArray, whole.length]
    exact few
  | none =>
    let H : Hp := fun b => if b = a then some (.frz (scriptO us) (.lst (ns.map V.int))) else none
    have at_a : H a = some (.frz (scriptO us) (.lst (ns.map V.int))) := if_pos rfl
    have only : ∀ b u, H b = some u → b = a ∧ u = .frz (scriptO us) (.lst (ns.map V.int)) := fun b u t => by
      by_cases q : b = a
      · rw [q, at_a] at t
        exact ⟨q, (Option.some.inj t).symm⟩
      · have : H b = none := if_neg q
        rw [this] at t
        cases t
    refine callG_core (H := H) kin glob blt boot lim gens obj room F bind (fun b u t => ?_) (fun b u t => ?_) (pr H (.inl (.inr ⟨scriptO us, at_a⟩)))
    · obtain ⟨q1, q2⟩ := only b u t
      exact ⟨q1, by rw [q1]; exact own, _, _, q2⟩
    · obtain ⟨rfl, rfl⟩ := only b u t
      exact ⟨obj, few2, us, _, vals, obj⟩
end
/-- the law's end over a head by facts -/
theorem walk_G {l : PySem.W.OpenLaw} {n k : Nat} {q : Program} {loose : List Str} {XP : (Str → Option Value) → Heap → Prop} {YP : World → Heap → Prop} {d : DefRec} {x : Str} (most : l.most = some n) (few : n ≤ sizeLine) (dfl : d.params.defaults = []) (room : Room k callerA)
    (F : ∀ (w : World) (mg : Str → Option Value) (f : Addr) (h : Heap), YP w h → h.Ns mainGlobals mg → mg d.name = some (.ref f) →
      ∃ (K : PySem.W.Frag) (fd : FuncData) (sp : Pr), K.In h ∧ (∀ (s : Shared) (u : Value), BindsTo s fd ⟨[u], []⟩ [(x, u)]) ∧ (∀ (H : Hp) (a : Addr) (ns : List Int), ns.length ≤ n → SqL K H a (ns.map V.int) → sp [.ref a] H fun v _ => v = .bl true) ∧
        ∀ base : Heap, K.In base → base.Ns mainGlobals mg → FnG l.prog w K mg base k f fd [x] sp) : PySem.W.WalkO q loose XP YP l.row.toRowW d [] fun f vs => PySem.call f vs :=
  Att.attach_call most dfl fun w s0 s1 mg mb f o pm cd doc a us ns G Y ho hd hcd hmg obj whole len gens => by
    obtain ⟨K, fd, sp, kin, bind, pr, all⟩ := F w mg f _ Y G.T.g hmg
    exact law_callG kin G.T.g G.T.b G.T.builtins G.T.nolimit gens obj whole (Nat.le_trans len few) room all bind fun H hS => pr H a ns len hS
end Dc
/-! The head: what the top has written, the chain of promises. -/
namespace Dc
open PySem PySem.Spec PyProof.Rows L2
/-- a def of the module under its own name -/
def dd (x : Str) (st : Stmt) : He.DefD := { at_ := (x, none), name := x, qual := x, params := defArgs st, body := defBody st, scope := defScope st }
def fnA : List He.DefD := [dd "is_whole" s_is_whole, dd "is_joint" s_is_joint, dd "wrong_place" s_wrong_place, dd "need_lay" s_need_lay, dd "need_two" s_need_two, dd "need_link" s_need_link, dd "fellow_of" s_fellow_of, dd "joint_of" s_joint_of, dd "mates_in" s_mates_in, dd "lay_with" s_lay_with, dd "is_order" s_is_order, dd "renamed" s_renamed, dd "without" s_without, dd "beside" s_beside, dd "row_from" s_row_from, dd "rows_in" s_rows_in, dd "kind_of" s_kind_of, dd "pieces_in" s_pieces_in, dd "cost_of" s_cost_of, dd "cost_in" s_cost_in, dd "pieces" s_pieces, dd "kinds" s_kinds, dd "least_steps" s_least_steps]
def fnB : List He.DefD := [dd "is_between" s_is_between, dd "number_in" s_number_in, dd "single_number" s_single_number, dd "_law_mixed" s_mixed, dd "_law_folded" s_folded, dd "_law_draw" s_draw, dd "_law_begun" s_begun, dd "_law_like" s_like, dd "_law_of" s_of, dd "_law_lay" s_llay, dd "_law_mates" s_lmates, dd "_law_heaps" s_heaps, dd "_law_kind" s_kind, dd "_law_pieces" s_lpieces, dd "_law_cost" s_lcost, dd "_law_steps" s_steps, dd "_law_after" s_after, dd "_law_order" s_order, dd "_law_triple" s_triple, dd "_law_measure_right" s_measure, dd "_law_changed_right" s_changed, dd "_law_hand_right" s_hand, dd "law" s_law]
def fnAll : List He.DefD := fnA ++ fnB
def faA : List He.Fa := [.glo "is_whole", .glo "is_joint", .glo "wrong_place", .glo "need_lay", .glo "need_two", .glo "need_link", .glo "fellow_of", .glo "joint_of", .glo "mates_in", .glo "lay_with", .glo "is_order", .glo "renamed", .glo "without", .glo "beside", .glo "row_from", .glo "rows_in", .glo "kind_of", .glo "pieces_in", .glo "cost_of", .glo "cost_in", .glo "pieces", .glo "kinds", .glo "least_steps"]
def faB : List He.Fa := [.glo "is_between", .glo "number_in", .glo "single_number", .glo "_law_mixed", .glo "_law_folded", .glo "_law_draw", .glo "_law_begun", .glo "_law_like", .glo "_law_of", .glo "_law_lay", .glo "_law_mates", .glo "_law_heaps", .glo "_law_kind", .glo "_law_pieces", .glo "_law_cost", .glo "_law_steps", .glo "_law_after", .glo "_law_order", .glo "_law_triple", .glo "_law_measure_right", .glo "_law_changed_right", .glo "_law_hand_right", .glo "law"]
def faC : List He.Fa := [.free "len", .free "all", .free "abs", .free "min", .free "max", .free "int", .free "bool", .free "list", .free "tuple", .free "range", .free "enumerate", .free "sorted", .free "sum", .free "isinstance", .free "repr"]
def faD : List He.Fa := [.int "MOST_LINKS" 12, .str "RING" (kdS .ring), .str "ODD" (kdS .odd), .str "OPEN" (kdS .opn), .str "SHUT" (kdS .shut), .glo "KINDS"]
def faAll : List He.Fa := faA ++ faB ++ (faC ++ faD)
def kindsV : List He.Dv := [.str (kdS .ring), .str (kdS .odd), .str (kdS .opn), .str (kdS .shut)]
abbrev Ob : Type := He.AlD × Bool
def obK (K : PySem.W.Frag) : Ob := (He.obsD faAll fnAll K, He.tupB K "KINDS" kindsV)
def obV : Ob := (He.valD fnAll, true)
def SaysK (K : PySem.W.Frag) : Prop := obK K = obV
def obG (g : Addr → Option Obj) : Ob := obK (He.frG g (He.asD g 4))
def hkK : PySem.W.Hook :=
  { α := Ob
    obs := fun s => obG s.heap.get?
    val := fun _ => obV
    says := fun _ h => ∃ K : PySem.W.Frag, K.In h ∧ SaysK K
    of := fun _ _ e => ⟨_, He.frG_in, e⟩
    keeps := fun _ _ _ ⟨K, kin, c⟩ k => ⟨K, PySem.W.Frag.In.keeps kin k, c⟩ }
def obT (s : PySem.W.SharedT) : Ob := obG (HandSHeadRun.getT s)
theorem obT_eq (s : PySem.W.SharedT) : obT s = hkK.obs s.abs := by
  have e : HandSHeadRun.getT s = s.abs.heap.get? := funext (HandSHeadRun.getT_eq s)
  unfold obT
  rw [e] <;> rfl
theorem SaysK.d {K : PySem.W.Frag} (c : SaysK K) : He.SaysD faAll fnAll K := congrArg (fun z : Ob => z.1) c
theorem SaysK.t {K : PySem.W.Frag} (c : SaysK K) : He.tupB K "KINDS" kindsV = true := congrArg (fun z : Ob => z.2) c
theorem fun_of {K : PySem.W.Frag} {x qual : Str} {st : Stmt} {f : Addr} {fd : FuncData} (F : FunD K x qual (defArgs st) (defBody st) (defScope st) [] [] f fd) : Fun K x qual st f fd := by
  obtain ⟨oc, od, dV, kV, doc, pm, an, cdv, ct, osl, e, lk, hcd, hd, _⟩ := F.ex
  have hn : dV = .none := by
    rcases hd with ⟨_, h⟩ | ⟨h, _⟩
    · exact h
    · exact absurd rfl h
  subst hn
  exact ⟨⟨oc, od, kV, doc, pm, an, cdv, ct, osl, e, lk, hcd⟩, F.kp⟩
section
variable {P : Program} {w : World} {K : PySem.W.Frag} {mg : Str → Option Value} {base h : Heap}
theorem has_mk {x : Str} {st : Stmt} {ps : List Str} {k : Nat} {sp : Pr} (c : SaysK K) (X : K.In h) (G : h.Ns mainGlobals mg) (i : Nat) (b : ∀ f fd, Fun K x x st f fd → Binds K fd ps []) (walk : ∀ f fd, Fun K x x st f fd → FnG P w K mg base k f fd ps sp) (hi : fnAll[i]? = some (dd x st) := by rfl) (hj : faAll[i]? = some (.glo x) := by rfl) : Has P w K mg base k x ps sp := by
  obtain ⟨fd, F⟩ := c.d.def_ i hi
  have F' : Fun K x x st (He.fAd K (x, none)) fd := fun_of F
  exact ⟨_, fd, walk _ _ F', He.glo_ok X G (c.d.fact i hj), F'.kp, b _ _ F'⟩
theorem bi_mk (c : SaysK K) (X : K.In h) (G : h.Ns mainGlobals mg) : Bi mg where
  len := He.free_ok X G (c.d.fact 46 (f := .free "len") rfl)
  all := He.free_ok X G (c.d.fact 47 (f := .free "all") rfl)
  abs := He.free_ok X G (c.d.fact 48 (f := .free "abs") rfl)
  min := He.free_ok X G (c.d.fact 49 (f := .free "min") rfl)
  max := He.free_ok X G (c.d.fact 50 (f := .free "max") rfl)
  int := He.free_ok X G (c.d.fact 51 (f := .free "int") rfl)
  bool := He.free_ok X G (c.d.fact 52 (f := .free "bool") rfl)
  list := He.free_ok X G (c.d.fact 53 (f := .free "list") rfl)
  tuple := He.free_ok X G (c.d.fact 54 (f := .free "tuple") rfl)
  range := He.free_ok X G (c.d.fact 55 (f := .free "range") rfl)
  enumerate := He.free_ok X G (c.d.fact 56 (f := .free "enumerate") rfl)
  sorted := He.free_ok X G (c.d.fact 57 (f := .free "sorted") rfl)
  sum := He.free_ok X G (c.d.fact 58 (f := .free "sum") rfl)
  isinstance := He.free_ok X G (c.d.fact 59 (f := .free "isinstance") rfl)
  repr := He.free_ok X G (c.d.fact 60 (f := .free "repr") rfl)
theorem cn_mk (c : SaysK K) (X : K.In h) (G : h.Ns mainGlobals mg) : Cn K mg where
  most := He.int_ok X G (c.d.fact 61 (f := .int "MOST_LINKS" 12) rfl)
  ring := He.str_ok X G (c.d.fact 62 (f := .str "RING" (kdS .ring)) rfl)
  odd := He.str_ok X G (c.d.fact 63 (f := .str "ODD" (kdS .odd)) rfl)
  opn := He.str_ok X G (c.d.fact 64 (f := .str "OPEN" (kdS .opn)) rfl)
  shut := He.str_ok X G (c.d.fact 65 (f := .str "SHUT" (kdS .shut)) rfl)
  kinds := ⟨_, He.glo_ok X G (c.d.fact 66 (f := .glo "KINDS") rfl), fun B => .tup (He.tupB_ok c.t B) (.cons (.str _) (.cons (.str _) (.cons (.str _) (.cons (.str _) .nil))))⟩
/-- each def keeps its promise, from the first to the last -/
theorem law_fn (c : SaysK K) (X : K.In h) (G : h.Ns mainGlobals mg) {f : Addr} {fd : FuncData} (FL : Fun K "law" "law" s_law f fd) : FnG P w K mg base 8 f fd ["_law_script"] (p_law K) := by
  have T := bi_mk c X G
  have C := cn_mk c X G
  have MF := facts_ok
  obtain ⟨tk, hM⟩ := C.most
  have H_is_whole : Has P w K mg base 1 "is_whole" ["value", "least", "most"] (p_is_whole K) := has_mk (st := s_is_whole) c X G 0 (fun _ _ F => F.binds fun _ _ _ _ _ _ us hl => match us, hl with | [_, _, _], _ => rfl) fun _ _ F => w_is_whole F T
  have H_is_joint : Has P w K mg base 2 "is_joint" ["links", "value"] (p_is_joint K) := has_mk (st := s_is_joint) c X G 1 (fun _ _ F => F.binds fun _ _ _ _ _ _ us hl => match us, hl with | [_, _], _ => rfl) fun _ _ F => w_is_joint F T H_is_whole
  have H_wrong_place : Has P w K mg base 3 "wrong_place" ["value"] (p_wrong_place K) := has_mk (st := s_wrong_place) c X G 2 (fun _ _ F => F.binds fun _ _ _ _ _ _ us hl => match us, hl with | [_], _ => rfl) fun _ _ F => w_wrong_place F T hM (H_is_whole.up (by decide)) H_is_joint
  have H_need_lay : Has P w K mg base 4 "need_lay" ["lay"] (p_need_lay K) := has_mk (st := s_need_lay) c X G 3 (fun _ _ F => F.binds fun _ _ _ _ _ _ us hl => match us, hl with | [_], _ => rfl) fun _ _ F => w_need_lay F H_wrong_place
  have H_need_two : Has P w K mg base 5 "need_two" ["one", "other"] (p_need_two K) := has_mk (st := s_need_two) c X G 4 (fun _ _ F => F.binds fun _ _ _ _ _ _ us hl => match us, hl with | [_, _], _ => rfl) fun _ _ F => w_need_two F H_need_lay
  have H_need_link : Has P w K mg base 2 "need_link" ["lay", "link"] (p_need_link K) := has_mk (st := s_need_link) c X G 5 (fun _ _ F => F.binds fun _ _ _ _ _ _ us hl => match us, hl with | [_, _], _ => rfl) fun _ _ F => w_need_link F H_is_whole
  have H_fellow_of : Has P w K mg base 1 "fellow_of" ["end"] (p_fellow_of K) := has_mk (st := s_fellow_of) c X G 6 (fun _ _ F => F.binds fun _ _ _ _ _ _ us hl => match us, hl with | [_], _ => rfl) fun _ _ F => w_fellow_of F
  have H_joint_of : Has P w K mg base 1 "joint_of" ["one", "other"] (p_joint_of K) := has_mk (st := s_joint_of) c X G 7 (fun _ _ F => F.binds fun _ _ _ _ _ _ us hl => match us, hl with | [_, _], _ => rfl) fun _ _ F => w_joint_of F
  have H_mates_in : Has P w K mg base 1 "mates_in" ["lay"] (p_mates_in K) := has_mk (st := s_mates_in) c X G 8 (fun _ _ F => F.binds fun _ _ _ _ _ _ us hl => match us, hl with | [_], _ => rfl) fun _ _ F => w_mates_in F
  have H_lay_with : Has P w K mg base 1 "lay_with" ["links", "joints"] (p_lay_with K) := has_mk (st := s_lay_with) c X G 9 (fun _ _ F => F.binds fun _ _ _ _ _ _ us hl => match us, hl with | [_, _], _ => rfl) fun _ _ F => w_lay_with F T
  have H_is_order : Has P w K mg base 2 "is_order" ["links", "value"] (p_is_order K) := has_mk (st := s_is_order) c X G 10 (fun _ _ F => F.binds fun _ _ _ _ _ _ us hl => match us, hl with | [_, _], _ => rfl) fun _ _ F => w_is_order F T H_is_whole
  have H_renamed : Has P w K mg base 5 "renamed" ["lay", "order"] (p_renamed K) := has_mk (st := s_renamed) c X G 11 (fun _ _ F => F.binds fun _ _ _ _ _ _ us hl => match us, hl with | [_, _], _ => rfl) fun _ _ F => w_renamed F T H_need_lay (H_is_order.up (by decide)) (H_fellow_of.up (by decide)) (H_joint_of.up (by decide)) (H_lay_with.up (by decide))
  have H_without : Has P w K mg base 5 "without" ["lay", "link"] (p_without K) := has_mk (st := s_without) c X G 12 (fun _ _ F => F.binds fun _ _ _ _ _ _ us hl => match us, hl with | [_, _], _ => rfl) fun _ _ F => w_without F T H_need_lay (H_need_link.up (by decide)) (H_mates_in.up (by decide)) (H_joint_of.up (by decide)) (H_lay_with.up (by decide))
  have H_beside : Has P w K mg base 5 "beside" ["one", "other"] (p_beside K) := has_mk (st := s_beside) c X G 13 (fun _ _ F => F.binds fun _ _ _ _ _ _ us hl => match us, hl with | [_, _], _ => rfl) fun _ _ F => w_beside F hM H_need_lay (H_lay_with.up (by decide))
  have H_row_from : Has P w K mg base 1 "row_from" ["mates", "begin", "turn"] (p_row_from K) := has_mk (st := s_row_from) c X G 14 (fun _ _ F => F.binds fun _ _ _ _ _ _ us hl => match us, hl with | [_, _, _], _ => rfl) fun _ _ F => w_row_from F
  have H_rows_in : Has P w K mg base 2 "rows_in" ["one", "other"] (p_rows_in K) := has_mk (st := s_rows_in) c X G 15 (fun _ _ F => F.binds fun _ _ _ _ _ _ us hl => match us, hl with | [_, _], _ => rfl) fun _ _ F => w_rows_in F T H_mates_in H_row_from
  have H_kind_of : Has P w K mg base 2 "kind_of" ["one", "other", "row"] (p_kind_of K) := has_mk (st := s_kind_of) c X G 16 (fun _ _ F => F.binds fun _ _ _ _ _ _ us hl => match us, hl with | [_, _, _], _ => rfl) fun _ _ F => w_kind_of F T C H_mates_in
  have H_pieces_in : Has P w K mg base 3 "pieces_in" ["one", "other"] (p_pieces_in K) := has_mk (st := s_pieces_in) c X G 17 (fun _ _ F => F.binds fun _ _ _ _ _ _ us hl => match us, hl with | [_, _], _ => rfl) fun _ _ F => w_pieces_in F T H_kind_of H_rows_in
  have H_cost_of : Has P w K mg base 1 "cost_of" ["piece"] (p_cost_of K) := has_mk (st := s_cost_of) c X G 18 (fun _ _ F => F.binds fun _ _ _ _ _ _ us hl => match us, hl with | [_], _ => rfl) fun _ _ F => w_cost_of F C
  have H_cost_in : Has P w K mg base 4 "cost_in" ["one", "other"] (p_cost_in K) := has_mk (st := s_cost_in) c X G 19 (fun _ _ F => F.binds fun _ _ _ _ _ _ us hl => match us, hl with | [_, _], _ => rfl) fun _ _ F => w_cost_in F T (H_cost_of.up (by decide)) H_pieces_in
  have H_pieces : Has P w K mg base 6 "pieces" ["one", "other"] (p_pieces K) := has_mk (st := s_pieces) c X G 20 (fun _ _ F => F.binds fun _ _ _ _ _ _ us hl => match us, hl with | [_, _], _ => rfl) fun _ _ F => w_pieces F T H_need_two (H_pieces_in.up (by decide))
  have H_kinds : Has P w K mg base 6 "kinds" ["one", "other"] (p_kinds K) := has_mk (st := s_kinds) c X G 21 (fun _ _ F => F.binds fun _ _ _ _ _ _ us hl => match us, hl with | [_, _], _ => rfl) fun _ _ F => w_kinds F T C H_need_two (H_pieces_in.up (by decide))
  have H_least_steps : Has P w K mg base 6 "least_steps" ["one", "other"] (p_least_steps K) := has_mk (st := s_least_steps) c X G 22 (fun _ _ F => F.binds fun _ _ _ _ _ _ us hl => match us, hl with | [_, _], _ => rfl) fun _ _ F => w_least_steps F H_need_two (H_cost_in.up (by decide))
  have H_is_between : Has P w K mg base 6 "is_between" ["one", "third", "other"] (p_is_between K) := has_mk (st := s_is_between) c X G 23 (fun _ _ F => F.binds fun _ _ _ _ _ _ us hl => match us, hl with | [_, _, _], _ => rfl) fun _ _ F => w_is_between F (H_need_lay.up (by decide)) H_need_two (H_cost_in.up (by decide))
  have H_number_in : Has P w K mg base 1 "number_in" ["one", "other"] (p_number_in K) := has_mk (st := s_number_in) c X G 24 (fun _ _ F => F.binds fun _ _ _ _ _ _ us hl => match us, hl with | [_, _], _ => rfl) fun _ _ F => w_number_in F T
  have H_single_number : Has P w K mg base 6 "single_number" ["one", "other"] (p_number_in K) := has_mk (st := s_single_number) c X G 25 (fun _ _ F => F.binds fun _ _ _ _ _ _ us hl => match us, hl with | [_, _], _ => rfl) fun _ _ F => w_single_number F H_need_two (H_number_in.up (by decide))
  have H_law_mixed : Has P w K mg base 1 "_law_mixed" ["_law_cell", "_law_n"] (p_mixed K) := has_mk (st := s_mixed) c X G 26 (fun _ _ F => F.binds fun _ _ _ _ _ _ us hl => match us, hl with | [_, _], _ => rfl) fun _ _ F => w_mixed F T
  have H_law_folded : Has P w K mg base 1 "_law_folded" ["_law_script"] (p_folded K) := has_mk (st := s_folded) c X G 27 (fun _ _ F => F.binds fun _ _ _ _ _ _ us hl => match us, hl with | [_], _ => rfl) fun _ _ F => w_folded F T
  have H_law_draw : Has P w K mg base 2 "_law_draw" ["_law_m", "_law_limit"] (p_draw K) := has_mk (st := s_draw) c X G 28 (fun _ _ F => F.binds fun _ _ _ _ _ _ us hl => match us, hl with | [_, _], _ => rfl) fun _ _ F => w_draw F T H_law_mixed
  have H_law_begun : Has P w K mg base 2 "_law_begun" ["_law_script"] (p_begun K) := has_mk (st := s_begun) c X G 29 (fun _ _ F => F.binds fun _ _ _ _ _ _ us hl => match us, hl with | [_], _ => rfl) fun _ _ F => w_begun F T H_law_folded
  have H_law_like : Has P w K mg base 1 "_law_like" ["_law_got", "_law_due"] (p_like K) := has_mk (st := s_like) c X G 30 (fun _ _ F => F.binds fun _ _ _ _ _ _ us hl => match us, hl with | [_, _], _ => rfl) fun _ _ F => w_like F T
  have H_law_of : Has P w K mg base 3 "_law_of" ["_law_m", "_law_some"] (p_of K) := has_mk (st := s_of) c X G 31 (fun _ _ F => F.binds fun _ _ _ _ _ _ us hl => match us, hl with | [_, _], _ => rfl) fun _ _ F => w_of F T H_law_draw
  have H_law_lay : Has P w K mg base 4 "_law_lay" ["_law_m", "_law_links"] (p_llay K) := has_mk (st := s_llay) c X G 32 (fun _ _ F => F.binds fun _ _ _ _ _ _ us hl => match us, hl with | [_, _], _ => rfl) fun _ _ F => w_llay F T (H_law_draw.up (by decide)) H_law_of
  have H_law_mates : Has P w K mg base 1 "_law_mates" ["_law_lay_here"] (p_lmates K) := has_mk (st := s_lmates) c X G 33 (fun _ _ F => F.binds fun _ _ _ _ _ _ us hl => match us, hl with | [_], _ => rfl) fun _ _ F => w_lmates F
  have H_law_heaps : Has P w K mg base 2 "_law_heaps" ["_law_one", "_law_other"] (p_heaps K) := has_mk (st := s_heaps) c X G 34 (fun _ _ F => F.binds fun _ _ _ _ _ _ us hl => match us, hl with | [_, _], _ => rfl) fun _ _ F => w_heaps F T H_law_mates
  have H_law_kind : Has P w K mg base 2 "_law_kind" ["_law_one", "_law_other", "_law_heap"] (p_kind K) := has_mk (st := s_kind) c X G 35 (fun _ _ F => F.binds fun _ _ _ _ _ _ us hl => match us, hl with | [_, _, _], _ => rfl) fun _ _ F => w_kind F T H_law_mates
  have H_law_pieces : Has P w K mg base 3 "_law_pieces" ["_law_one", "_law_other"] (p_lpieces K) := has_mk (st := s_lpieces) c X G 36 (fun _ _ F => F.binds fun _ _ _ _ _ _ us hl => match us, hl with | [_, _], _ => rfl) fun _ _ F => w_lpieces F T H_law_kind H_law_heaps
  have H_law_cost : Has P w K mg base 4 "_law_cost" ["_law_one", "_law_other"] (p_lcost K) := has_mk (st := s_lcost) c X G 37 (fun _ _ F => F.binds fun _ _ _ _ _ _ us hl => match us, hl with | [_, _], _ => rfl) fun _ _ F => w_lcost F T H_law_pieces
  have H_law_steps : Has P w K mg base 2 "_law_steps" ["_law_lay_here"] (p_steps K) := has_mk (st := s_steps) c X G 38 (fun _ _ F => F.binds fun _ _ _ _ _ _ us hl => match us, hl with | [_], _ => rfl) fun _ _ F => w_steps F T H_law_mates
  have H_law_after : Has P w K mg base 1 "_law_after" ["_law_lay_here", "_law_step_so"] (p_after K) := has_mk (st := s_after) c X G 39 (fun _ _ F => F.binds fun _ _ _ _ _ _ us hl => match us, hl with | [_, _], _ => rfl) fun _ _ F => w_after F T
  have H_law_order : Has P w K mg base 4 "_law_order" ["_law_m", "_law_many"] (p_order K) := has_mk (st := s_order) c X G 40 (fun _ _ F => F.binds fun _ _ _ _ _ _ us hl => match us, hl with | [_, _], _ => rfl) fun _ _ F => w_order F T (H_law_draw.up (by decide))
  have H_law_triple : Has P w K mg base 5 "_law_triple" ["_law_m", "_law_many"] (p_triple K) := has_mk (st := s_triple) c X G 41 (fun _ _ F => F.binds fun _ _ _ _ _ _ us hl => match us, hl with | [_, _], _ => rfl) fun _ _ F => w_triple F T (H_law_draw.up (by decide)) (H_law_of.up (by decide)) H_law_lay (H_law_after.up (by decide)) (H_law_steps.up (by decide))
  have H_law_measure_right : Has P w K mg base 7 "_law_measure_right" ["_law_some"] (p_measure K) := has_mk (st := s_measure) c X G 42 (fun _ _ F => F.binds fun _ _ _ _ _ _ us hl => match us, hl with | [_], _ => rfl) fun _ _ F => w_measure F T MF H_least_steps (H_law_cost.up (by decide)) (H_law_like.up (by decide)) H_is_between
  have H_law_changed_right : Has P w K mg base 7 "_law_changed_right" ["_law_m", "_law_some"] (p_changed K) := has_mk (st := s_changed) c X G 43 (fun _ _ F => F.binds fun _ _ _ _ _ _ us hl => match us, hl with | [_, _], _ => rfl) fun _ _ F => w_changed F T MF H_least_steps (H_law_order.up (by decide)) (H_renamed.up (by decide)) (H_law_like.up (by decide)) H_pieces (H_law_pieces.up (by decide)) (H_beside.up (by decide)) (H_law_draw.up (by decide)) (H_without.up (by decide)) H_kinds H_single_number
  have H_law_hand_right : Has P w K mg base 7 "_law_hand_right" [] (p_hand K) := has_mk (st := s_hand) c X G 44 (fun _ _ F => F.binds fun _ _ _ _ _ _ us hl => match us, hl with | [], _ => rfl) fun _ _ F => w_hand F T MF H_least_steps H_is_between (H_law_like.up (by decide))
  exact w_law FL T (H_law_begun.up (by decide)) (H_law_triple.up (by decide)) (H_law_draw.up (by decide)) H_law_measure_right H_law_changed_right H_law_hand_right
theorem law_def (c : SaysK K) : ∃ fd, Fun K "law" "law" s_law (He.ga K "law") fd := by
  obtain ⟨fd, F⟩ := c.d.def_ 45 (d := dd "law" s_law) rfl
  exact ⟨fd, fun_of F⟩
theorem law_glo (c : SaysK K) (X : K.In h) (G : h.Ns mainGlobals mg) : mg "law" = some (.ref (He.ga K "law")) := He.glo_ok X G (c.d.fact 45 (f := .glo "law") rfl)
theorem law_pre {H : Hp} {a : Addr} {ns : List Int} (few : ns.length ≤ 63) (hS : SqL K H a (ns.map V.int)) : p_law K [.ref a] H fun v _ => v = .bl true :=
  ⟨H, ns, Same.refl H, .cons (.lst hS (ints_dps ns)) .nil, few, fun v d B2 H2 e _ dv => by
    have e2 : d = .bool true := e
    rw [e2] at dv
    exact dp_bl dv⟩
end
abbrev R : PySem.W.OpenRow := PySem.W.OpenLaw.row PySem.Challenge.rw_doublecut_k59_whole_least_numbers_measur
def nmA : List Str := ["ChainError", "BadLay", "BadLink", "BadNumber", "Unlike", "TooGreat", "MOST_LINKS", "RING", "ODD", "OPEN", "SHUT", "KINDS", "is_whole", "is_joint", "wrong_place", "need_lay", "need_two", "need_link", "fellow_of", "joint_of", "mates_in", "lay_with", "is_order", "renamed", "without", "beside", "row_from", "rows_in", "kind_of", "pieces_in"]
def nmB : List Str := ["cost_of", "cost_in", "pieces", "kinds", "least_steps", "is_between", "number_in", "single_number", "_law_mixed", "_law_folded", "_law_draw", "_law_begun", "_law_like", "_law_of", "_law_lay", "_law_mates", "_law_heaps", "_law_kind", "_law_pieces", "_law_cost", "_law_steps", "_law_after", "_law_order", "_law_triple", "_law_measure_right", "_law_changed_right", "_law_hand_right"]
def nmAll : List Str := nmA ++ nmB
abbrev qv : Program := PySem.W.view R.prog [63]
end Dc
set_option maxHeartbeats 0
/-! The run of the top. -/
namespace Dc
open PySem PySem.Spec PyProof.Rows L2
theorem run (w : World) : HandSHeadRun.RunEq R qv hkK obT 6000 nmAll w := by
  intro os
  kernel_rfl
end Dc
namespace Dc
open PySem PySem.Spec PyProof.Rows L2
theorem law_bind {K : PySem.W.Frag} {f : Addr} {fd : FuncData} (F : Fun K "law" "law" s_law f fd) (s : Shared) (u : Value) : BindsTo s fd ⟨[u], []⟩ [("_law_script", u)] := by
  obtain ⟨oc, od, kV, doc, pm, an, cdv, ct, osl, rfl, _⟩ := F.ex
  exact .of_eq rfl
end Dc
open PySem PySem.W PySem.Calls PyProof.Rows in
theorem PySem.Challenge.cw_doublecut_k59_whole_least_numbers_measur_holds : PySem.Challenge.rw_doublecut_k59_whole_least_numbers_measur.Holds := by
  w_on; o_law
  refine HandSHeadRun.head_any (r := Dc.R) (q := Dc.qv) (H := Dc.hkK) (ob := Dc.obT) (M := 6000) (loose := Dc.nmAll) (d := HandSHeadRun.topDef Dc.R.prog 63) (kwd := []) Dc.obT_eq
    (by kernel_rfl) (fun s => by kernel_rfl) Dc.run (by kernel_rfl) (by kernel_rfl) (by kernel_rfl) (by rfl) (by first | assumption | decide +kernel) (by decide +kernel) ⟨rfl, rfl, rfl, rfl, rfl, by decide +kernel⟩ ?hw ?hc
  case hw => w_witness2
  case hc =>
    refine Dc.walk_G (l := PySem.Challenge.rw_doublecut_k59_whole_least_numbers_measur) (n := 63) (k := 8) (x := "_law_script") rfl (by decide) (by kernel_rfl) ⟨rfl, by decide, by decide⟩ fun w mg f h Y G hm => ?_
    obtain ⟨K, kin, c⟩ := Y
    have nm : (HandSHeadRun.topDef Dc.R.prog 63).name = ("law" : PySem.Str) := by kernel_rfl
    rw [nm, Dc.law_glo c kin G] at hm
    obtain ⟨fd, FL⟩ := Dc.law_def c
    have ef := Option.some.inj hm
    injection ef with ef
    subst ef
    exact ⟨K, fd, Dc.p_law K, kin, Dc.law_bind FL, fun H a ns few hS => Dc.law_pre few hS, fun base kb gb => Dc.law_fn c kin G FL⟩
