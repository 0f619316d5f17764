import PyProof.Rows.All
import Wide.All
import OpenK.AllK
import Wide.FinOn
import PyProof.EqAt
import PyProof.EqKinds
import PyProof.TupleCall
import Open.SpecLaws
import KE.OsGo
import KE.DataMinKey
import HandS.ForSpec
import HandS.Comp
import HandS.Dict
import HandS.Iter
import HandS.NoneIn
import HandS.Deep
import HandS.ExcInit
import HandS.ExcField
import HandS.CallLocal
import HandS.SortKw
import PySem.Challenge.RW_originways_s01_answers
set_option Elab.async false
set_option linter.all false
set_option maxRecDepth 100000
set_option maxHeartbeats 4000000
/-! Data on the abstract heap: what a value stands for (D), and rules for pure code over data alone. -/
namespace Ow
open PySem PySem.Spec PyProof.Rows L2

/-- what a value stands for -/
inductive D where
  | non | bl (b : Bool) | int (i : Int) | lst (l : List D) | tup (l : List D) | dic (ks : List (List Int)) (vs : List D) | ins (C : Addr) (ns : List Str) (vs : List D)
mutual
inductive Rp (H : Hp) : V → D → Prop
  | non : Rp H .non .non
  | bl (b : Bool) : Rp H (.bl b) (.bl b)
  | int (i : Int) : Rp H (.int i) (.int i)
  | lst {a : Addr} {xs : List V} {ds : List D} : H a = some (.lst xs) → RpAll H xs ds → Rp H (.ref a) (.lst ds)
  | tup {a : Addr} {xs : List V} {ds : List D} : H a = some (.tup xs) → RpAll H xs ds → Rp H (.ref a) (.tup ds)
  | dic {a : Addr} {kvs : List (List Key × V)} {ks : List (List Int)} {ds : List D} : H a = some (.dT kvs) → kvs.map (·.1) = ks.map (List.map Sum.inl) → RpAll H (kvs.map (·.2)) ds → Rp H (.ref a) (.dic ks ds)
  | ins {a C dx : Addr} {fs : List (Str × V)} {ns : List Str} {ds : List D} : H a = some (.ins C dx fs) → fs.map (·.1) = ns → RpAll H (fs.map (·.2)) ds → Rp H (.ref a) (.ins C ns ds)
inductive RpAll (H : Hp) : List V → List D → Prop
  | nil : RpAll H [] []
  | cons {v : V} {vs : List V} {d : D} {ds : List D} : Rp H v d → RpAll H vs ds → RpAll H (v :: vs) (d :: ds)
end
/-- lists, tuples, dicts with tuple keys: what data lies in -/
def isDat : HO → Bool
  | .lst _ => true
  | .tup _ => true
  | .dT _ => true
  | .ins _ _ _ => true
  | _ => false
/-- the data of H stands in H' -/
def SameD (H H' : Hp) : Prop := ∀ b o, H b = some o → isDat o = true → H' b = some o
theorem SameD.of {H H' : Hp} (e : Same H H') : SameD H H' := fun b o h _ => e b o h
theorem SameD.trans {H H1 H2 : Hp} (a : SameD H H1) (b : SameD H1 H2) : SameD H H2 := fun c o h i => b c o (a c o h i) i
mutual
theorem Rp.keep {H H' : Hp} (e : SameD H H') : ∀ (d : D) (v : V), Rp H v d → Rp H' v d
  | .non, _, h => by cases h; exact .non
  | .bl _, _, h => by cases h; exact .bl _
  | .int _, _, h => by cases h; exact .int _
  | .lst ds, _, h => by
    cases h with
    | lst ha hs => exact .lst (e _ _ ha rfl) (RpAll.keep e ds _ hs)
  | .tup ds, _, h => by
    cases h with
    | tup ha hs => exact .tup (e _ _ ha rfl) (RpAll.keep e ds _ hs)
  | .dic ks ds, _, h => by
    cases h with
    | dic ha hk hs => exact .dic (e _ _ ha rfl) hk (RpAll.keep e ds _ hs)
  | .ins C ns ds, _, h => by
    cases h with
    | ins ha hk hs => exact .ins (e _ _ ha rfl) hk (RpAll.keep e ds _ hs)
theorem RpAll.keep {H H' : Hp} (e : SameD H H') : ∀ (ds : List D) (vs : List V), RpAll H vs ds → RpAll H' vs ds
  | [], _, h => by cases h; exact .nil
  | d :: ds, _, h => by
    cases h with
    | cons h1 h2 => exact .cons (Rp.keep e d _ h1) (RpAll.keep e ds _ h2)
end
theorem Rp.mono {H H' : Hp} {v : V} {d : D} (h : Rp H v d) (e : Same H H') : Rp H' v d := Rp.keep (.of e) d v h
theorem RpAll.mono {H H' : Hp} {vs : List V} {ds : List D} (h : RpAll H vs ds) (e : Same H H') : RpAll H' vs ds := RpAll.keep (.of e) ds vs h
theorem RpAll.length {H : Hp} : ∀ {vs : List V} {ds : List D}, RpAll H vs ds → vs.length = ds.length
  | _, _, .nil => rfl
  | _, _, .cons _ t => by rw [List.length_cons, List.length_cons, RpAll.length t]
theorem RpAll.get {H : Hp} : ∀ {vs : List V} {ds : List D} {i : Nat} {d : D}, RpAll H vs ds → ds[i]? = some d → ∃ v, vs[i]? = some v ∧ Rp H v d
  | _, _, i, d, .nil, e => by simp at e
  | _, _, 0, d, .cons r _, e => by
    simp at e
    subst e
    exact ⟨_, rfl, r⟩
  | _, _, i + 1, d, .cons _ t, e => by
    obtain ⟨v, h1, h2⟩ := RpAll.get (i := i) (d := d) t (by simpa using e)
    exact ⟨v, by simpa using h1, h2⟩
theorem RpAll.getV {H : Hp} : ∀ {vs : List V} {ds : List D} {i : Nat} {v : V}, RpAll H vs ds → vs[i]? = some v → ∃ d, ds[i]? = some d ∧ Rp H v d
  | _, _, i, d, .nil, e => by simp at e
  | _, _, 0, d, .cons r _, e => by
    simp at e
    subst e
    exact ⟨_, rfl, r⟩
  | _, _, i + 1, d, .cons _ t, e => by
    obtain ⟨v, h1, h2⟩ := RpAll.getV (i := i) (v := d) t (by simpa using e)
    exact ⟨v, by simpa using h1, h2⟩
theorem RpAll.append {H : Hp} : ∀ {vs ws : List V} {ds es : List D}, RpAll H vs ds → RpAll H ws es → RpAll H (vs ++ ws) (ds ++ es)
  | _, _, _, _, .nil, t => t
  | _, _, _, _, .cons r s, t => .cons r (RpAll.append s t)
theorem RpAll.take {H : Hp} : ∀ {vs : List V} {ds : List D} (n : Nat), RpAll H vs ds → RpAll H (vs.take n) (ds.take n)
  | _, _, 0, _ => .nil
  | _, _, _ + 1, .nil => .nil
  | _, _, n + 1, .cons r t => .cons r (RpAll.take n t)
theorem RpAll.drop {H : Hp} : ∀ {vs : List V} {ds : List D} (n : Nat), RpAll H vs ds → RpAll H (vs.drop n) (ds.drop n)
  | _, _, 0, h => h
  | _, _, _ + 1, .nil => .nil
  | _, _, n + 1, .cons _ t => RpAll.drop n t
theorem RpAll.ints {H : Hp} : ∀ {vs : List V} {ns : List Int}, RpAll H vs (ns.map D.int) → vs = ns.map V.int
  | _, [], h => by cases h; rfl
  | _, n :: ns, h => by
    cases h with
    | cons h1 h2 =>
      cases h1
      rw [List.map_cons, RpAll.ints h2]
theorem RpAll.ofInts {H : Hp} : ∀ ns : List Int, RpAll H (ns.map V.int) (ns.map D.int)
  | [] => .nil
  | n :: ns => .cons (.int n) (RpAll.ofInts ns)

/-! ### slots -/
abbrev Sd := List (Option D)
structure Sl (H : Hp) (σ : L2.St) (Δ : Sd) : Prop where
  len : Δ.length = σ.length
  at_ : ∀ (i : Nat) (d : D), Δ[i]? = some (some d) → ∃ v, σ[i]? = some (some v) ∧ Rp H v d
theorem Sl.keep {H H' : Hp} {σ : L2.St} {Δ : Sd} (h : Sl H σ Δ) (e : SameD H H') : Sl H' σ Δ := ⟨h.len, fun i d q => by
  obtain ⟨v, h1, h2⟩ := h.at_ i d q
  exact ⟨v, h1, Rp.keep e _ _ h2⟩⟩
theorem Sl.mono {H H' : Hp} {σ : L2.St} {Δ : Sd} (h : Sl H σ Δ) (e : Same H H') : Sl H' σ Δ := h.keep (.of e)
theorem Sl.set {H : Hp} {σ : L2.St} {Δ : Sd} {v : V} {d : D} (h : Sl H σ Δ) (i : Nat) (r : Rp H v d) : Sl H (σ.set i (some v)) (Δ.set i (some d)) := by
  refine ⟨by rw [List.length_set, List.length_set]; exact h.len, fun j e q => ?_⟩
  by_cases hj : i = j
  · subst hj
    by_cases hi : i < Δ.length
    · rw [List.getElem?_set_self hi] at q
      cases q
      exact ⟨v, List.getElem?_set_self (by rw [← h.len]; exact hi), r⟩
    · rw [List.getElem?_eq_none (by rw [List.length_set]; omega)] at q
      cases q
  · rw [List.getElem?_set_ne hj] at q
    rw [List.getElem?_set_ne hj]
    exact h.at_ j e q
/-- a slot whose value is not told -/
theorem Sl.unset {H : Hp} {σ : L2.St} {Δ : Sd} {o : Option V} (h : Sl H σ Δ) (i : Nat) : Sl H (σ.set i o) (Δ.set i none) := by
  refine ⟨by rw [List.length_set, List.length_set]; exact h.len, fun j e q => ?_⟩
  by_cases hj : i = j
  · subst hj
    by_cases hi : i < Δ.length
    · rw [List.getElem?_set_self hi] at q
      cases q
    · rw [List.getElem?_eq_none (by rw [List.length_set]; omega)] at q
      cases q
  · rw [List.getElem?_set_ne hj] at q
    rw [List.getElem?_set_ne hj]
    exact h.at_ j e q
def wipeD (Δ : Sd) : List Nat → Sd
  | [] => Δ
  | v :: vs => (wipeD Δ vs).set v none
theorem Sl.wipe {H : Hp} {σ : L2.St} {Δ : Sd} (h : Sl H σ Δ) : ∀ vs : List Nat, Sl H (L2.wipe σ vs) (wipeD Δ vs)
  | [] => h
  | v :: vs => Sl.unset (Sl.wipe h vs) v
def startD (N : List Str) (ds : List D) : Sd := ds.map some ++ List.replicate (N.length - ds.length) none
theorem Sl.start {H : Hp} {N : List Str} {vs : List V} {ds : List D} (h : RpAll H vs ds) : Sl H (L2.start N vs) (startD N ds) := by
  have hl := h.length
  refine ⟨by unfold startD L2.start; simp [hl], fun i d q => ?_⟩
  unfold startD at q
  by_cases hi : i < ds.length
  · rw [List.getElem?_append_left (by simpa using hi), List.getElem?_map] at q
    cases e : ds[i]? with
    | none =>
      rw [e] at q
      cases q
    | some d' =>
      rw [e] at q
      cases q
      obtain ⟨v, h1, h2⟩ := h.get e
      refine ⟨v, ?_, h2⟩
      unfold L2.start
      rw [List.getElem?_append_left (by rw [List.length_map, hl]; exact hi), List.getElem?_map, h1]
      rfl
  · rw [List.getElem?_append_right (by simpa using hi), List.getElem?_replicate] at q
    split at q <;> cases q

/-! ### every list is of a length that the machine takes -/
def Sane (H : Hp) : Prop := ∀ a xs, H a = some (.lst xs) → xs.length ≤ sizeLine
theorem sane_of {P : Program} {w : World} {H : Hp} {h : Heap} (x : HOk P w H h) : Sane H := fun a xs e => (x a _ e).1
theorem _root_.L2.PE.sane {X : Cx} {e : Expr} {t : TE} (h : PE X e t) : PE X e (fun σ H Q => t σ H fun v H' => Sane H' → Q v H') :=
  ⟨fun pins s σ H Q I q => thn (h.run pins s σ H _ I q) fun u s' ⟨v, H', I', r, q'⟩ => ⟨v, H', I', r, q' (sane_of I'.hok)⟩⟩

/-! ### readings over data -/
def tD (Δ : Sd) (d : D) : TE := fun σ H Q => Sl H σ Δ ∧ ∀ v H', Same H H' → Rp H' v d → Sane H' → Q v H'
def tDT (Δ : Sd) (b : Bool) : TT := fun σ H Q => Sl H σ Δ ∧ ∀ H', Same H H' → Q b H'
def tDA (Δ : Sd) (ds : List D) : TA := fun σ H Q => Sl H σ Δ ∧ ∀ vs H', Same H H' → RpAll H' vs ds → Sane H → Q vs H'
theorem _root_.L2.PE.imp {X : Cx} {e : Expr} {t t' : TE} (h : PE X e t) (i : ∀ σ H Q, t' σ H Q → t σ H Q) : PE X e t' := ⟨fun pins s σ H Q I q => h.run pins s σ H Q I (i σ H Q q)⟩
theorem _root_.L2.PT.imp {X : Cx} {e : Expr} {t t' : TT} (h : PT X e t) (i : ∀ σ H Q, t' σ H Q → t σ H Q) : PT X e t' := ⟨fun pins s σ H Q I q => h.run pins s σ H Q I (i σ H Q q)⟩
theorem _root_.L2.PA.imp {X : Cx} {es : List Expr} {t t' : TA} (h : PA X es t) (i : ∀ σ H Q, Sane H → t' σ H Q → t σ H Q) : PA X es t' := ⟨fun pos pins s σ H Q I q => h.run pos pins s σ H Q I (i σ H Q (sane_of I.hok) q)⟩
theorem _root_.L2.PSs.imp {X : Cx} {sts : List Stmt} {t t' : TS} (h : PSs X sts t) (i : ∀ D σ H, t' D σ H → t D σ H) : PSs X sts t' := ⟨fun pins s σ H D I q => h.run pins s σ H D I (i D σ H q)⟩
theorem _root_.L2.PS.imp {X : Cx} {st : Stmt} {t t' : TS} (h : PS X st t) (i : ∀ D σ H, t' D σ H → t D σ H) : PS X st t' := ⟨fun pins s σ H D I q => h.run pins s σ H D I (i D σ H q)⟩
/-- a rule's expression, where its reading follows from the data -/
theorem _root_.L2.PE.d {X : Cx} {e : Expr} {t : TE} {Δ : Sd} {d : D} (h : PE X e t) (i : ∀ σ H Q, Sl H σ Δ → (∀ v H', Same H H' → Rp H' v d → Q v H') → t σ H Q) : PE X e (tD Δ d) :=
  (PE.sane h).imp fun σ H Q q => i σ H _ q.1 fun v H' e r s => q.2 v H' e r s
/-- under a condition -/
theorem _root_.L2.PE.when {X : Cx} {e : Expr} {t : TE} {p : Prop} (h : p → PE X e t) : PE X e (fun σ H Q => p ∧ t σ H Q) := ⟨fun pins s σ H Q I q => (h q.1).run pins s σ H Q I q.2⟩
theorem _root_.L2.PT.when {X : Cx} {e : Expr} {t : TT} {p : Prop} (h : p → PT X e t) : PT X e (fun σ H Q => p ∧ t σ H Q) := ⟨fun pins s σ H Q I q => (h q.1).run pins s σ H Q I q.2⟩
theorem _root_.L2.PSs.when {X : Cx} {e : List Stmt} {t : TS} {p : Prop} (h : p → PSs X e t) : PSs X e (fun D σ H => p ∧ t D σ H) := ⟨fun pins s σ H D I q => (h q.1).run pins s σ H D I q.2⟩
/-- one of a family -/
theorem _root_.L2.PE.some_ {X : Cx} {e : Expr} {ι : Type} {t : ι → TE} {p : ι → Prop} (h : ∀ i, p i → PE X e (t i)) : PE X e (fun σ H Q => ∃ i, p i ∧ t i σ H Q) := ⟨fun pins s σ H Q I ⟨i, pi, q⟩ => (h i pi).run pins s σ H Q I q⟩
theorem _root_.L2.PTs.some_ {X : Cx} {es : List Expr} {ι : Type} {t : ι → TT} {p : ι → Prop} (h : ∀ i, p i → PTs X es (t i)) : PTs X es (fun σ H Q => ∃ i, p i ∧ t i σ H Q) := ⟨fun pins s σ H Q I ⟨i, pi, q⟩ => (h i pi).run pins s σ H Q I q⟩
theorem _root_.L2.PE.to {X : Cx} {e : Expr} {Δ : Sd} {d d' : D} (h : PE X e (tD Δ d)) (q : d = d') : PE X e (tD Δ d') := q ▸ h
theorem _root_.L2.PT.to {X : Cx} {e : Expr} {Δ : Sd} {d d' : Bool} (h : PT X e (tDT Δ d)) (q : d = d') : PT X e (tDT Δ d') := q ▸ h

section
variable {X : Cx} {a b c e : Expr} {es : List Expr} {pos : Pos} {Δ : Sd} {d d1 d2 : D} {i j : Int}
theorem ev_var (n : Nat) {x : Str} (hΔ : Δ[n]? = some (some d) := by rfl) (hN : X.N[n]? = some x := by rfl) (hv : Vis X.env.scope x := by first | exact Or.inl rfl | exact Or.inr (Or.inl rfl) | exact Or.inr (Or.inr rfl)) (hd : (x == ("__debug__" : Str)) = false := by decide)
    (hcd : (x == ("__classdict__" : Str)) = false := by decide) : PE X (.Name x pos) (tD Δ d) := PE.d (pe_var hN hv hd hcd) fun σ H Q sl k => by
  obtain ⟨v, h1, h2⟩ := sl.at_ n d hΔ
  exact ⟨v, h1, k v H (Same.refl H) h2⟩
theorem ev_const {v : V} (h : PE X e (tC v)) (r : ∀ H, Rp H v d) : PE X e (tD Δ d) := PE.d h fun σ H Q _ k => k v H (Same.refl H) (r H)
theorem ev_int {n : Nat} : PE X (.Constant (.int i) n pos) (tD Δ (.int i)) := ev_const pe_int fun _ => .int i
theorem ev_non {n : Nat} : PE X (.Constant .none n pos) (tD Δ .non) := ev_const pe_non fun _ => .non
/-- a module's number -/
theorem ev_glob {x : Str} (hm : ∃ t, X.mg x = some (.int i t)) (hg : Gl X x := by rfl) (hd : (x == ("__debug__" : Str)) = false := by decide) : PE X (.Name x pos) (tD Δ (.int i)) := by
  obtain ⟨t, hm⟩ := hm
  exact ev_const (pe_glob hg hm (v := .int i) ⟨t, rfl⟩ hd) fun _ => .int i

/-! ### operators -/
/-- an operation on values gives d from what stands for d1 and d2 -/
def OpD (r : R2) (d1 d2 d : D) : Prop := ∀ (H : Hp) (x y : V) (Q : VK), Rp H x d1 → Rp H y d2 → Sane H → (∀ v H', Same H H' → Rp H' v d → Q v H') → r x y H Q
theorem tOp_d {r : R2} (hr : OpD r d1 d2 d) {σ : L2.St} {H : Hp} {Q : VK} (sl : Sl H σ Δ) (k : ∀ v H', Same H H' → Rp H' v d → Q v H') : tOp r (tD Δ d1) (tD Δ d2) σ H Q :=
  ⟨sl, fun x H1 e1 r1 _ => ⟨sl.mono e1, fun y H2 e2 r2 s2 => hr H2 x y Q (r1.mono e2) r2 s2 fun v H3 e3 r3 => k v H3 ((e1.trans e2).trans e3) r3⟩⟩
theorem ev_op {op : Operator} {r : R2} (ho : OpR X (binaryOp op) r) (hr : OpD r d1 d2 d) (ha : PE X a (tD Δ d1)) (hb : PE X b (tD Δ d2)) : PE X (.BinOp a op b pos) (tD Δ d) :=
  PE.d (pe_op ho ha hb) fun _ _ _ sl k => tOp_d hr sl k
theorem ev_cmp {op : CmpOp} {r : R2} (ho : OpR X (compareOp op) r) (hr : OpD r d1 d2 d) (ha : PE X a (tD Δ d1)) (hb : PE X b (tD Δ d2)) (hm : behindInMarks op b = false := by first | exact nomark _ | rfl | with_unfolding_all rfl) : PE X (.Compare a [op] [b] pos) (tD Δ d) :=
  PE.d (pe_cmpR ho ha hb hm) fun _ _ _ sl k => tOp_d hr sl k
theorem et_cmp {op : CmpOp} {r : R2} {k : Bool} (ho : OpR X (compareOp op) r) (hr : OpD r d1 d2 (.bl k)) (ha : PE X a (tD Δ d1)) (hb : PE X b (tD Δ d2)) (hm : behindInMarks op b = false := by first | exact nomark _ | rfl | with_unfolding_all rfl) : PT X (.Compare a [op] [b] pos) (tDT Δ k) :=
  (pt_cmpR ho ha hb hm).imp fun σ H Q q => tOp_d hr q.1 fun v H' e r => by
    cases r
    exact ⟨k, rfl, q.2 H' e⟩
theorem ev_ix {r : R2} (ho : IxR X r) (hr : OpD r d1 d2 d) (ha : PE X a (tD Δ d1)) (hb : PE X b (tD Δ d2)) (hs : PlainIx b := by exact fun _ _ => rfl) : PE X (.Subscript a b pos) (tD Δ d) :=
  PE.d (pe_ix ho ha hb hs) fun _ _ _ sl k => tOp_d hr sl k
theorem od_I0 {g : Int → Int → V} {f : D} (h : ∀ H, Rp H (g i j) f) : OpD (rI0 g) (.int i) (.int j) f := fun H x y Q r1 r2 _ k => by
  cases r1
  cases r2
  exact ⟨i, j, rfl, rfl, k _ H (Same.refl H) (h H)⟩
theorem od_I {C : Int → Int → Prop} {g : Int → Int → V} {f : D} (hc : C i j) (h : ∀ H, Rp H (g i j) f) : OpD (rI C g) (.int i) (.int j) f := fun H x y Q r1 r2 _ k => by
  cases r1
  cases r2
  exact ⟨i, j, rfl, rfl, hc, k _ H (Same.refl H) (h H)⟩
theorem ev_add (ha : PE X a (tD Δ (.int i))) (hb : PE X b (tD Δ (.int j))) : PE X (.BinOp a .Add b pos) (tD Δ (.int (i + j))) := ev_op op_add (od_I0 fun _ => .int _) ha hb
theorem ev_sub (ha : PE X a (tD Δ (.int i))) (hb : PE X b (tD Δ (.int j))) : PE X (.BinOp a .Sub b pos) (tD Δ (.int (i - j))) := ev_op op_sub (od_I0 fun _ => .int _) ha hb
theorem ev_mod (hj : 0 < j) (ha : PE X a (tD Δ (.int i))) (hb : PE X b (tD Δ (.int j))) : PE X (.BinOp a .Mod b pos) (tD Δ (.int (i % j))) := ev_op op_mod (od_I hj fun _ => .int _) ha hb
theorem od_lt : OpD (rI0 fun i j => .bl (decide (i < j))) (.int i) (.int j) (.bl (decide (i < j))) := od_I0 fun _ => .bl _
theorem od_le : OpD (rI0 fun i j => .bl (decide (i ≤ j))) (.int i) (.int j) (.bl (decide (i ≤ j))) := od_I0 fun _ => .bl _
theorem od_gt : OpD (rI0 fun i j => .bl (decide (j < i))) (.int i) (.int j) (.bl (decide (j < i))) := od_I0 fun _ => .bl _
theorem od_ge : OpD (rI0 fun i j => .bl (decide (j ≤ i))) (.int i) (.int j) (.bl (decide (j ≤ i))) := od_I0 fun _ => .bl _
theorem od_eqI : OpD rEq (.int i) (.int j) (.bl (decide (i = j))) := fun H x y Q r1 r2 _ k => by
  cases r1
  cases r2
  refine ⟨rfl, ?_⟩
  have e : decide (V.int i = V.int j) = decide (i = j) := by simp
  rw [e]
  exact k _ H (Same.refl H) (.bl _)
theorem od_neI : OpD rNe (.int i) (.int j) (.bl (!decide (i = j))) := fun H x y Q r1 r2 _ k => by
  cases r1
  cases r2
  refine ⟨rfl, ?_⟩
  have e : decide (V.int i = V.int j) = decide (i = j) := by simp
  rw [e]
  exact k _ H (Same.refl H) (.bl _)
def isNon : D → Bool
  | .non => true
  | _ => false
theorem Rp.isNon {H : Hp} {v : V} {d : D} (h : Rp H v d) : decide (v = .non) = isNon d := by
  cases h <;> first | rfl | simp [Ow.isNon]
theorem od_isN : OpD (fun x y H Q => y = .non ∧ Q (.bl (decide (x = .non))) H) d .non (.bl (isNon d)) := fun H x y Q r1 r2 _ k => by
  cases r2
  refine ⟨rfl, ?_⟩
  rw [r1.isNon]
  exact k _ H (Same.refl H) (.bl _)
theorem od_notN : OpD (fun x y H Q => y = .non ∧ Q (.bl (!decide (x = .non))) H) d .non (.bl (!isNon d)) := fun H x y Q r1 r2 _ k => by
  cases r2
  refine ⟨rfl, ?_⟩
  rw [r1.isNon]
  exact k _ H (Same.refl H) (.bl _)
theorem od_ixT {ds : List D} {n : Nat} (h : ds[n]? = some d) : OpD (rIxT X.K) (.tup ds) (.int (n : Int)) d := fun H x y Q r1 r2 _ k => by
  cases r1 with
  | tup ha hs =>
    cases r2
    obtain ⟨v, h1, h2⟩ := hs.get h
    exact ⟨_, _, _, v, rfl, rfl, SqT.of ha, atI_nat h1, k v H (Same.refl H) h2⟩
theorem od_ixL {ds : List D} {n : Nat} (h : ds[n]? = some d) : OpD (rIxL X.K) (.lst ds) (.int (n : Int)) d := fun H x y Q r1 r2 _ k => by
  cases r1 with
  | lst ha hs =>
    cases r2
    obtain ⟨v, h1, h2⟩ := hs.get h
    exact ⟨_, _, _, v, rfl, rfl, SqL.of ha, atI_nat h1, k v H (Same.refl H) h2⟩
theorem Same.new {H : Hp} {p : Addr} {o : HO} (h : H p = none) : Same H (upd H p o) := fun a u e => by
  rw [upd_ne (ne_of_none e h)]
  exact e
theorem od_cat {ds es : List D} (hl : ds.length + es.length ≤ 1000000) : OpD rCat (.lst ds) (.lst es) (.lst (ds ++ es)) := fun H x y Q r1 r2 _ k => by
  cases r1 with
  | lst ha hs =>
    cases r2 with
    | lst hb ht =>
      refine ⟨_, _, _, _, rfl, rfl, ha, hb, ?_, fun p hp => k _ _ (Same.new hp) (.lst upd_same ((hs.append ht).mono (Same.new hp)))⟩
      rw [hs.length, ht.length]
      exact Nat.le_trans hl (by rw [sizeLine_eq]; decide)

/-! ### and, or, not, if -/
theorem ev_one {op : BoolOp} (ha : PE X a (tD Δ d)) : PE X (.BoolOp op [a] pos) (tD Δ d) := pe_one ha
theorem ev_and {r : List Expr} {p q : Bool} (ha : PE X a (tD Δ (.bl p))) (hb : p = true → PE X (.BoolOp .And (b :: r) pos) (tD Δ (.bl q))) : PE X (.BoolOp .And (a :: b :: r) pos) (tD Δ (.bl (p && q))) :=
  PE.d (pe_and ha (PE.when hb)) fun σ H Q sl k => ⟨sl, fun x H1 e1 r1 _ => by
    cases r1
    refine ⟨p, rfl, ?_⟩
    cases p with
    | true => exact ⟨rfl, sl.mono e1, fun v H2 e2 r2 _ => k v H2 (e1.trans e2) r2⟩
    | false => exact k _ H1 e1 (.bl _)⟩
theorem ev_or {r : List Expr} {p q : Bool} (ha : PE X a (tD Δ (.bl p))) (hb : p = false → PE X (.BoolOp .Or (b :: r) pos) (tD Δ (.bl q))) : PE X (.BoolOp .Or (a :: b :: r) pos) (tD Δ (.bl (p || q))) :=
  PE.d (pe_or ha (PE.when hb)) fun σ H Q sl k => ⟨sl, fun x H1 e1 r1 _ => by
    cases r1
    refine ⟨p, rfl, ?_⟩
    cases p with
    | false => exact ⟨rfl, sl.mono e1, fun v H2 e2 r2 _ => k v H2 (e1.trans e2) r2⟩
    | true => exact k _ H1 e1 (.bl _)⟩
theorem ev_not {p : Bool} (ha : PE X a (tD Δ (.bl p))) : PE X (.UnaryOp .Not a pos) (tD Δ (.bl (!p))) :=
  PE.d (pe_not ha) fun σ H Q sl k => ⟨sl, fun x H1 e1 r1 _ => by
    cases r1
    exact ⟨p, rfl, k _ H1 e1 (.bl _)⟩⟩
/-- an expression that gives a truth, as a test -/
theorem et_val {p : Bool} (h : PE X e (tD Δ (.bl p))) (he : ∀ whole, isTrue e X.env whole = (do let v ← whole; standAt e.pos; holding [v] (truthy v)) := by intro _; rfl) : PT X e (tDT Δ p) :=
  (pt_val h he).imp fun σ H Q q => ⟨q.1, fun x H1 e1 r1 _ => by
    cases r1
    exact ⟨p, rfl, q.2 H1 e1⟩⟩
theorem et_not {p : Bool} (h : PT X a (tDT Δ p)) : PT X (.UnaryOp .Not a pos) (tDT Δ (!p)) := (pt_not h).imp fun σ H Q q => ⟨q.1, q.2⟩
theorem ev_ifExp {p : Bool} (hc : PT X c (tDT Δ p)) (ha : p = true → PE X a (tD Δ d)) (hb : p = false → PE X b (tD Δ d)) : PE X (.IfExp c a b pos) (tD Δ d) :=
  PE.d (pe_ifExp hc (PE.when ha) (PE.when hb)) fun σ H Q sl k => ⟨sl, fun H1 e1 => by
    cases p with
    | true => exact ⟨rfl, sl.mono e1, fun v H2 e2 r2 _ => k v H2 (e1.trans e2) r2⟩
    | false => exact ⟨rfl, sl.mono e1, fun v H2 e2 r2 _ => k v H2 (e1.trans e2) r2⟩⟩

/-! ### arguments, displays -/
theorem ea_nil : PA X [] (tDA Δ []) := (pa_nil (X := X)).imp fun σ H Q s q => q.2 [] H (Same.refl H) .nil s
theorem ea_cons {ds : List D} (ha : PE X e (tD Δ d)) (hr : PA X es (tDA Δ ds)) (hs : starEach (e :: es) X.env = (false, eval e X.env) :: starEach es X.env := by rfl) : PA X (e :: es) (tDA Δ (d :: ds)) :=
  (pa_cons ha hr hs).imp fun σ H Q s q => ⟨q.1, fun x H1 e1 r1 _ => ⟨q.1.mono e1, fun vs H2 e2 r2 _ => q.2 (x :: vs) H2 (e1.trans e2) (.cons (r1.mono e2) r2) s⟩⟩
theorem ev_tup {ds : List D} {n : Nat} (h : PA X es (tDA Δ ds)) (hl : ds.length ≤ 1000 := by first | exact Nat.le_of_ble_eq_true rfl | simp) : PE X (.Tuple es n pos) (tD Δ (.tup ds)) :=
  PE.d (pe_tup h) fun σ H Q sl k => ⟨sl, fun vs H1 e1 r1 _ => ⟨Nat.le_of_lt (small1000 (by rw [r1.length]; exact hl)), fun p hp => k _ _ (e1.trans (Same.new hp)) (.tup upd_same (r1.mono (Same.new hp)))⟩⟩
theorem ev_lst {ds : List D} (h : PA X es (tDA Δ ds)) (hl : ds.length ≤ 1000 := by first | exact Nat.le_of_ble_eq_true rfl | simp) : PE X (.List es pos) (tD Δ (.lst ds)) :=
  PE.d (pe_lst h) fun σ H Q sl k => ⟨sl, fun vs H1 e1 r1 _ => ⟨Nat.le_of_lt (small1000 (by rw [r1.length]; exact hl)), fun p hp => k _ _ (e1.trans (Same.new hp)) (.lst upd_same (r1.mono (Same.new hp)))⟩⟩

/-! ### calls -/
/-- a def's promise over data: R tells what comes of which arguments -/
def spD (R : List D → D → Prop) : Sp := fun vs H Q _ => ∃ ds d, RpAll H vs ds ∧ R ds d ∧ ∀ v H', Same H H' → Rp H' v d → Q v H'
theorem ev_callP {CX : CXT} {k : Nat} {f : Addr} {fd : FuncData} {ps : List Str} {R : List D → D → Prop} {E : XK} {ds : List D} {x : Str} {p : Pos} (F : FnOk X.prog X.w X.K X.mg X.base CX k f fd ps (spD R)) (hr : Room k X.A) (hm : X.mg x = some (.ref f)) (hk : PySem.W.keepIn X.K (.ref f) = true) (hb : Binds X.K fd ps []) (hx : Passes CX X E)
    (ha : PA X (e :: es) (tDA Δ ds)) (hR : R ds d) (hg : Gl X x := by rfl) (hdb : (x == ("__debug__" : Str)) = false := by decide) (he : starEach (e :: es) X.env = (false, eval e X.env) :: starEach es X.env := by rfl) (hpl : (backTo pos (starEach es X.env)).any (·.1) = false := by rfl) :
    PE X (.Call (.Name x p) (e :: es) [] pos) (tD Δ d) :=
  PE.d (pe_call F hr hg hm hk hb .nil hx ha hdb he hpl) fun σ H Q sl k => ⟨sl, fun vs H1 e1 r1 _ => ⟨ds, d, by rw [List.append_nil]; exact r1, hR, fun v H2 e2 r2 => k v H2 (e1.trans e2) r2⟩⟩
theorem ev_callP0 {CX : CXT} {k : Nat} {f : Addr} {fd : FuncData} {ps : List Str} {R : List D → D → Prop} {E : XK} {x : Str} {p : Pos} (F : FnOk X.prog X.w X.K X.mg X.base CX k f fd ps (spD R)) (hr : Room k X.A) (hm : X.mg x = some (.ref f)) (hk : PySem.W.keepIn X.K (.ref f) = true) (hb : Binds X.K fd ps []) (hx : Passes CX X E)
    (hR : R [] d) (hg : Gl X x := by rfl) (hdb : (x == ("__debug__" : Str)) = false := by decide) :
    PE X (.Call (.Name x p) [] [] pos) (tD Δ d) :=
  PE.d (pe_call0 F hr hg hm hk hb .nil hx hdb) fun σ H Q sl k => ⟨[], d, .nil, hR, fun v H2 e2 r2 => k v H2 e2 r2⟩
/-- a built-in -/
def CallD (r : List V → Hp → VK → Prop) (ds : List D) (d : D) : Prop := ∀ (H : Hp) (vs : List V) (Q : VK), RpAll H vs ds → (∀ v H', Same H H' → Rp H' v d → Q v H') → r vs H Q
theorem ev_callB {id : String} {r : List V → Hp → VK → Prop} {ds : List D} {x : Str} {p : Pos} (hc : CallR X (.builtin id) r) (hr : CallD r ds d) (hm : X.mg x = none) (hv : bootBuiltins x = some (.builtin id)) (ha : PA X (e :: es) (tDA Δ ds)) (hg : Gl X x := by rfl) (hn : x ≠ "__name__" := by decide) (hdb : (x == ("__debug__" : Str)) = false := by decide)
    (he : starEach (e :: es) X.env = (false, eval e X.env) :: starEach es X.env := by rfl) (hpl : (backTo pos (starEach es X.env)).any (·.1) = false := by rfl) : PE X (.Call (.Name x p) (e :: es) [] pos) (tD Δ d) :=
  PE.d (pe_callB hc hg hm hv ha hn hdb he hpl) fun σ H Q sl k => ⟨sl, fun vs H1 e1 r1 _ => hr H1 vs Q r1 fun v H2 e2 r2 => k v H2 (e1.trans e2) r2⟩
theorem ev_callTy {T : String} {r : List V → Hp → VK → Prop} {ds : List D} {x : Str} {p : Pos} (hc : CallR X (.type T) r) (hr : CallD r ds d) (hm : X.mg x = none) (hv : bootBuiltins x = some (.type T)) (ha : PA X (e :: es) (tDA Δ ds)) (hg : Gl X x := by rfl) (hn : x ≠ "__name__" := by decide) (hdb : (x == ("__debug__" : Str)) = false := by decide)
    (he : starEach (e :: es) X.env = (false, eval e X.env) :: starEach es X.env := by rfl) (hpl : (backTo pos (starEach es X.env)).any (·.1) = false := by rfl) : PE X (.Call (.Name x p) (e :: es) [] pos) (tD Δ d) :=
  PE.d (pe_callTy hc hg hm hv ha hn hdb he hpl) fun σ H Q sl k => ⟨sl, fun vs H1 e1 r1 _ => hr H1 vs Q r1 fun v H2 e2 r2 => k v H2 (e1.trans e2) r2⟩
theorem cd_len {ds : List D} : CallD (fun xs H Q => ∃ p ys, xs = [.ref p] ∧ (SqL X.K H p ys ∨ SqT X.K H p ys) ∧ Q (.int ys.length) H) [.lst ds] (.int (ds.length : Int)) := fun H vs Q r k => by
  cases r with
  | cons r1 r2 =>
    cases r2
    cases r1 with
    | lst ha hs =>
      refine ⟨_, _, rfl, .inl (SqL.of ha), ?_⟩
      rw [hs.length]
      exact k _ H (Same.refl H) (.int _)
theorem ev_len {ds : List D} {p : Pos} (hm : X.mg "len" = none) (ha : PE X e (tD Δ (.lst ds))) (hg : Gl X "len" := by rfl) (hs : starEach [e] X.env = (false, eval e X.env) :: starEach [] X.env := by rfl) (hpl : (backTo pos (starEach [] X.env)).any (·.1) = false := by rfl) : PE X (.Call (.Name "len" p) [e] [] pos) (tD Δ (.int (ds.length : Int))) :=
  ev_callB call_len_seq (cd_len (X := X)) hm PySem.boot_len (ea_cons ha ea_nil hs) hg (by decide) (by decide) hs hpl
theorem RpAll.bls {H : Hp} : ∀ {vs : List V} {bs : List Bool}, RpAll H vs (bs.map D.bl) → vs = bs.map V.bl
  | _, [], h => by cases h; rfl
  | _, n :: ns, h => by
    cases h with
    | cons h1 h2 =>
      cases h1
      rw [List.map_cons, RpAll.bls h2]
theorem cd_any {bs : List Bool} : CallD (rAny X.K) [.lst (bs.map D.bl)] (.bl (bs.any id)) := fun H vs Q r k => by
  cases r with
  | cons r1 r2 =>
    cases r2
    cases r1 with
    | lst ha hs =>
      have e := hs.bls
      subst e
      exact ⟨_, bs, rfl, SqL.of ha, k _ H (Same.refl H) (.bl _)⟩
theorem cd_tupleL {ds : List D} : CallD (fun xs H Q => ∃ p ys, xs = [.ref p] ∧ ((SqL X.K H p ys ∧ ∀ l, H l = none → Q (.ref l) (upd H l (.tup ys))) ∨ (SqT X.K H p ys ∧ Q (.ref p) H))) [.lst ds] (.tup ds) := fun H vs Q r k => by
  cases r with
  | cons r1 r2 =>
    cases r2
    cases r1 with
    | lst ha hs => exact ⟨_, _, rfl, .inl ⟨SqL.of ha, fun l hl => k _ _ (Same.new hl) (.tup upd_same (hs.mono (Same.new hl)))⟩⟩
end
end Ow
/-! Rules for pure code over data: blocks, targets, comprehensions, a def's promise. -/
namespace Ow
open PySem PySem.Spec PyProof.Rows L2

/-! ### data in which no list lies -/
mutual
def flatD : D → Bool
  | .lst _ => false
  | .dic _ _ => false
  | .ins _ _ _ => false
  | .tup ds => flatDs ds
  | .non => true
  | .bl _ => true
  | .int _ => true
def flatDs : List D → Bool
  | [] => true
  | d :: ds => flatD d && flatDs ds
end
/-- the tuples of H stand in H' -/
def SameT (H H' : Hp) : Prop := ∀ b xs, H b = some (.tup xs) → H' b = some (.tup xs)
mutual
theorem Rp.keepT {H H' : Hp} (e : SameT H H') : ∀ (d : D) (v : V), flatD d = true → Rp H v d → Rp H' v d
  | .non, _, _, h => by cases h; exact .non
  | .bl _, _, _, h => by cases h; exact .bl _
  | .int _, _, _, h => by cases h; exact .int _
  | .lst ds, _, f, h => by cases f
  | .tup ds, _, f, h => by
    cases h with
    | tup ha hs => exact .tup (e _ _ ha) (RpAll.keepT e ds _ (by unfold flatD at f; exact f) hs)
  | .dic ks ds, _, f, h => by cases f
  | .ins C ns ds, _, f, h => by cases f
theorem RpAll.keepT {H H' : Hp} (e : SameT H H') : ∀ (ds : List D) (vs : List V), flatDs ds = true → RpAll H vs ds → RpAll H' vs ds
  | [], _, _, h => by cases h; exact .nil
  | d :: ds, _, f, h => by
    unfold flatDs at f
    rw [Bool.and_eq_true] at f
    cases h with
    | cons h1 h2 => exact .cons (Rp.keepT e d _ f.1 h1) (RpAll.keepT e ds _ f.2 h2)
end
theorem SameT.of {H H' : Hp} (e : Same H H') : SameT H H' := fun b xs h => e b _ h
theorem SameT.updK {H : Hp} {p : Addr} {o o' : HO} (h : H p = some o) (n : ∀ xs, o ≠ .tup xs) : SameT H (upd H p o') := fun b xs e => by
  rw [upd_ne]
  · exact e
  · intro z
    subst z
    rw [h] at e
    exact n xs (Option.some.inj e)
theorem SameT.lst {H : Hp} {p : Addr} {xs : List V} {o' : HO} (h : H p = some (.lst xs)) : SameT H (upd H p o') := SameT.updK h fun _ z => nomatch z
theorem flatDs_all : ∀ {ds : List D}, (∀ d ∈ ds, flatD d = true) → flatDs ds = true
  | [], _ => rfl
  | d :: ds, h => by
    unfold flatDs
    rw [h d List.mem_cons_self, flatDs_all fun e he => h e (List.mem_cons_of_mem _ he)]
    rfl

/-! ### a block that hands back d -/
def tSD (Δ : Sd) (d : D) : TS := fun En σ H => Sl H σ Δ ∧ ∀ v H', Same H H' → Rp H' v d → En.rt v H'
section
variable {X : Cx} {e c : Expr} {body rest : List Stmt} {pos : Pos} {Δ : Sd} {d d1 : D}
theorem sd_ret (h : PE X e (tD Δ d)) : PSs X [.Return (some e) pos] (tSD Δ d) :=
  (pss_one (ps_ret h)).imp fun En σ H q => ⟨q.1, fun v H' e r _ => q.2 v H' e r⟩
theorem sd_set {i : Nat} {x : Str} {p : Pos} (hN : X.N.Nodup) (he : PE X e (tD Δ d1)) (h : PSs X rest (tSD (Δ.set i (some d1)) d)) (hi : X.N[i]? = some x := by rfl) (hx : Loc X.env.scope x := by first | exact Or.inl rfl | exact Or.inr rfl)
    (hs : swapsWith e (some (.Name x p)) pos.line X.env = pure false := by rfl) (hf : X.fn x = true ∨ X.env.scope.names.lookup x = some .local := by first | exact .inl rfl | exact .inr rfl) : PSs X (.Assign [.Name x p] e pos :: rest) (tSD Δ d) :=
  (pss_cons (ps_set hN hi hx he hs hf) h).imp fun En σ H q => ⟨q.1, fun v H1 e1 r1 _ => ⟨(q.1.mono e1).set i r1, fun v2 H2 e2 r2 => q.2 v2 H2 (e1.trans e2) r2⟩⟩
/-- if c: (a suite that hands back) .. -/
theorem sd_if {b : Bool} (hc : PT X c (tDT Δ b)) (h1 : b = true → PSs X body (tSD Δ d)) (h2 : b = false → PSs X rest (tSD Δ d)) : PSs X (.If c body [] pos :: rest) (tSD Δ d) :=
  (pss_cons (ps_if hc (PSs.when h1) pss_nil) (PSs.when h2)).imp fun En σ H q => ⟨q.1, fun H1 e1 => by
    cases b with
    | true => exact ⟨rfl, q.1.mono e1, fun v H2 e2 r2 => q.2 v H2 (e1.trans e2) r2⟩
    | false => exact ⟨rfl, q.1.mono e1, fun v H2 e2 r2 => q.2 v H2 (e1.trans e2) r2⟩⟩
theorem PSs.to {d' : D} (h : PSs X rest (tSD Δ d)) (q : d = d') : PSs X rest (tSD Δ d') := q ▸ h
theorem PSs.slots {Δ' : Sd} (h : PSs X rest (tSD Δ' d)) (q : Δ = Δ') : PSs X rest (tSD Δ d) := q ▸ h

/-! ### targets -/
def gNames : List Nat → TGs
  | [] => gNil
  | j :: js => gCons (gName j) (gNames js)
def setAll (Δ : Sd) : List Nat → List D → Sd
  | j :: js, d :: ds => setAll (Δ.set j (some d)) js ds
  | _, _ => Δ
theorem gNames_run {G H : Hp} {Q : L2.St → Hp → Prop} : ∀ {js : List Nat} {vs : List V} {ds : List D} {σ : L2.St} {Δ : Sd}, js.length = ds.length → RpAll G vs ds → Sl G σ Δ → (∀ σ', Sl G σ' (setAll Δ js ds) → (∀ us, (∀ j ∈ js, j ∈ us) → wipe σ' us = wipe σ us) → (∀ m, m ∉ js → σ'[m]? = σ[m]?) → Q σ' H) → gNames js vs σ H Q
  | [], _, [], σ, Δ, _, r, sl, k => by
    cases r
    exact ⟨rfl, k σ sl (fun _ _ => rfl) fun _ _ => rfl⟩
  | j :: js, _, d :: ds, σ, Δ, hl, r, sl, k => by
    cases r with
    | @cons v vs _ _ r1 r2 =>
      refine ⟨v, vs, rfl, ?_⟩
      refine gNames_run (js := js) (ds := ds) (Nat.succ.inj hl) r2 (sl.set j r1) fun σ' s' hw ho => k σ' s' (fun us hu => ?_) fun m hm => ?_
      · rw [hw us fun m hm => hu m (List.mem_cons_of_mem _ hm)]
        have hj := hu j List.mem_cons_self
        clear hu hw
        induction us with
        | nil => cases hj
        | cons u us ih =>
          unfold wipe
          by_cases h : j ∈ us
          · rw [ih h]
          · have e : j = u := (List.mem_cons.mp hj).resolve_right h
            subst e
            have go : ∀ (us : List Nat) (σ : L2.St), j ∉ us → wipe (σ.set j (some v)) us = (wipe σ us).set j (some v) := by
              intro us
              induction us with
              | nil => intro σ _; rfl
              | cons u us ih =>
                intro σ hn
                unfold wipe
                rw [ih σ fun z => hn (List.mem_cons_of_mem _ z), List.set_comm _ _ (fun z => hn (by rw [z]; exact List.mem_cons_self))]
            rw [go us σ h, List.set_set]
      · rw [ho m fun z => hm (List.mem_cons_of_mem _ z), List.getElem?_set_ne fun z => hm (by rw [z]; exact List.mem_cons_self)]
/-- unpacking a tuple, a list -/
theorem sd_unpT {es : List Expr} {n : Nat} {js : List Nat} {ds : List D} {p : Pos} (hc : X.calm = true) (he : PE X e (tD Δ (.tup ds))) (hg : PGs X es (gNames js)) (h : PSs X rest (tSD (setAll Δ js ds) d)) (hl : js.length = ds.length := by rfl)
    (hn : (assignEach es X.env).length = ds.length := by rfl) (hst : (assignEach es X.env).findIdx? (·.1) = none := by rfl) (hs : swapsWithSole [.Tuple es n p] e pos.line X.env = pure false := by rfl) (hw : swappedStores [.Tuple es n p] e X.env = pure none := by rfl)
    (h1 : (assignEach [.Tuple es n p] X.env).map (·.2) = [assign (.Tuple es n p) X.env] := by rfl) : PSs X (.Assign [.Tuple es n p] e pos :: rest) (tSD Δ d) :=
  (pss_cons (ps_asg he (pg_tup hc hg hn hst) hs hw h1) h).imp fun En σ H q => ⟨q.1, fun v H1 e1 r1 _ => by
    cases r1 with
    | tup ha hr => exact ⟨_, _, rfl, SqT.of ha, hr.length, gNames_run hl hr (q.1.mono e1) fun σ' s' _ _ => ⟨s', fun v2 H2 e2 r2 => q.2 v2 H2 (e1.trans e2) r2⟩⟩⟩
theorem sd_unpL {es : List Expr} {n : Nat} {js : List Nat} {ds : List D} {p : Pos} (hc : X.calm = true) (he : PE X e (tD Δ (.lst ds))) (hg : PGs X es (gNames js)) (h : PSs X rest (tSD (setAll Δ js ds) d)) (hl : js.length = ds.length := by rfl)
    (hn : (assignEach es X.env).length = ds.length := by rfl) (hst : (assignEach es X.env).findIdx? (·.1) = none := by rfl) (hs : swapsWithSole [.Tuple es n p] e pos.line X.env = pure false := by rfl) (hw : swappedStores [.Tuple es n p] e X.env = pure none := by rfl)
    (h1 : (assignEach [.Tuple es n p] X.env).map (·.2) = [assign (.Tuple es n p) X.env] := by rfl) : PSs X (.Assign [.Tuple es n p] e pos :: rest) (tSD Δ d) :=
  (pss_cons (ps_asg he (pg_unl hc hg hn hst) hs hw h1) h).imp fun En σ H q => ⟨q.1, fun v H1 e1 r1 _ => by
    cases r1 with
    | lst ha hr => exact ⟨_, _, rfl, SqL.of ha, hr.length, gNames_run hl hr (q.1.mono e1) fun σ' s' _ _ => ⟨s', fun v2 H2 e2 r2 => q.2 v2 H2 (e1.trans e2) r2⟩⟩⟩
theorem gs_nil : PGs X [] (gNames []) := pgs_nil
theorem gs_cons {es : List Expr} {i : Nat} {js : List Nat} {x : Str} (hN : X.N.Nodup) (h2 : PGs X es (gNames js)) (hi : X.N[i]? = some x := by rfl) (hx : Loc X.env.scope x := by first | exact Or.inl rfl | exact Or.inr rfl)
    (hf : X.fn x = true ∨ X.env.scope.names.lookup x = some .local := by first | exact .inl rfl | exact .inr rfl) (hs : (assignEach (.Name x pos :: es) X.env).map (·.2) = assign (.Name x pos) X.env :: (assignEach es X.env).map (·.2) := by rfl) : PGs X (.Name x pos :: es) (gNames (i :: js)) :=
  pgs_cons (pg_name hN hi hx hf) h2 hs

/-! ### what a comprehension walks -/
structure Src (J : It) (H1 : Hp) (ds : List D) : Prop where
  go : ∀ i H', Same H1 H' → i < ds.length → J.go i H'
  yld : ∀ i H' x H'', Same H1 H' → J.yld i H' x H'' → ∀ d, ds[i]? = some d → H'' = H' ∧ Rp H' x d
  stop : ∀ H', Same H1 H' → J.stop ds.length H'
def tI (Δ : Sd) (ds : List D) : TI := fun σ H R => Sl H σ Δ ∧ ∀ J H1, Same H H1 → ds.length ≤ sizeLine → Src J H1 ds → R J H1
theorem PI.imp {tg iter : Expr} {wi wi' : TI} (h : PI X tg iter wi) (i : ∀ σ H R, wi' σ H R → wi σ H R) : PI X tg iter wi' := ⟨fun pins s σ H R I q => h.run pins s σ H R I (i σ H R q)⟩
theorem src_list {K : PySem.W.Frag} {H1 : Hp} {a : Addr} {xs : List V} {ds : List D} (ha : H1 a = some (.lst xs)) (r : RpAll H1 xs ds) : Src (Itl K a) H1 ds where
  go := fun i H' e hi => ⟨xs, xs[i]'(by rw [r.length]; exact hi), SqL.of (e _ _ ha), List.getElem?_eq_getElem _⟩
  yld := fun i H' x H'' e y d hd => by
    obtain ⟨rfl, y⟩ := y
    obtain ⟨v, h1, h2⟩ := r.get hd
    have e1 := y xs (SqL.of (e _ _ ha))
    rw [h1] at e1
    cases e1
    exact ⟨rfl, h2.mono e⟩
  stop := fun H' e => ⟨xs, SqL.of (e _ _ ha), by rw [r.length]; exact Nat.le_refl _⟩
theorem it_list {tg iter : Expr} {ds : List D} (h : PE X iter (tD Δ (.lst ds))) : PI X tg iter (tI Δ ds) :=
  PI.imp (pi_list h) fun σ H R q => ⟨q.1, fun v H1 e1 r1 s1 => by
    cases r1 with
    | lst ha hs =>
      refine ⟨_, rfl, ⟨_, SqL.of ha⟩, q.2 _ H1 e1 ?_ (src_list ha hs)⟩
      rw [← hs.length]
      exact s1 _ _ ha⟩
theorem src_range {H1 : Hp} {n : Nat} : Src (Itr 0 n) H1 ((List.range n).map fun k : Nat => D.int (k : Int)) where
  go := fun i H' e hi => by
    show i < n
    simpa using hi
  yld := fun i H' x H'' e y d hd => by
    obtain ⟨rfl, y⟩ := y
    subst y
    refine ⟨rfl, ?_⟩
    rw [List.getElem?_map] at hd
    cases q : (List.range n)[i]? with
    | none =>
      rw [q] at hd
      cases hd
    | some k =>
      rw [q] at hd
      cases hd
      have hk : k = i := by
        obtain ⟨hi, e⟩ := List.getElem?_eq_some_iff.mp q
        rw [List.getElem_range] at e
        exact e.symm
      subst hk
      have e0 : (0 : Int) + ((k : Nat) : Int) = (k : Int) := Int.zero_add _
      rw [e0]
      exact .int _
  stop := fun H' e => by
    show n ≤ _
    simp
theorem it_range {tg e1 : Expr} {p : Pos} {n : Nat} (hm : X.mg "range" = none) (h : PE X e1 (tD Δ (.int (n : Int)))) (hn : n ≤ 1000 := by decide) (hg : Gl X "range" := by rfl) (hs : starEach [e1] X.env = [(false, eval e1 X.env)] := by rfl) : PI X tg (.Call (.Name "range" p) [e1] [] pos) (tI Δ ((List.range n).map fun k : Nat => D.int (k : Int))) :=
  PI.imp (pi_range1 hg hm (ea_cons h ea_nil hs) hs) fun σ H R q => ⟨q.1, fun vs H1 e1 r1 _ => by
    cases r1 with
    | cons r1 r2 =>
      cases r2
      cases r1
      refine ⟨_, rfl, by omega, by omega, ?_⟩
      have e : ((n : Int)).toNat = n := Int.toNat_natCast n
      rw [e]
      refine q.2 _ H1 e1 ?_ src_range
      rw [List.length_map, List.length_range, sizeLine_eq]
      omega⟩
theorem src_rangeC {H1 : Hp} {lo c : Int} {n : Nat} : Src (Itc lo c n) H1 ((List.range n).map fun k : Nat => D.int (lo + (k : Int) * c)) where
  go := fun i H' e hi => by
    show i < n
    simpa using hi
  yld := fun i H' x H'' e y d hd => by
    obtain ⟨rfl, y⟩ := y
    subst y
    refine ⟨rfl, ?_⟩
    rw [List.getElem?_map] at hd
    cases q : (List.range n)[i]? with
    | none =>
      rw [q] at hd
      cases hd
    | some k =>
      rw [q] at hd
      cases hd
      have hk : k = i := by
        obtain ⟨hi, e⟩ := List.getElem?_eq_some_iff.mp q
        rw [List.getElem_range] at e
        exact e.symm
      subst hk
      exact .int _
  stop := fun H' e => by
    show n ≤ _
    simp
theorem it_range3 {tg a b c : Expr} {p : Pos} {i j k : Int} {n : Nat} (hm : X.mg "range" = none) (ha : PE X a (tD Δ (.int i))) (hb : PE X b (tD Δ (.int j))) (hc : PE X c (tD Δ (.int k))) (hR : RgC i j k n) (hn : n ≤ 1000) (hg : Gl X "range" := by rfl)
    (hs : starEach [a, b, c] X.env = (false, eval a X.env) :: starEach [b, c] X.env := by rfl) (hs2 : starEach [b, c] X.env = (false, eval b X.env) :: starEach [c] X.env := by rfl) (hs3 : starEach [c] X.env = (false, eval c X.env) :: starEach [] X.env := by rfl)
    (hpl : (backTo pos (starEach [b, c] X.env)).any (·.1) = false := by rfl) : PI X tg (.Call (.Name "range" p) [a, b, c] [] pos) (tI Δ ((List.range n).map fun m : Nat => D.int (i + (m : Int) * k))) :=
  PI.imp (pi_range3 hg hm (ea_cons ha (ea_cons hb (ea_cons hc ea_nil hs3) hs2) hs) hs hpl) fun σ H R q => ⟨q.1, fun vs H1 e1 r1 _ => by
    cases r1 with
    | cons r1 r2 =>
      cases r2 with
      | cons r2 r3 =>
        cases r3 with
        | cons r3 r4 =>
          cases r4
          cases r1
          cases r2
          cases r3
          refine ⟨_, _, _, n, rfl, hR, q.2 _ H1 e1 ?_ src_rangeC⟩
          rw [List.length_map, List.length_range, sizeLine_eq]
          omega⟩

/-! ### comprehensions -/
/-- a target that stores what stands for d -/
structure GD (g : TG) (vs : List Nat) (Δ : Sd) (d : D) (Δ' : Sd) : Prop where
  run : ∀ (v : V) (σ : L2.St) (G H : Hp) (Q : L2.St → Hp → Prop), Same G H → Rp G v d → Sl G σ Δ → (∀ σ2, wipe σ2 vs = wipe σ vs → (∀ m, m ∉ vs → σ2[m]? = σ[m]?) → Sl G σ2 Δ' → Q σ2 H) → g v σ H Q
theorem gd_name {j : Nat} : GD (gName j) [j] Δ d (Δ.set j (some d)) := ⟨fun v σ G H Q _ r sl k => k _ (by unfold wipe; unfold wipe; rw [List.set_set]) (fun m hm => List.getElem?_set_ne (by simpa using Ne.symm (by simpa using hm))) (sl.set j r)⟩
theorem gd_tup {K : PySem.W.Frag} {js vs : List Nat} {ds : List D} {n : Nat} (hl : js.length = ds.length) (hn : ds.length = n) (hv : ∀ j ∈ js, j ∈ vs) : GD (gTup K n (gNames js)) vs Δ (.tup ds) (setAll Δ js ds) := ⟨fun v σ G H Q e r sl k => by
  cases r with
  | tup ha hr => exact ⟨_, _, rfl, SqT.of (e _ _ ha), hr.length.trans hn, gNames_run hl hr sl fun σ' s' hw ho => k σ' (hw vs hv) (fun m hm => ho m fun z => hm (hv m z)) s'⟩⟩
def PvD (H1 : Hp) (Dl : Addr) (out : Nat → List D) (i : Nat) (H' : Hp) : Prop := Same H1 H' ∧ ∃ acc, H' Dl = some (.lst acc) ∧ RpAll H' acc (out i)
theorem wipe_wipe {σ : L2.St} : ∀ vs : List Nat, wipe (wipe σ vs) vs = wipe σ vs := by
  intro vs
  have key : ∀ (us : List Nat) (τ : L2.St) (i : Nat), i ∈ us → (wipe τ us)[i]? = none ∨ (wipe τ us)[i]? = some none := by
    intro us
    induction us with
    | nil => intro τ i h; cases h
    | cons u us ih =>
      intro τ i h
      unfold wipe
      by_cases e : u = i
      · subst e
        by_cases hl : u < (wipe τ us).length
        · exact .inr (List.getElem?_set_self hl)
        · exact .inl (List.getElem?_eq_none (by rw [List.length_set]; omega))
      · rw [List.getElem?_set_ne e]
        exact ih τ i ((List.mem_cons.mp h).resolve_left (Ne.symm e))
  have out : ∀ (us : List Nat) (τ : L2.St) (i : Nat), i ∉ us → (wipe τ us)[i]? = τ[i]? := by
    intro us
    induction us with
    | nil => intro τ i _; rfl
    | cons u us ih =>
      intro τ i h
      unfold wipe
      rw [List.getElem?_set_ne (fun z => h (by rw [z]; exact List.mem_cons_self))]
      exact ih τ i fun z => h (List.mem_cons_of_mem _ z)
  refine List.ext_getElem? fun i => ?_
  by_cases h : i ∈ vs
  · have h1 := key vs σ i h
    have h2 := key vs (wipe σ vs) i h
    have l : (wipe (wipe σ vs) vs).length = (wipe σ vs).length := wipe_length _ _
    rcases h1 with h1 | h1
    · rw [h1]
      rw [List.getElem?_eq_none_iff] at h1 ⊢
      rw [l]
      exact h1
    · rcases h2 with h2 | h2
      · rw [List.getElem?_eq_none_iff, l, ← List.getElem?_eq_none_iff, h1] at h2
        cases h2
      · rw [h1, h2]
  · exact out vs _ i h
theorem out_next {α : Type} {ls : List α} {f : α → Bool} {g : α → D} {i : Nat} {a : α} (h : ls[i]? = some a) :
    ((ls.take (i + 1)).filter f).map g = if f a = true then ((ls.take i).filter f).map g ++ [g a] else ((ls.take i).filter f).map g := by
  have e : ls.take (i + 1) = ls.take i ++ [a] := by
    rw [List.take_add_one, h]
    rfl
  rw [e, List.filter_append, List.map_append]
  by_cases hf : f a = true
  · rw [if_pos hf, List.filter_cons_of_pos hf]
    rfl
  · rw [if_neg hf, List.filter_cons_of_neg hf]
    show _ ++ [] = _
    rw [List.append_nil]
/-- the reading of a comprehension from data -/
theorem tLc_new {α : Type} {ls : List α} {enc : α → D} {f : α → Bool} {out : α → D} {Δ' : α → Sd} {g : TG} {vs : List Nat} {σ : L2.St} {H : Hp} {Q : VK} (sl : Sl H σ Δ) (gd : ∀ a ∈ ls, GD g vs (wipeD Δ vs) (enc a) (Δ' a))
    (hf : ∀ a ∈ ls, f a = true → flatD (out a) = true) (k : ∀ Dl acc H', H Dl = none → Same H H' → H' Dl = some (.lst acc) → RpAll H' acc ((ls.filter f).map out) → Q (.ref Dl) H') :
    tLc (tI Δ (ls.map enc)) g (fun σ H Q => ∃ a, a ∈ ls ∧ tDT (Δ' a) (f a) σ H Q) (fun σ H Q => ∃ a, (a ∈ ls ∧ f a = true) ∧ tD (Δ' a) (out a) σ H Q) vs σ H Q := by
  refine ⟨sl, fun J H1 e1 hz S Dl hD => ?_⟩
  have hlen : (ls.map enc).length = ls.length := List.length_map _
  rw [hlen] at hz
  refine ⟨fun i m H' => m = ls.length - i ∧ i ≤ ls.length ∧ PvD H1 Dl (fun i => ((ls.take i).filter f).map out) i H', ⟨ls.length, by simp, Nat.zero_le _, Same.new hD, [], upd_same, .nil⟩, ?_⟩
  rintro i m H' ⟨rfl, hi, p1, acc, p2, p3⟩
  have sl' : Sl H' (wipe σ vs) (wipeD Δ vs) := (sl.mono (e1.trans p1)).wipe vs
  by_cases hlt : i < ls.length
  · refine .inr ⟨S.go i H' p1 (by rw [hlen]; exact hlt), PvD H1 Dl (fun i => ((ls.take i).filter f).map out) (i + 1), fun H'' p' => ⟨ls.length - (i + 1), by omega, rfl, hlt, p'⟩, fun x H'' y => ?_⟩
    have ha : ls[i]? = some ls[i] := List.getElem?_eq_getElem hlt
    have hm : ls[i] ∈ ls := List.getElem_mem hlt
    obtain ⟨rfl, rx⟩ := S.yld i H' x H'' p1 y (enc ls[i]) (by rw [List.getElem?_map, ha]; rfl)
    refine (gd _ hm).run x _ _ _ _ (Same.refl _) rx sl' fun σ2 hw _ s2 => ⟨by rw [hw, wipe_wipe], ls[i], hm, s2, fun H3 e3 => ?_⟩
    cases hfa : f ls[i] with
    | true =>
      refine ⟨ls[i], ⟨hm, hfa⟩, s2.mono e3, fun v H4 e4 r4 _ => ⟨acc, e4 _ _ (e3 _ _ p2), ?_, ?_⟩⟩
      · rw [p3.length, List.length_map]
        exact Nat.lt_of_le_of_lt (List.length_filter_le _ _) (by rw [List.length_take]; omega)
      · have hd : H4 Dl = some (.lst acc) := e4 _ _ (e3 _ _ p2)
        refine ⟨fun b o q => ?_, _, upd_same, ?_⟩
        · rw [upd_ne (ne_of_none q hD)]
          exact e4 _ _ (e3 _ _ (p1 _ _ q))
        · show RpAll _ _ (((ls.take (i + 1)).filter f).map out)
          rw [out_next ha, if_pos hfa]
          refine RpAll.append (RpAll.keepT (SameT.lst hd) _ _ (flatDs_all fun d hd' => ?_) ((p3.mono e3).mono e4)) (.cons (Rp.keepT (SameT.lst hd) _ _ (hf _ hm hfa) r4) .nil)
          obtain ⟨a, ha', rfl⟩ := List.mem_map.mp hd'
          have := List.mem_filter.mp ha'
          exact hf a (List.mem_of_mem_take this.1) this.2
    | false =>
      refine ⟨p1.trans e3, acc, e3 _ _ p2, ?_⟩
      show RpAll _ _ (((ls.take (i + 1)).filter f).map out)
      rw [out_next ha, if_neg (by rw [hfa]; exact Bool.false_ne_true)]
      exact p3.mono e3
  · have e : i = ls.length := by omega
    subst e
    refine .inl ⟨by rw [← hlen]; exact S.stop H' p1, k Dl acc H' (e1.free hD) (e1.trans p1) p2 ?_⟩
    have p3' : RpAll H' acc (((ls.take ls.length).filter f).map out) := p3
    rw [List.take_length] at p3'
    exact p3'
theorem tLc_d {α : Type} {ls : List α} {enc : α → D} {f : α → Bool} {out : α → D} {Δ' : α → Sd} {g : TG} {vs : List Nat} {σ : L2.St} {H : Hp} {Q : VK} (sl : Sl H σ Δ) (gd : ∀ a ∈ ls, GD g vs (wipeD Δ vs) (enc a) (Δ' a))
    (hf : ∀ a ∈ ls, f a = true → flatD (out a) = true) (k : ∀ v H', Same H H' → Rp H' v (.lst ((ls.filter f).map out)) → Q v H') :
    tLc (tI Δ (ls.map enc)) g (fun σ H Q => ∃ a, a ∈ ls ∧ tDT (Δ' a) (f a) σ H Q) (fun σ H Q => ∃ a, (a ∈ ls ∧ f a = true) ∧ tD (Δ' a) (out a) σ H Q) vs σ H Q :=
  tLc_new sl gd hf fun Dl acc H' _ e ha r => k _ H' e (.lst ha r)
theorem ev_lc {α : Type} {ls : List α} {enc : α → D} {f : α → Bool} {out : α → D} {Δ' : α → Sd} {g : TG} {elt tg iter : Expr} {ifs : List Expr} {scope : Scope} (own : List (Str × Nat)) (hc : X.calm = true) (hN : X.N.Nodup) (hi : PI X tg iter (tI Δ (ls.map enc))) (ok : BlkOk X.N X.env.scope scope own)
    (hg : ∀ (s : Shared) (H : Hp) (C : Addr) (cl : List (Str × Addr)) (fp : List Addr), PG (X.blk s H scope (compEnvC scope cl C X.env) fp) tg g) (gd : ∀ a ∈ ls, GD g (own.map (·.2)) (wipeD Δ (own.map (·.2))) (enc a) (Δ' a))
    (ht : ∀ (s : Shared) (H : Hp) (C : Addr) (cl : List (Str × Addr)) (fp : List Addr), ∀ a ∈ ls, PTs (X.blk s H scope (compEnvC scope cl C X.env) fp) ifs (tDT (Δ' a) (f a)))
    (he : ∀ (s : Shared) (H : Hp) (C : Addr) (cl : List (Str × Addr)) (fp : List Addr), ∀ a, a ∈ ls ∧ f a = true → PE (X.blk s H scope (compEnvC scope cl C X.env) fp) elt (tD (Δ' a) (out a)))
    (hf : ∀ a ∈ ls, f a = true → flatD (out a) = true) (hs : ∀ x, foldedSetIterable iter X.env x = pure x := by intro _; rfl) : PE X (.ListComp elt [⟨tg, iter, ifs, 0⟩] scope pos) (tD Δ (.lst ((ls.filter f).map out))) :=
  PE.d (pe_lc hc hN hi ok hg (fun s H C cl fp => PTs.some_ (ht s H C cl fp)) (fun s H C cl fp => PE.some_ (he s H C cl fp)) hs) fun σ H Q sl k => tLc_d sl gd hf k
/-- name = [..] on one line, the name a local -/
theorem sd_lc {α : Type} {ls : List α} {enc : α → D} {f : α → Bool} {out : α → D} {Δ' : α → Sd} {g : TG} {elt tg iter : Expr} {ifs : List Expr} {scope : Scope} {i : Nat} {y : Str} {py spos : Pos} (own : List (Str × Nat)) (hc : X.calm = true) (hN : X.N.Nodup) (hi : PI X tg iter (tI Δ (ls.map enc))) (ok : BlkOk X.N X.env.scope scope own)
    (hg : ∀ (s : Shared) (H : Hp) (C : Addr) (cl : List (Str × Addr)) (fp : List Addr), PG (X.blk s H scope (compEnvC scope cl C X.env) fp) tg g) (gd : ∀ a ∈ ls, GD g (own.map (·.2)) (wipeD Δ (own.map (·.2))) (enc a) (Δ' a))
    (ht : ∀ (s : Shared) (H : Hp) (C : Addr) (cl : List (Str × Addr)) (fp : List Addr), ∀ a ∈ ls, PTs (X.blk s H scope (compEnvC scope cl C X.env) fp) ifs (tDT (Δ' a) (f a)))
    (he : ∀ (s : Shared) (H : Hp) (C : Addr) (cl : List (Str × Addr)) (fp : List Addr), ∀ a, a ∈ ls ∧ f a = true → PE (X.blk s H scope (compEnvC scope cl C X.env) fp) elt (tD (Δ' a) (out a)))
    (hf : ∀ a ∈ ls, f a = true → flatD (out a) = true) (h : PSs X rest (tSD (Δ.set i (some (.lst ((ls.filter f).map out)))) d)) (hk : X.env.scope.kind = .function := by rfl) (hy : X.N[i]? = some y := by rfl) (hyl : X.env.scope.names.lookup y = some .local := by rfl) (hl : (py.line == pos.line) = true := by rfl)
    (hno : (scope.names.any fun (n, k) => n == y && (k == .local || k == .cell)) = false := by decide +kernel) (hs : ∀ x, foldedSetIterable iter X.env x = pure x := by intro _; rfl) : PSs X (.Assign [.Name y py] (.ListComp elt [⟨tg, iter, ifs, 0⟩] scope pos) spos :: rest) (tSD Δ d) :=
  (pss_cons (ps_setLc (i := i) hc hN hy hyl (sw_true hk hyl hl hno) hi ok hg (fun s H C cl fp => PTs.some_ (ht s H C cl fp)) (fun s H C cl fp => PE.some_ (he s H C cl fp)) hs) h).imp fun En σ H q => tLc_d (Q := fun x H1 => gName i x σ H1 (fun σ' H' => tSD (Δ.set i (some (.lst ((ls.filter f).map out)))) d En σ' H')) q.1 gd hf fun v H' e r => ⟨(q.1.mono e).set i r, fun v2 H2 e2 r2 => q.2 v2 H2 (e.trans e2) r2⟩
theorem ts_nil : PTs X [] (tDT Δ true) := ⟨fun pins s σ H Q I q => (pts_nil (X := X)).run pins s σ H Q I (q.2 H (Same.refl H))⟩
theorem ts_one {b : Bool} (h : PT X c (tDT Δ b)) : PTs X [c] (tDT Δ b) := pts_one h
end

/-! ### a def by its promise over data -/
structure CalD (P : Program) (w : World) (K : PySem.W.Frag) (mg : Str → Option Value) (base : Heap) (k : Nat) (x : Str) (R : List D → D → Prop) : Prop where
  ex : ∃ (f : Addr) (fd : FuncData) (ps : List Str), FnOk P w K mg base CX0 k f fd ps (spD R) ∧ mg x = some (.ref f) ∧ PySem.W.keepIn K (.ref f) = true ∧ Binds K fd ps []
section
variable {X : Cx} {e : Expr} {es : List Expr} {pos p : Pos} {Δ : Sd} {d : D} {ds : List D} {x : Str} {R : List D → D → Prop} {j k : Nat}
theorem ev_call (C : CalD X.prog X.w X.K X.mg X.base j x R) (hr : Room k X.A) (ha : PA X (e :: es) (tDA Δ ds)) (hR : R ds d) (hj : j ≤ k := by decide) (hg : Gl X x := by rfl) (hdb : (x == ("__debug__" : Str)) = false := by decide) (he : starEach (e :: es) X.env = (false, eval e X.env) :: starEach es X.env := by rfl) (hpl : (backTo pos (starEach es X.env)).any (·.1) = false := by rfl) :
    PE X (.Call (.Name x p) (e :: es) [] pos) (tD Δ d) := by
  obtain ⟨f, fd, ps, F, hm, hk, hb⟩ := C.ex
  exact ev_callP F (hr.mono hj) hm hk hb pass0 ha hR hg hdb he hpl
theorem ev_call0 (C : CalD X.prog X.w X.K X.mg X.base j x R) (hr : Room k X.A) (hR : R [] d) (hj : j ≤ k := by decide) (hg : Gl X x := by rfl) (hdb : (x == ("__debug__" : Str)) = false := by decide) :
    PE X (.Call (.Name x p) [] [] pos) (tD Δ d) := by
  obtain ⟨f, fd, ps, F, hm, hk, hb⟩ := C.ex
  exact ev_callP0 F (hr.mono hj) hm hk hb pass0 hR hg hdb
end
/-- where a def stands -/
structure Defn (K : PySem.W.Frag) (mg : Str → Option Value) (x : Str) (st : Stmt) : Prop where
  ex : ∃ (f : Addr) (fd : FuncData), Fun K x x st f fd ∧ mg x = some (.ref f)
/-- the context of a def's body -/
abbrev CtxD (P : Program) (w : World) (K : PySem.W.Frag) (mg : Str → Option Value) (base : Heap) (N : List Str) (qual : Str) (scope : Scope) (f : Addr) (cd : Value) (A : Around) (outer : List Env) (s : Shared) (H : Hp) (E : XK) : Cx := (cxOf CX0 P w K mg base N qual scope f cd A outer s H E).nox
theorem mkD {P : Program} {w : World} {K : PySem.W.Frag} {mg : Str → Option Value} {base : Heap} {x : Str} {st : Stmt} {N ps : List Str} {k : Nat} {R : List D → D → Prop} (F : Defn K mg x st) (S : FnScope N ps (defScope st))
    (hb : ∀ (kV doc pm : Value) (an : Option Addr) (cdv ct : Value) (us : List Value), us.length = ps.length → bindArgs (PySem.W.fnOf x x (defArgs st) (defBody st) (defScope st) .none kV doc pm an cdv ct) ⟨us, []⟩ = pure (ps.zip us))
    (len : ∀ ds d, R ds d → ds.length = ps.length)
    (body : ∀ (f : Addr) (cdv : Value) (A : Around) (outer : List Env) (s : Shared) (H : Hp) (E : XK), Room k (A.deeper (envOfC x (defScope st) s.heap.objs.size f cdv)) → ∀ ds d, R ds d → PSs (CtxD P w K mg base N x (defScope st) f cdv A outer s H E) (defBody st) (tSD (startD N ds) d)) :
    CalD P w K mg base (k + 1) x R := by
  obtain ⟨f, fd, G, hm⟩ := F.ex
  refine ⟨f, fd, ps, G.ok S (fun vs H Q E h => ?_) (fun cdv A outer s H vs Q E hr h => ?_), hm, G.kp, G.binds hb⟩
  · obtain ⟨ds, d, r, hR, _⟩ := h
    rw [r.length]
    exact len ds d hR
  · obtain ⟨ds, d, r, hR, q⟩ := h
    exact ⟨_, body f cdv A outer s H E hr ds d hR, Sl.start r, fun v H' e r' => q v H' e r'⟩
end Ow
/-! A list or a dict that a def fills: it is hidden while pure code runs. -/
namespace Ow
open PySem PySem.Spec PyProof.Rows L2

def Loose : HO → Bool
  | .lst _ => true
  | .dT _ => true
  | _ => false
theorem Loose.tup {o : HO} (l : Loose o = true) {xs : List V} : o ≠ .tup xs := fun z => by
  subst z
  cases l
theorem Loose.frz {o : HO} (l : Loose o = true) {u : Obj} {v : HO} : o ≠ .frz u v := fun z => by
  subst z
  cases l
theorem Loose.tbl {o : HO} (l : Loose o = true) {u : Array Value} : o ≠ .tbl u := fun z => by
  subst z
  cases l
theorem Loose.own {o : HO} (l : Loose o = true) {u : Addr} : o ≠ .own u := fun z => by
  subst z
  cases l
theorem ne_at {H : Hp} {a b : Addr} {o u : HO} (ha : H a = some o) (hb : H b = some u) (d : o ≠ u) : b ≠ a := fun z => by
  rw [z, ha] at hb
  exact d (Option.some.inj hb)
section
variable {X : Cx} {pins : List (Addr × Obj)} {σ σ' : L2.St} {H H' : Hp} {s s' : Shared} {p : Addr} {o : HO} {ob : Obj}
theorem loose_obj {P : Program} {w : World} {h : Heap} (x : ObjOk P w H h p o) (l : Loose o = true) : ∃ ob, h.get? p = some ob ∧ ∀ v, ob.data ≠ .cell v := by
  cases o with
  | lst xs =>
    obtain ⟨_, its, n, _, e⟩ := x
    exact ⟨_, e, fun v z => by cases z⟩
  | dT kvs =>
    obtain ⟨_, _, xs, _, ob, es, ep, e, _, d, _⟩ := x
    exact ⟨ob, e, fun v z => by rw [d] at z; cases z⟩
  | _ => cases l
/-- the object at p hidden -/
theorem Inv.hide (I : Inv X pins σ H s) (hp : H p = some o) (l : Loose o = true) (hob : s.heap.get? p = some ob) (hd : ∀ v, ob.data ≠ .cell v) : Inv X (pins ++ [(p, ob)]) σ (del H p) s := by
  have dn : ∀ {b : Addr}, H b = none → del H p b = none := fun {b} h => by
    unfold del
    split
    · rfl
    · exact h
  have ds : ∀ {b : Addr} {u : HO}, H b = some u → o ≠ u → del H p b = some u := fun {b u} h d => by
    rw [del_ne (ne_at hp h d)]
    exact h
  refine ⟨I.ok, I.os, I.bare, ⟨I.base.keep, I.base.slot, fun b u q n hx => dn (I.base.free b u q n hx), I.base.there, fun b xs q => ds (I.base.tups b xs q) (Loose.tup l), fun b u v q => ds (I.base.frzs b u v q) (Loose.frz l), fun b ps q => ?_⟩, I.loc, I.cell, dn I.free, fun x c e => dn (I.freeC x c e), fun q hq => ?_, fun b u q => ?_, I.len⟩
  · obtain ⟨more, e⟩ := I.base.tbls b ps q
    exact ⟨more, ds e (Loose.tbl l)⟩
  · rcases List.mem_append.mp hq with hq | hq
    · obtain ⟨e, n, ne, nf, d⟩ := I.pin q (List.mem_append_left _ hq)
      exact ⟨e, dn n, ne, nf, d⟩
    · rcases List.mem_append.mp hq with hq | hq
      · obtain ⟨e, n, ne, nf, d⟩ := I.pin q (List.mem_append_right _ hq)
        exact ⟨e, dn n, ne, nf, d⟩
      · have e : q = (p, ob) := by simpa using hq
        subst e
        refine ⟨hob, del_same, fun z => ?_, fun z => ?_, hd⟩
        · have z' : p = X.env.locals := z
          have := I.free
          rw [← z', hp] at this
          cases this
        · obtain ⟨_, u, hu, _⟩ := I.ok.funs.mem z
          have := I.base.free p u hu (I.ok.frf p z) fun y => I.ok.exfs p y z
          rw [hp] at this
          cases this
  · have hb : b ≠ p := fun z => by
      rw [z, del_same] at q
      cases q
    rw [del_ne hb] at q
    exact (I.hok b u q).stay (fun c v _ z => z) (fun c z => ds z (Loose.own l)) fun c xs z => ds z (Loose.tup l)
/-- .. and seen again -/
theorem Inv.show_ (I : Inv X pins σ H s) (hp : H p = some o) (l : Loose o = true) (hob : s.heap.get? p = some ob) (J : Inv X (pins ++ [(p, ob)]) σ' H' s') (st : SameT (del H p) H') : H' p = none ∧ Inv X pins σ' (upd H' p o) s' := by
  have jp := J.pin (p, ob) (List.mem_append_right _ (List.mem_append_right _ (by simp)))
  have hn : H' p = none := jp.2.1
  refine ⟨hn, ?_⟩
  have nn : ∀ {b : Addr}, H b = none → b ≠ p := fun {b} h z => by
    rw [z, hp] at h
    cases h
  have un : ∀ {b : Addr}, H b = none → H' b = none → upd H' p o b = none := fun {b} h h' => by
    rw [upd_ne (nn h)]
    exact h'
  have ue : ∀ {b : Addr} {u : HO}, H' b = some u → upd H' p o b = some u := fun {b u} h => by
    rw [upd_ne (ne_of_none h hn)]
    exact h
  have okp : ObjOk X.prog X.w (upd H' p o) s'.heap p o := by
    have x := I.hok p o hp
    cases o with
    | lst xs =>
      obtain ⟨z, its, n, r, e⟩ := x
      rw [e] at hob
      cases hob
      exact ⟨z, its, n, r, jp.1⟩
    | dT kvs =>
      obtain ⟨z, y, xs, r, ob', es, ep, e, c⟩ := x
      rw [e] at hob
      cases hob
      exact ⟨z, y, xs, Paired.mapP r fun a b q => ⟨q.1, ue (st _ _ (by rw [del_ne (ne_at hp q.2.1 (Loose.tup l))]; exact q.2.1)), q.2.2⟩, ob, es, ep, jp.1, c⟩
    | _ => cases l
  refine ⟨J.ok, J.os, J.bare, ⟨J.base.keep, J.base.slot, fun b u q n hx => un (I.base.free b u q n hx) (J.base.free b u q n hx), J.base.there, fun b xs q => ue (J.base.tups b xs q), fun b u v q => ue (J.base.frzs b u v q), fun b ps q => ?_⟩, J.loc, J.cell, un I.free J.free, fun x c e => un (I.freeC x c e) (J.freeC x c e), fun q hq => ?_, fun b u q => ?_, J.len⟩
  · obtain ⟨more, e⟩ := J.base.tbls b ps q
    exact ⟨more, ue e⟩
  · obtain ⟨e, n, ne, nf, d⟩ := J.pin q (by
      rcases List.mem_append.mp hq with h | h
      · exact List.mem_append_left _ h
      · exact List.mem_append_right _ (List.mem_append_left _ h))
    exact ⟨e, un (I.pin q hq).2.1 n, ne, nf, d⟩
  · by_cases hb : b = p
    · subst hb
      rw [upd_same] at q
      cases q
      exact okp
    · rw [upd_ne hb] at q
      exact (J.hok b u q).stay (fun c v _ z => z) (fun c z => ue z) fun c xs z => ue z
end
/-- a reading with the object at p hidden -/
def tFr (t : TE) : TE := fun σ H Q => ∃ p o, H p = some o ∧ Loose o = true ∧ t σ (del H p) fun v H' => SameT (del H p) H' ∧ (H' p = none → Q v (upd H' p o))
theorem _root_.L2.PE.frame {X : Cx} {e : Expr} {t : TE} (h : PE X e t) : PE X e (tFr t) := by
  refine ⟨fun pins s σ H Q I hq => ?_⟩
  obtain ⟨p, o, hp, l, q⟩ := hq
  obtain ⟨ob, hob, hd⟩ := loose_obj (I.hok p o hp) l
  refine thn (h.run _ s σ (del H p) _ (Inv.hide I hp l hob hd) q) fun u s' ⟨v, H', J, r, st, q'⟩ => ?_
  obtain ⟨hn, J'⟩ := Inv.show_ I hp l hob J st
  exact ⟨v, _, J', r, q' hn⟩
def tFrT (t : TT) : TT := fun σ H Q => ∃ p o, H p = some o ∧ Loose o = true ∧ t σ (del H p) fun v H' => SameT (del H p) H' ∧ (H' p = none → Q v (upd H' p o))
theorem _root_.L2.PT.frame {X : Cx} {e : Expr} {t : TT} (h : PT X e t) : PT X e (tFrT t) := by
  refine ⟨fun pins s σ H Q I hq => ?_⟩
  obtain ⟨p, o, hp, l, q⟩ := hq
  obtain ⟨ob, hob, hd⟩ := loose_obj (I.hok p o hp) l
  refine thn (h.run _ s σ (del H p) _ (Inv.hide I hp l hob hd) q) fun u s' ⟨H', J, st, q'⟩ => ?_
  obtain ⟨hn, J'⟩ := Inv.show_ I hp l hob J st
  exact ⟨_, J', q' hn⟩
theorem del_upd {H : Hp} {p : Addr} {o : HO} (h : H p = none) : del (upd H p o) p = H := by
  funext b
  unfold del
  by_cases hb : b = p
  · rw [if_pos hb, hb, h]
  · rw [if_neg hb, upd_ne hb]
theorem upd_del {H : Hp} {p : Addr} {o : HO} : upd (del H p) p o = upd H p o := by
  funext b
  by_cases hb : b = p
  · rw [hb, upd_same, upd_same]
  · rw [upd_ne hb, upd_ne hb, del_ne hb]
theorem same_del {H : Hp} {p : Addr} : Same (del H p) H := fun b o h => by
  have hb : b ≠ p := fun z => by
    rw [z, del_same] at h
    cases h
  rw [del_ne hb] at h
  exact h

/-! ### a slot that owns what is filled: C tells what is in it -/
structure Own (H : Hp) (σ : L2.St) (i : Nat) (Δ : Sd) (C : Hp → HO → Prop) (p : Addr) : Prop where
  at_ : σ[i]? = some (some (.ref p))
  sl : Sl (del H p) σ Δ
  ob : ∃ o, H p = some o ∧ Loose o = true ∧ C (del H p) o
/-- what the content says stays where the data stays -/
def Stays (C : Hp → HO → Prop) : Prop := ∀ G G' o, SameD G G' → C G o → C G' o
def Clst (ds : List D) : Hp → HO → Prop := fun G o => ∃ xs, o = .lst xs ∧ RpAll G xs ds
theorem stays_lst {ds : List D} : Stays (Clst ds) := fun G G' o e ⟨xs, h, r⟩ => ⟨xs, h, RpAll.keep e _ _ r⟩
def Cdic (ks : List (List Int)) (ds : List D) : Hp → HO → Prop := fun G o => ∃ kvs, o = .dT kvs ∧ kvs.map (·.1) = ks.map (List.map Sum.inl) ∧ RpAll G (kvs.map (·.2)) ds
theorem stays_dic {ks : List (List Int)} {ds : List D} : Stays (Cdic ks ds) := fun G G' o e ⟨xs, h, q, r⟩ => ⟨xs, h, q, RpAll.keep e _ _ r⟩
/-- a block of a loop's body -/
def tOB (i : Nat) (Δ : Sd) (C : Hp → HO → Prop) (Δ' : Sd) (C' : Hp → HO → Prop) : TS := fun En σ H => ∃ p, Own H σ i Δ C p ∧ ∀ σ' H', Same (del H p) (del H' p) → Own H' σ' i Δ' C' p → En.nx σ' H'
/-- a block that hands back d -/
def tOS (i : Nat) (Δ : Sd) (C : Hp → HO → Prop) (d : D) : TS := fun En σ H => ∃ p, Own H σ i Δ C p ∧ ∀ v H', Same (del H p) H' → Rp H' v d → En.rt v H'
section
variable {X : Cx} {e c : Expr} {body rest : List Stmt} {pos : Pos} {Δ Δ' Δ'' : Sd} {d d1 : D} {i : Nat} {C C' C'' : Hp → HO → Prop}
theorem tFr_d {σ : L2.St} {H : Hp} {Q : VK} {p : Addr} (sc : Stays C) (ow : Own H σ i Δ C p) (k : ∀ v H', Same (del H p) (del H' p) → Own H' σ i Δ C p → Rp (del H' p) v d → Sane (del H' p) → Q v H') : tFr (tD Δ d) σ H Q := by
  obtain ⟨at_, sl, o, hp, l, c⟩ := ow
  refine ⟨p, o, hp, l, sl, fun v H' e r s => ⟨SameT.of e, fun hn => ?_⟩⟩
  have ed : del (upd H' p o) p = H' := del_upd hn
  refine k v (upd H' p o) (by rw [ed]; exact e) ⟨at_, by rw [ed]; exact sl.mono e, o, upd_same, l, by rw [ed]; exact sc _ _ _ (.of e) c⟩ (by rw [ed]; exact r) (by rw [ed]; exact s)
theorem tFrT_d {σ : L2.St} {H : Hp} {Q : Bool → Hp → Prop} {p : Addr} {b : Bool} (sc : Stays C) (ow : Own H σ i Δ C p) (k : ∀ H', Same (del H p) (del H' p) → Own H' σ i Δ C p → Q b H') : tFrT (tDT Δ b) σ H Q := by
  obtain ⟨at_, sl, o, hp, l, c⟩ := ow
  refine ⟨p, o, hp, l, sl, fun H' e => ⟨SameT.of e, fun hn => ?_⟩⟩
  have ed : del (upd H' p o) p = H' := del_upd hn
  exact k (upd H' p o) (by rw [ed]; exact e) ⟨at_, by rw [ed]; exact sl.mono e, o, upd_same, l, by rw [ed]; exact sc _ _ _ (.of e) c⟩
/-- found = [] -/
theorem os_new {x : Str} {p1 p2 : Pos} (hN : X.N.Nodup) (h : PSs X rest (tOS i (Δ.set i none) (Clst []) d)) (hi : X.N[i]? = some x := by rfl) (hil : i < Δ.length := by exact Nat.le_of_ble_eq_true rfl) (hx : Loc X.env.scope x := by first | exact Or.inl rfl | exact Or.inr rfl)
    (hs : swapsWith (.List [] p1) (some (.Name x p2)) pos.line X.env = pure false := by rfl) (hf : X.fn x = true ∨ X.env.scope.names.lookup x = some .local := by first | exact .inl rfl | exact .inr rfl) : PSs X (.Assign [.Name x p2] (.List [] p1) pos :: rest) (tSD Δ d) :=
  (pss_cons (ps_set hN hi hx (pe_lst pa_nil) hs hf) h).imp fun En σ H q => ⟨Nat.zero_le _, fun p hp => by
    have ed : del (upd H p (.lst [])) p = H := del_upd hp
    refine ⟨p, ⟨List.getElem?_set_self (by rw [← q.1.len]; exact hil), by rw [ed]; exact q.1.unset i, _, upd_same, rfl, [], rfl, .nil⟩, fun v H' e r => q.2 v H' (by rw [ed] at e; exact e) r⟩⟩
/-- found = {} -/
theorem os_newD {x : Str} {p1 p2 : Pos} (hN : X.N.Nodup) (h : PSs X rest (tOS i (Δ.set i none) (Cdic [] []) d)) (hi : X.N[i]? = some x := by rfl) (hil : i < Δ.length := by exact Nat.le_of_ble_eq_true rfl) (hx : Loc X.env.scope x := by first | exact Or.inl rfl | exact Or.inr rfl)
    (hs : swapsWith (.Dict [] [] p1) (some (.Name x p2)) pos.line X.env = pure false := by rfl) (hf : X.fn x = true ∨ X.env.scope.names.lookup x = some .local := by first | exact .inl rfl | exact .inr rfl) : PSs X (.Assign [.Name x p2] (.Dict [] [] p1) pos :: rest) (tSD Δ d) :=
  (pss_cons (ps_set hN hi hx pe_dnewT hs hf) h).imp fun En σ H q => fun p hp => by
    have ed : del (upd H p (.dT [])) p = H := del_upd hp
    refine ⟨p, ⟨List.getElem?_set_self (by rw [← q.1.len]; exact hil), by rw [ed]; exact q.1.unset i, _, upd_same, rfl, [], rfl, rfl, .nil⟩, fun v H' e r => q.2 v H' (by rw [ed] at e; exact e) r⟩
/-- return found -/
theorem os_ret {ds : List D} {x : Str} {p : Pos} (hN : X.N[i]? = some x := by rfl) (hv : Vis X.env.scope x := by first | exact Or.inl rfl | exact Or.inr (Or.inl rfl)) (hd : (x == ("__debug__" : Str)) = false := by decide) (hcd : (x == ("__classdict__" : Str)) = false := by decide) : PSs X [.Return (some (.Name x p)) pos] (tOS i Δ (Clst ds) (.lst ds)) :=
  (pss_one (ps_ret (pe_var hN hv hd hcd))).imp fun En σ H ⟨p, ⟨at_, sl, o, hp, l, xs, ho, r⟩, k⟩ => ⟨_, at_, by
    subst ho
    exact k _ H same_del (.lst hp (r.mono same_del))⟩
theorem os_retD {ks : List (List Int)} {ds : List D} {x : Str} {p : Pos} (hN : X.N[i]? = some x := by rfl) (hv : Vis X.env.scope x := by first | exact Or.inl rfl | exact Or.inr (Or.inl rfl)) (hd : (x == ("__debug__" : Str)) = false := by decide) (hcd : (x == ("__classdict__" : Str)) = false := by decide) : PSs X [.Return (some (.Name x p)) pos] (tOS i Δ (Cdic ks ds) (.dic ks ds)) :=
  (pss_one (ps_ret (pe_var hN hv hd hcd))).imp fun En σ H ⟨p, ⟨at_, sl, o, hp, l, xs, ho, q, r⟩, k⟩ => ⟨_, at_, by
    subst ho
    exact k _ H same_del (.dic hp q (r.mono same_del))⟩
/-- for target in (a list by data): body -/
theorem os_for {α : Type} {ls : List α} {enc : α → D} {Cn : Nat → Hp → HO → Prop} {Δ' : α → Sd} {g : TG} {tg iter : Expr} (Δ0 : Sd) (vs : List Nat) (hp : PassesOwn (model X.prog X.w) X.A X.env X.xe) (hc : X.calm = true) (sc : ∀ n, Stays (Cn n)) (hi : PE X iter (tD Δ (.lst (ls.map enc)))) (hg : PG X tg g)
    (gd : ∀ a ∈ ls, GD g vs Δ0 (enc a) (Δ' a)) (hv : i ∉ vs) (hw : ∀ (σ : L2.St) H, Sl H σ Δ → Sl H σ Δ0)
    (hb : ∀ n a, ls[n]? = some a → PSs X body (tOB i (Δ' a) (Cn n) Δ0 (Cn (n + 1)))) (h : PSs X rest (tOS i Δ0 (Cn ls.length) d)) (hs : ∀ x, foldedSetIterable iter X.env x = pure x := by intro _; rfl) :
    PSs X (.For tg iter body [] pos :: rest) (tOS i Δ (Cn 0) d) := by
  refine (pss_cons (ps_for (wi := iList X.K (tFr (tD Δ (.lst (ls.map enc))))) (tb := fun En σ H => ∃ n a, ls[n]? = some a ∧ tOB i (Δ' a) (Cn n) Δ0 (Cn (n + 1)) En σ H) hp hc (pi_list hi.frame) hg ⟨fun pins s σ H En I ⟨n, a, ha, q⟩ => (hb n a ha).run pins s σ H En I q⟩ hs) h).imp fun En σ H ⟨p, ow, k⟩ => ?_
  have go : tFr (tD Δ (.lst (ls.map enc))) σ H (fun x H1 => ∃ a, x = .ref a ∧ (∃ xs, SqL X.K H1 a xs) ∧ ∃ W : Nat → Nat → L2.St → Hp → Prop, (∃ m, W 0 m σ H1) ∧ ∀ i' m σ H, W i' m σ H →
      ((Itl X.K a).stop i' H ∧ tOS i Δ0 (Cn ls.length) d En σ H) ∨ ((Itl X.K a).go i' H ∧ ∃ N : L2.St → Hp → Prop, (∀ σ' H', N σ' H' → ∃ m', m' < m ∧ W (i' + 1) m' σ' H') ∧ ∀ x H', (Itl X.K a).yld i' H x H' → g x σ H' fun σ2 H2 => ∃ n a, ls[n]? = some a ∧ tOB i (Δ' a) (Cn n) Δ0 (Cn (n + 1)) { nx := N, ct := N, bk := tOS i Δ0 (Cn ls.length) d En, rt := En.rt } σ2 H2)) := by
    refine tFr_d (sc 0) ow fun v H1 e1 ow1 r1 _ => ?_
    cases r1 with
    | @lst a xs _ ha hxs =>
      have hla : xs.length = ls.length := by rw [hxs.length, List.length_map]
      refine ⟨a, rfl, ⟨xs, SqL.of (same_del _ _ ha)⟩, fun n m σ' H' => m = xs.length - n ∧ n ≤ xs.length ∧ Same (del H1 p) (del H' p) ∧ Own H' σ' i Δ0 (Cn n) p, ⟨xs.length, by simp, Nat.zero_le _, Same.refl _, ow1.at_, hw _ _ ow1.sl, ow1.ob⟩, ?_⟩
      rintro n m σ' H' ⟨rfl, hn, w1, w2⟩
      have hq : SqL X.K H' a xs := SqL.of (same_del _ _ (w1 _ _ ha))
      by_cases hlt : n < xs.length
      · refine .inr ⟨⟨xs, xs[n], hq, List.getElem?_eq_getElem hlt⟩, fun σ3 H3 => Same (del H1 p) (del H3 p) ∧ Own H3 σ3 i Δ0 (Cn (n + 1)) p, fun σ3 H3 w3 => ⟨xs.length - (n + 1), by omega, rfl, hlt, w3⟩, fun x H'' y => ?_⟩
        obtain ⟨rfl, y⟩ := y
        obtain ⟨d', hd', rx⟩ := hxs.getV (y xs hq)
        rw [List.getElem?_map] at hd'
        cases hl : ls[n]? with
        | none =>
          rw [hl] at hd'
          cases hd'
        | some a' =>
          rw [hl] at hd'
          cases hd'
          obtain ⟨at_, sl, o, hpo, l, c⟩ := w2
          refine (gd a' (List.mem_of_getElem? hl)).run x σ' (del H'' p) H'' _ same_del (rx.mono w1) sl fun σ2 _ h2 s2 => ?_
          exact ⟨n, a', hl, p, ⟨(h2 i hv).trans at_, s2, o, hpo, l, c⟩, fun σ3 H3 e3 w3 => ⟨w1.trans e3, w3⟩⟩
      · have e : n = xs.length := by omega
        subst e
        rw [hla] at w2
        exact .inl ⟨⟨xs, hq, Nat.le_refl _⟩, p, w2, fun v H'' e r => k v H'' ((e1.trans w1).trans e) r⟩
  exact go
/-- for name in range(n): body -/
theorem os_forR {Cn : Nat → Hp → HO → Prop} {x : Str} {px pr pc : Pos} {e1 : Expr} {j n : Nat} (Δ0 : Sd) (hp : PassesOwn (model X.prog X.w) X.A X.env X.xe) (hc : X.calm = true) (sc : ∀ n, Stays (Cn n)) (hm : X.mg "range" = none) (hi : PE X e1 (tD Δ (.int (n : Int)))) (hn : n ≤ 1000) (hg : PG X (.Name x px) (gName j))
    (hv : i ≠ j) (hw : ∀ (σ : L2.St) H, Sl H σ Δ → Sl H σ Δ0)
    (hb : ∀ m, m < n → PSs X body (tOB i (Δ0.set j (some (.int (m : Int)))) (Cn m) Δ0 (Cn (m + 1)))) (h : PSs X rest (tOS i Δ0 (Cn n) d)) (hgl : Gl X "range" := by rfl) (hst : starEach [e1] X.env = [(false, eval e1 X.env)] := by rfl) (hs : ∀ x, foldedSetIterable (.Call (.Name "range" pr) [e1] [] pc) X.env x = pure x := by intro _; rfl) :
    PSs X (.For (.Name x px) (.Call (.Name "range" pr) [e1] [] pc) body [] pos :: rest) (tOS i Δ (Cn 0) d) := by
  refine (pss_cons (ps_for (tb := fun En σ H => ∃ m, m < n ∧ tOB i (Δ0.set j (some (.int (m : Int)))) (Cn m) Δ0 (Cn (m + 1)) En σ H) hp hc (pi_range1 hgl hm (pa_cons hi.frame pa_nil hst) hst) hg ⟨fun pins s σ H En I ⟨m, hm, q⟩ => (hb m hm).run pins s σ H En I q⟩ hs) h).imp fun En σ H ⟨p, ow, k⟩ => ?_
  have go : tFr (tD Δ (.int (n : Int))) σ H (fun x H1 => ∃ z : Int, [x] = [.int z] ∧ -(2 ^ 62) ≤ z ∧ z < 2 ^ 62 ∧ ∃ W : Nat → Nat → L2.St → Hp → Prop, (∃ m, W 0 m σ H1) ∧ ∀ i' m σ H, W i' m σ H →
      ((Itr 0 z.toNat).stop i' H ∧ tOS i Δ0 (Cn n) d En σ H) ∨ ((Itr 0 z.toNat).go i' H ∧ ∃ N : L2.St → Hp → Prop, (∀ σ' H', N σ' H' → ∃ m', m' < m ∧ W (i' + 1) m' σ' H') ∧ ∀ x H', (Itr 0 z.toNat).yld i' H x H' → gName j x σ H' fun σ2 H2 => ∃ m, m < n ∧ tOB i (Δ0.set j (some (.int (m : Int)))) (Cn m) Δ0 (Cn (m + 1)) { nx := N, ct := N, bk := tOS i Δ0 (Cn n) d En, rt := En.rt } σ2 H2)) := by
    refine tFr_d (sc 0) ow fun v H1 e1 ow1 r1 _ => ?_
    cases r1
    refine ⟨_, rfl, by omega, by omega, ?_⟩
    have en : ((n : Int)).toNat = n := Int.toNat_natCast n
    rw [en]
    refine ⟨fun m l σ' H' => l = n - m ∧ m ≤ n ∧ Same (del H1 p) (del H' p) ∧ Own H' σ' i Δ0 (Cn m) p, ⟨n, by simp, Nat.zero_le _, Same.refl _, ow1.at_, hw _ _ ow1.sl, ow1.ob⟩, ?_⟩
    rintro m l σ' H' ⟨rfl, hmn, w1, w2⟩
    by_cases hlt : m < n
    · refine .inr ⟨hlt, fun σ3 H3 => Same (del H1 p) (del H3 p) ∧ Own H3 σ3 i Δ0 (Cn (m + 1)) p, fun σ3 H3 w3 => ⟨n - (m + 1), by omega, rfl, hlt, w3⟩, fun x H'' y => ?_⟩
      obtain ⟨rfl, y⟩ := y
      subst y
      obtain ⟨at_, sl, o, hpo, l, c⟩ := w2
      have e0 : (0 : Int) + ((m : Nat) : Int) = (m : Int) := Int.zero_add _
      refine ⟨m, hlt, p, ⟨by rw [List.getElem?_set_ne (Ne.symm hv)]; exact at_, ?_, o, hpo, l, c⟩, fun σ3 H3 e3 w3 => ⟨w1.trans e3, w3⟩⟩
      rw [e0]
      exact sl.set j (.int _)
    · have e : m = n := by omega
      subst e
      exact .inl ⟨Nat.le_refl _, p, w2, fun v H'' e r => k v H'' ((e1.trans w1).trans e) r⟩
  exact go
/-! ### what a body does with it -/
theorem ob_nil (hw : ∀ (σ : L2.St) H, Sl H σ Δ → Sl H σ Δ') : PSs X [] (tOB i Δ C Δ' C) := (pss_nil (X := X)).imp fun En σ H ⟨p, ow, k⟩ => k σ H (Same.refl _) ⟨ow.at_, hw _ _ ow.sl, ow.ob⟩
/-- found.extend(a list) -/
theorem ob_extend {ds es : List D} {x : Str} {px p1 p2 : Pos} (hl : ds.length + es.length ≤ 1000000) (he : PE X e (tD Δ (.lst es))) (h : PSs X rest (tOB i Δ (Clst (ds ++ es)) Δ' C')) (hN : X.N[i]? = some x := by rfl) (hv : Vis X.env.scope x := by first | exact Or.inl rfl | exact Or.inr (Or.inl rfl)) (hd : (x == ("__debug__" : Str)) = false := by decide) (hcd : (x == ("__classdict__" : Str)) = false := by decide)
    (hst : starEach [e] X.env = (false, eval e X.env) :: starEach [] X.env := by rfl)
    (hpe : ∀ {to : TE} {t : TA}, PE X (.Name x px) to → PA X [e] t → PE X (.Call (.Attribute (.Name x px) "extend" p1) [e] [] p2) (tBM X.K "list" rExtend to t) := by exact fun h1 h2 => pe_bm PySem.F.plainAttrs_list PySem.F.slot_list_extend PySem.F.type_list_extend mt_extend h1 h2)
    (hs : swapsWith (.Call (.Attribute (.Name x px) "extend" p1) [e] [] p2) none pos.line X.env = pure false := by rfl) : PSs X (.Expr (.Call (.Attribute (.Name x px) "extend" p1) [e] [] p2) pos :: rest) (tOB i Δ (Clst ds) Δ' C') :=
  (pss_cons (ps_expr (hpe (pe_var hN hv hd hcd) (pa_cons he.frame pa_nil hst)) hs) h).imp fun En σ H ⟨p, ow, k⟩ => by
    have ow' := ow
    obtain ⟨at_, sl, o, hp, l, xs, ho, r⟩ := ow
    subst ho
    refine ⟨.ref p, at_, Or.inl ⟨rfl, xs, SqL.of hp⟩, ?_⟩
    refine tFr_d (C := Clst ds) stays_lst ow' fun v H1 e1 ow1 r1 _ => ?_
    obtain ⟨at1, sl1, o1, hp1, l1, ys, ho1, r2⟩ := ow1
    subst ho1
    cases r1 with
    | @lst a zs _ ha hz =>
      refine ⟨p, a, ys, zs, rfl, rfl, hp1, same_del _ _ ha, ?_, p, ⟨at1, ?_, _, upd_same, rfl, ys ++ zs, rfl, ?_⟩, fun σ' H' e2 o2 => k σ' H' ?_ o2⟩
      · rw [r2.length, hz.length]
        exact Nat.le_trans hl (by rw [sizeLine_eq]; decide)
      · have ed : del (upd H1 p (.lst (ys ++ zs))) p = del H1 p := by
          funext b
          unfold del upd
          split <;> rfl
        rw [ed]
        exact sl1
      · have ed : del (upd H1 p (.lst (ys ++ zs))) p = del H1 p := by
          funext b
          unfold del upd
          split <;> rfl
        rw [ed]
        exact r2.append hz
      · have ed : del (upd H1 p (.lst (ys ++ zs))) p = del H1 p := by
          funext b
          unfold del upd
          split <;> rfl
        rw [ed] at e2
        exact e1.trans e2
end
end Ow
/-! Rows: tuples of whole numbers; lists of them. -/
namespace Ow
open PySem PySem.Spec PyProof.Rows L2
def rowD (ns : List Int) : D := .tup (ns.map D.int)
def rowP (ns : List Int) : PyData := .tuple (ns.map PyData.int)
theorem dp_ints {K : PySem.W.Frag} {H : Hp} : ∀ ns : List Int, DpAll K H (ns.map V.int) (ns.map PyData.int)
  | [] => .nil
  | n :: r => .cons (.int n) (dp_ints r)
theorem Rp.row {K : PySem.W.Frag} {H : Hp} {v : V} {ns : List Int} (h : Rp H v (rowD ns)) : Dp K H v (rowP ns) := by
  cases h with
  | tup ha hs =>
    have e := hs.ints
    subst e
    exact .tup (SqT.of ha) (dp_ints ns)
theorem RpAll.rows {K : PySem.W.Frag} {H : Hp} : ∀ {vs : List V} {rs : List (List Int)}, RpAll H vs (rs.map rowD) → DpAll K H vs (rs.map rowP)
  | _, [], h => by cases h; exact .nil
  | _, r :: rs, h => by
    cases h with
    | cons h1 h2 => exact .cons h1.row (RpAll.rows h2)
theorem RpAll.intsP {K : PySem.W.Frag} {H : Hp} {vs : List V} {ns : List Int} (h : RpAll H vs (ns.map D.int)) : DpAll K H vs (ns.map PyData.int) := by
  have e := h.ints
  subst e
  exact dp_ints ns
theorem lay_ints : ∀ ns : List Int, PyData.canLayAll0 (ns.map PyData.int) = true
  | [] => by simp [PyData.canLayAll0]
  | n :: r => by simp [PyData.canLayAll0, PyData.canLay0, lay_ints r]
theorem depth_ints : ∀ ns : List Int, PyData.depthAll (ns.map PyData.int) ≤ 1
  | [] => by simp [PyData.depthAll]
  | n :: r => by
    have := depth_ints r
    simp only [List.map_cons, PyData.depthAll, PyData.depth]
    omega
theorem lay_rows : ∀ rs : List (List Int), PyData.canLayAll0 (rs.map rowP) = true
  | [] => by simp [PyData.canLayAll0]
  | n :: r => by simp [PyData.canLayAll0, rowP, PyData.canLay0, lay_ints n, lay_rows r]
theorem depth_rows : ∀ rs : List (List Int), PyData.depthAll (rs.map rowP) ≤ 3
  | [] => by simp [PyData.depthAll]
  | n :: r => by
    have h1 := depth_rows r
    have h2 := depth_ints n
    simp only [List.map_cons, PyData.depthAll, rowP, PyData.depth]
    omega
theorem shaped_row (ns : List Int) : SeqAt.shaped (rowP ns) = true := by
  have h := depth_ints ns
  have h2 : PyData.depth (rowP ns) ≤ 64 := by
    simp only [rowP, PyData.depth]
    omega
  show (PyData.canLay0 (rowP ns) && decide (PyData.depth (rowP ns) ≤ 64)) = true
  rw [Bool.and_eq_true]
  exact ⟨by simp only [rowP, PyData.canLay0]; exact lay_ints ns, decide_eq_true h2⟩
theorem shaped_rows (rs : List (List Int)) : SeqAt.shaped (.list (rs.map rowP)) = true := by
  have h := depth_rows rs
  have h2 : PyData.depth (.list (rs.map rowP)) ≤ 64 := by
    simp only [PyData.depth]
    omega
  show (PyData.canLay0 (.list (rs.map rowP)) && decide (PyData.depth (.list (rs.map rowP)) ≤ 64)) = true
  rw [Bool.and_eq_true]
  exact ⟨by simp only [PyData.canLay0]; exact lay_rows rs, decide_eq_true h2⟩
theorem shaped_ints (ns : List Int) : SeqAt.shaped (.list (ns.map PyData.int)) = true := by
  have h := depth_ints ns
  have h2 : PyData.depth (.list (ns.map PyData.int)) ≤ 64 := by
    simp only [PyData.depth]
    omega
  show (PyData.canLay0 (.list (ns.map PyData.int)) && decide (PyData.depth (.list (ns.map PyData.int)) ≤ 64)) = true
  rw [Bool.and_eq_true]
  exact ⟨by simp only [PyData.canLay0]; exact lay_ints ns, decide_eq_true h2⟩
theorem eqvAll_nil : ∀ l : List PyData, PyData.eqvAll l [] = l.isEmpty
  | [] => by simp [PyData.eqvAll]
  | _ :: _ => by simp [PyData.eqvAll]
theorem eqvAll_ints : ∀ ns ms : List Int, PyData.eqvAll (ns.map PyData.int) (ms.map PyData.int) = decide (ns = ms)
  | [], [] => by simp [PyData.eqvAll]
  | _ :: _, [] => by simp [PyData.eqvAll]
  | [], _ :: _ => by simp [PyData.eqvAll]
  | n :: r, m :: q => by
    have ih := eqvAll_ints r q
    simp only [List.map_cons, PyData.eqvAll, PyData.eqv, ih]
    rw [Bool.eq_iff_iff]
    simp
theorem eqv_rows (ns ms : List Int) : PyData.eqv (rowP ns) (rowP ms) = decide (ns = ms) := by
  simp only [rowP, PyData.eqv]
  exact eqvAll_ints ns ms
section
variable {K : PySem.W.Frag}
theorem od_eqNilRows {rs : List (List Int)} : OpD (rEqD K) (.lst (rs.map rowD)) (.lst []) (.bl rs.isEmpty) := fun H x y Q r1 r2 _ k => by
  cases r1 with
  | lst ha hs =>
    cases r2 with
    | lst hb ht =>
      cases ht
      refine ⟨.list (rs.map rowP), .list [], .lst (SqL.of ha) hs.rows, .lst (SqL.of hb) .nil, shaped_rows rs, shaped_ints [], ?_⟩
      have e : PyData.eqv (.list (rs.map rowP)) (.list []) = rs.isEmpty := by
        simp only [PyData.eqv]
        rw [eqvAll_nil]
        cases rs <;> rfl
      rw [e]
      exact k _ H (Same.refl H) (.bl _)
theorem od_neNilRows {rs : List (List Int)} : OpD (rNeD K) (.lst (rs.map rowD)) (.lst []) (.bl (!rs.isEmpty)) := fun H x y Q r1 r2 _ k => by
  cases r1 with
  | lst ha hs =>
    cases r2 with
    | lst hb ht =>
      cases ht
      refine ⟨.list (rs.map rowP), .list [], .lst (SqL.of ha) hs.rows, .lst (SqL.of hb) .nil, shaped_rows rs, shaped_ints [], ?_⟩
      have e : PyData.eqv (.list (rs.map rowP)) (.list []) = rs.isEmpty := by
        simp only [PyData.eqv]
        rw [eqvAll_nil]
        cases rs <;> rfl
      rw [e]
      exact k _ H (Same.refl H) (.bl _)
theorem od_neNilInts {ns : List Int} : OpD (rNeD K) (.lst (ns.map D.int)) (.lst []) (.bl (!ns.isEmpty)) := fun H x y Q r1 r2 _ k => by
  cases r1 with
  | lst ha hs =>
    cases r2 with
    | lst hb ht =>
      cases ht
      refine ⟨.list (ns.map PyData.int), .list [], .lst (SqL.of ha) hs.intsP, .lst (SqL.of hb) .nil, shaped_ints ns, shaped_ints [], ?_⟩
      have e : PyData.eqv (.list (ns.map PyData.int)) (.list []) = ns.isEmpty := by
        simp only [PyData.eqv]
        rw [eqvAll_nil]
        cases ns <;> rfl
      rw [e]
      exact k _ H (Same.refl H) (.bl _)
theorem od_neRow {ns ms : List Int} : OpD (rNeD K) (rowD ns) (rowD ms) (.bl (!decide (ns = ms))) := fun H x y Q r1 r2 _ k => by
  refine ⟨rowP ns, rowP ms, r1.row, r2.row, shaped_row ns, shaped_row ms, ?_⟩
  rw [eqv_rows]
  exact k _ H (Same.refl H) (.bl _)
theorem od_inRows {ns : List Int} {rs : List (List Int)} : OpD (rInD K) (rowD ns) (.lst (rs.map rowD)) (.bl (rs.any fun z => decide (z = ns))) := fun H x y Q r1 r2 _ k => by
  cases r2 with
  | lst hb ht =>
    refine ⟨rowP ns, rs.map rowP, r1.row, .lst (SqL.of hb) ht.rows, shaped_row ns, shaped_rows rs, ?_⟩
    have e : ((rs.map rowP).any fun z => PyData.eqv z (rowP ns)) = rs.any fun z => decide (z = ns) := by
      rw [List.any_map]
      refine congrArg _ (funext fun z => ?_)
      exact eqv_rows z ns
    rw [e]
    exact k _ H (Same.refl H) (.bl _)
theorem od_notInRows {ns : List Int} {rs : List (List Int)} : OpD (rNotInD K) (rowD ns) (.lst (rs.map rowD)) (.bl (!rs.any fun z => decide (z = ns))) := fun H x y Q r1 r2 _ k => by
  cases r2 with
  | lst hb ht =>
    refine ⟨rowP ns, rs.map rowP, r1.row, .lst (SqL.of hb) ht.rows, shaped_row ns, shaped_rows rs, ?_⟩
    have e : ((rs.map rowP).any fun z => PyData.eqv z (rowP ns)) = rs.any fun z => decide (z = ns) := by
      rw [List.any_map]
      refine congrArg _ (funext fun z => ?_)
      exact eqv_rows z ns
    rw [e]
    exact k _ H (Same.refl H) (.bl _)
theorem od_ltRow {ns ms : List Int} : OpD (rLtT K) (rowD ns) (rowD ms) (.bl (HT.lexLt ns ms)) := fun H x y Q r1 r2 _ k => by
  cases r1 with
  | tup ha hs =>
    cases r2 with
    | tup hb ht =>
      have e1 := hs.ints
      have e2 := ht.ints
      subst e1 e2
      exact ⟨_, _, ns, ms, rfl, rfl, SqT.of ha, SqT.of hb, k _ H (Same.refl H) (.bl _)⟩
end
section
variable {X : Cx} {a e : Expr} {es : List Expr} {pos p : Pos} {Δ : Sd} {d : D}
/-- t[n], n written -/
theorem ev_item (n : Nat) {ds : List D} {z : Int} {m : Nat} {p1 : Pos} (ha : PE X a (tD Δ (.tup ds))) (hd : ds[n]? = some d := by rfl) (hz : z = (n : Int) := by rfl) (hs : PlainIx (.Constant (.int z) m p1) := by exact fun _ _ => rfl) : PE X (.Subscript a (.Constant (.int z) m p1) pos) (tD Δ d) := by
  subst hz
  exact ev_ix ix_tup (od_ixT hd) ha ev_int hs
theorem ev_itemL (n : Nat) {ds : List D} {z : Int} {m : Nat} {p1 : Pos} (ha : PE X a (tD Δ (.lst ds))) (hd : ds[n]? = some d := by rfl) (hz : z = (n : Int) := by rfl) (hs : PlainIx (.Constant (.int z) m p1) := by exact fun _ _ => rfl) : PE X (.Subscript a (.Constant (.int z) m p1) pos) (tD Δ d) := by
  subst hz
  exact ev_ix ix_list (od_ixL hd) ha ev_int hs
theorem ev_any {bs : List Bool} (hc : X.calm = true) (hm : X.mg "any" = none) (ha : PE X e (tD Δ (.lst (bs.map D.bl)))) (hg : Gl X "any" := by rfl) (hs : starEach [e] X.env = (false, eval e X.env) :: starEach [] X.env := by rfl) (hpl : (backTo pos (starEach [] X.env)).any (·.1) = false := by rfl) : PE X (.Call (.Name "any" p) [e] [] pos) (tD Δ (.bl (bs.any id))) :=
  ev_callB (cr_any hc) (cd_any (X := X)) hm PyProof.Rows.boot_any (ea_cons ha ea_nil hs) hg (by decide) (by decide) hs hpl
theorem cd_int1 {b : Bool} : CallD (fun xs H Q => (∃ i, xs = [.int i] ∧ Q (.int i) H) ∨ ∃ k, xs = [.bl k] ∧ Q (.int (if k then 1 else 0)) H) [.bl b] (.int (if b then 1 else 0)) := fun H vs Q r k => by
  cases r with
  | cons r1 r2 =>
    cases r2
    cases r1
    exact .inr ⟨b, rfl, k _ H (Same.refl H) (.int _)⟩
theorem ev_intB {b : Bool} (hm : X.mg "int" = none) (ha : PE X e (tD Δ (.bl b))) (hg : Gl X "int" := by rfl) (hs : starEach [e] X.env = (false, eval e X.env) :: starEach [] X.env := by rfl) (hpl : (backTo pos (starEach [] X.env)).any (·.1) = false := by rfl) : PE X (.Call (.Name "int" p) [e] [] pos) (tD Δ (.int (if b then 1 else 0))) :=
  ev_callTy call_int1 cd_int1 hm PyProof.Rows.boot_int (ea_cons ha ea_nil hs) hg (by decide) (by decide) hs hpl
end
end Ow
/-! min(xs, key=a def, default=None). -/
namespace Ow
open PySem PySem.Spec PyProof.Rows L2
/-- H without its lists and its dicts with tuple keys -/
def thin (H : Hp) : Hp := fun b => (H b).bind fun o => if Loose o = true then none else some o
theorem thin_of {H : Hp} {b : Addr} {o : HO} (h : H b = some o) (l : Loose o = false) : thin H b = some o := by
  unfold thin
  rw [h]
  show (if Loose o = true then none else some o) = some o
  rw [if_neg (by rw [l]; exact Bool.false_ne_true)]
theorem thin_none {H : Hp} {b : Addr} (h : H b = none) : thin H b = none := by
  unfold thin
  rw [h]
  rfl
theorem thin_loose {H : Hp} {b : Addr} {o : HO} (h : H b = some o) (l : Loose o = true) : thin H b = none := by
  unfold thin
  rw [h]
  show (if Loose o = true then none else some o) = none
  rw [if_pos l]
theorem of_thin {H : Hp} {b : Addr} {o : HO} (h : thin H b = some o) : H b = some o ∧ Loose o = false := by
  cases e : H b with
  | none =>
    rw [thin_none e] at h
    cases h
  | some u =>
    cases l : Loose u with
    | true =>
      rw [thin_loose e l] at h
      cases h
    | false =>
      rw [thin_of e l] at h
      cases h
      exact ⟨rfl, l⟩
theorem thin_sub (H : Hp) : Same (thin H) H := fun b o h => (of_thin h).1
theorem thin_tup (H : Hp) : SameT H (thin H) := fun b xs h => thin_of h rfl
section
variable {X : Cx} {pins : List (Addr × Obj)} {σ : L2.St} {H G H' : Hp} {s s' : Shared}
theorem Inv.thin (I : Inv X pins σ H s) : Inv X pins σ (Ow.thin H) s := by
  refine ⟨I.ok, I.os, I.bare, ⟨I.base.keep, I.base.slot, fun b u q n hx => thin_none (I.base.free b u q n hx), I.base.there, fun b xs q => thin_of (I.base.tups b xs q) rfl, fun b u v q => thin_of (I.base.frzs b u v q) rfl, fun b ps q => ?_⟩, I.loc, I.cell, thin_none I.free, fun x c e => thin_none (I.freeC x c e), fun q hq => ?_, fun b u q => ?_, I.len⟩
  · obtain ⟨more, e⟩ := I.base.tbls b ps q
    exact ⟨more, thin_of e rfl⟩
  · obtain ⟨e, n, ne, nf, d⟩ := I.pin q hq
    exact ⟨e, thin_none n, ne, nf, d⟩
  · exact (I.hok b u (of_thin q).1).stay (fun c v _ z => z) (fun c z => thin_of z rfl) fun c xs z => thin_of z rfl
theorem ObjOk.less {P : Program} {w : World} {h h' : Heap} {a : Addr} : ∀ {o : HO}, ObjOk P w H' h' a o → ObjOk P w G h a o → (∀ kvs, o = .dT kvs → ∀ ob, h.get? a = some ob → h'.get? a = some ob) → ObjOk P w G h' a o
  | .lst _, x, _, _ => x
  | .tup _, x, _, _ => x
  | .dK _, x, _, _ => x
  | .dT kvs, x, y, k => by
    obtain ⟨z, q, xs, r, ob, es, ep, e, c⟩ := y
    exact ⟨z, q, xs, r, ob, es, ep, k kvs rfl ob e, c⟩
  | .set _ _, x, _, _ => x
  | .ins _ _ _, x, y, _ => ⟨y.1, x.2⟩
  | .own _, x, _, _ => x
  | .xd _, x, _, _ => x
  | .met _ _, x, _, _ => x
  | .rng _ _, x, _, _ => x
  | .frz _ u, x, y, _ => ⟨x.1, ObjOk.less (o := u) x.2 y.2 fun kvs _ ob e => by
      rw [y.1] at e
      cases e
      exact x.1⟩
  | .tbl _, x, _, _ => x
  | .ext _, x, _, _ => x
/-- what was new is forgotten -/
theorem Inv.less (J : Inv X pins σ H' s') (I : Inv X pins σ G s) (e : Same G H') (hd : ∀ b kvs, G b ≠ some (.dT kvs)) : Inv X pins σ G s' := by
  refine ⟨J.ok, J.os, J.bare, ⟨J.base.keep, J.base.slot, I.base.free, J.base.there, I.base.tups, I.base.frzs, I.base.tbls⟩, J.loc, J.cell, I.free, I.freeC, fun q hq => ?_, fun b u q => ?_, J.len⟩
  · obtain ⟨e1, n1, r⟩ := J.pin q hq
    exact ⟨e1, (I.pin q hq).2.1, r⟩
  · exact ObjOk.less (J.hok b u (e b u q)) (I.hok b u q) fun kvs z => absurd (z ▸ q) (hd b kvs)
/-- lists and dicts seen again -/
theorem Inv.thick (I : Inv X pins σ H s) (J : Inv X pins σ (Ow.thin H) s') (k : ∀ b o ob, H b = some o → Loose o = true → s.heap.get? b = some ob → s'.heap.get? b = some ob) : Inv X pins σ H s' := by
  refine ⟨J.ok, J.os, J.bare, ⟨J.base.keep, J.base.slot, I.base.free, J.base.there, I.base.tups, I.base.frzs, I.base.tbls⟩, J.loc, J.cell, I.free, I.freeC, fun q hq => ?_, fun b u q => ?_, J.len⟩
  · obtain ⟨e1, n1, r⟩ := J.pin q hq
    exact ⟨e1, (I.pin q hq).2.1, r⟩
  · cases l : Loose u with
    | true =>
      have x := I.hok b u q
      cases u with
      | lst xs =>
        obtain ⟨z, its, n, r, e⟩ := x
        exact ⟨z, its, n, r, k b _ _ q rfl e⟩
      | dT kvs =>
        obtain ⟨z, y, xs, r, ob, es, ep, e, c⟩ := x
        exact ⟨z, y, xs, r, ob, es, ep, k b _ _ q rfl e, c⟩
      | _ => cases l
    | false => exact ObjOk.less (J.hok b u (thin_of q l)) (I.hok b u q) fun kvs z => absurd (z ▸ l : Loose (.dT kvs) = false) (fun y => nomatch y)
/-- two untracked objects of ours have changed -/
theorem Inv.moved {ch : List Addr} (I : Inv X pins σ H s) (hch : ∀ b ∈ ch, FpOk X pins H b) (m : Moved ch (fun a b => b = a) s s') : Inv X pins σ H s' := by
  obtain ⟨h', g', d', t', o'⟩ := s'
  have e1 : g' = s.gens := m.gens
  have e2 : d' = s.drawn := m.drawn
  have e3 : o' = s.os := m.os
  subst e1 e2 e3
  have k : ∀ b o, b ∉ ch → s.heap.get? b = some o → h'.get? b = some o := m.heap
  have nit : ∀ b u, H b = some u → b ∉ ch := fun b u e z => by
    have := (hch b z).1
    rw [e] at this
    cases this
  have nl : X.env.locals ∉ ch := fun z => (hch _ z).2.1 rfl
  refine I.step (g' := s.gens) (d' := s.drawn) (ch := ch) (fun b hb => ?_) (fun b o _ _ hc e _ => k b o hc e) (fun b o _ _ hc e _ => ⟨o.slots, k b o hc e⟩) (fun _ _ _ _ n => n) (fun b o hc e => ⟨o, k b o hc e⟩) (fun _ _ e => e) (fun _ _ _ e => e) (fun b ps e => ⟨#[], by rw [e]; simp⟩) (fun q hq => ?_) (fun b u e => ?_) I.bare
  · obtain ⟨_, f1, _, f3, f4, f5⟩ := hch b hb
    exact ⟨f3, f1, f4, f5⟩
  · obtain ⟨o, es, ep, ho, r⟩ := hq
    exact ⟨o, es, ep, k _ o nl ho, r⟩
  · refine (I.hok b u e).stay (fun c v hc q => k c v ?_ q) (fun _ q => q) fun _ _ q => q
    rcases hc with z | z
    · rw [z]
      exact nit b u e
    · exact nit c _ z
end
/-- the first of the least -/
def leastM {α : Type} (key : α → List Int) (x : α) (r : List α) : α := r.foldl (fun a y => if HT.lexLt (key y) (key a) = true then y else a) x
def optMin {α : Type} (key : α → List Int) : List α → Option α
  | [] => none
  | x :: r => some (leastM key x r)
def btM {α : Type} (key : α → List Int) (ls : List α) (i j : Nat) : Bool := match ls[i]?, ls[j]? with
  | some y, some z => HT.lexLt (key y) (key z)
  | _, _ => false
theorem best_item {α : Type} {key : α → List Int} {x : α} {r : List α} : ∀ k, k ≤ r.length → (x :: r)[argBest (btM key (x :: r)) k]? = some (leastM key x (r.take k))
  | 0, _ => by
    rw [List.take_zero]
    rfl
  | k + 1, h => by
    have ih := best_item (key := key) (x := x) (r := r) k (by omega)
    have hr : r[k]? = some r[k] := List.getElem?_eq_getElem h
    have hx : (x :: r)[k + 1]? = some r[k] := by rw [List.getElem?_cons_succ, hr]
    have et : leastM key x (r.take (k + 1)) = if HT.lexLt (key r[k]) (key (leastM key x (r.take k))) = true then r[k] else leastM key x (r.take k) := by
      unfold leastM
      rw [List.take_add_one, hr]
      simp only [Option.toList, List.foldl_append, List.foldl_cons, List.foldl_nil]
    have eb : btM key (x :: r) (k + 1) (argBest (btM key (x :: r)) k) = HT.lexLt (key r[k]) (key (leastM key x (r.take k))) := by
      unfold btM
      rw [hx]
      unfold btM at ih
      rw [ih]
    have ea : argBest (btM key (x :: r)) (k + 1) = if btM key (x :: r) (k + 1) (argBest (btM key (x :: r)) k) = true then k + 1 else argBest (btM key (x :: r)) k := rfl
    rw [ea, eb, et]
    by_cases c : HT.lexLt (key r[k]) (key (leastM key x (r.take k))) = true
    · rw [if_pos c, if_pos c]
      exact hx
    · rw [if_neg c, if_neg c]
      exact ih
/-- a key that min holds -/
def KeyAt (G : Hp) (S I0 : Addr) (ns : List Int) (k : Value) (s : Shared) : Prop := ∃ q items, k = .ref q ∧ IsTup s.heap q items ∧ IntsAre items.toList ns ∧ (G q = none ∨ ∃ xs, G q = some (.tup xs)) ∧ q ∉ [S, I0]
theorem isTup_slots {h h' : Heap} {q : Addr} {items : Array Value} (t : IsTup h q items) (k : ∀ o, h.get? q = some o → ∃ sl, h'.get? q = some { o with slots := sl }) : IsTup h' q items := by
  obtain ⟨o, ho, hc, n, hd⟩ := t
  obtain ⟨sl, e⟩ := k o ho
  exact ⟨_, e, hc, n, hd⟩
theorem isTup_inj {h : Heap} {q : Addr} {xs ys : Array Value} (a : IsTup h q xs) (b : IsTup h q ys) : xs = ys := by
  obtain ⟨o, ho, _, n, hd⟩ := a
  obtain ⟨o', ho', _, n', hd'⟩ := b
  rw [ho] at ho'
  cases ho'
  rw [hd] at hd'
  injection hd' with h1 _
section
variable {X : Cx}
theorem cr_minKey {α : Type} {k : Nat} {f : Addr} {fd : FuncData} {ps : List Str} {Rk : List D → D → Prop} (F : FnOk X.prog X.w X.K X.mg X.base CX0 k f fd ps (spD Rk)) (hb : Binds X.K fd ps []) (hr : Room (k + 1) X.A) (hc : X.calm = true) (ls : List α) (enc : α → D) (key : α → List Int) (hk : ∀ a ∈ ls, Rk [enc a] (rowD (key a))) (hfl : ∀ a ∈ ls, flatD (enc a) = true) :
    CallRK X (.builtin "min") [Str.ofString "key", Str.ofString "default"] (fun vs zs H Q => ∃ a xs, vs = [.ref a] ∧ zs = [.ref f, .non] ∧ H a = some (.lst xs) ∧ RpAll H xs (ls.map enc) ∧ ∀ v, Rp H v (match optMin key ls with | none => .non | some y => enc y) → Q v H) := by
  intro pins s σ H vs zs us ws Q I r rz h
  obtain ⟨a, xs, rfl, rfl, ha, hxs, kq⟩ := h
  obtain rfl := Vals.ref1 r
  obtain ⟨w1, w2, rfl, e1, e2⟩ := vals2 rz
  obtain rfl : w1 = Value.ref f := e1
  obtain rfl : w2 = Value.none := e2
  obtain ⟨its, rv, pl, hz⟩ := I.list (SqL.of (K := X.K) ha)
  have hh : X.A.handled = none := I.ok.hd hc
  have hlen : its.length = ls.length := by rw [← rv.length, hxs.length, List.length_map]
  have I1 : Inv X pins σ (thin H) s := Inv.thin I
  have nodT : ∀ b kvs, thin H b ≠ some (.dT kvs) := fun b kvs z => by
    have := (of_thin z).2
    cases this
  have at_i : ∀ (i : Nat) (v : Value), its.toArray[i]? = some v → ∃ y x, ls[i]? = some y ∧ xs[i]? = some x ∧ RelV x v ∧ Rp H x (enc y) := fun i v hv => by
    have hv' : its[i]? = some v := by simpa using hv
    obtain ⟨hi, _⟩ := List.getElem?_eq_some_iff.mp hv'
    have hx : xs[i]? = some (xs[i]'(by rw [rv.length]; exact hi)) := List.getElem?_eq_getElem _
    obtain ⟨u, hu, ru⟩ := rv.get hx
    rw [hv'] at hu
    cases hu
    obtain ⟨d, hd, rd⟩ := hxs.getV hx
    rw [List.getElem?_map] at hd
    cases hl : ls[i]? with
    | none =>
      rw [hl] at hd
      cases hd
    | some y =>
      rw [hl] at hd
      cases hd
      exact ⟨y, _, rfl, hx, ru, rd⟩
  show wpAny _ _ (call (.builtin "min") [.ref a] [(Str.ofString "key", .ref f), (Str.ofString "default", .none)]) _ _ _
  refine PySem.call_min_walkKD (PySem.W.iter_listW (A := X.A.in1) hh pl.isList fun s₂ e W st hfp hw hk2 => ?_)
  -- the iterator at I0, min's own list at S
  generalize hI0 : s.heap.objs.size = I0 at *
  generalize hS : s₂.heap.objs.size = S
  have hI0S : I0 < S := by
    rw [← hS, e]
    show I0 < (s.heap.push _).objs.size
    rw [Heap.size_push, ← hI0]
    exact Nat.lt_succ_self _
  have fI : FpOk X pins (thin H) I0 := I1.fpOk (Nat.le_of_eq hI0) (I1.hok.fresh (Nat.le_of_eq hI0))
  have fS : FpOk X pins (thin H) S := I1.fpOk (by omega) (I1.hok.fresh (by omega))
  have hch : ∀ b ∈ [S, I0], FpOk X pins (thin H) b := fun b hb => by
    rcases List.mem_cons.mp hb with rfl | hb
    · exact fS
    · obtain rfl := List.mem_singleton.mp hb
      exact fI
  have I2 : Inv X pins σ (thin H) s₂ := by
    rw [e]
    exact I1.kept (t' := s.toks) fun b o q => Heap.get?_push_of_some _ q
  have old : ∀ b o ob, H b = some o → Loose o = true → s.heap.get? b = some ob → b ∉ [S, I0] ∧ b ∉ frs X.stack := fun b o ob hb l hob => by
    refine ⟨fun z => ?_, fun z => ?_⟩
    · have hlt : b < s.heap.objs.size := Heap.lt_size hob
      rw [hI0] at hlt
      rcases List.mem_cons.mp z with rfl | z
      · exact absurd (Nat.lt_trans hlt hI0S) (Nat.lt_irrefl _)
      · obtain rfl := List.mem_singleton.mp z
        exact absurd hlt (Nat.lt_irrefl _)
    · have := I.stkFree b z
      rw [hb] at this
      cases this
  have nfr : ∀ b ∈ [S, I0], b ∉ frs X.stack := fun b hb z => by
    obtain ⟨_, f1, f2, _⟩ := hch b hb
    rcases List.mem_cons.mp (I.stkSub b z) with q | q
    · exact f1 q
    · exact f2 q
  refine ⟨I0, [I0, a], [I0], (fun a b => b = a), its.toArray.size, _, _,
    (fun s' => Inv X pins σ (thin H) s' ∧ ∀ b o ob, H b = some o → Loose o = true → s.heap.get? b = some ob → s'.heap.get? b = some ob),
    (fun i kv s' => ∃ y, ls[i]? = some y ∧ KeyAt (thin H) S I0 (key y) kv s'),
    btM key ls, rfl, W, st, by rw [← hS] ; exact hfp, ?_, ⟨I2, fun b o ob _ _ q => hk2 b ob q⟩, ?_, ?_⟩
  · refine ⟨fun s1 s2 hJ m => ?_, fun i kv s1 s2 hV m => ?_, ?_, ?_⟩
    · obtain ⟨J, kp⟩ := hJ
      exact ⟨Inv.moved J hch m, fun b o ob hb l q => m.heap b ob (old b o ob hb l q).1 (kp b o ob hb l q)⟩
    · obtain ⟨y, hy, q, items, rfl, ht, hi, hG, hn⟩ := hV
      refine ⟨y, hy, q, items, rfl, ?_, hi, hG, hn⟩
      obtain ⟨o, ho, c, n, d⟩ := ht
      exact ⟨o, m.heap q o hn ho, c, n, d⟩
    · rintro i v s1 o Q1 E1 hi hP ⟨J, kp⟩ hst hSo hQ1
      obtain ⟨y, x, hy, hx, rx, rpx⟩ := at_i i v hP
      have hm := List.mem_of_getElem? hy
      have hR : spD Rk [x] (thin H) (fun kv H2 => Same (thin H) H2 ∧ Rp H2 kv (rowD (key y))) E0 := ⟨[enc y], _, .cons (Rp.keepT (thin_tup H) _ _ (hfl y hm) rpx) .nil, hk y hm, fun kv H2 e2 r2 => ⟨e2, r2⟩⟩
      have hlen1 := F.len _ _ _ _ hR
      refine wpAny_call (codeAny_mono (F.run X.A.in1 X.stack s1 (thin H) ⟨[v], []⟩ [v] [x] _ _ hr.in1 J.env0.in1 (by simpa using hb s1 [v] J.kIn (by simpa using hlen1)) (.cons rx .nil) hR) fun rr s3 hq => ?_)
      cases rr with
      | error er => exact hq.elim
      | ok fl =>
        cases fl with
        | ret u =>
          have hq' : CE X.stack X.prog X.w (thin H) s1 _ u s3 := hq
          obtain ⟨kv, H2, os2, bare2, un, hok2, rk, e2, rp2⟩ := hq'
          have J2 : Inv X pins σ H2 s3 := J.call' (ch := []) os2 un hok2 bare2 (fun b z => absurd z (by simp))
          have keepU : ∀ b ob, thin H b = none → b ∉ frs X.stack → s1.heap.get? b = some ob → s3.heap.get? b = some ob := fun b ob n nf q => un.keep b ob q n nf (by simp)
          have J3 : Inv X pins σ (thin H) s3 := Inv.less J2 J e2 nodT
          cases rp2 with
          | @tup q zs _ hq2 hz2 =>
            have ez := hz2.ints
            subst ez
            cases rk
            have hqn : q ∉ [S, I0] := fun z => by
              rcases List.mem_cons.mp z with rfl | z
              · have n2 := un.free q o hSo fS.1 (by simp)
                rw [hq2] at n2
                cases n2
              · obtain rfl := List.mem_singleton.mp z
                obtain ⟨oi, hoi, _⟩ := hst.1
                have n2 := un.free q oi hoi fI.1 (by simp)
                rw [hq2] at n2
                cases n2
            obtain ⟨_, its2, rv2, ht2⟩ := J2.hok q _ hq2
            have hG : thin H q = none ∨ ∃ xs, thin H q = some (.tup xs) := by
              cases eG : thin H q with
              | none => exact .inl rfl
              | some oG =>
                have := e2 q oG eG
                rw [hq2] at this
                cases this
                exact .inr ⟨_, rfl⟩
            refine hQ1 (.ref q) s3 ⟨J3, fun b ob1 ob2 hb1 l1 q1 => keepU b ob2 (thin_loose hb1 l1) (old b ob1 ob2 hb1 l1 q1).2 (kp b ob1 ob2 hb1 l1 q1)⟩ ?_ (keepU S o fS.1 (nfr S (by simp)) hSo) ⟨y, hy, q, its2.toArray, rfl, ht2, by simpa using Vals.ints rv2, hG, hqn⟩ ?_
            · obtain ⟨⟨oi, hoi, ci⟩, ol, hol, cl⟩ := hst
              have hthin : thin H a = none := thin_loose ha rfl
              exact ⟨⟨oi, keepU I0 oi fI.1 (nfr I0 (by simp)) hoi, ci⟩, ol, keepU a ol hthin (fun z => by have := I.stkFree a z; rw [ha] at this; cases this) hol, cl⟩
            · rintro j kj ⟨y', hy', q', items, rfl, ht', hi', hG', hn'⟩
              rcases hG' with g | ⟨zs, g⟩
              · exact ⟨y', hy', q', items, rfl, isTup_slots ht' fun o' ho' => un.any ho' g (by simp), hi', .inl g, hn'⟩
              · obtain ⟨_, its3, rv3, ht3⟩ := J.hok q' _ g
                have e3 := isTup_inj ht' ht3
                subst e3
                obtain ⟨_, its4, rv4, ht4⟩ := J3.hok q' _ g
                have ez : zs = (key y').map V.int := Vals.inj rv3 (vals_of_ints (by simpa using hi'))
                subst ez
                exact ⟨y', hy', q', its4.toArray, rfl, ht4, by simpa using Vals.ints rv4, .inr ⟨_, g⟩, hn'⟩
        | next => exact hq.elim
        | brk => exact hq.elim
        | cont => exact hq.elim
    · rintro i j ki kj s1 Q1 E1 ⟨J, kp⟩ ⟨y, hy, q, items, rfl, ht, hi, _, _⟩ ⟨y', hy', q', items', rfl, ht', hi', _, _⟩ hQ1
      show wpAny _ _ (compareOp .Lt (.ref q) (.ref q')) Q1 E1 s1
      refine HT.lt_tupInts ht ht' hi hi' ?_ ?_
      · have := hr.in1.un
        omega
      · unfold btM at hQ1
        rw [hy, hy'] at hQ1
        exact hQ1
  · rintro hn s1 ⟨J, kp⟩
    have hl0 : ls = [] := List.eq_nil_of_length_eq_zero (by
      have : its.toArray.size = its.length := by simp
      omega)
    subst hl0
    exact ⟨.non, H, Inv.thick I J kp, rfl, kq _ .non⟩
  · rintro hn v s1 hP ⟨J, kp⟩
    obtain ⟨y, x, hy, hx, rx, rpx⟩ := at_i _ v hP
    refine ⟨x, H, Inv.thick I J kp, rx, kq _ ?_⟩
    cases ls with
    | nil => simp at hy
    | cons z r =>
      have en : its.toArray.size - 1 = r.length := by
        have : its.toArray.size = its.length := by simp
        rw [this, hlen]
        rfl
      rw [en, best_item (key := key) (x := z) (r := r) r.length (Nat.le_refl _), List.take_length] at hy
      cases hy
      exact rpx
end
end Ow
namespace Ow
open PySem PySem.Spec PyProof.Rows L2
def optD {α : Type} (enc : α → D) : Option α → D
  | none => .non
  | some y => enc y
section
variable {X : Cx} {e : Expr} {Δ : Sd}
/-- min(e, key=x, default=None) -/
theorem ev_min {α : Type} {j k : Nat} {x : Str} {Rk : List D → D → Prop} {p p1 p2 k1 k2 pos : Pos} {n : Nat} (C : CalD X.prog X.w X.K X.mg X.base j x Rk) (hr : Room (k + 1) X.A) (hc : X.calm = true) {ls : List α} {enc : α → D} (key : α → List Int) (hm : X.mg "min" = none) (he : PE X e (tD Δ (.lst (ls.map enc)))) (hk : ∀ a ∈ ls, Rk [enc a] (rowD (key a))) (hfl : ∀ a ∈ ls, flatD (enc a) = true)
    (hj : j ≤ k := by decide) (hg : Gl X "min" := by rfl) (hgx : Gl X x := by rfl) (hdx : (x == ("__debug__" : Str)) = false := by decide) (hst : starEach [e] X.env = (false, eval e X.env) :: starEach [] X.env := by rfl)
    (hbk : ∀ {t tk : TA} {r : List V → List V → Hp → VK → Prop}, X.mg "min" = none → CallRK X (.builtin "min") [Str.ofString "key", Str.ofString "default"] r → PA X [e] t → PK X [⟨some "key", .Name x p1, k1⟩, ⟨some "default", .Constant .none n p2, k2⟩] tk → PE X (.Call (.Name "min" p) [e] [⟨some "key", .Name x p1, k1⟩, ⟨some "default", .Constant .none n p2, k2⟩] pos) (tCKw r t tk) := by exact fun h0 h1 h2 h3 => pe_callBK h1 (by rfl) h0 PyProof.Rows.boot_min h2 h3) :
    PE X (.Call (.Name "min" p) [e] [⟨some "key", .Name x p1, k1⟩, ⟨some "default", .Constant .none n p2, k2⟩] pos) (tD Δ (optD enc (optMin key ls))) := by
  obtain ⟨f, fd, ps, F, hmx, hkx, hb⟩ := C.ex
  refine PE.d (hbk hm (cr_minKey (F.mono hj) hb hr hc ls enc key hk hfl) (pa_cons he pa_nil hst) (pk_cons (pe_glob (v := .ref f) hgx hmx rfl hdx) (pk_cons pe_non pk_nil))) fun σ H Q sl kq => ⟨sl, fun v H1 e1 r1 _ => ?_⟩
  cases r1 with
  | lst ha hs =>
    refine ⟨_, _, rfl, rfl, ha, hs, fun v r => kq v H1 e1 ?_⟩
    have eq : optD enc (optMin key ls) = (match optMin key ls with | none => D.non | some y => enc y) := by
      cases optMin key ls <;> rfl
    rw [eq]
    exact r
end
end Ow
/-! More of what a loop's body does. -/
namespace Ow
open PySem PySem.Spec PyProof.Rows L2
/-- slots forgotten -/
inductive Wk : Sd → Sd → Prop
  | nil : Wk [] []
  | keep {o : Option D} {Δ Δ' : Sd} : Wk Δ Δ' → Wk (o :: Δ) (o :: Δ')
  | drop {o : Option D} {Δ Δ' : Sd} : Wk Δ Δ' → Wk (o :: Δ) (none :: Δ')
theorem Wk.length : ∀ {Δ Δ' : Sd}, Wk Δ Δ' → Δ'.length = Δ.length
  | _, _, .nil => rfl
  | _, _, .keep h => congrArg (· + 1) (Wk.length h)
  | _, _, .drop h => congrArg (· + 1) (Wk.length h)
theorem Wk.at_ : ∀ {Δ Δ' : Sd}, Wk Δ Δ' → ∀ (i : Nat) (d : D), Δ'[i]? = some (some d) → Δ[i]? = some (some d)
  | _, _, .nil, _, _, h => h
  | _, _, .keep w, 0, _, h => h
  | _, _, .keep w, i + 1, d, h => by
    rw [List.getElem?_cons_succ] at h ⊢
    exact Wk.at_ w i d h
  | _, _, .drop w, 0, _, h => by
    rw [List.getElem?_cons_zero] at h
    cases h
  | _, _, .drop w, i + 1, d, h => by
    rw [List.getElem?_cons_succ] at h ⊢
    exact Wk.at_ w i d h
theorem Sl.weak {H : Hp} {σ : L2.St} {Δ Δ' : Sd} (w : Wk Δ Δ') (h : Sl H σ Δ) : Sl H σ Δ' := ⟨w.length.trans h.len, fun i d q => h.at_ i d (w.at_ i d q)⟩
theorem same_delU {H : Hp} {p : Addr} {o : HO} : del (upd H p o) p = del H p := by
  funext b
  unfold del upd
  split <;> rfl
section
variable {X : Cx} {e c : Expr} {body rest : List Stmt} {pos : Pos} {Δ Δ' Δ'' : Sd} {d d1 : D} {i : Nat} {C C' C'' : Hp → HO → Prop}
/-- found = [a comprehension] -/
theorem os_newLc {α : Type} {ls : List α} {enc : α → D} {f : α → Bool} {out : α → D} {Δ' : α → Sd} {g : TG} {elt tg iter : Expr} {ifs : List Expr} {scope : Scope} {y : Str} {py spos : Pos} (own : List (Str × Nat)) (hc : X.calm = true) (hN : X.N.Nodup) (hi : PI X tg iter (tI Δ (ls.map enc))) (ok : BlkOk X.N X.env.scope scope own)
    (hg : ∀ (s : Shared) (H : Hp) (C : Addr) (cl : List (Str × Addr)) (fp : List Addr), PG (X.blk s H scope (compEnvC scope cl C X.env) fp) tg g) (gd : ∀ a ∈ ls, GD g (own.map (·.2)) (wipeD Δ (own.map (·.2))) (enc a) (Δ' a))
    (ht : ∀ (s : Shared) (H : Hp) (C : Addr) (cl : List (Str × Addr)) (fp : List Addr), ∀ a ∈ ls, PTs (X.blk s H scope (compEnvC scope cl C X.env) fp) ifs (tDT (Δ' a) (f a)))
    (he : ∀ (s : Shared) (H : Hp) (C : Addr) (cl : List (Str × Addr)) (fp : List Addr), ∀ a, a ∈ ls ∧ f a = true → PE (X.blk s H scope (compEnvC scope cl C X.env) fp) elt (tD (Δ' a) (out a)))
    (hf : ∀ a ∈ ls, f a = true → flatD (out a) = true) (h : PSs X rest (tOS i (Δ.set i none) (Clst ((ls.filter f).map out)) d)) (hil : i < Δ.length := by exact Nat.le_of_ble_eq_true rfl) (hk : X.env.scope.kind = .function := by rfl) (hy : X.N[i]? = some y := by rfl) (hyl : X.env.scope.names.lookup y = some .local := by rfl) (hl : (py.line == pos.line) = true := by rfl)
    (hno : (scope.names.any fun (n, k) => n == y && (k == .local || k == .cell)) = false := by decide +kernel) (hs : ∀ x, foldedSetIterable iter X.env x = pure x := by intro _; rfl) : PSs X (.Assign [.Name y py] (.ListComp elt [⟨tg, iter, ifs, 0⟩] scope pos) spos :: rest) (tSD Δ d) :=
  (pss_cons (ps_setLc (i := i) hc hN hy hyl (sw_true hk hyl hl hno) hi ok hg (fun s H C cl fp => PTs.some_ (ht s H C cl fp)) (fun s H C cl fp => PE.some_ (he s H C cl fp)) hs) h).imp fun En σ H q =>
    tLc_new (Q := fun x H1 => gName i x σ H1 (fun σ' H' => tOS i (Δ.set i none) (Clst ((ls.filter f).map out)) d En σ' H')) q.1 gd hf fun Dl acc H' hD e ha r => by
      have sd : Same H (del H' Dl) := fun b o z => by
        rw [del_ne (ne_of_none z hD)]
        exact e b o z
      have fl : flatDs ((ls.filter f).map out) = true := flatDs_all fun d hd => by
        obtain ⟨a, ha, rfl⟩ := List.mem_map.mp hd
        obtain ⟨h1, h2⟩ := List.mem_filter.mp ha
        exact hf a h1 h2
      refine ⟨Dl, ⟨List.getElem?_set_self (by rw [← q.1.len]; exact hil), (q.1.mono sd).unset i, _, ha, rfl, acc, rfl, RpAll.keepT (fun b xs z => ?_) _ _ fl r⟩, fun v H'' e2 r2 => q.2 v H'' (sd.trans e2) r2⟩
      rw [del_ne fun z2 => by rw [z2, ha] at z; cases z]
      exact z
/-- if c: suite -/
theorem ob_if {b : Bool} (sc : Stays C) (hc : PT X c (tDT Δ b)) (h1 : b = true → PSs X body (tOB i Δ C Δ' C')) (h2 : b = false → PSs X rest (tOB i Δ C Δ' C')) (hr : rest = []) : PSs X (.If c body [] pos :: rest) (tOB i Δ C Δ' C') := by
  subst hr
  refine (pss_one (ps_if hc.frame (PSs.when h1) (PSs.when h2))).imp fun En σ H ⟨p, ow, k⟩ => ?_
  refine tFrT_d sc ow fun H1 e1 ow1 => ?_
  cases b with
  | true => exact ⟨rfl, p, ow1, fun σ' H' e2 o2 => k σ' H' (e1.trans e2) o2⟩
  | false => exact ⟨rfl, p, ow1, fun σ' H' e2 o2 => k σ' H' (e1.trans e2) o2⟩
/-- a, b, .. = a tuple -/
theorem ob_unpT {es : List Expr} {n : Nat} {js : List Nat} {ds : List D} {p : Pos} (sc : Stays C) (hc : X.calm = true) (he : PE X e (tD Δ (.tup ds))) (hg : PGs X es (gNames js)) (h : PSs X rest (tOB i (setAll Δ js ds) C Δ' C')) (hi : i ∉ js := by decide) (hl : js.length = ds.length := by rfl)
    (hn : (assignEach es X.env).length = ds.length := by rfl) (hst : (assignEach es X.env).findIdx? (·.1) = none := by rfl) (hs : swapsWithSole [.Tuple es n p] e pos.line X.env = pure false := by rfl) (hw : swappedStores [.Tuple es n p] e X.env = pure none := by rfl)
    (h1 : (assignEach [.Tuple es n p] X.env).map (·.2) = [assign (.Tuple es n p) X.env] := by rfl) : PSs X (.Assign [.Tuple es n p] e pos :: rest) (tOB i Δ C Δ' C') :=
  (pss_cons (ps_asg he.frame (pg_tup hc hg hn hst) hs hw h1) h).imp fun En σ H ⟨q, ow, k⟩ => by
    show tFr (tD Δ (.tup ds)) σ H (fun x H1 => gTup X.K ds.length (gNames js) x σ H1 (tOB i (setAll Δ js ds) C Δ' C' En))
    refine tFr_d sc ow fun v H1 e1 ow1 r1 _ => ?_
    cases r1 with
    | tup ha hr => exact ⟨_, _, rfl, SqT.of (same_del _ _ ha), hr.length, gNames_run hl hr ow1.sl fun σ' s' _ ho => ⟨q, ⟨(ho i hi).trans ow1.at_, s', ow1.ob⟩, fun σ2 H2 e2 o2 => k σ2 H2 (e1.trans e2) o2⟩⟩
/-- found.append(e) -/
theorem ob_append {ds : List D} {x : Str} {px p1 p2 : Pos} (hl : ds.length ≤ 1000000) (he : PE X e (tD Δ d)) (h : PSs X rest (tOB i Δ (Clst (ds ++ [d])) Δ' C')) (hN : X.N[i]? = some x := by rfl) (hv : Vis X.env.scope x := by first | exact Or.inl rfl | exact Or.inr (Or.inl rfl)) (hd : (x == ("__debug__" : Str)) = false := by decide) (hcd : (x == ("__classdict__" : Str)) = false := by decide)
    (hst : starEach [e] X.env = (false, eval e X.env) :: starEach [] X.env := by rfl)
    (hpe : ∀ {to : TE} {t : TA}, PE X (.Name x px) to → PA X [e] t → PE X (.Call (.Attribute (.Name x px) "append" p1) [e] [] p2) (tBM X.K "list" rAppend to t) := by exact fun h1 h2 => pe_bm PySem.F.plainAttrs_list PySem.F.slot_list_append PySem.F.type_list_append mt_append h1 h2)
    (hs : swapsWith (.Call (.Attribute (.Name x px) "append" p1) [e] [] p2) none pos.line X.env = pure false := by rfl) : PSs X (.Expr (.Call (.Attribute (.Name x px) "append" p1) [e] [] p2) pos :: rest) (tOB i Δ (Clst ds) Δ' C') :=
  (pss_cons (ps_expr (hpe (pe_var hN hv hd hcd) (pa_cons he.frame pa_nil hst)) hs) h).imp fun En σ H ⟨p, ow, k⟩ => by
    have ow' := ow
    obtain ⟨at_, sl, o, hp, l, xs, ho, r⟩ := ow
    subst ho
    refine ⟨.ref p, at_, Or.inl ⟨rfl, xs, SqL.of hp⟩, ?_⟩
    refine tFr_d (C := Clst ds) stays_lst ow' fun v H1 e1 ow1 r1 _ => ?_
    obtain ⟨at1, sl1, o1, hp1, l1, ys, ho1, r2⟩ := ow1
    subst ho1
    refine ⟨p, ys, v, rfl, rfl, hp1, ?_, p, ⟨at1, by rw [same_delU]; exact sl1, _, upd_same, rfl, ys ++ [v], rfl, by rw [same_delU]; exact r2.append (.cons r1 .nil)⟩, fun σ' H' e2 o2 => k σ' H' (by rw [same_delU] at e2; exact e1.trans e2) o2⟩
    rw [r2.length]
    exact Nat.lt_of_le_of_lt hl (by rw [sizeLine_eq]; decide)
end
/-- what list.extend does with a tuple, whatever slots and dict its object has -/
theorem ext_tuple (l b : Addr) (xs ys : Array Value) (n m : Nat) (dd : Option Addr) (sl : Array (Option Value)) (h0 : (!xs.isEmpty && Builtin.List.listTooLong (xs.size + ys.size)) = false) (h1 : xs.size ≤ sizeLine) (h2 : (xs ++ ys).size ≤ sizeLine + 1) :
    Meets (Builtin.«list.extend» ⟨[.ref l, .ref b], []⟩) (fun _ R s => s.heap.get? l = some { cls := .type "list", data := .seq xs n } ∧ s.heap.get? b = some { cls := .type "tuple", dict := dd, data := .seq ys m, slots := sl } ∧
      R (.ok (.ret Value.none)) { s with heap := s.heap.update l (Obj.mapSeq (· ++ ys)), toks := s.toks }) := by
  have g0 : ¬ (!xs.isEmpty && Builtin.List.listTooLong (xs.size + ys.size)) = true := by rw [h0]; exact Bool.false_ne_true
  refine .of_wp fun prog w A R s h => ?_
  obtain ⟨hp, g, d, tk, os⟩ := s
  obtain ⟨hl, hb, h⟩ := h
  have q1 := AutoSeq1.idx_int
  have q2 := AutoSeq1.sub_tuple_tuple
  have q3 := AutoSeq1.sub_list_list
  have q4 := AutoSeq1.sub_tuple_list
  have q5 := AutoSeq1.sub_list_tuple
  wp_walk using (wpAny_updateSeq hl rfl (hz := h1) (_hz' := h2)), wpAny_loadPart' hl,
    wpAny_loadPart' hb
  exact ⟨_, rfl, h⟩
/-- found.extend(a tuple) -/
def rExtT : V → List V → Hp → VK → Prop := fun x vs H Q => ∃ l b xs zs, x = .ref l ∧ vs = [.ref b] ∧ H l = some (.lst xs) ∧ H b = some (.tup zs) ∧ xs.length + zs.length ≤ sizeLine ∧ Q .non (upd H l (.lst (xs ++ zs)))
theorem mt_extT {X : Cx} : MtM X "list.extend" rExtT := by
  intro pins s σ H x vs v us Q I rx rv h
  obtain ⟨l, b, xs, zs, rfl, rfl, hH, hB, hz, q⟩ := h
  cases rx
  obtain ⟨u, rfl, ru⟩ := rv.one
  cases ru
  obtain ⟨z, its, n, r, hl, e⟩ := I.lstM hH
  obtain ⟨_, its2, r2, ⟨cls, dd, data, sl⟩, e2, hc, m, hd⟩ := I.hok b _ hB
  simp only at hc hd
  subst hc hd
  have l2 := r2.length
  have hs : its.toArray.size + its2.toArray.size ≤ sizeLine := by
    rw [List.size_toArray, List.size_toArray]
    omega
  have h0 : (!its.toArray.isEmpty && Builtin.List.listTooLong (its.toArray.size + its2.toArray.size)) = false := by
    rw [notLongL hs, Bool.and_false]
  refine call_meets F.slot_list_extend ⟨_, e, rfl⟩ F.entry_list_extend (F.args_list_extend_2 _ _) (ext_tuple l b its.toArray its2.toArray n m dd sl h0 (by omega) (by rw [Array.size_append]; omega)) ⟨e, e2, ?_⟩
  refine ⟨.non, _, I.lset (its' := its ++ its2) hH e (by simp) (r.append r2) ?_, rfl, q⟩
  rw [List.length_append]
  omega
section
variable {X : Cx} {e c : Expr} {body rest : List Stmt} {pos : Pos} {Δ Δ' Δ'' : Sd} {d d1 : D} {i : Nat} {C C' C'' : Hp → HO → Prop}
theorem ob_extendT {ds es : List D} {x : Str} {px p1 p2 : Pos} (hl : ds.length + es.length ≤ 1000000) (he : PE X e (tD Δ (.tup es))) (h : PSs X rest (tOB i Δ (Clst (ds ++ es)) Δ' C')) (hN : X.N[i]? = some x := by rfl) (hv : Vis X.env.scope x := by first | exact Or.inl rfl | exact Or.inr (Or.inl rfl)) (hd : (x == ("__debug__" : Str)) = false := by decide) (hcd : (x == ("__classdict__" : Str)) = false := by decide)
    (hst : starEach [e] X.env = (false, eval e X.env) :: starEach [] X.env := by rfl)
    (hpe : ∀ {to : TE} {t : TA}, PE X (.Name x px) to → PA X [e] t → PE X (.Call (.Attribute (.Name x px) "extend" p1) [e] [] p2) (tBM X.K "list" rExtT to t) := by exact fun h1 h2 => pe_bm PySem.F.plainAttrs_list PySem.F.slot_list_extend PySem.F.type_list_extend mt_extT h1 h2)
    (hs : swapsWith (.Call (.Attribute (.Name x px) "extend" p1) [e] [] p2) none pos.line X.env = pure false := by rfl) : PSs X (.Expr (.Call (.Attribute (.Name x px) "extend" p1) [e] [] p2) pos :: rest) (tOB i Δ (Clst ds) Δ' C') :=
  (pss_cons (ps_expr (hpe (pe_var hN hv hd hcd) (pa_cons he.frame pa_nil hst)) hs) h).imp fun En σ H ⟨p, ow, k⟩ => by
    have ow' := ow
    obtain ⟨at_, sl, o, hp, l, xs, ho, r⟩ := ow
    subst ho
    refine ⟨.ref p, at_, Or.inl ⟨rfl, xs, SqL.of hp⟩, ?_⟩
    refine tFr_d (C := Clst ds) stays_lst ow' fun v H1 e1 ow1 r1 _ => ?_
    obtain ⟨at1, sl1, o1, hp1, l1, ys, ho1, r2⟩ := ow1
    subst ho1
    cases r1 with
    | @tup a zs _ ha hz =>
      refine ⟨p, a, ys, zs, rfl, rfl, hp1, same_del _ _ ha, ?_, p, ⟨at1, by rw [same_delU]; exact sl1, _, upd_same, rfl, ys ++ zs, rfl, by rw [same_delU]; exact r2.append hz⟩, fun σ' H' e2 o2 => k σ' H' (by rw [same_delU] at e2; exact e1.trans e2) o2⟩
      rw [r2.length, hz.length]
      exact Nat.le_trans hl (by rw [sizeLine_eq]; decide)
end
end Ow
/-! A dict with tuple keys. -/
namespace Ow
open PySem PySem.Spec PyProof.Rows L2
def lookD : List (List Int) → List D → List Int → Option D
  | k :: ks, d :: ds, n => if k = n then some d else lookD ks ds n
  | _, _, _ => none
theorem map_inl {a b : List Int} (h : a.map (Sum.inl (β := Str)) = b.map Sum.inl) : a = b := by
  induction a generalizing b with
  | nil =>
    cases b with
    | nil => rfl
    | cons _ _ => cases h
  | cons x r ih =>
    cases b with
    | nil => cases h
    | cons y q =>
      simp only [List.map_cons, List.cons.injEq, Sum.inl.injEq] at h
      rw [h.1, ih h.2]
theorem kV_ints (ns : List Int) : (ns.map Sum.inl).map kV = ns.map V.int := by
  rw [List.map_map]
  rfl
theorem look_at {H : Hp} {ns : List Int} {d : D} : ∀ {kvs : List (List Key × V)} {ks : List (List Int)} {ds : List D}, kvs.map (·.1) = ks.map (List.map Sum.inl) → RpAll H (kvs.map (·.2)) ds → lookD ks ds ns = some d → ∃ v, valV kvs (ns.map Sum.inl) = some v ∧ Rp H v d
  | [], ks, ds, h1, h2, h3 => by
    cases ks with
    | nil => cases h3
    | cons _ _ => cases h1
  | (k, v) :: kvs, ks, ds, h1, h2, h3 => by
    cases ks with
    | nil => cases h1
    | cons k' ks =>
      simp only [List.map_cons, List.cons.injEq] at h1
      obtain ⟨e, h1⟩ := h1
      subst e
      cases h2 with
      | @cons _ _ d' ds' r1 r2 =>
        unfold lookD at h3
        by_cases c : k' = ns
        · rw [if_pos c] at h3
          cases h3
          subst c
          exact ⟨v, valV_pos rfl, r1⟩
        · rw [if_neg c] at h3
          obtain ⟨v', q1, q2⟩ := look_at h1 r2 h3
          exact ⟨v', by rw [valV_neg (fun z => c (map_inl z))]; exact q1, q2⟩
theorem val_none {ns : List Int} : ∀ {kvs : List (List Key × V)} {ks : List (List Int)}, kvs.map (·.1) = ks.map (List.map Sum.inl) → ns ∉ ks → valV kvs (ns.map Sum.inl) = none
  | [], _, _, _ => rfl
  | (k, v) :: kvs, ks, h1, h2 => by
    cases ks with
    | nil => cases h1
    | cons k' ks =>
      simp only [List.map_cons, List.cons.injEq] at h1
      obtain ⟨e, h1⟩ := h1
      subst e
      rw [valV_neg fun z => h2 (by rw [← map_inl z]; exact List.mem_cons_self)]
      exact val_none h1 fun z => h2 (List.mem_cons_of_mem _ z)
section
variable {X : Cx} {a b e c : Expr} {body rest : List Stmt} {pos : Pos} {Δ Δ' : Sd} {d d1 : D} {i : Nat} {C C' : Hp → HO → Prop}
theorem ev_dget {ks : List (List Int)} {ds : List D} {ns : List Int} (hu : X.A.units + 1 < cLine) (ha : PE X a (tD Δ (.dic ks ds))) (hb : PE X b (tD Δ (rowD ns))) (h : lookD ks ds ns = some d) (hs : NoSl b := by exact fun _ _ => rfl) : PE X (.Subscript a b pos) (tD Δ d) :=
  PE.d (pe_dget hu ha hb hs) fun σ H Q sl k => ⟨sl, fun x H1 e1 r1 _ => ⟨sl.mono e1, fun y H2 e2 r2 _ => by
    cases r1 with
    | dic hd hk hv =>
      obtain ⟨v, h1, h2⟩ := look_at (H := H2) hk (hv.mono e2) h
      cases r2 with
      | tup ht hi =>
        have ei := hi.ints
        subst ei
        refine ⟨_, v, rfl, ?_, k v H2 (e1.trans e2) h2⟩
        have g := DGet.t (k := ns.map Sum.inl) (e2 _ _ hd) (by rw [kV_ints]; exact ht)
        rw [h1] at g
        exact g⟩⟩
theorem same_del2 {H H' : Hp} {p : Addr} (e : Same H H') : Same (del H p) (del H' p) := fun b o h => by
  have hb : b ≠ p := fun z => by
    rw [z, del_same] at h
    cases h
  rw [del_ne hb] at h ⊢
  exact e b o h
/-- found[key] = e, a new key -/
theorem ob_dput {ks : List (List Int)} {ds : List D} {ns : List Int} {x : Str} {px p1 : Pos} (hu : X.A.units + 1 < cLine) (hn : ns ∉ ks) (hl : ks.length ≤ 1000000) (he : PE X e (tD Δ d)) (hk : PE X b (tD Δ (rowD ns))) (h : PSs X rest (tOB i Δ (Cdic (ks ++ [ns]) (ds ++ [d])) Δ' C')) (hN : X.N[i]? = some x := by rfl) (hv : Vis X.env.scope x := by first | exact Or.inl rfl | exact Or.inr (Or.inl rfl)) (hd : (x == ("__debug__" : Str)) = false := by decide) (hcd : (x == ("__classdict__" : Str)) = false := by decide)
    (hs : swapsWith e (some (.Subscript (.Name x px) b p1)) pos.line X.env = pure false := by rfl) : PSs X (.Assign [.Subscript (.Name x px) b p1] e pos :: rest) (tOB i Δ (Cdic ks ds) Δ' C') :=
  (pss_cons (ps_dput hu (pe_var hN hv hd hcd) hk he.frame hs) h).imp fun En σ H ⟨p, ow, k⟩ => by
    show tFr (tD Δ d) σ H (fun v H1 => tVar i σ H1 fun x H2 => tD Δ (rowD ns) σ H2 fun y H3 => ∃ a H4, x = .ref a ∧ DPut H3 a y v H4 ∧ tOB i Δ (Cdic (ks ++ [ns]) (ds ++ [d])) Δ' C' En σ H4)
    refine tFr_d (C := Cdic ks ds) stays_dic ow fun v H1 e1 ow1 r1 _ => ?_
    obtain ⟨at1, sl1, o1, hp1, l1, kvs, ho1, hk1, r2⟩ := ow1
    subst ho1
    refine ⟨.ref p, at1, sl1.mono same_del, fun y H3 e3 r3 _ => ?_⟩
    cases r3 with
    | @tup q _ _ ht hi =>
      have ei := hi.ints
      subst ei
      have hp3 := e3 _ _ hp1
      have hlen : kvs.length = ks.length := by
        have := congrArg List.length hk1
        simpa using this
      have e5 := same_del2 (p := p) e3
      refine ⟨p, _, rfl, DPut.t (k := ns.map Sum.inl) (v := v) hp3 (by rw [kV_ints]; exact ht) (Nat.lt_of_le_of_lt (by rw [hlen]; exact hl) (by rw [sizeLine_eq]; decide)), p, ⟨at1, by rw [same_delU]; exact sl1.mono e5, _, upd_same, rfl, _, rfl, ?_, ?_⟩, fun σ' H' e2 o2 => k σ' H' (by rw [same_delU] at e2; exact (e1.trans e5).trans e2) o2⟩
      · rw [putK_new v (val_none hk1 hn), List.map_append, List.map_append, hk1]
        rfl
      · rw [same_delU, putK_new v (val_none hk1 hn), List.map_append]
        exact (r2.mono e5).append (.cons (r1.mono e5) .nil)
end
end Ow
/-! Defs that may refuse, by an error of the class at C that carries a code. -/
namespace Ow
open PySem PySem.Spec PyProof.Rows L2
/-- the refusal with the code c is what E wishes for -/
def Er (C : Addr) (c : Int) (H : Hp) (E : XK) : Prop := ∀ dx H', Same H H' → H' dx = some (.xd [("code", .int c)]) → E (.ref C) (some dx) H'
theorem Er.mono {C : Addr} {c : Int} {H H' : Hp} {E : XK} (h : Er C c H E) (e : Same H H') : Er C c H' E := fun dx H2 e2 hd => h dx H2 (e.trans e2) hd
/-- a block's aim: what is wanted if it goes well (a stable word), or the refusal -/
def Stab {α : Type} (ok : α → Ends → L2.St → Hp → Prop) : Prop := ∀ a En σ σ' H H', Same H H' → σ'[0]? = σ[0]? → ok a En σ H → ok a En σ' H'
def KR {α : Type} (C : Addr) (E : XK) (ok : α → Ends → L2.St → Hp → Prop) (res : Except Int α) (En : Ends) (σ : L2.St) (H : Hp) : Prop :=
  match res with
  | .ok a => ok a En σ H
  | .error c => Er C c H E
theorem KR.mono {α : Type} {C : Addr} {E : XK} {ok : α → Ends → L2.St → Hp → Prop} (hk : Stab ok) {res : Except Int α} {En : Ends} {σ σ' : L2.St} {H H' : Hp} (e : Same H H') (h0 : σ'[0]? = σ[0]?) (h : KR C E ok res En σ H) : KR C E ok res En σ' H' := by
  cases res with
  | ok a => exact hk a En σ σ' H H' e h0 h
  | error c => exact Er.mono (show Er C c H E from h) e
def tK {α : Type} (C : Addr) (E : XK) (ok : α → Ends → L2.St → Hp → Prop) (Δ : Sd) (res : Except Int α) : TS := fun En σ H => Sl H σ Δ ∧ KR C E ok res En σ H
/-- it hands back data -/
def okD (d : D) (En : Ends) (σ : L2.St) (H : Hp) : Prop := ∀ v H', Same H H' → Rp H' v d → En.rt v H'
theorem okD_stab : Stab okD := fun d En σ σ' H H' e _ h v H2 e2 r => h v H2 (e.trans e2) r
/-- it comes to its end -/
def okN (_ : Unit) (En : Ends) (σ : L2.St) (H : Hp) : Prop := ∀ σ' H', Same H H' → En.nx σ' H'
theorem okN_stab : Stab okN := fun d En σ σ' H H' e _ h σ2 H2 e2 => h σ2 H2 (e.trans e2)
/-- a call that refuses with c, or hands back None -/
def tDW (C : Addr) (E : XK) (Δ : Sd) (o : Option Int) : TE := fun σ H Q => Sl H σ Δ ∧ match o with
  | none => ∀ H', Same H H' → Q .non H'
  | some c => Er C c H E
section
variable {X : Cx} {C : Addr} {E : XK} {α : Type} {ok : α → Ends → L2.St → Hp → Prop} {res : Except Int α} {e c : Expr} {es : List Expr} {body rest : List Stmt} {pos : Pos} {Δ Δ' : Sd} {d d1 : D} {o : Option Int}
theorem sk_want (hk : Stab ok) (he : PE X e (tDW C E Δ o)) (h : o = none → PSs X rest (tK C E ok Δ res)) (hx : ∀ z, o = some z → res = .error z) (hs : swapsWith e none pos.line X.env = pure false := by rfl) : PSs X (.Expr e pos :: rest) (tK C E ok Δ res) :=
  (pss_cons (ps_expr he hs) (PSs.when h)).imp fun En σ H q => ⟨q.1, by
    cases o with
    | none => exact fun H1 e1 => ⟨rfl, q.1.mono e1, q.2.mono hk e1 rfl⟩
    | some z =>
      have hz := hx z rfl
      subst hz
      exact q.2⟩
theorem sk_set {i : Nat} {x : Str} {p : Pos} (hk : Stab ok) (hN : X.N.Nodup) (he : PE X e (tD Δ d1)) (h : PSs X rest (tK C E ok (Δ.set i (some d1)) res)) (hi0 : i ≠ 0 := by decide) (hi : X.N[i]? = some x := by rfl) (hx : Loc X.env.scope x := by first | exact Or.inl rfl | exact Or.inr rfl)
    (hs : swapsWith e (some (.Name x p)) pos.line X.env = pure false := by rfl) (hf : X.fn x = true ∨ X.env.scope.names.lookup x = some .local := by first | exact .inl rfl | exact .inr rfl) : PSs X (.Assign [.Name x p] e pos :: rest) (tK C E ok Δ res) :=
  (pss_cons (ps_set hN hi hx he hs hf) h).imp fun En σ H q => ⟨q.1, fun v H1 e1 r1 _ => ⟨(q.1.mono e1).set i r1, q.2.mono hk e1 (List.getElem?_set_ne hi0)⟩⟩
theorem sk_unpT {es : List Expr} {n : Nat} {js : List Nat} {ds : List D} {p : Pos} (hk : Stab ok) (hc : X.calm = true) (he : PE X e (tD Δ (.tup ds))) (hg : PGs X es (gNames js)) (h : PSs X rest (tK C E ok (setAll Δ js ds) res)) (h0 : 0 ∉ js := by decide) (hl : js.length = ds.length := by rfl)
    (hn : (assignEach es X.env).length = ds.length := by rfl) (hst : (assignEach es X.env).findIdx? (·.1) = none := by rfl) (hs : swapsWithSole [.Tuple es n p] e pos.line X.env = pure false := by rfl) (hw : swappedStores [.Tuple es n p] e X.env = pure none := by rfl)
    (h1 : (assignEach [.Tuple es n p] X.env).map (·.2) = [assign (.Tuple es n p) X.env] := by rfl) : PSs X (.Assign [.Tuple es n p] e pos :: rest) (tK C E ok Δ res) :=
  (pss_cons (ps_asg he (pg_tup hc hg hn hst) hs hw h1) h).imp fun En σ H q => ⟨q.1, fun v H1 e1 r1 _ => by
    cases r1 with
    | tup ha hr => exact ⟨_, _, rfl, SqT.of ha, hr.length, gNames_run hl hr (q.1.mono e1) fun σ' s' _ ho => ⟨s', q.2.mono hk e1 (ho 0 h0)⟩⟩⟩
theorem sk_unpL {es : List Expr} {n : Nat} {js : List Nat} {ds : List D} {p : Pos} (hk : Stab ok) (hc : X.calm = true) (he : PE X e (tD Δ (.lst ds))) (hg : PGs X es (gNames js)) (h : PSs X rest (tK C E ok (setAll Δ js ds) res)) (h0 : 0 ∉ js := by decide) (hl : js.length = ds.length := by rfl)
    (hn : (assignEach es X.env).length = ds.length := by rfl) (hst : (assignEach es X.env).findIdx? (·.1) = none := by rfl) (hs : swapsWithSole [.Tuple es n p] e pos.line X.env = pure false := by rfl) (hw : swappedStores [.Tuple es n p] e X.env = pure none := by rfl)
    (h1 : (assignEach [.Tuple es n p] X.env).map (·.2) = [assign (.Tuple es n p) X.env] := by rfl) : PSs X (.Assign [.Tuple es n p] e pos :: rest) (tK C E ok Δ res) :=
  (pss_cons (ps_asg he (pg_unl hc hg hn hst) hs hw h1) h).imp fun En σ H q => ⟨q.1, fun v H1 e1 r1 _ => by
    cases r1 with
    | lst ha hr => exact ⟨_, _, rfl, SqL.of ha, hr.length, gNames_run hl hr (q.1.mono e1) fun σ' s' _ ho => ⟨s', q.2.mono hk e1 (ho 0 h0)⟩⟩⟩
theorem sk_lc {β : Type} {ls : List β} {enc : β → D} {f : β → Bool} {out : β → D} {Δ' : β → Sd} {g : TG} {elt tg iter : Expr} {ifs : List Expr} {scope : Scope} {i : Nat} {y : Str} {py spos : Pos} (own : List (Str × Nat)) (hk' : Stab ok) (hc : X.calm = true) (hN : X.N.Nodup) (hi : PI X tg iter (tI Δ (ls.map enc))) (bk : BlkOk X.N X.env.scope scope own)
    (hg : ∀ (s : Shared) (H : Hp) (C : Addr) (cl : List (Str × Addr)) (fp : List Addr), PG (X.blk s H scope (compEnvC scope cl C X.env) fp) tg g) (gd : ∀ a ∈ ls, GD g (own.map (·.2)) (wipeD Δ (own.map (·.2))) (enc a) (Δ' a))
    (ht : ∀ (s : Shared) (H : Hp) (C : Addr) (cl : List (Str × Addr)) (fp : List Addr), ∀ a ∈ ls, PTs (X.blk s H scope (compEnvC scope cl C X.env) fp) ifs (tDT (Δ' a) (f a)))
    (he : ∀ (s : Shared) (H : Hp) (C : Addr) (cl : List (Str × Addr)) (fp : List Addr), ∀ a, a ∈ ls ∧ f a = true → PE (X.blk s H scope (compEnvC scope cl C X.env) fp) elt (tD (Δ' a) (out a)))
    (hf : ∀ a ∈ ls, f a = true → flatD (out a) = true) (h : PSs X rest (tK C E ok (Δ.set i (some (.lst ((ls.filter f).map out)))) res)) (hi0 : i ≠ 0 := by decide) (hk : X.env.scope.kind = .function := by rfl) (hy : X.N[i]? = some y := by rfl) (hyl : X.env.scope.names.lookup y = some .local := by rfl) (hl : (py.line == pos.line) = true := by rfl)
    (hno : (scope.names.any fun (n, k) => n == y && (k == .local || k == .cell)) = false := by decide +kernel) (hs : ∀ x, foldedSetIterable iter X.env x = pure x := by intro _; rfl) : PSs X (.Assign [.Name y py] (.ListComp elt [⟨tg, iter, ifs, 0⟩] scope pos) spos :: rest) (tK C E ok Δ res) :=
  (pss_cons (ps_setLc (i := i) hc hN hy hyl (sw_true hk hyl hl hno) hi bk hg (fun s H C cl fp => PTs.some_ (ht s H C cl fp)) (fun s H C cl fp => PE.some_ (he s H C cl fp)) hs) h).imp fun En σ H q => tLc_d (Q := fun x H1 => gName i x σ H1 (fun σ' H' => tK C E ok (Δ.set i (some (.lst ((ls.filter f).map out)))) res En σ' H')) q.1 gd hf fun v H' e r => ⟨(q.1.mono e).set i r, q.2.mono hk' e (List.getElem?_set_ne hi0)⟩
/-- the pure end of a block that hands back data -/
theorem sk_pure {d : D} (h : PSs X rest (tSD Δ d)) : PSs X rest (tK C E okD Δ (.ok d)) := h.imp fun En σ H q => ⟨q.1, q.2⟩
theorem sk_nil : PSs X [] (tK C E okN Δ (.ok ())) := (pss_nil (X := X)).imp fun En σ H q => (show okN () En σ H from q.2) σ H (Same.refl H)
theorem PSs.toK {res' : Except Int α} (h : PSs X rest (tK C E ok Δ res)) (q : res = res') : PSs X rest (tK C E ok Δ res') := q ▸ h
end
/-! ### what a refusal makes of the rest -/
def wantO (b : Bool) (c : Int) : Option Int := if b = true then none else some c
def resO (o : Option Int) : Except Int Unit := match o with
  | none => .ok ()
  | some c => .error c
def seqO (o1 o2 : Option Int) : Option Int := match o1 with
  | none => o2
  | some c => some c
def refuse {α : Type} (o : Option Int) (r : Except Int α) : Except Int α := match o with
  | none => r
  | some c => .error c
section
variable {X : Cx} {C : Addr} {E : XK} {α : Type} {ok : α → Ends → L2.St → Hp → Prop} {res : Except Int α} {e : Expr} {rest : List Stmt} {pos : Pos} {Δ : Sd} {o o2 : Option Int}
theorem sk_ref (hk : Stab ok) (he : PE X e (tDW C E Δ o)) (h : o = none → PSs X rest (tK C E ok Δ res)) (hs : swapsWith e none pos.line X.env = pure false := by rfl) : PSs X (.Expr e pos :: rest) (tK C E ok Δ (refuse o res)) := by
  cases o with
  | none => exact sk_want hk he (fun _ => h rfl) (fun z q => nomatch q) hs
  | some c =>
    refine sk_want (o := some c) hk he (fun q => nomatch q) (fun z q => ?_) hs
    cases q
    rfl
theorem sk_seq (he : PE X e (tDW C E Δ o)) (h : o = none → PSs X rest (tK C E okN Δ (resO o2))) (hs : swapsWith e none pos.line X.env = pure false := by rfl) : PSs X (.Expr e pos :: rest) (tK C E okN Δ (resO (seqO o o2))) := by
  cases o with
  | none => exact sk_want okN_stab he (fun _ => h rfl) (fun z q => nomatch q) hs
  | some c =>
    refine sk_want (o := some c) okN_stab he (fun q => nomatch q) (fun z q => ?_) hs
    cases q
    rfl
theorem sk_last (he : PE X e (tDW C E Δ o)) (hs : swapsWith e none pos.line X.env = pure false := by rfl) : PSs X [.Expr e pos] (tK C E okN Δ (resO o)) := by
  cases o with
  | none => exact sk_want okN_stab he (fun _ => sk_nil) (fun z q => nomatch q) hs
  | some c =>
    refine sk_want (o := some c) okN_stab he (fun q => nomatch q) (fun z q => ?_) hs
    cases q
    rfl
theorem wantO_none {b : Bool} {c : Int} (h : wantO b c = none) : b = true := by
  cases b with
  | true => rfl
  | false => cases h
end
/-! ### promises -/
/-- none: it goes well and hands back None; some c: it refuses with c -/
def spW (C : Addr) (R : List D → Option Int → Prop) : Sp := fun vs H Q E => ∃ ds o, RpAll H vs ds ∧ R ds o ∧ match o with
  | none => ∀ H', Same H H' → Q .non H'
  | some c => Er C c H E
def spX (C : Addr) (R : List D → Except Int D → Prop) : Sp := fun vs H Q E => ∃ ds r, RpAll H vs ds ∧ R ds r ∧ match r with
  | .ok d => ∀ v H', Same H H' → Rp H' v d → Q v H'
  | .error c => Er C c H E
structure CalS (P : Program) (w : World) (K : PySem.W.Frag) (mg : Str → Option Value) (base : Heap) (k : Nat) (x : Str) (sp : Sp) : Prop where
  ex : ∃ (f : Addr) (fd : FuncData) (ps : List Str), FnOk P w K mg base (L2.CX P w) k f fd ps sp ∧ mg x = some (.ref f) ∧ PySem.W.keepIn K (.ref f) = true ∧ Binds K fd ps []
abbrev CtxX (P : Program) (w : World) (K : PySem.W.Frag) (mg : Str → Option Value) (base : Heap) (N : List Str) (qual : Str) (scope : Scope) (f : Addr) (cd : Value) (A : Around) (outer : List Env) (s : Shared) (H : Hp) (E : XK) : Cx := cxOf (L2.CX P w) P w K mg base N qual scope f cd A outer s H E
theorem passX {P : Program} {w : World} {K : PySem.W.Frag} {mg : Str → Option Value} {base : Heap} {N : List Str} {qual : Str} {scope : Scope} {f : Addr} {cd : Value} {A : Around} {outer : List Env} {s : Shared} {H : Hp} {E : XK} : Passes (L2.CX P w) (CtxX P w K mg base N qual scope f cd A outer s H E) E := passes_call (W := fun cls d _ H => E cls d H) (takes_of rfl rfl rfl rfl) fun _ _ _ _ h => h
section
variable {X : Cx} {C : Addr} {E : XK} {e : Expr} {es : List Expr} {pos p : Pos} {Δ : Sd} {o : Option Int} {ds : List D} {x : Str} {R : List D → Option Int → Prop} {j k : Nat}
theorem ew_call (Ca : CalS X.prog X.w X.K X.mg X.base j x (spW C R)) (hx : Passes (L2.CX X.prog X.w) X E) (hr : Room k X.A) (ha : PA X (e :: es) (tDA Δ ds)) (hR : R ds o) (hj : j ≤ k := by decide) (hg : Gl X x := by rfl) (hdb : (x == ("__debug__" : Str)) = false := by decide) (he : starEach (e :: es) X.env = (false, eval e X.env) :: starEach es X.env := by rfl) (hpl : (backTo pos (starEach es X.env)).any (·.1) = false := by rfl) :
    PE X (.Call (.Name x p) (e :: es) [] pos) (tDW C E Δ o) := by
  obtain ⟨f, fd, ps, F, hm, hk, hb⟩ := Ca.ex
  refine (pe_call F (hr.mono hj) hg hm hk hb .nil hx ha hdb he hpl).imp fun σ H Q q => ⟨q.1, fun vs H1 e1 r1 _ => ⟨ds, o, by rw [List.append_nil]; exact r1, hR, ?_⟩⟩
  cases o with
  | none => exact fun H2 e2 => q.2 H2 (e1.trans e2)
  | some c => exact Er.mono (show Er C c H E from q.2) e1
end
theorem mkW {P : Program} {w : World} {K : PySem.W.Frag} {mg : Str → Option Value} {base : Heap} {C : Addr} {x : Str} {st : Stmt} {N ps : List Str} {k : Nat} {R : List D → Option Int → Prop} (F : Defn K mg x st) (S : FnScope N ps (defScope st))
    (hb : ∀ (kV doc pm : Value) (an : Option Addr) (cdv ct : Value) (us : List Value), us.length = ps.length → bindArgs (PySem.W.fnOf x x (defArgs st) (defBody st) (defScope st) .none kV doc pm an cdv ct) ⟨us, []⟩ = pure (ps.zip us))
    (len : ∀ ds d, R ds d → ds.length = ps.length)
    (body : ∀ (f : Addr) (cdv : Value) (A : Around) (outer : List Env) (s : Shared) (H : Hp) (E : XK), Room k (A.deeper (envOfC x (defScope st) s.heap.objs.size f cdv)) → ∀ ds o, R ds o → PSs (CtxX P w K mg base N x (defScope st) f cdv A outer s H E) (defBody st) (tK C E okN (startD N ds) (resO o))) :
    CalS P w K mg base (k + 1) x (spW C R) := by
  obtain ⟨f, fd, G, hm⟩ := F.ex
  refine ⟨f, fd, ps, G.okX S (fun vs H Q E h => ?_) (fun cdv A outer s H vs Q E hr h => ?_), hm, G.kp, G.binds hb⟩
  · obtain ⟨ds, d, r, hR, _⟩ := h
    rw [r.length]
    exact len ds d hR
  · obtain ⟨ds, o, r, hR, q⟩ := h
    refine ⟨_, body f cdv A outer s H E hr ds o hR, Sl.start r, ?_⟩
    cases o with
    | none => exact fun σ' H' e => q H' e
    | some c => exact q
theorem mkX {P : Program} {w : World} {K : PySem.W.Frag} {mg : Str → Option Value} {base : Heap} {C : Addr} {x : Str} {st : Stmt} {N ps : List Str} {k : Nat} {R : List D → Except Int D → Prop} (F : Defn K mg x st) (S : FnScope N ps (defScope st))
    (hb : ∀ (kV doc pm : Value) (an : Option Addr) (cdv ct : Value) (us : List Value), us.length = ps.length → bindArgs (PySem.W.fnOf x x (defArgs st) (defBody st) (defScope st) .none kV doc pm an cdv ct) ⟨us, []⟩ = pure (ps.zip us))
    (len : ∀ ds d, R ds d → ds.length = ps.length)
    (body : ∀ (f : Addr) (cdv : Value) (A : Around) (outer : List Env) (s : Shared) (H : Hp) (E : XK), Room k (A.deeper (envOfC x (defScope st) s.heap.objs.size f cdv)) → ∀ ds r, R ds r → PSs (CtxX P w K mg base N x (defScope st) f cdv A outer s H E) (defBody st) (tK C E okD (startD N ds) r)) :
    CalS P w K mg base (k + 1) x (spX C R) := by
  obtain ⟨f, fd, G, hm⟩ := F.ex
  refine ⟨f, fd, ps, G.okX S (fun vs H Q E h => ?_) (fun cdv A outer s H vs Q E hr h => ?_), hm, G.kp, G.binds hb⟩
  · obtain ⟨ds, d, r, hR, _⟩ := h
    rw [r.length]
    exact len ds d hR
  · obtain ⟨ds, res, r, hR, q⟩ := h
    refine ⟨_, body f cdv A outer s H E hr ds res hR, Sl.start r, ?_⟩
    cases res with
    | ok d => exact fun v H' e r' => q v H' e r'
    | error c => exact q
section
variable {X : Cx} {e : Expr} {pos : Pos} {Δ : Sd} {d : D}
/-- o.f, o an instance with that one field -/
theorem ev_fld {C : Addr} {f : Str} (c : Cls X.K C) (n : NoAttr X.K C f) (he : PE X e (tD Δ (.ins C [f] [d]))) (hb : attributeBase e f X.env (eval e X.env) = eval e X.env := by rfl) : PE X (.Attribute e f pos) (tD Δ d) :=
  PE.d (pe_fld he hb) fun σ H Q sl k => ⟨sl, fun x H1 e1 r1 _ => by
    cases r1 with
    | @ins a _ dx fs _ _ ha hn hv =>
      match fs, hn, hv with
      | [(f', v)], hn, hv =>
        have e : f' = f := by simpa using hn
        subst e
        cases hv with
        | cons r2 _ =>
          exact ⟨a, C, dx, _, v, rfl, ha, c, n, by simp [List.lookup], k v H1 e1 r2⟩⟩
end
end Ow
/-! The text by places; what the module's names hold. -/
namespace Ow
open PySem PySem.Spec PyProof.Rows L2
def topS (i : Nat) : Stmt := PySem.Challenge.pw_originways_s01_answers.main.body.getD i (.Pass ⟨0, 0, 0, 0⟩)
/-- a module's tuple of numbers -/
def TupG (K : PySem.W.Frag) (mg : Str → Option Value) (x : Str) (ns : List Int) : Prop := ∃ a, mg x = some (.ref a) ∧ ∀ H, SqT K H a (ns.map V.int)
def IntG (mg : Str → Option Value) (x : Str) (i : Int) : Prop := ∃ t, mg x = some (.int i t)
structure Glob (K : PySem.W.Frag) (mg : Str → Option Value) : Prop where
  addr : IntG mg "ADDRESSES" 64
  most : IntG mg "MOST_LENGTH" 6
  sizes : TupG K mg "SIZES" [64, 32, 16, 8, 4, 2, 1]
  notFound : IntG mg "NOT_FOUND" 0
  valid : IntG mg "VALID" 1
  invalid : IntG mg "INVALID" 2
  nobody : IntG mg "NOBODY" (-1)
  members : IntG mg "MEMBERS" 8
  missing : IntG mg "MISSING" (-2)
  noAnn : IntG mg "NO_ANNOUNCEMENT" (-6)
  exists_ : IntG mg "EXISTS" (-17)
  wrong : IntG mg "WRONG" (-22)
  full : IntG mg "FULL" (-28)
  mostRoas : IntG mg "MOST_ROAS" 12
  mostAnns : IntG mg "MOST_ANNOUNCEMENTS" 16
  noDest : IntG mg "NO_DESTINATION" (-33)
  firstQuery : IntG mg "FIRST_QUERY" 7
  noReg : IntG mg "NO_REGISTRY" (-11)
  reset : IntG mg "RESET" 0
  numbers : TupG K mg "NUMBERS" [0, 4, 1, 4, 4, 1, 1, 3, 1, 1, 1, 1, 1, 4, 0, 1, 0, 0]
  nLen : mg "len" = none
  nRange : mg "range" = none
  nAny : mg "any" = none
  nMin : mg "min" = none
  nInt : mg "int" = none
  nTuple : mg "tuple" = none
  nVE : mg "ValueError" = none
section
variable {X : Cx} {b : Expr} {pos p : Pos} {Δ : Sd} {i j : Int}
theorem ev_ixG {x : Str} {ns : List Int} {n : Nat} {v : Int} (g : TupG X.K X.mg x ns) (hb : PE X b (tD Δ (.int (n : Int)))) (h : ns[n]? = some v) (hg : Gl X x := by rfl) (hd : (x == ("__debug__" : Str)) = false := by decide) (hs : PlainIx b := by exact fun _ _ => rfl) : PE X (.Subscript (.Name x p) b pos) (tD Δ (.int v)) := by
  obtain ⟨a, hm, hq⟩ := g
  refine PE.d (pe_ix ix_tup (pe_glob hg hm (v := .ref a) rfl hd) hb hs) fun σ H Q sl k => ⟨sl, fun y H2 e2 r2 _ => ?_⟩
  cases r2
  exact ⟨a, _, _, _, rfl, rfl, hq H2, atI_nat (by rw [List.getElem?_map, h]; rfl), k _ H2 e2 (.int v)⟩
end
theorem sizes_at {n : Nat} (h : n ≤ 6) : ([64, 32, 16, 8, 4, 2, 1] : List Int)[n]? = some (((2 ^ (6 - n) : Nat)) : Int) := by
  match n, h with
  | 0, _ => rfl
  | 1, _ => rfl
  | 2, _ => rfl
  | 3, _ => rfl
  | 4, _ => rfl
  | 5, _ => rfl
  | 6, _ => rfl
end Ow
/-! prefixes -/
namespace Ow
open PySem PySem.Spec PyProof.Rows L2
section
variable {P : Program} {w : World} {K : PySem.W.Frag} {mg : Str → Option Value} {base : Heap}
theorem pow_pos6 (n : Nat) : (0 : Int) < ((2 ^ (6 - n) : Nat) : Int) := by
  have := Nat.two_pow_pos (6 - n)
  omega

theorem filt_true {α : Type} (l : List α) : l.filter (fun _ => true) = l := List.filter_eq_self.mpr fun _ _ => rfl

/-! ### is_prefix -/
abbrev sIsPrefix : Stmt := topS 4
def RIsPrefix (ds : List D) (d : D) : Prop := ∃ a l : Nat, ds = [.int a, .int l] ∧ d = .bl (Su202.isPrefix a l)
theorem scIsPrefix : FnScope ["address", "length"] ["address", "length"] (defScope sIsPrefix) := ⟨rfl, rfl, rfl, by decide +kernel, rfl, by decide +kernel, by decide +kernel⟩
theorem math_isPrefix (a l : Nat) : (decide ((l : Int) ≤ 6) && (decide ((a : Int) < 64) && decide ((a : Int) % ((2 ^ (6 - l) : Nat) : Int) = 0))) = Su202.isPrefix a l := by
  unfold Su202.isPrefix Su202.addressBits
  rw [Bool.eq_iff_iff]
  simp only [Bool.and_eq_true, decide_eq_true_eq, beq_iff_eq]
  have e : (a : Int) % ((2 ^ (6 - l) : Nat) : Int) = 0 ↔ a % 2 ^ (6 - l) = 0 := by
    rw [← Int.natCast_emod]
    omega
  rw [e]
  omega
theorem okIsPrefix (F : Defn K mg "is_prefix" sIsPrefix) (G : Glob K mg) : CalD P w K mg base 1 "is_prefix" RIsPrefix := by
  refine mkD F scIsPrefix (fun _ _ _ _ _ _ us hl => match us, hl with | [_, _], _ => rfl) (fun ds d h => by obtain ⟨a, l, rfl, rfl⟩ := h; rfl) ?_
  rintro f cdv A outer s H E hr _ _ ⟨a, l, rfl, rfl⟩
  refine sd_ret (PE.to (ev_and (ev_cmp op_le od_le (ev_var 1) (ev_glob G.most)) fun h1 => ev_and (ev_cmp op_lt od_lt (ev_var 0) (ev_glob G.addr)) fun h2 =>
    ev_one (ev_cmp op_eq od_eqI (ev_mod (pow_pos6 l) (ev_var 0) (ev_ixG G.sizes (ev_var 1) (sizes_at ?_))) ev_int)) (congrArg D.bl (math_isPrefix a l)))
  have := of_decide_eq_true h1
  omega

/-! ### first_of -/
abbrev sFirstOf : Stmt := topS 5
def RFirstOf (ds : List D) (d : D) : Prop := ∃ a l : Nat, l ≤ 6 ∧ ds = [.int a, .int l] ∧ d = .int ((Su202.prefixOf a l : Nat) : Int)
theorem scFirstOf : FnScope ["address", "length"] ["address", "length"] (defScope sFirstOf) := ⟨rfl, rfl, rfl, by decide +kernel, rfl, by decide +kernel, by decide +kernel⟩
theorem math_firstOf (a l : Nat) : (a : Int) - (a : Int) % ((2 ^ (6 - l) : Nat) : Int) = ((Su202.prefixOf a l : Nat) : Int) := by
  unfold Su202.prefixOf Su202.addressBits
  rw [← Int.natCast_emod]
  have := Nat.mod_le a (2 ^ (6 - l))
  omega
theorem okFirstOf (F : Defn K mg "first_of" sFirstOf) (G : Glob K mg) : CalD P w K mg base 1 "first_of" RFirstOf := by
  refine mkD F scFirstOf (fun _ _ _ _ _ _ us hl => match us, hl with | [_, _], _ => rfl) (fun ds d h => by obtain ⟨a, l, _, rfl, rfl⟩ := h; rfl) ?_
  rintro f cdv A outer s H E hr _ _ ⟨a, l, hl, rfl, rfl⟩
  exact sd_ret (PE.to (ev_sub (ev_var 0) (ev_mod (pow_pos6 l) (ev_var 0) (ev_ixG G.sizes (ev_var 1) (sizes_at hl)))) (congrArg D.int (math_firstOf a l)))

/-! ### contains -/
abbrev sContains : Stmt := topS 6
def containsM (o ol a l : Nat) : Bool := decide (ol ≤ l) && decide (Su202.prefixOf a ol = o)
def RContains (ds : List D) (d : D) : Prop := ∃ o ol a l : Nat, ol ≤ 6 ∧ ds = [.int o, .int ol, .int a, .int l] ∧ d = .bl (containsM o ol a l)
theorem scContains : FnScope ["outer", "outer_length", "address", "length"] ["outer", "outer_length", "address", "length"] (defScope sContains) := ⟨rfl, rfl, rfl, by decide +kernel, rfl, by decide +kernel, by decide +kernel⟩
theorem math_contains (o ol a l : Nat) : (decide ((ol : Int) ≤ (l : Int)) && decide (((Su202.prefixOf a ol : Nat) : Int) = (o : Int))) = containsM o ol a l := by
  unfold containsM
  rw [Bool.eq_iff_iff]
  simp only [Bool.and_eq_true, decide_eq_true_eq]
  omega
theorem okContains (F : Defn K mg "contains" sContains) (G : Glob K mg) (C : CalD P w K mg base 1 "first_of" RFirstOf) : CalD P w K mg base 2 "contains" RContains := by
  refine mkD F scContains (fun _ _ _ _ _ _ us hl => match us, hl with | [_, _, _, _], _ => rfl) (fun ds d h => by obtain ⟨o, ol, a, l, _, rfl, rfl⟩ := h; rfl) ?_
  rintro f cdv A outer s H E hr _ _ ⟨o, ol, a, l, hl, rfl, rfl⟩
  exact sd_ret (PE.to (ev_and (ev_cmp op_le od_le (ev_var 1) (ev_var 3)) fun h1 =>
    ev_one (ev_cmp op_eq od_eqI (ev_call C hr (ea_cons (ev_var 2) (ea_cons (ev_var 1) ea_nil)) ⟨a, ol, hl, rfl, rfl⟩) (ev_var 0))) (congrArg D.bl (math_contains o ol a l)))

/-! ### prefixes_around -/
abbrev sAround : Stmt := topS 7
def preD (p : Nat × Nat) : D := .tup [.int p.1, .int p.2]
def aroundM (a : Nat) : List (Nat × Nat) := (List.range 7).map fun l => (Su202.prefixOf a l, l)
def RAround (ds : List D) (d : D) : Prop := ∃ a : Nat, ds = [.int a] ∧ d = .lst ((aroundM a).map preD)
theorem scAround : FnScope ["address", "length"] ["address"] (defScope sAround) := ⟨rfl, rfl, rfl, by decide +kernel, rfl, by decide +kernel, by decide +kernel⟩
theorem okAround (F : Defn K mg "prefixes_around" sAround) (G : Glob K mg) (C : CalD P w K mg base 1 "first_of" RFirstOf) : CalD P w K mg base 2 "prefixes_around" RAround := by
  refine mkD F scAround (fun _ _ _ _ _ _ us hl => match us, hl with | [_], _ => rfl) (fun ds d h => by obtain ⟨a, rfl, rfl⟩ := h; rfl) ?_
  rintro f cdv A outer s H E hr _ _ ⟨a, rfl, rfl⟩
  refine sd_ret (PE.to (ev_lc (f := fun _ => true) (out := fun l : Nat => preD (Su202.prefixOf a l, l)) [("length", 1)] rfl scAround.nd (it_range (n := 7) G.nRange (PE.to (ev_add (ev_glob G.most) ev_int) rfl))
    (blkOk_by (N := ["address", "length"]) (sc := defScope sAround) (by decide +kernel)) (fun _ _ _ _ _ => pg_name (i := 1) scAround.nd rfl (Or.inl rfl)) (fun _ _ => gd_name) (fun _ _ _ _ _ _ _ => ts_nil)
    (fun _ _ _ _ _ l hl => ev_tup (ea_cons (ev_call C hr (ea_cons (ev_var 0) (ea_cons (ev_var 1) ea_nil)) ⟨a, l, ?_, rfl, rfl⟩) (ea_cons (ev_var 1) ea_nil))) (fun _ _ _ => rfl)) ?_)
  · have := List.mem_range.mp hl.1
    omega
  · rw [filt_true]
    unfold aroundM
    rw [List.map_map]
    rfl

/-! ### all_prefixes -/
abbrev sAll : Stmt := topS 8
def lenM (l : Nat) : List (Nat × Nat) := (List.range (2 ^ l)).map fun k => (k * 2 ^ (6 - l), l)
def allM : List (Nat × Nat) := (List.range 7).flatMap lenM
def RAll (ds : List D) (d : D) : Prop := ds = [] ∧ d = .lst (allM.map preD)
theorem scAll : FnScope ["found", "length", "address"] [] (defScope sAll) := ⟨rfl, rfl, rfl, by decide +kernel, rfl, by decide +kernel, by decide +kernel⟩
theorem rgc_of {l : Nat} (h : l < 7) : RgC 0 64 ((2 ^ (6 - l) : Nat) : Int) (2 ^ l) := by
  match l, h with
  | 0, _ => exact ⟨by decide, by decide, by decide +kernel, by decide +kernel⟩
  | 1, _ => exact ⟨by decide, by decide, by decide +kernel, by decide +kernel⟩
  | 2, _ => exact ⟨by decide, by decide, by decide +kernel, by decide +kernel⟩
  | 3, _ => exact ⟨by decide, by decide, by decide +kernel, by decide +kernel⟩
  | 4, _ => exact ⟨by decide, by decide, by decide +kernel, by decide +kernel⟩
  | 5, _ => exact ⟨by decide, by decide, by decide +kernel, by decide +kernel⟩
  | 6, _ => exact ⟨by decide, by decide, by decide +kernel, by decide +kernel⟩
def allD (n : Nat) : List D := ((List.range n).flatMap lenM).map preD
theorem allD_next (n : Nat) : allD (n + 1) = allD n ++ (lenM n).map preD := by
  unfold allD
  rw [List.range_succ, List.flatMap_append, List.map_append]
  simp
theorem pow_le7 {l : Nat} (h : l < 7) : 2 ^ l ≤ 64 := Nat.pow_le_pow_right (by decide) (by omega : l ≤ 6)
theorem allD_len : ∀ n, n ≤ 7 → (allD n).length ≤ n * 64
  | 0, _ => by simp [allD]
  | n + 1, h => by
    rw [allD_next, List.length_append, List.length_map]
    have := allD_len n (by omega)
    have e : (lenM n).length = 2 ^ n := by unfold lenM; simp
    have := pow_le7 (l := n) (by omega)
    omega
theorem okAll (F : Defn K mg "all_prefixes" sAll) (G : Glob K mg) : CalD P w K mg base 1 "all_prefixes" RAll := by
  refine mkD F scAll (fun _ _ _ _ _ _ us hl => match us, hl with | [], _ => rfl) (fun ds d h => by obtain ⟨rfl, rfl⟩ := h; rfl) ?_
  rintro f cdv A outer s H E hr _ _ ⟨rfl, rfl⟩
  refine os_new (i := 0) scAll.nd (os_forR (Cn := fun n => Clst (allD n)) (j := 1) (n := 7) [none, none, none] PassesOwn.never rfl (fun _ => stays_lst) G.nRange (PE.to (ev_add (ev_glob G.most) ev_int) rfl) (by decide) (pg_name (i := 1) scAll.nd rfl (Or.inr rfl)) (by decide) (fun _ _ h => h)
    (fun m hm => ?_) os_ret)
  rw [allD_next]
  refine ob_extend ?_ (PE.to (ev_lc (f := fun _ => true) (out := fun k : Nat => preD (k * 2 ^ (6 - m), m)) (enc := fun k : Nat => D.int (0 + (k : Int) * ((2 ^ (6 - m) : Nat) : Int))) [("address", 2)] rfl scAll.nd
      (it_range3 (n := 2 ^ m) G.nRange ev_int (ev_glob G.addr) (ev_ixG G.sizes (ev_var 1) (sizes_at (by omega))) (rgc_of hm) (Nat.le_trans (pow_le7 hm) (by decide)))
    (blkOk_by (N := ["found", "length", "address"]) (sc := defScope sAll) (by decide +kernel)) (fun _ _ _ _ _ => pg_name (i := 2) scAll.nd rfl (Or.inl rfl)) (fun _ _ => gd_name) (fun _ _ _ _ _ _ _ => ts_nil)
    (fun _ _ _ _ _ k hk => PE.to (ev_tup (ea_cons (ev_var 2) (ea_cons (ev_var 1) ea_nil))) ?_) (fun _ _ _ => rfl)) ?_) (ob_nil fun σ H h => ?_)
  · rw [List.length_map]
    have := allD_len m (by omega)
    have e : (lenM m).length = 2 ^ m := by unfold lenM; simp
    have := pow_le7 hm
    omega
  · show D.tup [.int _, .int _] = D.tup [.int _, .int _]
    rw [Int.zero_add, Int.natCast_mul]
  · rw [filt_true]
    unfold lenM
    rw [List.map_map]
    rfl
  · exact ⟨h.len, fun i d q => by
      match i, q with
      | 0, q => cases q
      | 1, q => cases q
      | 2, q => cases q⟩
end
end Ow
/-! roas -/
namespace Ow
open PySem PySem.Spec PyProof.Rows L2
def roaRow (g : Su202.Roa) : List Int := [g.address, g.length, g.maxLength, g.origin]
def annRow (s : Su202.Announcement) : List Int := [s.address, s.length, s.announcer, s.origin]
def roaD (g : Su202.Roa) : D := rowD (roaRow g)
def annD (s : Su202.Announcement) : D := rowD (annRow s)
def GoodR (rs : List Su202.Roa) : Prop := ∀ g ∈ rs, Su202.isPrefix g.address g.length = true
theorem isPrefix_iff (a l : Nat) : Su202.isPrefix a l = true ↔ l ≤ 6 ∧ a < 64 ∧ a % 2 ^ (6 - l) = 0 := by
  unfold Su202.isPrefix Su202.addressBits
  simp only [Bool.and_eq_true, decide_eq_true_eq, beq_iff_eq]
/-- a prefix contains an address just where the address's own prefix of that length is it -/
theorem prefixOf_eq {o ol a : Nat} (h : Su202.isPrefix o ol = true) : Su202.prefixOf a ol = o ↔ Su202.prefixContains o ol a = true := by
  obtain ⟨_, _, h3⟩ := (isPrefix_iff o ol).mp h
  unfold Su202.prefixOf Su202.prefixContains Su202.addressBits
  generalize hm : 2 ^ (6 - ol) = m at *
  have hp : 0 < m := by rw [← hm]; exact Nat.two_pow_pos _
  rw [beq_iff_eq]
  have e1 := Nat.div_add_mod a m
  have e2 := Nat.div_add_mod o m
  have e3 : a - a % m = m * (a / m) := by omega
  have e4 : o = m * (o / m) := by omega
  constructor
  · intro q
    have : m * (a / m) = m * (o / m) := by omega
    exact Nat.eq_of_mul_eq_mul_left hp this
  · intro q
    rw [e3, q]
    exact e4.symm
theorem containsM_eq {o ol a l : Nat} (h : Su202.isPrefix o ol = true) : containsM o ol a l = (decide (ol ≤ l) && Su202.prefixContains o ol a) := by
  unfold containsM
  congr 1
  rw [Bool.eq_iff_iff, decide_eq_true_eq]
  exact prefixOf_eq h
section
variable {P : Program} {w : World} {K : PySem.W.Frag} {mg : Str → Option Value} {base : Heap}

/-! ### covering -/
abbrev sCovering : Stmt := topS 13
def RCovering (ds : List D) (d : D) : Prop := ∃ (rs : List Su202.Roa) (a l : Nat), GoodR rs ∧ ds = [.lst (rs.map roaD), .int a, .int l] ∧ d = .lst ((rs.filter fun g => g.covers a l).map roaD)
abbrev nCovering : List Str := ["roas", "address", "length", "roa"]
theorem scCovering : FnScope nCovering ["roas", "address", "length"] (defScope sCovering) := ⟨rfl, rfl, rfl, by decide +kernel, rfl, by decide +kernel, by decide +kernel⟩
theorem okCovering (F : Defn K mg "covering" sCovering) (G : Glob K mg) (C : CalD P w K mg base 2 "contains" RContains) : CalD P w K mg base 3 "covering" RCovering := by
  refine mkD F scCovering (fun _ _ _ _ _ _ us hl => match us, hl with | [_, _, _], _ => rfl) (fun ds d h => by obtain ⟨rs, a, l, _, rfl, rfl⟩ := h; rfl) ?_
  rintro f cdv A outer s H E hr _ _ ⟨rs, a, l, hg, rfl, rfl⟩
  refine sd_ret (PE.to (ev_lc (ls := rs) (enc := roaD) (f := fun g => containsM g.address g.length a l) (out := roaD) [("roa", 3)] rfl scCovering.nd (it_list (ev_var 0))
    (blkOk_by (N := nCovering) (sc := defScope sCovering) (by decide +kernel)) (fun _ _ _ _ _ => pg_name (i := 3) scCovering.nd rfl (Or.inl rfl)) (fun _ _ => gd_name)
    (fun _ _ _ _ _ g hm => ts_one (et_val (ev_call C hr (ea_cons (ev_item 0 (ev_var 3)) (ea_cons (ev_item 1 (ev_var 3)) (ea_cons (ev_var 1) (ea_cons (ev_var 2) ea_nil)))) ⟨g.address, g.length, a, l, ((isPrefix_iff _ _).mp (hg g hm)).1, rfl, rfl⟩)))
    (fun _ _ _ _ _ g hm => ev_var 3) (fun _ _ _ => rfl)) ?_)
  have e : rs.filter (fun g => containsM g.address g.length a l) = rs.filter fun g => g.covers a l := List.filter_congr fun g hm => containsM_eq (hg g hm)
  rw [e]

/-! ### validity_by -/
abbrev sValBy : Stmt := topS 14
def valByM (cs : List Su202.Roa) (l o : Nat) : Nat := if cs.isEmpty = true then 0 else if (cs.any fun g => decide (g.origin = o) && decide (l ≤ g.maxLength)) = true then 1 else 2
def RValBy (ds : List D) (d : D) : Prop := ∃ (cs : List Su202.Roa) (l o : Nat), ds = [.lst (cs.map roaD), .int l, .int o] ∧ d = .int ((valByM cs l o : Nat) : Int)
abbrev nValBy : List Str := ["covers", "length", "origin", "roa"]
theorem scValBy : FnScope nValBy ["covers", "length", "origin"] (defScope sValBy) := ⟨rfl, rfl, rfl, by decide +kernel, rfl, by decide +kernel, by decide +kernel⟩
theorem dec_nat {a b : Nat} : decide ((a : Int) = (b : Int)) = decide (a = b) := by
  rw [Bool.eq_iff_iff, decide_eq_true_eq, decide_eq_true_eq]
  omega
theorem dec_natLe {a b : Nat} : decide ((a : Int) ≤ (b : Int)) = decide (a ≤ b) := by
  rw [Bool.eq_iff_iff, decide_eq_true_eq, decide_eq_true_eq]
  omega
theorem dec_natLt {a b : Nat} : decide ((a : Int) < (b : Int)) = decide (a < b) := by
  rw [Bool.eq_iff_iff, decide_eq_true_eq, decide_eq_true_eq]
  omega
theorem okValBy (F : Defn K mg "validity_by" sValBy) (G : Glob K mg) : CalD P w K mg base 1 "validity_by" RValBy := by
  refine mkD F scValBy (fun _ _ _ _ _ _ us hl => match us, hl with | [_, _, _], _ => rfl) (fun ds d h => by obtain ⟨rs, l, o, rfl, rfl⟩ := h; rfl) ?_
  rintro f cdv A outer s H E hr _ _ ⟨cs, l, o, rfl, rfl⟩
  have er : D.lst (cs.map roaD) = D.lst ((cs.map roaRow).map rowD) := by
    rw [List.map_map]
    rfl
  refine sd_if (b := (cs.map roaRow).isEmpty) (et_cmp (op_eqD hr.units) od_eqNilRows (PE.to (ev_var 0) er) (ev_lst ea_nil)) (fun h => ?_) (fun h => ?_)
  · have h' : cs.isEmpty = true := by simpa using h
    refine sd_ret (PE.to (ev_glob G.notFound) ?_)
    unfold valByM
    rw [if_pos h']
    rfl
  · have h' : cs.isEmpty = false := by simpa using h
    refine sd_if (b := (cs.map fun g => decide (g.origin = o) && decide (l ≤ g.maxLength)).any id) (et_val (ev_any rfl G.nAny (PE.to (ev_lc (ls := cs) (enc := roaD) (f := fun _ => true) (out := fun g => D.bl (decide (g.origin = o) && decide (l ≤ g.maxLength))) [("roa", 3)] rfl scValBy.nd (it_list (ev_var 0))
      (blkOk_by (N := nValBy) (sc := defScope sValBy) (by decide +kernel)) (fun _ _ _ _ _ => pg_name (i := 3) scValBy.nd rfl (Or.inl rfl)) (fun _ _ => gd_name) (fun _ _ _ _ _ g hm => ts_nil)
      (fun _ _ _ _ _ g hm => PE.to (ev_and (ev_cmp op_eq od_eqI (ev_item 3 (ev_var 3)) (ev_var 2)) fun _ => ev_one (ev_cmp op_ge od_ge (ev_item 2 (ev_var 3)) (ev_var 1))) (by rw [dec_nat, dec_natLe])) (fun _ _ _ => rfl)) ?_))) (fun h2 => ?_) (fun h2 => ?_)
    · rw [filt_true, List.map_map]
      rfl
    · refine sd_ret (PE.to (ev_glob G.valid) ?_)
      rw [List.any_map] at h2
      have h3 : (cs.any fun g => decide (g.origin = o) && decide (l ≤ g.maxLength)) = true := h2
      unfold valByM
      rw [if_neg (by rw [h']; exact Bool.false_ne_true), if_pos h3]
      rfl
    · refine sd_ret (PE.to (ev_glob G.invalid) ?_)
      rw [List.any_map] at h2
      have h3 : (cs.any fun g => decide (g.origin = o) && decide (l ≤ g.maxLength)) = false := h2
      unfold valByM
      rw [if_neg (by rw [h']; exact Bool.false_ne_true), if_neg (by rw [h3]; exact Bool.false_ne_true)]
      rfl

/-! ### validity -/
abbrev sValidity : Stmt := topS 15
def RValidity (ds : List D) (d : D) : Prop := ∃ (rs : List Su202.Roa) (a l o : Nat), GoodR rs ∧ ds = [.lst (rs.map roaD), .int a, .int l, .int o] ∧ d = .int ((Su202.validity rs a l o : Nat) : Int)
abbrev nValidity : List Str := ["roas", "address", "length", "origin"]
theorem scValidity : FnScope nValidity nValidity (defScope sValidity) := ⟨rfl, rfl, rfl, by decide +kernel, rfl, by decide +kernel, by decide +kernel⟩
theorem math_validity (rs : List Su202.Roa) (a l o : Nat) : valByM (rs.filter fun g => g.covers a l) l o = Su202.validity rs a l o := by
  unfold valByM Su202.validity
  have e1 : ((rs.filter fun g => g.covers a l).any fun g => decide (g.origin = o) && decide (l ≤ g.maxLength)) = rs.any fun g => g.covers a l && (decide (l ≤ g.maxLength) && g.origin == o) := by
    rw [List.any_filter]
    refine congrArg _ (funext fun g => ?_)
    rw [Bool.and_comm (decide (g.origin = o))]
    rfl
  have e2 : (rs.filter fun g => g.covers a l).isEmpty = !(rs.any fun g => g.covers a l) := by
    induction rs with
    | nil => rfl
    | cons g r ih =>
      rw [List.filter_cons, List.any_cons]
      cases g.covers a l with
      | true => rfl
      | false =>
        simp only [Bool.false_eq_true, if_false, Bool.false_or]
        exact ih (by
          rw [List.any_filter]
          refine congrArg _ (funext fun g => ?_)
          rw [Bool.and_comm (decide (g.origin = o))]
          rfl)
  rw [e1, e2]
  cases h1 : rs.any fun g => g.covers a l && (decide (l ≤ g.maxLength) && g.origin == o) with
  | true =>
    have h2 : (rs.any fun g => g.covers a l) = true := by
      obtain ⟨g, hg, hq⟩ := List.any_eq_true.mp h1
      exact List.any_eq_true.mpr ⟨g, hg, (Bool.and_eq_true_iff.mp hq).1⟩
    rw [h2]
    rfl
  | false =>
    cases h2 : rs.any fun g => g.covers a l <;> rfl
theorem okValidity (F : Defn K mg "validity" sValidity) (C1 : CalD P w K mg base 3 "covering" RCovering) (C2 : CalD P w K mg base 1 "validity_by" RValBy) : CalD P w K mg base 4 "validity" RValidity := by
  refine mkD F scValidity (fun _ _ _ _ _ _ us hl => match us, hl with | [_, _, _, _], _ => rfl) (fun ds d h => by obtain ⟨rs, a, l, o, _, rfl, rfl⟩ := h; rfl) ?_
  rintro f cdv A outer s H E hr _ _ ⟨rs, a, l, o, hg, rfl, rfl⟩
  refine sd_ret (ev_call C2 hr (ea_cons (ev_call C1 hr (ea_cons (ev_var 0) (ea_cons (ev_var 1) (ea_cons (ev_var 2) ea_nil))) ⟨rs, a, l, hg, rfl, rfl⟩) (ea_cons (ev_var 2) (ea_cons (ev_var 3) ea_nil))) ⟨_, l, o, rfl, ?_⟩)
  rw [math_validity]

/-! ### is_passing -/
abbrev sPassing : Stmt := topS 16
def passM (c : Nat) (b : Bool) : Bool := c == 1 || (c == 0 && !b)
def strD (b : Bool) : D := .int ((Su202.boolToNat b : Nat) : Int)
def RPassing (ds : List D) (d : D) : Prop := ∃ (c : Nat) (b : Bool), ds = [.int c, strD b] ∧ d = .bl (passM c b)
abbrev nPassing : List Str := ["code", "strict"]
theorem scPassing : FnScope nPassing nPassing (defScope sPassing) := ⟨rfl, rfl, rfl, by decide +kernel, rfl, by decide +kernel, by decide +kernel⟩
theorem okPassing (F : Defn K mg "is_passing" sPassing) (G : Glob K mg) : CalD P w K mg base 1 "is_passing" RPassing := by
  refine mkD F scPassing (fun _ _ _ _ _ _ us hl => match us, hl with | [_, _], _ => rfl) (fun ds d h => by obtain ⟨c, b, rfl, rfl⟩ := h; rfl) ?_
  rintro f cdv A outer s H E hr _ _ ⟨c, b, rfl, rfl⟩
  refine sd_ret (PE.to (ev_or (ev_cmp op_eq od_eqI (ev_var 0) (ev_glob G.valid)) fun _ => ev_one (ev_and (ev_cmp op_eq od_eqI (ev_var 0) (ev_glob G.notFound)) fun _ => ev_one (ev_cmp op_eq od_eqI (ev_var 1) ev_int))) (congrArg D.bl ?_))
  have e1 : decide ((c : Int) = 1) = (c == 1) := by
    rw [Bool.eq_iff_iff, decide_eq_true_eq, beq_iff_eq]
    omega
  have e0 : decide ((c : Int) = 0) = (c == 0) := by
    rw [Bool.eq_iff_iff, decide_eq_true_eq, beq_iff_eq]
    omega
  rw [e1, e0]
  cases b <;> rfl

/-! ### is_own_valid -/
abbrev sOwnValid : Stmt := topS 17
def ownValidM (rs : List Su202.Roa) (m : Nat) (s : Su202.Announcement) : Bool := s.announcer == m && (s.origin == m && Su202.validity rs s.address s.length m == 1)
def ROwnValid (ds : List D) (d : D) : Prop := ∃ (rs : List Su202.Roa) (s : Su202.Announcement) (m : Nat), GoodR rs ∧ ds = [.lst (rs.map roaD), annD s, .int m] ∧ d = .bl (ownValidM rs m s)
abbrev nOwnValid : List Str := ["roas", "announcement", "member", "address", "length", "announcer", "origin"]
theorem scOwnValid : FnScope nOwnValid ["roas", "announcement", "member"] (defScope sOwnValid) := ⟨rfl, rfl, rfl, by decide +kernel, rfl, by decide +kernel, by decide +kernel⟩
theorem okOwnValid (F : Defn K mg "is_own_valid" sOwnValid) (G : Glob K mg) (C : CalD P w K mg base 4 "validity" RValidity) : CalD P w K mg base 5 "is_own_valid" ROwnValid := by
  refine mkD F scOwnValid (fun _ _ _ _ _ _ us hl => match us, hl with | [_, _, _], _ => rfl) (fun ds d h => by obtain ⟨rs, s, m, _, rfl, rfl⟩ := h; rfl) ?_
  rintro f cdv A outer st H E hr _ _ ⟨rs, s, m, hg, rfl, rfl⟩
  refine sd_unpT (js := [3, 4, 5, 6]) (ds := (annRow s).map D.int) rfl (ev_var 1) (gs_cons scOwnValid.nd (gs_cons scOwnValid.nd (gs_cons scOwnValid.nd (gs_cons scOwnValid.nd gs_nil)))) ?_
  refine sd_ret (PE.to (ev_and (ev_cmp op_eq od_eqI (ev_var 5) (ev_var 2)) fun h1 => ev_and (ev_cmp op_eq od_eqI (ev_var 6) (ev_var 2)) fun h2 =>
    ev_one (ev_cmp op_eq od_eqI (ev_call C hr (ea_cons (ev_var 0) (ea_cons (ev_var 3) (ea_cons (ev_var 4) (ea_cons (ev_var 6) ea_nil)))) ⟨rs, s.address, s.length, s.origin, hg, rfl, rfl⟩) (ev_glob G.valid))) (congrArg D.bl ?_))
  unfold ownValidM
  rw [Bool.eq_iff_iff]
  simp only [Bool.and_eq_true, decide_eq_true_eq, beq_iff_eq]
  constructor
  · rintro ⟨h1, h2, h3⟩
    have e2 : s.origin = m := by omega
    rw [e2] at h3
    exact ⟨by omega, e2, by omega⟩
  · rintro ⟨h1, h2, h3⟩
    rw [h1, h2]
    exact ⟨rfl, rfl, by omega⟩

/-! ### tightened -/
abbrev sTight : Stmt := topS 18
def tightN (rs : List Su202.Roa) (anns : List Su202.Announcement) (m n : Nat) : List Su202.Roa := (rs.filter fun g => g.origin != m) ++ ((anns.take n).filter (ownValidM rs m)).map fun s => ⟨s.address, s.length, s.length, m⟩
def tightM (rs : List Su202.Roa) (anns : List Su202.Announcement) (m : Nat) : List Su202.Roa := tightN rs anns m anns.length
def RTight (ds : List D) (d : D) : Prop := ∃ (rs : List Su202.Roa) (anns : List Su202.Announcement) (m : Nat), GoodR rs ∧ rs.length ≤ 1000 ∧ anns.length ≤ 1000 ∧ ds = [.lst (rs.map roaD), .lst (anns.map annD), .int m] ∧ d = .lst ((tightM rs anns m).map roaD)
theorem tightN_next {rs : List Su202.Roa} {anns : List Su202.Announcement} {m n : Nat} {s : Su202.Announcement} (h : anns[n]? = some s) : tightN rs anns m (n + 1) = if ownValidM rs m s = true then tightN rs anns m n ++ [⟨s.address, s.length, s.length, m⟩] else tightN rs anns m n := by
  unfold tightN
  have e : anns.take (n + 1) = anns.take n ++ [s] := by
    rw [List.take_add_one, h]
    rfl
  rw [e, List.filter_append, List.map_append]
  by_cases c : ownValidM rs m s = true
  · rw [if_pos c, List.filter_cons_of_pos c, ← List.append_assoc]
    rfl
  · rw [if_neg c, List.filter_cons_of_neg c]
    simp
theorem tightN_len (rs : List Su202.Roa) (anns : List Su202.Announcement) (m n : Nat) : (tightN rs anns m n).length ≤ rs.length + anns.length := by
  unfold tightN
  rw [List.length_append, List.length_map]
  have h1 := List.length_filter_le (fun g : Su202.Roa => g.origin != m) rs
  have h2 := List.length_filter_le (ownValidM rs m) (anns.take n)
  rw [List.length_take] at h2
  omega
abbrev nTight : List Str := ["roas", "announcements", "member", "found", "announcement", "address", "length", "announcer", "origin", "roa"]
theorem scTight : FnScope nTight ["roas", "announcements", "member"] (defScope sTight) := ⟨rfl, rfl, rfl, by decide +kernel, rfl, by decide +kernel, by decide +kernel⟩
theorem okTight (F : Defn K mg "tightened" sTight) (C : CalD P w K mg base 5 "is_own_valid" ROwnValid) : CalD P w K mg base 6 "tightened" RTight := by
  refine mkD F scTight (fun _ _ _ _ _ _ us hl => match us, hl with | [_, _, _], _ => rfl) (fun ds d h => by obtain ⟨rs, s, m, _, _, _, rfl, rfl⟩ := h; rfl) ?_
  rintro f cdv A outer st H E hr _ _ ⟨rs, anns, m, hg, hl1, hl2, rfl, rfl⟩
  refine os_newLc (i := 3) (ls := rs) (enc := roaD) (f := fun g => g.origin != m) (out := roaD) [("roa", 9)] rfl scTight.nd (it_list (ev_var 0))
    (blkOk_by (N := nTight) (sc := defScope sTight) (by decide +kernel)) (fun _ _ _ _ _ => pg_name (i := 9) scTight.nd rfl (Or.inl rfl)) (fun _ _ => gd_name)
    (fun _ _ _ _ _ g hm => ts_one (PT.to (et_cmp op_ne od_neI (ev_item 3 (ev_var 9)) (ev_var 2)) ?_))
    (fun _ _ _ _ _ g hm => ev_var 9) (fun _ _ _ => rfl) ?_
  · show (!decide ((g.origin : Int) = (m : Int))) = (g.origin != m)
    rw [dec_nat, Bool.eq_iff_iff]
    simp
  · have e0 : rs.filter (fun g => g.origin != m) = tightN rs anns m 0 := by simp [tightN]
    rw [e0]
    refine os_for (Cn := fun n => Clst ((tightN rs anns m n).map roaD)) (ls := anns) (enc := annD) (Δ' := fun s => [some (.lst (rs.map roaD)), some (.lst (anns.map annD)), some (.int m), none, some (annD s), none, none, none, none, none])
      [some (.lst (rs.map roaD)), some (.lst (anns.map annD)), some (.int m), none, none, none, none, none, none, none] [4] PassesOwn.never rfl (fun _ => stays_lst) (ev_var 1) (pg_name (i := 4) scTight.nd rfl (Or.inl rfl)) (fun s _ => gd_name) (by decide) (fun _ _ h => h) (fun n s hs => ?_) os_ret
    · show PSs _ _ (tOB 3 _ (Clst ((tightN rs anns m n).map roaD)) _ (Clst ((tightN rs anns m (n + 1)).map roaD)))
      rw [tightN_next hs]
      refine ob_if (b := ownValidM rs m s) stays_lst (et_val (ev_call C hr (ea_cons (ev_var 0) (ea_cons (ev_var 4) (ea_cons (ev_var 2) ea_nil))) ⟨rs, s, m, hg, rfl, rfl⟩)) (fun h => ?_) (fun h => ?_) rfl
      · rw [if_pos h, List.map_append]
        refine ob_unpT (js := [5, 6, 7, 8]) (ds := (annRow s).map D.int) stays_lst rfl (ev_var 4) (gs_cons scTight.nd (gs_cons scTight.nd (gs_cons scTight.nd (gs_cons scTight.nd gs_nil)))) ?_
        refine ob_append ?_ (ev_tup (ea_cons (ev_var 5) (ea_cons (ev_var 6) (ea_cons (ev_var 6) (ea_cons (ev_var 2) ea_nil))))) (ob_nil fun σ H h => h.weak (.keep (.keep (.keep (.keep (.drop (.drop (.drop (.drop (.drop (.keep .nil)))))))))))
        rw [List.length_map]
        have := tightN_len rs anns m n
        omega
      · rw [if_neg (by rw [h]; exact Bool.false_ne_true)]
        exact ob_nil fun σ H h => h.weak (.keep (.keep (.keep (.keep (.drop (.keep (.keep (.keep (.keep (.keep .nil))))))))))
end
end Ow
/-! selection -/
namespace Ow
open PySem PySem.Spec PyProof.Rows L2
def stD (r : Su202.Registry) : D := .tup [.lst (r.roas.map roaD), .lst (r.announcements.map annD), strD r.strict]
def GoodA (l : List Su202.Announcement) : Prop := ∀ s ∈ l, Su202.isPrefix s.address s.length = true
structure GoodSt (r : Su202.Registry) : Prop where
  roas : GoodR r.roas
  anns : GoodA r.announcements
  nR : r.roas.length ≤ 1000
  nA : r.announcements.length ≤ 1000
section
variable {P : Program} {w : World} {K : PySem.W.Frag} {mg : Str → Option Value} {base : Heap}

/-! ### is_accepted, accepted, dropped -/
abbrev sIsAcc : Stmt := topS 21
def isAccM (r : Su202.Registry) (s : Su202.Announcement) : Bool := r.isAccepted s.address s.length s.origin
def RIsAcc (ds : List D) (d : D) : Prop := ∃ (r : Su202.Registry) (s : Su202.Announcement), GoodSt r ∧ ds = [stD r, annD s] ∧ d = .bl (isAccM r s)
abbrev nIsAcc : List Str := ["state", "announcement", "roas", "announcements", "strict", "address", "length", "announcer", "origin"]
theorem scIsAcc : FnScope nIsAcc ["state", "announcement"] (defScope sIsAcc) := ⟨rfl, rfl, rfl, by decide +kernel, rfl, by decide +kernel, by decide +kernel⟩
theorem okIsAcc (F : Defn K mg "is_accepted" sIsAcc) (C1 : CalD P w K mg base 4 "validity" RValidity) (C2 : CalD P w K mg base 1 "is_passing" RPassing) : CalD P w K mg base 5 "is_accepted" RIsAcc := by
  refine mkD F scIsAcc (fun _ _ _ _ _ _ us hl => match us, hl with | [_, _], _ => rfl) (fun ds d h => by obtain ⟨r, s, _, rfl, rfl⟩ := h; rfl) ?_
  rintro f cdv A outer st H E hr _ _ ⟨r, s, hg, rfl, rfl⟩
  refine sd_unpT (js := [2, 3, 4]) (ds := [.lst (r.roas.map roaD), .lst (r.announcements.map annD), strD r.strict]) rfl (ev_var 0) (gs_cons scIsAcc.nd (gs_cons scIsAcc.nd (gs_cons scIsAcc.nd gs_nil))) ?_
  refine sd_unpT (js := [5, 6, 7, 8]) (ds := (annRow s).map D.int) rfl (ev_var 1) (gs_cons scIsAcc.nd (gs_cons scIsAcc.nd (gs_cons scIsAcc.nd (gs_cons scIsAcc.nd gs_nil)))) ?_
  exact sd_ret (ev_call C2 hr (ea_cons (ev_call C1 hr (ea_cons (ev_var 2) (ea_cons (ev_var 5) (ea_cons (ev_var 6) (ea_cons (ev_var 8) ea_nil)))) ⟨r.roas, s.address, s.length, s.origin, hg.roas, rfl, rfl⟩) (ea_cons (ev_var 4) ea_nil)) ⟨_, r.strict, rfl, rfl⟩)
abbrev sAccepted : Stmt := topS 22
def RAccepted (ds : List D) (d : D) : Prop := ∃ (r : Su202.Registry), GoodSt r ∧ ds = [stD r] ∧ d = .lst (r.accepted.map annD)
abbrev nAccepted : List Str := ["state", "announcement"]
theorem scAccepted : FnScope nAccepted ["state"] (defScope sAccepted) := ⟨rfl, rfl, rfl, by decide +kernel, rfl, by decide +kernel, by decide +kernel⟩
theorem okAccepted (F : Defn K mg "accepted" sAccepted) (C : CalD P w K mg base 5 "is_accepted" RIsAcc) : CalD P w K mg base 6 "accepted" RAccepted := by
  refine mkD F scAccepted (fun _ _ _ _ _ _ us hl => match us, hl with | [_], _ => rfl) (fun ds d h => by obtain ⟨r, _, rfl, rfl⟩ := h; rfl) ?_
  rintro f cdv A outer st H E hr _ _ ⟨r, hg, rfl, rfl⟩
  exact sd_ret (ev_lc (ls := r.announcements) (enc := annD) (f := isAccM r) (out := annD) [("announcement", 1)] rfl scAccepted.nd (it_list (ev_item 1 (ev_var 0)))
    (blkOk_by (N := nAccepted) (sc := defScope sAccepted) (by decide +kernel)) (fun _ _ _ _ _ => pg_name (i := 1) scAccepted.nd rfl (Or.inl rfl)) (fun _ _ => gd_name)
    (fun _ _ _ _ _ s hm => ts_one (et_val (ev_call C hr (ea_cons (ev_var 0) (ea_cons (ev_var 1) ea_nil)) ⟨r, s, hg, rfl, rfl⟩)))
    (fun _ _ _ _ _ s hm => ev_var 1) (fun _ _ _ => rfl))
abbrev sDropped : Stmt := topS 23
def droppedM (r : Su202.Registry) : List Su202.Announcement := r.announcements.filter fun s => !(r.isAccepted s.address s.length s.origin)
def RDropped (ds : List D) (d : D) : Prop := ∃ (r : Su202.Registry), GoodSt r ∧ ds = [stD r] ∧ d = .lst ((droppedM r).map annD)
theorem scDropped : FnScope nAccepted ["state"] (defScope sDropped) := ⟨rfl, rfl, rfl, by decide +kernel, rfl, by decide +kernel, by decide +kernel⟩
theorem okDropped (F : Defn K mg "dropped" sDropped) (C : CalD P w K mg base 5 "is_accepted" RIsAcc) : CalD P w K mg base 6 "dropped" RDropped := by
  refine mkD F scDropped (fun _ _ _ _ _ _ us hl => match us, hl with | [_], _ => rfl) (fun ds d h => by obtain ⟨r, _, rfl, rfl⟩ := h; rfl) ?_
  rintro f cdv A outer st H E hr _ _ ⟨r, hg, rfl, rfl⟩
  exact sd_ret (ev_lc (ls := r.announcements) (enc := annD) (f := fun s => !(isAccM r s)) (out := annD) [("announcement", 1)] rfl scDropped.nd (it_list (ev_item 1 (ev_var 0)))
    (blkOk_by (N := nAccepted) (sc := defScope sDropped) (by decide +kernel)) (fun _ _ _ _ _ => pg_name (i := 1) scDropped.nd rfl (Or.inl rfl)) (fun _ _ => gd_name)
    (fun _ _ _ _ _ s hm => ts_one (et_not (et_val (ev_call C hr (ea_cons (ev_var 0) (ea_cons (ev_var 1) ea_nil)) ⟨r, s, hg, rfl, rfl⟩))))
    (fun _ _ _ _ _ s hm => ev_var 1) (fun _ _ _ => rfl))

/-! ### rank -/
abbrev sRank : Stmt := topS 24
def rankM (s : Su202.Announcement) : List Int := [6 - (s.length : Int), if (!decide ((s.announcer : Int) = (s.origin : Int))) = true then 1 else 0, s.announcer, s.origin]
def RRank (ds : List D) (d : D) : Prop := ∃ s : Su202.Announcement, ds = [annD s] ∧ d = rowD (rankM s)
abbrev nRank : List Str := ["announcement", "address", "length", "announcer", "origin"]
theorem scRank : FnScope nRank ["announcement"] (defScope sRank) := ⟨rfl, rfl, rfl, by decide +kernel, rfl, by decide +kernel, by decide +kernel⟩
theorem okRank (F : Defn K mg "rank" sRank) (G : Glob K mg) : CalD P w K mg base 1 "rank" RRank := by
  refine mkD F scRank (fun _ _ _ _ _ _ us hl => match us, hl with | [_], _ => rfl) (fun ds d h => by obtain ⟨r, rfl, rfl⟩ := h; rfl) ?_
  rintro f cdv A outer st H E hr _ _ ⟨s, rfl, rfl⟩
  refine sd_unpT (js := [1, 2, 3, 4]) (ds := (annRow s).map D.int) rfl (ev_var 0) (gs_cons scRank.nd (gs_cons scRank.nd (gs_cons scRank.nd (gs_cons scRank.nd gs_nil)))) ?_
  exact sd_ret (ev_tup (ea_cons (ev_sub (ev_glob G.most) (ev_var 2)) (ea_cons (ev_intB G.nInt (ev_cmp op_ne od_neI (ev_var 3) (ev_var 4))) (ea_cons (ev_var 3) (ea_cons (ev_var 4) ea_nil)))))

/-! ### best_for -/
theorem rank_pref (s y : Su202.Announcement) : HT.lexLt (rankM s) (rankM y) = Su202.isPreferred s y := by
  unfold rankM Su202.isPreferred Su202.Announcement.isOwn
  simp only [HT.lexLt_cons, HT.lexLt_nil_nil]
  have e1 : (6 - (s.length : Int) = 6 - (y.length : Int)) ↔ y.length = s.length := by omega
  have e2 : (6 - (s.length : Int) < 6 - (y.length : Int)) ↔ y.length < s.length := by omega
  have e3 : ((s.announcer : Int) = (y.announcer : Int)) ↔ s.announcer = y.announcer := by omega
  have e4 : ((s.origin : Int) = (y.origin : Int)) ↔ s.origin = y.origin := by omega
  have e5 : ((s.announcer : Int) < (y.announcer : Int)) ↔ s.announcer < y.announcer := by omega
  have e6 : ((s.origin : Int) < (y.origin : Int)) ↔ s.origin < y.origin := by omega
  have e7 : ((s.announcer : Int) = (s.origin : Int)) ↔ s.announcer = s.origin := by omega
  have e8 : ((y.announcer : Int) = (y.origin : Int)) ↔ y.announcer = y.origin := by omega
  simp only [e1, e2, e3, e4, e5, e6, e7, e8]
  have key : ∀ (b1 b2 : Bool), (if y.length = s.length then (if (if (!b1) = true then (1 : Int) else 0) = (if (!b2) = true then (1 : Int) else 0) then (if s.announcer = y.announcer then (if s.origin = y.origin then false else decide (s.origin < y.origin)) else decide (s.announcer < y.announcer)) else decide ((if (!b1) = true then (1 : Int) else 0) < (if (!b2) = true then (1 : Int) else 0))) else decide (y.length < s.length)) =
      (decide (y.length < s.length) || (y.length == s.length && ((b1 && !b2) || (b1 == b2 && (decide (s.announcer < y.announcer) || (s.announcer == y.announcer && decide (s.origin < y.origin))))))) := by
    intro b1 b2
    rw [Bool.eq_iff_iff]
    by_cases h1 : y.length = s.length <;> by_cases h3 : s.announcer = y.announcer <;> by_cases h4 : s.origin = y.origin <;> cases b1 <;> cases b2 <;> simp [h1, h3, h4]
  have k := key (decide (s.announcer = s.origin)) (decide (y.announcer = y.origin))
  have q1 : decide (s.announcer = s.origin) = (s.announcer == s.origin) := by rw [Bool.eq_iff_iff]; simp
  have q2 : decide (y.announcer = y.origin) = (y.announcer == y.origin) := by rw [Bool.eq_iff_iff]; simp
  rw [← q1, ← q2]
  exact k
def stepB (best : Option Su202.Announcement) (s : Su202.Announcement) : Option Su202.Announcement := match best with
  | none => some s
  | some y => if Su202.isPreferred s y = true then some s else some y
theorem select_step (l : List Su202.Announcement) (x : Nat) : Su202.selectAnnouncement l x = l.foldl (fun best s => if Su202.prefixContains s.address s.length x = true then stepB best s else best) none := by
  unfold Su202.selectAnnouncement
  congr 1
theorem select_filter (l : List Su202.Announcement) (x : Nat) : ∀ b, l.foldl (fun best s => if Su202.prefixContains s.address s.length x = true then stepB best s else best) b = (l.filter fun s => Su202.prefixContains s.address s.length x).foldl stepB b := by
  induction l with
  | nil => intro b; rfl
  | cons s r ih =>
    intro b
    rw [List.foldl_cons, ih, List.filter_cons]
    by_cases c : Su202.prefixContains s.address s.length x = true
    · rw [if_pos c, if_pos c, List.foldl_cons]
    · rw [if_neg c, if_neg c]
theorem fold_some (r : List Su202.Announcement) : ∀ z, r.foldl stepB (some z) = some (leastM rankM z r) := by
  induction r with
  | nil => intro z; rfl
  | cons s r ih =>
    intro z
    rw [List.foldl_cons]
    show r.foldl stepB (if Su202.isPreferred s z = true then some s else some z) = some (leastM rankM z (s :: r))
    have e : leastM rankM z (s :: r) = leastM rankM (if HT.lexLt (rankM s) (rankM z) = true then s else z) r := rfl
    rw [e, rank_pref]
    by_cases c : Su202.isPreferred s z = true
    · rw [if_pos c, if_pos c, ih]
    · rw [if_neg c, if_neg c, ih]
theorem math_best (l : List Su202.Announcement) (x : Nat) : optMin rankM (l.filter fun s => Su202.prefixContains s.address s.length x) = Su202.selectAnnouncement l x := by
  rw [select_step, select_filter]
  cases l.filter fun s => Su202.prefixContains s.address s.length x with
  | nil => rfl
  | cons z r =>
    rw [List.foldl_cons]
    exact (fold_some r z).symm
abbrev sBest : Stmt := topS 25
def RBest (ds : List D) (d : D) : Prop := ∃ (l : List Su202.Announcement) (x : Nat), GoodA l ∧ ds = [.lst (l.map annD), .int x] ∧ d = optD annD (Su202.selectAnnouncement l x)
abbrev nBest : List Str := ["passing", "address", "near", "one"]
theorem scBest : FnScope nBest ["passing", "address"] (defScope sBest) := ⟨rfl, rfl, rfl, by decide +kernel, rfl, by decide +kernel, by decide +kernel⟩
theorem okBest (F : Defn K mg "best_for" sBest) (G : Glob K mg) (C1 : CalD P w K mg base 2 "contains" RContains) (C2 : CalD P w K mg base 1 "rank" RRank) : CalD P w K mg base 4 "best_for" RBest := by
  refine mkD F scBest (fun _ _ _ _ _ _ us hl => match us, hl with | [_, _], _ => rfl) (fun ds d h => by obtain ⟨l, x, _, rfl, rfl⟩ := h; rfl) ?_
  rintro f cdv A outer st H E hr _ _ ⟨l, x, hg, rfl, rfl⟩
  refine sd_lc (i := 2) (ls := l) (enc := annD) (f := fun s => containsM s.address s.length x 6) (out := annD) [("one", 3)] rfl scBest.nd (it_list (ev_var 0))
    (blkOk_by (N := nBest) (sc := defScope sBest) (by decide +kernel)) (fun _ _ _ _ _ => pg_name (i := 3) scBest.nd rfl (Or.inl rfl)) (fun _ _ => gd_name)
    (fun _ _ _ _ _ s hm => ts_one (et_val (ev_call C1 hr (ea_cons (ev_item 0 (ev_var 3)) (ea_cons (ev_item 1 (ev_var 3)) (ea_cons (ev_var 1) (ea_cons (ev_glob G.most) ea_nil)))) ⟨s.address, s.length, x, 6, ((isPrefix_iff _ _).mp (hg s hm)).1, rfl, rfl⟩)))
    (fun _ _ _ _ _ s hm => ev_var 3) (fun _ _ _ => rfl) ?_
  refine sd_ret (PE.to (ev_min (k := 2) C2 hr rfl rankM G.nMin (ev_var 2) (fun s _ => ⟨s, rfl, rfl⟩) (fun _ _ => rfl)) (congrArg (optD annD) ?_))
  have e : l.filter (fun s => containsM s.address s.length x 6) = l.filter fun s => Su202.prefixContains s.address s.length x := List.filter_congr fun s hm => by
    rw [containsM_eq (hg s hm), decide_eq_true ((isPrefix_iff _ _).mp (hg s hm)).1, Bool.true_and]
  rw [e, math_best]

/-! ### selected, all_selected, announcer_of, destinations, moved -/
theorem flat_opt (o : Option Su202.Announcement) : flatD (optD annD o) = true := by cases o <;> rfl
theorem goodAcc {r : Su202.Registry} (h : GoodSt r) : GoodA r.accepted := fun s hs => h.anns s (List.mem_filter.mp hs).1
abbrev sSelected : Stmt := topS 26
def RSelected (ds : List D) (d : D) : Prop := ∃ (r : Su202.Registry) (x : Nat), GoodSt r ∧ ds = [stD r, .int x] ∧ d = optD annD (Su202.selectAnnouncement r.accepted x)
abbrev nSelected : List Str := ["state", "address"]
theorem scSelected : FnScope nSelected nSelected (defScope sSelected) := ⟨rfl, rfl, rfl, by decide +kernel, rfl, by decide +kernel, by decide +kernel⟩
theorem okSelected (F : Defn K mg "selected" sSelected) (C1 : CalD P w K mg base 6 "accepted" RAccepted) (C2 : CalD P w K mg base 4 "best_for" RBest) : CalD P w K mg base 7 "selected" RSelected := by
  refine mkD F scSelected (fun _ _ _ _ _ _ us hl => match us, hl with | [_, _], _ => rfl) (fun ds d h => by obtain ⟨r, x, _, rfl, rfl⟩ := h; rfl) ?_
  rintro f cdv A outer st H E hr _ _ ⟨r, x, hg, rfl, rfl⟩
  exact sd_ret (ev_call C2 hr (ea_cons (ev_call C1 hr (ea_cons (ev_var 0) ea_nil) ⟨r, hg, rfl, rfl⟩) (ea_cons (ev_var 1) ea_nil)) ⟨r.accepted, x, goodAcc hg, rfl, rfl⟩)
abbrev sAllSel : Stmt := topS 27
def selD (r : Su202.Registry) (x : Nat) : D := optD annD (Su202.selectAnnouncement r.accepted x)
def RAllSel (ds : List D) (d : D) : Prop := ∃ (r : Su202.Registry), GoodSt r ∧ ds = [stD r] ∧ d = .lst ((List.range 64).map (selD r))
abbrev nAllSel : List Str := ["state", "passing", "address"]
theorem scAllSel : FnScope nAllSel ["state"] (defScope sAllSel) := ⟨rfl, rfl, rfl, by decide +kernel, rfl, by decide +kernel, by decide +kernel⟩
theorem okAllSel (F : Defn K mg "all_selected" sAllSel) (G : Glob K mg) (C1 : CalD P w K mg base 6 "accepted" RAccepted) (C2 : CalD P w K mg base 4 "best_for" RBest) : CalD P w K mg base 7 "all_selected" RAllSel := by
  refine mkD F scAllSel (fun _ _ _ _ _ _ us hl => match us, hl with | [_], _ => rfl) (fun ds d h => by obtain ⟨r, _, rfl, rfl⟩ := h; rfl) ?_
  rintro f cdv A outer st H E hr _ _ ⟨r, hg, rfl, rfl⟩
  refine sd_set (i := 1) scAllSel.nd (ev_call C1 hr (ea_cons (ev_var 0) ea_nil) ⟨r, hg, rfl, rfl⟩) (sd_ret (PE.to (ev_lc (f := fun _ => true) (out := selD r) [("address", 2)] rfl scAllSel.nd (it_range (n := 64) G.nRange (ev_glob G.addr))
    (blkOk_by (N := nAllSel) (sc := defScope sAllSel) (by decide +kernel)) (fun _ _ _ _ _ => pg_name (i := 2) scAllSel.nd rfl (Or.inl rfl)) (fun _ _ => gd_name)
    (fun _ _ _ _ _ s hm => ts_nil) (fun _ _ _ _ _ x hm => ev_call C2 hr (ea_cons (ev_var 1) (ea_cons (ev_var 2) ea_nil)) ⟨r.accepted, x, goodAcc hg, rfl, rfl⟩) (fun _ _ _ => flat_opt _)) ?_))
  rw [filt_true]
abbrev sAnnOf : Stmt := topS 28
def annOf : Option Su202.Announcement → Int
  | none => -1
  | some s => (s.announcer : Int)
def RAnnOf (ds : List D) (d : D) : Prop := ∃ (o : Option Su202.Announcement), ds = [optD annD o] ∧ d = .int (annOf o)
theorem scAnnOf : FnScope ["announcement"] ["announcement"] (defScope sAnnOf) := ⟨rfl, rfl, rfl, by decide +kernel, rfl, by decide +kernel, by decide +kernel⟩
theorem okAnnOf (F : Defn K mg "announcer_of" sAnnOf) (G : Glob K mg) : CalD P w K mg base 1 "announcer_of" RAnnOf := by
  refine mkD F scAnnOf (fun _ _ _ _ _ _ us hl => match us, hl with | [_], _ => rfl) (fun ds d h => by obtain ⟨r, rfl, rfl⟩ := h; rfl) ?_
  rintro f cdv A outer st H E hr _ _ ⟨o, rfl, rfl⟩
  cases o with
  | none => exact sd_ret (ev_ifExp (p := true) (et_cmp op_isN od_isN (ev_var 0) ev_non) (fun _ => ev_glob G.nobody) (fun h => nomatch h))
  | some s => exact sd_ret (ev_ifExp (p := false) (et_cmp op_isN od_isN (ev_var 0) ev_non) (fun h => nomatch h) (fun _ => ev_item 2 (ev_var 0)))
abbrev sDests : Stmt := topS 29
def destM (r : Su202.Registry) (x : Nat) : Int := annOf (Su202.selectAnnouncement r.accepted x)
def RDests (ds : List D) (d : D) : Prop := ∃ (r : Su202.Registry), GoodSt r ∧ ds = [stD r] ∧ d = .lst ((List.range 64).map fun x => D.int (destM r x))
abbrev nDests : List Str := ["state", "announcement"]
theorem scDests : FnScope nDests ["state"] (defScope sDests) := ⟨rfl, rfl, rfl, by decide +kernel, rfl, by decide +kernel, by decide +kernel⟩
theorem okDests (F : Defn K mg "destinations" sDests) (C1 : CalD P w K mg base 7 "all_selected" RAllSel) (C2 : CalD P w K mg base 1 "announcer_of" RAnnOf) : CalD P w K mg base 8 "destinations" RDests := by
  refine mkD F scDests (fun _ _ _ _ _ _ us hl => match us, hl with | [_], _ => rfl) (fun ds d h => by obtain ⟨r, _, rfl, rfl⟩ := h; rfl) ?_
  rintro f cdv A outer st H E hr _ _ ⟨r, hg, rfl, rfl⟩
  refine sd_ret (PE.to (ev_lc (ls := List.range 64) (enc := selD r) (f := fun _ => true) (out := fun x => D.int (destM r x)) [("announcement", 1)] rfl scDests.nd (it_list (ev_call C1 hr (ea_cons (ev_var 0) ea_nil) ⟨r, hg, rfl, rfl⟩))
    (blkOk_by (N := nDests) (sc := defScope sDests) (by decide +kernel)) (fun _ _ _ _ _ => pg_name (i := 1) scDests.nd rfl (Or.inl rfl)) (fun _ _ => gd_name)
    (fun _ _ _ _ _ s hm => ts_nil) (fun _ _ _ _ _ x hm => ev_call C2 hr (ea_cons (ev_var 1) ea_nil) ⟨_, rfl, rfl⟩) (fun _ _ _ => rfl)) ?_)
  rw [filt_true]
abbrev sMoved : Stmt := topS 30
def RMoved (ds : List D) (d : D) : Prop := ∃ (r t : Su202.Registry), GoodSt r ∧ GoodSt t ∧ ds = [stD r, stD t] ∧ d = .lst ((r.movedAddresses t).map fun x : Nat => D.int (x : Int))
abbrev nMoved : List Str := ["before", "after", "old", "new", "address"]
theorem scMoved : FnScope nMoved ["before", "after"] (defScope sMoved) := ⟨rfl, rfl, rfl, by decide +kernel, rfl, by decide +kernel, by decide +kernel⟩
theorem annOf_eq (a b : Option Su202.Announcement) : annOf a = annOf b ↔ (a.map fun s => s.announcer) = b.map fun s => s.announcer := by
  cases a <;> cases b <;> simp [annOf] <;> omega
theorem dest_ne (r t : Su202.Registry) (x : Nat) : (!decide (destM r x = destM t x)) = (r.destination x != t.destination x) := by
  unfold destM Su202.Registry.destination
  rw [Bool.eq_iff_iff]
  simp only [Bool.not_eq_true', decide_eq_false_iff_not, bne_iff_ne, ne_eq, annOf_eq]
theorem range_at {n x : Nat} {f : Nat → D} (h : x < n) : ((List.range n).map f)[x]? = some (f x) := by
  rw [List.getElem?_map, List.getElem?_range h]
  rfl
theorem okMoved (F : Defn K mg "moved" sMoved) (G : Glob K mg) (C1 : CalD P w K mg base 8 "destinations" RDests) : CalD P w K mg base 9 "moved" RMoved := by
  refine mkD F scMoved (fun _ _ _ _ _ _ us hl => match us, hl with | [_, _], _ => rfl) (fun ds d h => by obtain ⟨r, t, _, _, rfl, rfl⟩ := h; rfl) ?_
  rintro f cdv A outer st H E hr _ _ ⟨r, t, hg, hg2, rfl, rfl⟩
  refine sd_unpT (js := [2, 3]) rfl (ev_tup (ea_cons (ev_call C1 hr (ea_cons (ev_var 0) ea_nil) ⟨r, hg, rfl, rfl⟩) (ea_cons (ev_call C1 hr (ea_cons (ev_var 1) ea_nil) ⟨t, hg2, rfl, rfl⟩) ea_nil))) (gs_cons scMoved.nd (gs_cons scMoved.nd gs_nil)) ?_
  refine sd_ret (PE.to (ev_lc (f := fun x => r.destination x != t.destination x) (out := fun x : Nat => D.int (x : Int)) [("address", 4)] rfl scMoved.nd (it_range (n := 64) G.nRange (ev_glob G.addr))
    (blkOk_by (N := nMoved) (sc := defScope sMoved) (by decide +kernel)) (fun _ _ _ _ _ => pg_name (i := 4) scMoved.nd rfl (Or.inl rfl)) (fun _ _ => gd_name)
    (fun _ _ _ _ _ x hm => ts_one (PT.to (et_cmp op_ne od_neI (ev_ix ix_list (od_ixL (range_at (List.mem_range.mp hm))) (ev_var 2) (ev_var 4)) (ev_ix ix_list (od_ixL (range_at (List.mem_range.mp hm))) (ev_var 3) (ev_var 4))) (dest_ne r t x)))
    (fun _ _ _ _ _ x hm => ev_var 4) (fun _ _ _ => rfl)) ?_)
  rfl
end
end Ow
/-! hijacks -/
namespace Ow
open PySem PySem.Spec PyProof.Rows L2
def natsD (l : List Nat) : D := .lst (l.map fun o : Nat => D.int (o : Int))
section
variable {P : Program} {w : World} {K : PySem.W.Frag} {mg : Str → Option Value} {base : Heap}

/-! ### open_origins -/
abbrev sOpen : Stmt := topS 33
def openM (r : Su202.Registry) (p : Nat × Nat) : List Nat := (List.range 8).filter fun o => r.isAccepted p.1 p.2 o
def ROpen (ds : List D) (d : D) : Prop := ∃ (r : Su202.Registry) (p : Nat × Nat), GoodSt r ∧ ds = [stD r, .int p.1, .int p.2] ∧ d = natsD (openM r p)
abbrev nOpen : List Str := ["state", "address", "length", "covers", "origin"]
theorem scOpen : FnScope nOpen ["state", "address", "length"] (defScope sOpen) := ⟨rfl, rfl, rfl, by decide +kernel, rfl, by decide +kernel, by decide +kernel⟩
theorem okOpen (F : Defn K mg "open_origins" sOpen) (G : Glob K mg) (C1 : CalD P w K mg base 3 "covering" RCovering) (C2 : CalD P w K mg base 1 "validity_by" RValBy) (C3 : CalD P w K mg base 1 "is_passing" RPassing) : CalD P w K mg base 4 "open_origins" ROpen := by
  refine mkD F scOpen (fun _ _ _ _ _ _ us hl => match us, hl with | [_, _, _], _ => rfl) (fun ds d h => by obtain ⟨r, p, _, rfl, rfl⟩ := h; rfl) ?_
  rintro f cdv A outer st H E hr _ _ ⟨r, p, hg, rfl, rfl⟩
  refine sd_set (i := 3) scOpen.nd (ev_call C1 hr (ea_cons (ev_item 0 (ev_var 0)) (ea_cons (ev_var 1) (ea_cons (ev_var 2) ea_nil))) ⟨r.roas, p.1, p.2, hg.roas, rfl, rfl⟩) (sd_ret (PE.to (ev_lc (f := fun o => r.isAccepted p.1 p.2 o) (out := fun o : Nat => D.int (o : Int)) [("origin", 4)] rfl scOpen.nd (it_range (n := 8) G.nRange (ev_glob G.members))
    (blkOk_by (N := nOpen) (sc := defScope sOpen) (by decide +kernel)) (fun _ _ _ _ _ => pg_name (i := 4) scOpen.nd rfl (Or.inl rfl)) (fun _ _ => gd_name)
    (fun _ _ _ _ _ o hm => ts_one (et_val (ev_call C3 hr (ea_cons (ev_call C2 hr (ea_cons (ev_var 3) (ea_cons (ev_var 2) (ea_cons (ev_var 4) ea_nil))) ⟨_, p.2, o, rfl, rfl⟩) (ea_cons (ev_item 2 (ev_var 0)) ea_nil)) ⟨_, r.strict, rfl, ?_⟩)))
    (fun _ _ _ _ _ o hm => ev_var 4) (fun _ _ _ => rfl)) rfl))
  rw [math_validity]
  rfl

/-! ### origins_of_prefixes -/
abbrev sOrg : Stmt := topS 34
def preRow (p : Nat × Nat) : List Int := [(p.1 : Int), (p.2 : Int)]
def orgD (r : Su202.Registry) : D := .dic (allM.map preRow) (allM.map fun p => natsD (openM r p))
def ROrg (ds : List D) (d : D) : Prop := ∃ (r : Su202.Registry), GoodSt r ∧ ds = [stD r] ∧ d = orgD r
abbrev nOrg : List Str := ["state", "found", "address", "length"]
theorem scOrg : FnScope nOrg ["state"] (defScope sOrg) := ⟨rfl, rfl, rfl, by decide +kernel, rfl, by decide +kernel, by decide +kernel⟩
theorem preRow_inj {p q : Nat × Nat} (h : preRow p = preRow q) : p = q := by
  obtain ⟨a, b⟩ := p
  obtain ⟨c, d⟩ := q
  simp only [preRow, List.cons.injEq] at h
  obtain ⟨h1, h2, _⟩ := h
  have : a = c := by omega
  have : b = d := by omega
  subst a b
  rfl
theorem allM_nodup : allM.Nodup := by decide +kernel
theorem allM_len : allM.length = 127 := by decide +kernel
theorem take_next {α : Type} {l : List α} {n : Nat} {a : α} (h : l[n]? = some a) : l.take (n + 1) = l.take n ++ [a] := by
  rw [List.take_add_one, h]
  rfl
theorem not_before {α : Type} {l : List α} {n : Nat} {a : α} (hn : l.Nodup) (h : l[n]? = some a) : a ∉ l.take n := fun hm => by
  obtain ⟨m, hm1, hm2⟩ := List.getElem_of_mem hm
  rw [List.length_take] at hm1
  rw [List.getElem_take] at hm2
  obtain ⟨h1, h2⟩ := List.getElem?_eq_some_iff.mp h
  have := (List.getElem_inj hn).mp (hm2.trans h2.symm)
  omega
theorem okOrg (F : Defn K mg "origins_of_prefixes" sOrg) (C1 : CalD P w K mg base 1 "all_prefixes" RAll) (C2 : CalD P w K mg base 4 "open_origins" ROpen) : CalD P w K mg base 5 "origins_of_prefixes" ROrg := by
  refine mkD F scOrg (fun _ _ _ _ _ _ us hl => match us, hl with | [_], _ => rfl) (fun ds d h => by obtain ⟨r, _, rfl, rfl⟩ := h; rfl) ?_
  rintro f cdv A outer st H E hr _ _ ⟨r, hg, rfl, rfl⟩
  refine os_newD (i := 1) scOrg.nd ?_
  refine os_for (Cn := fun n => Cdic ((allM.take n).map preRow) ((allM.take n).map fun p => natsD (openM r p))) (ls := allM) (enc := preD) (Δ' := fun p => [some (stD r), none, some (.int p.1), some (.int p.2)])
    [some (stD r), none, none, none] [2, 3] PassesOwn.never rfl (fun _ => stays_dic) (ev_call0 C1 hr ⟨rfl, rfl⟩) (pg_tup (n := 2) rfl (gs_cons (i := 2) scOrg.nd (gs_cons (i := 3) scOrg.nd gs_nil))) (fun p _ => gd_tup rfl rfl (fun _ h => h)) (by decide) (fun _ _ h => h) (fun n p hp => ?_) ?_
  · show PSs _ _ (tOB 1 _ (Cdic ((allM.take n).map preRow) ((allM.take n).map fun p => natsD (openM r p))) _ (Cdic ((allM.take (n + 1)).map preRow) ((allM.take (n + 1)).map fun p => natsD (openM r p))))
    rw [take_next hp, List.map_append, List.map_append]
    refine ob_dput (ns := preRow p) (hu_of hr) (fun hm => ?_) ?_ (ev_call C2 hr (ea_cons (ev_var 0) (ea_cons (ev_var 2) (ea_cons (ev_var 3) ea_nil))) ⟨r, p, hg, rfl, rfl⟩) (ev_tup (ea_cons (ev_var 2) (ea_cons (ev_var 3) ea_nil))) (ob_nil fun σ H h => h.weak (.keep (.keep (.drop (.drop .nil)))))
    · obtain ⟨q, hq, e⟩ := List.mem_map.mp hm
      rw [preRow_inj e] at hq
      exact not_before allM_nodup hp hq
    · rw [List.length_map, List.length_take, allM_len]
      omega
  · show PSs _ _ (tOS 1 _ (Cdic ((allM.take allM.length).map preRow) ((allM.take allM.length).map fun p => natsD (openM r p))) _)
    rw [List.take_length]
    exact os_retD

/-! ### claims_on -/
abbrev sClaims : Stmt := topS 35
def claimRow (c : Nat × Nat × Nat) : List Int := [(c.1 : Int), (c.2.1 : Int), (c.2.2 : Int)]
def claimD (c : Nat × Nat × Nat) : D := rowD (claimRow c)
def claimsOf (r : Su202.Registry) (p : Nat × Nat) : List (Nat × Nat × Nat) := (openM r p).map fun o => (p.1, p.2, o)
def claimsM (r : Su202.Registry) (x : Nat) : List (Nat × Nat × Nat) := (aroundM x).flatMap (claimsOf r)
def RClaims (ds : List D) (d : D) : Prop := ∃ (r : Su202.Registry) (x : Nat), x < 64 ∧ ds = [orgD r, .int x] ∧ d = .lst ((claimsM r x).map claimD)
abbrev nClaims : List Str := ["origins", "address", "found", "prefix", "origin"]
theorem scClaims : FnScope nClaims ["origins", "address"] (defScope sClaims) := ⟨rfl, rfl, rfl, by decide +kernel, rfl, by decide +kernel, by decide +kernel⟩
theorem around_mem : ∀ x, x < 64 → ∀ p ∈ aroundM x, p ∈ allM := by decide +kernel
theorem look_map {f : Nat × Nat → D} : ∀ {l : List (Nat × Nat)} {p : Nat × Nat}, p ∈ l → lookD (l.map preRow) (l.map f) (preRow p) = some (f p)
  | q :: l, p, h => by
    rw [List.map_cons, List.map_cons]
    unfold lookD
    by_cases c : preRow q = preRow p
    · rw [if_pos c, preRow_inj c]
    · rw [if_neg c]
      exact look_map ((List.mem_cons.mp h).resolve_left fun z => c (by rw [z]))
theorem open_len (r : Su202.Registry) (p : Nat × Nat) : (openM r p).length ≤ 8 := by
  unfold openM
  have := List.length_filter_le (fun o => r.isAccepted p.1 p.2 o) (List.range 8)
  rw [List.length_range] at this
  exact this
theorem flat_len {α β : Type} {f : α → List β} {k : Nat} (h : ∀ a, (f a).length ≤ k) : ∀ l : List α, (l.flatMap f).length ≤ l.length * k
  | [] => by simp
  | a :: l => by
    rw [List.flatMap_cons, List.length_append, List.length_cons]
    have := flat_len h l
    have := h a
    rw [Nat.succ_mul]
    omega
theorem claims_take (r : Su202.Registry) (x n : Nat) : (((aroundM x).take n).flatMap (claimsOf r)).length ≤ 100 := by
  have h := flat_len (f := claimsOf r) (k := 8) (fun p => by unfold claimsOf; rw [List.length_map]; exact open_len r p) ((aroundM x).take n)
  have h2 : ((aroundM x).take n).length ≤ 7 := by
    rw [List.length_take]
    have : (aroundM x).length = 7 := by unfold aroundM; simp
    omega
  omega
theorem okClaims (F : Defn K mg "claims_on" sClaims) (C1 : CalD P w K mg base 2 "prefixes_around" RAround) : CalD P w K mg base 3 "claims_on" RClaims := by
  refine mkD F scClaims (fun _ _ _ _ _ _ us hl => match us, hl with | [_, _], _ => rfl) (fun ds d h => by obtain ⟨r, x, _, rfl, rfl⟩ := h; rfl) ?_
  rintro f cdv A outer st H E hr _ _ ⟨r, x, hx, rfl, rfl⟩
  refine os_new (i := 2) scClaims.nd ?_
  refine os_for (Cn := fun n => Clst ((((aroundM x).take n).flatMap (claimsOf r)).map claimD)) (ls := aroundM x) (enc := preD) (Δ' := fun p => [some (orgD r), some (.int x), none, some (preD p), none])
    [some (orgD r), some (.int x), none, none, none] [3] PassesOwn.never rfl (fun _ => stays_lst) (ev_call C1 hr (ea_cons (ev_var 1) ea_nil) ⟨x, rfl, rfl⟩) (pg_name (i := 3) scClaims.nd rfl (Or.inr rfl)) (fun p _ => gd_name) (by decide) (fun _ _ h => h) (fun n p hp => ?_) ?_
  · show PSs _ _ (tOB 2 _ (Clst ((((aroundM x).take n).flatMap (claimsOf r)).map claimD)) _ (Clst ((((aroundM x).take (n + 1)).flatMap (claimsOf r)).map claimD)))
    have hm := around_mem x hx p (List.mem_of_getElem? hp)
    rw [take_next hp, List.flatMap_append, List.map_append, List.flatMap_singleton]
    refine ob_extend ?_ (PE.to (ev_lc (ls := openM r p) (enc := fun o : Nat => D.int (o : Int)) (f := fun _ => true) (out := fun o => claimD (p.1, p.2, o)) [("origin", 4)] rfl scClaims.nd (it_list (ev_dget (ns := preRow p) (hu_of hr) (ev_var 0) (PE.to (ev_var 3) rfl) (look_map hm)))
      (blkOk_by (N := nClaims) (sc := defScope sClaims) (by decide +kernel)) (fun _ _ _ _ _ => pg_name (i := 4) scClaims.nd rfl (Or.inl rfl)) (fun _ _ => gd_name)
      (fun _ _ _ _ _ o hm => ts_nil) (fun _ _ _ _ _ o hm => ev_tup (ea_cons (ev_item 0 (ev_var 3)) (ea_cons (ev_item 1 (ev_var 3)) (ea_cons (ev_var 4) ea_nil)))) (fun _ _ _ => rfl)) ?_) (ob_nil fun σ H h => h.weak (.keep (.keep (.keep (.drop (.keep .nil))))))
    · rw [List.length_map, List.length_map]
      have h1 := claims_take r x n
      have h2 : (claimsOf r p).length ≤ 8 := by unfold claimsOf; rw [List.length_map]; exact open_len r p
      omega
    · rw [filt_true]
      unfold claimsOf
      rw [List.map_map]
      rfl
  · show PSs _ _ (tOS 2 _ (Clst ((((aroundM x).take (aroundM x).length).flatMap (claimsOf r)).map claimD)) _)
    rw [List.take_length]
    exact os_ret

/-! ### can_take -/
abbrev sCanTake : Stmt := topS 36
def claimAnn (m : Nat) (c : Nat × Nat × Nat) : Su202.Announcement := ⟨c.1, c.2.1, m, c.2.2⟩
def canTakeM (cs : List (Nat × Nat × Nat)) (m : Nat) : Option Su202.Announcement → Bool
  | none => !cs.isEmpty
  | some b => cs.any fun c => Su202.isPreferred (claimAnn m c) b
def RCanTake (ds : List D) (d : D) : Prop := ∃ (cs : List (Nat × Nat × Nat)) (o : Option Su202.Announcement) (m : Nat), ds = [.lst (cs.map claimD), optD annD o, .int m] ∧ d = .bl (canTakeM cs m o)
abbrev nCanTake : List Str := ["claims", "best", "member", "least", "address", "length", "origin"]
theorem scCanTake : FnScope nCanTake ["claims", "best", "member"] (defScope sCanTake) := ⟨rfl, rfl, rfl, by decide +kernel, rfl, by decide +kernel, by decide +kernel⟩
theorem okCanTake (F : Defn K mg "can_take" sCanTake) (G : Glob K mg) (C1 : CalD P w K mg base 1 "rank" RRank) : CalD P w K mg base 2 "can_take" RCanTake := by
  refine mkD F scCanTake (fun _ _ _ _ _ _ us hl => match us, hl with | [_, _, _], _ => rfl) (fun ds d h => by obtain ⟨cs, o, m, rfl, rfl⟩ := h; rfl) ?_
  rintro f cdv A outer st H E hr _ _ ⟨cs, o, m, rfl, rfl⟩
  have ec : D.lst (cs.map claimD) = D.lst ((cs.map claimRow).map rowD) := by
    rw [List.map_map]
    rfl
  cases o with
  | none =>
    refine sd_if (b := true) (et_cmp op_isN od_isN (ev_var 1) ev_non) (fun _ => sd_ret (PE.to (ev_cmp (op_neD hr.units) od_neNilRows (PE.to (ev_var 0) ec) (ev_lst ea_nil)) ?_)) (fun h => nomatch h)
    simp [canTakeM]
  | some b =>
    refine sd_if (b := false) (et_cmp op_isN od_isN (ev_var 1) ev_non) (fun h => nomatch h) (fun _ => ?_)
    refine sd_set (i := 3) scCanTake.nd (ev_call C1 hr (ea_cons (ev_var 1) ea_nil) ⟨b, rfl, rfl⟩) (sd_ret (PE.to (ev_any (bs := cs.map fun c => Su202.isPreferred (claimAnn m c) b) rfl G.nAny (PE.to (ev_lc (ls := cs) (enc := claimD) (f := fun _ => true) (out := fun c => D.bl (Su202.isPreferred (claimAnn m c) b)) (Δ' := fun c => [some (.lst (cs.map claimD)), some (annD b), some (.int m), some (rowD (rankM b)), some (.int c.1), some (.int c.2.1), some (.int c.2.2)]) (g := gTup K 3 (gNames [4, 5, 6])) [("address", 4), ("length", 5), ("origin", 6)] rfl scCanTake.nd (it_list (ev_var 0))
      (blkOk_by (N := nCanTake) (sc := defScope sCanTake) (by decide +kernel)) (fun _ _ _ _ _ => pg_tup (n := 3) rfl (gs_cons (i := 4) scCanTake.nd (gs_cons (i := 5) scCanTake.nd (gs_cons (i := 6) scCanTake.nd gs_nil)))) (fun c _ => gd_tup (js := [4, 5, 6]) (ds := (claimRow c).map D.int) rfl rfl (fun _ h => h))
      (fun _ _ _ _ _ o hm => ts_nil) (fun _ _ _ _ _ c hm => PE.to (ev_cmp (op_ltT hr.units0) od_ltRow (ev_call C1 hr (ea_cons (ev_tup (ea_cons (ev_var 4) (ea_cons (ev_var 5) (ea_cons (ev_var 2) (ea_cons (ev_var 6) ea_nil))))) ea_nil) ⟨claimAnn m c, rfl, rfl⟩) (ev_var 3)) (congrArg D.bl (rank_pref _ _))) (fun _ _ _ => rfl)) ?_)) ?_))
    · rw [filt_true, List.map_map]
      rfl
    · rw [List.any_map]
      rfl
end
end Ow
/-! The mathematics of hijacks. -/
namespace Ow
theorem contains_own (x l : Nat) : Su202.prefixContains (Su202.prefixOf x l) l x = true := by
  unfold Su202.prefixContains Su202.prefixOf
  generalize hm : 2 ^ (Su202.addressBits - l) = m
  have hp : 0 < m := by rw [← hm]; exact Nat.two_pow_pos _
  have e1 := Nat.div_add_mod x m
  have e3 : x - x % m = m * (x / m) := by omega
  rw [e3, Nat.mul_div_cancel_left _ hp, beq_iff_eq]
theorem acc_announce (r : Su202.Registry) (a l m o : Nat) : (r.announce a l m o).accepted = r.accepted ++ (if r.isAccepted a l o = true then [(⟨a, l, m, o⟩ : Su202.Announcement)] else []) := by
  have e : (r.announce a l m o).accepted = (r.announcements ++ [(⟨a, l, m, o⟩ : Su202.Announcement)]).filter fun s => r.isAccepted s.address s.length s.origin := rfl
  rw [e, List.filter_append]
  by_cases c : r.isAccepted a l o = true
  · rw [if_pos c, List.filter_cons_of_pos (by exact c)]
    rfl
  · rw [if_neg c, List.filter_cons_of_neg (by exact c)]
    rfl
theorem select_snoc (l : List Su202.Announcement) (s : Su202.Announcement) (x : Nat) (h : Su202.prefixContains s.address s.length x = true) : Su202.selectAnnouncement (l ++ [s]) x = stepB (Su202.selectAnnouncement l x) s := by
  rw [select_step, select_step, List.foldl_append, List.foldl_cons, List.foldl_nil, if_pos h]
def prefOpt (s : Su202.Announcement) : Option Su202.Announcement → Bool
  | none => true
  | some b => Su202.isPreferred s b
theorem dest_announce (r : Su202.Registry) (x l m o : Nat) (h : r.destination x ≠ some m) : ((r.announce (Su202.prefixOf x l) l m o).destination x == some m) = (r.isAccepted (Su202.prefixOf x l) l o && prefOpt ⟨Su202.prefixOf x l, l, m, o⟩ (Su202.selectAnnouncement r.accepted x)) := by
  unfold Su202.Registry.destination at h ⊢
  rw [acc_announce]
  by_cases c : r.isAccepted (Su202.prefixOf x l) l o = true
  · rw [if_pos c, c, Bool.true_and, select_snoc _ _ _ (contains_own x l)]
    cases hb : Su202.selectAnnouncement r.accepted x with
    | none => simp [stepB, prefOpt]
    | some b =>
      rw [hb] at h
      have hn : b.announcer ≠ m := fun z => h (by rw [← z]; rfl)
      show ((if Su202.isPreferred ⟨Su202.prefixOf x l, l, m, o⟩ b = true then some (⟨Su202.prefixOf x l, l, m, o⟩ : Su202.Announcement) else some b).map (fun s => s.announcer) == some m) = Su202.isPreferred ⟨Su202.prefixOf x l, l, m, o⟩ b
      cases q : Su202.isPreferred ⟨Su202.prefixOf x l, l, m, o⟩ b with
      | true => simp
      | false => simp [hn]
  · have c' : r.isAccepted (Su202.prefixOf x l) l o = false := by simpa using c
    rw [if_neg c, c', Bool.false_and, List.append_nil]
    simpa using h
theorem canTake_any (cs : List (Nat × Nat × Nat)) (m : Nat) (o : Option Su202.Announcement) : canTakeM cs m o = cs.any fun c => prefOpt (claimAnn m c) o := by
  cases o with
  | none => cases cs <;> simp [canTakeM, prefOpt]
  | some b => rfl
theorem hijack_as (r : Su202.Registry) (x m : Nat) (h : r.destination x ≠ some m) : Su202.members.any (r.canHijackAs x m) = canTakeM (claimsM r x) m (Su202.selectAnnouncement r.accepted x) := by
  rw [canTake_any, Bool.eq_iff_iff]
  unfold claimsM claimsOf aroundM openM Su202.members Su202.memberCount Su202.Registry.canHijackAs
  simp only [List.any_eq_true, List.mem_flatMap, List.mem_map, List.mem_filter, List.mem_range, Su202.addressBits]
  constructor
  · rintro ⟨o, ho, l, hl, q⟩
    rw [dest_announce r x l m o h, Bool.and_eq_true] at q
    exact ⟨(Su202.prefixOf x l, l, o), ⟨(Su202.prefixOf x l, l), ⟨l, hl, rfl⟩, o, ⟨ho, q.1⟩, rfl⟩, q.2⟩
  · rintro ⟨c, ⟨p, ⟨l, hl, rfl⟩, o, ⟨ho, hacc⟩, rfl⟩, q⟩
    refine ⟨o, ho, l, hl, ?_⟩
    rw [dest_announce r x l m o h, Bool.and_eq_true]
    exact ⟨hacc, q⟩
/-- a member is not the announcer -/
def otherM (o : Option Su202.Announcement) (m : Nat) : Bool := !decide ((m : Int) = annOf o)
theorem other_dest (r : Su202.Registry) (x m : Nat) : otherM (Su202.selectAnnouncement r.accepted x) m = (r.destination x != some m) := by
  unfold otherM Su202.Registry.destination
  cases Su202.selectAnnouncement r.accepted x with
  | none =>
    have e : ((m : Int) = -1) ↔ False := ⟨fun h => by omega, False.elim⟩
    simp [annOf, e]
  | some b =>
    have e : ((m : Int) = (b.announcer : Int)) ↔ b.announcer = m := by omega
    show (!decide ((m : Int) = (b.announcer : Int))) = (some b.announcer != some m)
    rw [Bool.eq_iff_iff]
    simp only [Bool.not_eq_true', decide_eq_false_iff_not, bne_iff_ne, ne_eq, e, Option.some.injEq]
theorem math_takers (r : Su202.Registry) (x : Nat) : (((List.range 8).filter (otherM (Su202.selectAnnouncement r.accepted x))).filter fun m => canTakeM (claimsM r x) m (Su202.selectAnnouncement r.accepted x)) = r.hijackers x := by
  rw [List.filter_filter]
  unfold Su202.Registry.hijackers Su202.members Su202.memberCount
  refine List.filter_congr fun m _ => ?_
  rw [other_dest]
  unfold Su202.Registry.canHijack
  cases c : (r.destination x != some m) with
  | false => rw [Bool.and_false, Bool.false_and]
  | true =>
    rw [Bool.and_true, Bool.true_and, hijack_as r x m (by simpa using c)]
theorem math_vuln (r : Su202.Registry) (m : Nat) : (((List.range 64).filter fun x => decide (annOf (Su202.selectAnnouncement r.accepted x) = (m : Int))).filter fun x => !(r.hijackers x).isEmpty) = r.vulnerableAddresses m := by
  rw [List.filter_filter]
  unfold Su202.Registry.vulnerableAddresses Su202.addresses Su202.addressBits
  refine List.filter_congr fun x _ => ?_
  rw [Bool.and_comm]
  congr 1
  unfold Su202.Registry.destination
  cases Su202.selectAnnouncement r.accepted x with
  | none =>
    have e : ((-1 : Int) = (m : Int)) ↔ False := ⟨fun h => by omega, False.elim⟩
    simp [annOf, e]
  | some b =>
    have e : ((b.announcer : Int) = (m : Int)) ↔ b.announcer = m := by omega
    show decide ((b.announcer : Int) = (m : Int)) = (some b.announcer == some m)
    rw [Bool.eq_iff_iff]
    simp only [decide_eq_true_eq, beq_iff_eq, e, Option.some.injEq]
/-- the count of valid prefixes, prefix length by prefix length -/
theorem math_count (rs : List Su202.Roa) (m : Nat) : (allM.filter fun p => Su202.validity rs p.1 p.2 m == 1).length = ((List.range (Su202.addressBits + 1)).map fun l => ((List.range (2 ^ l)).filter fun k => Su202.validity rs (k * 2 ^ (Su202.addressBits - l)) l m == 1).length).sum := by
  unfold allM lenM Su202.addressBits
  generalize List.range 7 = ls
  induction ls with
  | nil => rfl
  | cons l r ih =>
    rw [List.flatMap_cons, List.filter_append, List.length_append, ih, List.map_cons, List.sum_cons, List.filter_map, List.length_map]
    rfl
end Ow
/-! hijacks, the second half -/
namespace Ow
open PySem PySem.Spec PyProof.Rows L2
section
variable {P : Program} {w : World} {K : PySem.W.Frag} {mg : Str → Option Value} {base : Heap}

/-! ### takers -/
abbrev sTakers : Stmt := topS 37
def RTakers (ds : List D) (d : D) : Prop := ∃ (r : Su202.Registry) (x : Nat), x < 64 ∧ ds = [orgD r, selD r x, .int x] ∧ d = natsD (r.hijackers x)
abbrev nTakers : List Str := ["origins", "best", "address", "claims", "others", "member"]
theorem scTakers : FnScope nTakers ["origins", "best", "address"] (defScope sTakers) := ⟨rfl, rfl, rfl, by decide +kernel, rfl, by decide +kernel, by decide +kernel⟩
theorem okTakers (F : Defn K mg "takers" sTakers) (G : Glob K mg) (C1 : CalD P w K mg base 3 "claims_on" RClaims) (C2 : CalD P w K mg base 1 "announcer_of" RAnnOf) (C3 : CalD P w K mg base 2 "can_take" RCanTake) : CalD P w K mg base 4 "takers" RTakers := by
  refine mkD F scTakers (fun _ _ _ _ _ _ us hl => match us, hl with | [_, _, _], _ => rfl) (fun ds d h => by obtain ⟨r, p, _, rfl, rfl⟩ := h; rfl) ?_
  rintro f cdv A outer st H E hr _ _ ⟨r, x, hx, rfl, rfl⟩
  refine sd_set (i := 3) scTakers.nd (ev_call C1 hr (ea_cons (ev_var 0) (ea_cons (ev_var 2) ea_nil)) ⟨r, x, hx, rfl, rfl⟩) ?_
  refine sd_lc (i := 4) (f := otherM (Su202.selectAnnouncement r.accepted x)) (out := fun m : Nat => D.int (m : Int)) [("member", 5)] rfl scTakers.nd (it_range (n := 8) G.nRange (ev_glob G.members))
    (blkOk_by (N := nTakers) (sc := defScope sTakers) (by decide +kernel)) (fun _ _ _ _ _ => pg_name (i := 5) scTakers.nd rfl (Or.inl rfl)) (fun _ _ => gd_name)
    (fun _ _ _ _ _ m hm => ts_one (et_cmp op_ne od_neI (ev_var 5) (ev_call C2 hr (ea_cons (ev_var 1) ea_nil) ⟨_, rfl, rfl⟩)))
    (fun _ _ _ _ _ o hm => ev_var 5) (fun _ _ _ => rfl) ?_
  refine sd_ret (PE.to (ev_lc (ls := (List.range 8).filter (otherM (Su202.selectAnnouncement r.accepted x))) (enc := fun m : Nat => D.int (m : Int)) (f := fun m => canTakeM (claimsM r x) m (Su202.selectAnnouncement r.accepted x)) (out := fun m : Nat => D.int (m : Int)) [("member", 5)] rfl scTakers.nd (it_list (ev_var 4))
    (blkOk_by (N := nTakers) (sc := defScope sTakers) (by decide +kernel)) (fun _ _ _ _ _ => pg_name (i := 5) scTakers.nd rfl (Or.inl rfl)) (fun _ _ => gd_name)
    (fun _ _ _ _ _ m hm => ts_one (et_val (ev_call C3 hr (ea_cons (ev_var 3) (ea_cons (ev_var 1) (ea_cons (ev_var 5) ea_nil))) ⟨claimsM r x, Su202.selectAnnouncement r.accepted x, m, rfl, rfl⟩)))
    (fun _ _ _ _ _ o hm => ev_var 5) (fun _ _ _ => rfl)) ?_)
  rw [math_takers]
  rfl

/-! ### hijackers -/
abbrev sHijackers : Stmt := topS 38
def RHijackers (ds : List D) (d : D) : Prop := ∃ (r : Su202.Registry) (x : Nat), GoodSt r ∧ x < 64 ∧ ds = [stD r, .int x] ∧ d = natsD (r.hijackers x)
theorem scHijackers : FnScope ["state", "address"] ["state", "address"] (defScope sHijackers) := ⟨rfl, rfl, rfl, by decide +kernel, rfl, by decide +kernel, by decide +kernel⟩
theorem okHijackers (F : Defn K mg "hijackers" sHijackers) (C1 : CalD P w K mg base 5 "origins_of_prefixes" ROrg) (C2 : CalD P w K mg base 7 "selected" RSelected) (C3 : CalD P w K mg base 4 "takers" RTakers) : CalD P w K mg base 8 "hijackers" RHijackers := by
  refine mkD F scHijackers (fun _ _ _ _ _ _ us hl => match us, hl with | [_, _], _ => rfl) (fun ds d h => by obtain ⟨r, p, _, _, rfl, rfl⟩ := h; rfl) ?_
  rintro f cdv A outer st H E hr _ _ ⟨r, x, hg, hx, rfl, rfl⟩
  exact sd_ret (ev_call C3 hr (ea_cons (ev_call C1 hr (ea_cons (ev_var 0) ea_nil) ⟨r, hg, rfl, rfl⟩) (ea_cons (ev_call C2 hr (ea_cons (ev_var 0) (ea_cons (ev_var 1) ea_nil)) ⟨r, x, hg, rfl, rfl⟩) (ea_cons (ev_var 1) ea_nil))) ⟨r, x, hx, rfl, rfl⟩)

/-! ### vulnerable -/
abbrev sVuln : Stmt := topS 39
def RVuln (ds : List D) (d : D) : Prop := ∃ (r : Su202.Registry) (m : Nat), GoodSt r ∧ ds = [stD r, .int m] ∧ d = natsD (r.vulnerableAddresses m)
abbrev nVuln : List Str := ["state", "member", "origins", "best", "own", "address"]
theorem scVuln : FnScope nVuln ["state", "member"] (defScope sVuln) := ⟨rfl, rfl, rfl, by decide +kernel, rfl, by decide +kernel, by decide +kernel⟩
theorem okVuln (F : Defn K mg "vulnerable" sVuln) (G : Glob K mg) (C1 : CalD P w K mg base 5 "origins_of_prefixes" ROrg) (C2 : CalD P w K mg base 7 "all_selected" RAllSel) (C3 : CalD P w K mg base 1 "announcer_of" RAnnOf) (C4 : CalD P w K mg base 4 "takers" RTakers) : CalD P w K mg base 8 "vulnerable" RVuln := by
  refine mkD F scVuln (fun _ _ _ _ _ _ us hl => match us, hl with | [_, _], _ => rfl) (fun ds d h => by obtain ⟨r, p, _, rfl, rfl⟩ := h; rfl) ?_
  rintro f cdv A outer st H E hr _ _ ⟨r, m, hg, rfl, rfl⟩
  refine sd_unpT (js := [2, 3]) rfl (ev_tup (ea_cons (ev_call C1 hr (ea_cons (ev_var 0) ea_nil) ⟨r, hg, rfl, rfl⟩) (ea_cons (ev_call C2 hr (ea_cons (ev_var 0) ea_nil) ⟨r, hg, rfl, rfl⟩) ea_nil))) (gs_cons scVuln.nd (gs_cons scVuln.nd gs_nil)) ?_
  refine sd_lc (i := 4) (f := fun x => decide (annOf (Su202.selectAnnouncement r.accepted x) = (m : Int))) (out := fun x : Nat => D.int (x : Int)) [("address", 5)] rfl scVuln.nd (it_range (n := 64) G.nRange (ev_glob G.addr))
    (blkOk_by (N := nVuln) (sc := defScope sVuln) (by decide +kernel)) (fun _ _ _ _ _ => pg_name (i := 5) scVuln.nd rfl (Or.inl rfl)) (fun _ _ => gd_name)
    (fun _ _ _ _ _ x hm => ts_one (et_cmp op_eq od_eqI (ev_call C3 hr (ea_cons (ev_ix ix_list (od_ixL (range_at (List.mem_range.mp hm))) (ev_var 3) (ev_var 5)) ea_nil) ⟨_, rfl, rfl⟩) (ev_var 1)))
    (fun _ _ _ _ _ o hm => ev_var 5) (fun _ _ _ => rfl) ?_
  refine sd_ret (PE.to (ev_lc (ls := (List.range 64).filter fun x => decide (annOf (Su202.selectAnnouncement r.accepted x) = (m : Int))) (enc := fun m : Nat => D.int (m : Int)) (f := fun x => !(r.hijackers x).isEmpty) (out := fun m : Nat => D.int (m : Int)) [("address", 5)] rfl scVuln.nd (it_list (ev_var 4))
    (blkOk_by (N := nVuln) (sc := defScope sVuln) (by decide +kernel)) (fun _ _ _ _ _ => pg_name (i := 5) scVuln.nd rfl (Or.inl rfl)) (fun _ _ => gd_name)
    (fun _ _ _ _ _ x hm => ts_one (PT.to (et_cmp (op_neD hr.units) (od_neNilInts (ns := (r.hijackers x).map fun m : Nat => (m : Int))) (PE.to (ev_call C4 hr (ea_cons (ev_var 2) (ea_cons (ev_ix ix_list (od_ixL (range_at (List.mem_range.mp (List.mem_filter.mp hm).1))) (ev_var 3) (ev_var 5)) (ea_cons (ev_var 5) ea_nil))) ⟨r, x, List.mem_range.mp (List.mem_filter.mp hm).1, rfl, rfl⟩) ?_) (ev_lst ea_nil)) ?_))
    (fun _ _ _ _ _ o hm => ev_var 5) (fun _ _ _ => rfl)) ?_)
  · unfold natsD
    rw [List.map_map]
    rfl
  · rw [List.isEmpty_map]
  · rw [math_vuln]
    rfl

/-! ### valid_prefixes -/
abbrev sValPre : Stmt := topS 40
def valPreM (rs : List Su202.Roa) (m : Nat) : List (Nat × Nat) := allM.filter fun p => Su202.validity rs p.1 p.2 m == 1
def RValPre (ds : List D) (d : D) : Prop := ∃ (rs : List Su202.Roa) (m : Nat), GoodR rs ∧ ds = [.lst (rs.map roaD), .int m] ∧ d = .lst ((valPreM rs m).map preD)
abbrev nValPre : List Str := ["roas", "member", "prefix"]
theorem scValPre : FnScope nValPre ["roas", "member"] (defScope sValPre) := ⟨rfl, rfl, rfl, by decide +kernel, rfl, by decide +kernel, by decide +kernel⟩
theorem okValPre (F : Defn K mg "valid_prefixes" sValPre) (G : Glob K mg) (C1 : CalD P w K mg base 1 "all_prefixes" RAll) (C2 : CalD P w K mg base 4 "validity" RValidity) : CalD P w K mg base 5 "valid_prefixes" RValPre := by
  refine mkD F scValPre (fun _ _ _ _ _ _ us hl => match us, hl with | [_, _], _ => rfl) (fun ds d h => by obtain ⟨r, p, _, rfl, rfl⟩ := h; rfl) ?_
  rintro f cdv A outer st H E hr _ _ ⟨rs, m, hg, rfl, rfl⟩
  refine sd_ret (ev_lc (ls := allM) (enc := preD) (f := fun p => Su202.validity rs p.1 p.2 m == 1) (out := preD) [("prefix", 2)] rfl scValPre.nd (it_list (ev_call0 C1 hr ⟨rfl, rfl⟩))
    (blkOk_by (N := nValPre) (sc := defScope sValPre) (by decide +kernel)) (fun _ _ _ _ _ => pg_name (i := 2) scValPre.nd rfl (Or.inl rfl)) (fun _ _ => gd_name)
    (fun _ _ _ _ _ p hm => ts_one (PT.to (et_cmp op_eq od_eqI (ev_call C2 hr (ea_cons (ev_var 0) (ea_cons (ev_item 0 (ev_var 2)) (ea_cons (ev_item 1 (ev_var 2)) (ea_cons (ev_var 1) ea_nil)))) ⟨rs, p.1, p.2, m, hg, rfl, rfl⟩) (ev_glob G.valid)) ?_))
    (fun _ _ _ _ _ o hm => ev_var 2) (fun _ _ _ => rfl))
  rw [Bool.eq_iff_iff, decide_eq_true_eq, beq_iff_eq]
  omega
end
end Ow
/-! refusals; told_list, told_rows -/
namespace Ow
open PySem PySem.Spec PyProof.Rows L2
abbrev sRefInit : Stmt := inClass (topS 49) 0
/-- what the top has written of Refused, at C -/
structure RefTxt (K : PySem.W.Frag) (mg : Str → Option Value) (C : Addr) : Prop where
  oex : OexC K C
  gC : mg "Refused" = some (.ref C)
  noC : PySem.W.findIn K (.ref C) "code" = some none
  ini : ∃ (fI : Addr) (fd : FuncData), PySem.W.findIn K (.ref C) "__init__" = some (some (.ref fI)) ∧ PySem.W.typeIn K (.ref fI) = some (.type "function") ∧ Fun K "__init__" "Refused.__init__" sRefInit fI fd
  vV : PySem.W.findCls K (.type "ValueError") (.type "type") "__init__" = some (.val (.builtin "ValueError.__init__"))
  te : PySem.W.exmOne K (.ref C) (.ref C) = some true
  xf : XfC K C
section
variable {P : Program} {w : World} {K : PySem.W.Frag} {mg : Str → Option Value} {base : Heap} {C : Addr}
def spRefInit (C : Addr) : Sp := fun vs H Q _ => ∃ (a : Addr) (c : Int), vs = [.ref a, .int c] ∧ H a = some (exo a C none) ∧ ∀ dx, H dx = none → dx ≠ a → Q .non (upd (upd H dx (exd dx [(("code" : Str), .int c)])) a (exo a C (some dx)))
theorem scRefInit : FnScope ["self", "code"] ["self", "code"] (defScope sRefInit) := ⟨rfl, rfl, rfl, by decide +kernel, rfl, by decide +kernel, by decide +kernel⟩
theorem okRefInit {f : Addr} {fd : FuncData} (F : Fun K "__init__" "Refused.__init__" sRefInit f fd) (T : RefTxt K mg C) (G : Glob K mg) : FnOk P w K mg base CX0 1 f fd ["self", "code"] (spRefInit C) := by
  refine F.ok scRefInit (fun vs H Q E h => ?_) (fun cdv A outer s H vs Q E hr h => ⟨_, pss_cons (ps_expr (pe_veinit (by rfl) G.nVE T.vV (pa_cons (pv 0) (pa_cons pe_str pa_nil)))) (pss_one (ps_ost (pv 0) (pv 1))), ?_⟩)
  · obtain ⟨a, c, rfl, _⟩ := h
    rfl
  · obtain ⟨a, c, rfl, ha, k⟩ := h
    exact ⟨_, rfl, a, C, _, rfl, by show 1 ≤ 1000; decide, T.oex, ha, _, rfl, _, rfl, a, C, rfl, T.oex, T.noC, .inl ⟨ha, fun dx n ne => k dx n ne⟩⟩

/-! ### want -/
abbrev sWant : Stmt := topS 50
def RWant (ds : List D) (o : Option Int) : Prop := ∃ (b : Bool) (c : Int), ds = [.bl b, .int c] ∧ o = wantO b c
theorem scWant : FnScope ["is_right", "code"] ["is_right", "code"] (defScope sWant) := ⟨rfl, rfl, rfl, by decide +kernel, rfl, by decide +kernel, by decide +kernel⟩
theorem okWant (F : Defn K mg "want" sWant) (T : RefTxt K mg C) (G : Glob K mg) : CalS P w K mg base 3 "want" (spW C RWant) := by
  refine mkW F scWant (fun _ _ _ _ _ _ us hl => match us, hl with | [_, _], _ => rfl) (fun ds d h => by obtain ⟨a, l, rfl, rfl⟩ := h; rfl) ?_
  rintro f cdv A outer s H E hr _ _ ⟨b, c, rfl, rfl⟩
  obtain ⟨fI, fd, iC, tI, FI⟩ := T.ini
  have GI : FnOk P w K mg base CX0 1 fI fd ["self", "code"] (spRefInit C) := okRefInit FI T G
  have bI := FI.binds (ps := ["self", "code"]) fun _ _ _ _ _ _ us hl => match us, hl with | [_, _], _ => rfl
  refine (pss_one (ps_if (et_not (et_val (ev_var (Δ := startD ["is_right", "code"] [.bl b, .int c]) 0))) (pss_one (ps_raise rfl (takes_of rfl rfl rfl rfl) (pmk_oex T.oex iC tI GI (hr.mono (by decide)) bI .nil (fun _ _ _ _ _ _ _ z => z.elim) (by rfl) T.gC (ea_cons (ev_var (Δ := startD ["is_right", "code"] [.bl b, .int c]) 1) ea_nil)))) pss_nil)).imp fun En σ H1 q => ⟨q.1, fun H2 e2 => ?_⟩
  cases b with
  | true =>
    show (if false = true then _ else _)
    rw [if_neg Bool.false_ne_true]
    exact (show okN () En σ H1 from q.2) σ H2 e2
  | false =>
    show (if true = true then _ else _)
    rw [if_pos rfl]
    refine ⟨q.1.mono e2, fun vs H3 e3 r3 _ => ?_⟩
    cases r3 with
    | cons r4 r5 =>
      cases r5
      cases r4
      refine ⟨by show 1 ≤ 1000; decide, fun a ha => ⟨a, c, rfl, upd_same, fun dx hdx hne => ⟨rfl, dx, _, upd_same, by rw [upd_ne hne, upd_same], ?_, ?_⟩⟩⟩
      · rw [upd_ne hne] at hdx
        exact hdx
      · have hdx' : H3 dx = none := by
          rw [upd_ne hne] at hdx
          exact hdx
        refine (show Er C c H1 E from q.2) dx _ (fun b o hb => ?_) upd_same
        have h3 := e3 _ _ (e2 _ _ hb)
        have hba : b ≠ a := ne_of_none h3 ha
        have hbd : b ≠ dx := ne_of_none h3 hdx'
        rw [upd_ne hbd, del_ne hba, upd_ne hba, upd_ne hbd, upd_ne hba]
        exact h3
abbrev sWantMem : Stmt := topS 51
def RWantMem (ds : List D) (o : Option Int) : Prop := ∃ m : Nat, ds = [.int m] ∧ o = wantO (decide (m < 8)) (-2)
theorem scWantMem : FnScope ["member"] ["member"] (defScope sWantMem) := ⟨rfl, rfl, rfl, by decide +kernel, rfl, by decide +kernel, by decide +kernel⟩
theorem okWantMem (F : Defn K mg "want_member" sWantMem) (G : Glob K mg) (C1 : CalS P w K mg base 3 "want" (spW C RWant)) : CalS P w K mg base 4 "want_member" (spW C RWantMem) := by
  refine mkW F scWantMem (fun _ _ _ _ _ _ us hl => match us, hl with | [_], _ => rfl) (fun ds d h => by obtain ⟨a, rfl, rfl⟩ := h; rfl) ?_
  rintro f cdv A outer s H E hr _ _ ⟨m, rfl, rfl⟩
  exact sk_last (ew_call C1 passX hr (ea_cons (ev_cmp op_lt od_lt (ev_var 0) (ev_glob G.members)) (ea_cons (ev_glob G.missing) ea_nil)) ⟨_, _, rfl, by rw [← dec_natLt (a := m) (b := 8)]; rfl⟩)
abbrev sWantPre : Stmt := topS 52
def RWantPre (ds : List D) (o : Option Int) : Prop := ∃ a l : Nat, ds = [.int a, .int l] ∧ o = wantO (Su202.isPrefix a l) (-22)
theorem scWantPre : FnScope ["address", "length"] ["address", "length"] (defScope sWantPre) := ⟨rfl, rfl, rfl, by decide +kernel, rfl, by decide +kernel, by decide +kernel⟩
theorem okWantPre (F : Defn K mg "want_prefix" sWantPre) (G : Glob K mg) (C1 : CalS P w K mg base 3 "want" (spW C RWant)) (C2 : CalD P w K mg base 1 "is_prefix" RIsPrefix) : CalS P w K mg base 4 "want_prefix" (spW C RWantPre) := by
  refine mkW F scWantPre (fun _ _ _ _ _ _ us hl => match us, hl with | [_, _], _ => rfl) (fun ds d h => by obtain ⟨a, l, rfl, rfl⟩ := h; rfl) ?_
  rintro f cdv A outer s H E hr _ _ ⟨a, l, rfl, rfl⟩
  exact sk_last (ew_call C1 passX hr (ea_cons (ev_call C2 hr (ea_cons (ev_var 0) (ea_cons (ev_var 1) ea_nil)) ⟨a, l, rfl, rfl⟩) (ea_cons (ev_glob G.wrong) ea_nil)) ⟨_, _, rfl, rfl⟩)
abbrev sWantAddr : Stmt := topS 67
def RWantAddr (ds : List D) (o : Option Int) : Prop := ∃ m : Nat, ds = [.int m] ∧ o = wantO (decide (m < 64)) (-22)
theorem scWantAddr : FnScope ["address"] ["address"] (defScope sWantAddr) := ⟨rfl, rfl, rfl, by decide +kernel, rfl, by decide +kernel, by decide +kernel⟩
theorem okWantAddr (F : Defn K mg "want_address" sWantAddr) (G : Glob K mg) (C1 : CalS P w K mg base 3 "want" (spW C RWant)) : CalS P w K mg base 4 "want_address" (spW C RWantAddr) := by
  refine mkW F scWantAddr (fun _ _ _ _ _ _ us hl => match us, hl with | [_], _ => rfl) (fun ds d h => by obtain ⟨a, rfl, rfl⟩ := h; rfl) ?_
  rintro f cdv A outer s H E hr _ _ ⟨m, rfl, rfl⟩
  exact sk_last (ew_call C1 passX hr (ea_cons (ev_cmp op_lt od_lt (ev_var 0) (ev_glob G.addr)) (ea_cons (ev_glob G.wrong) ea_nil)) ⟨_, _, rfl, by rw [← dec_natLt (a := m) (b := 64)]; rfl⟩)
abbrev sWantAnn : Stmt := topS 56
def wantAnnO (a l n g : Nat) : Option Int := seqO (wantO (decide (n < 8)) (-2)) (seqO (wantO (decide (g < 8)) (-2)) (wantO (Su202.isPrefix a l) (-22)))
def RWantAnn (ds : List D) (o : Option Int) : Prop := ∃ a l n g : Nat, ds = [natsD [a, l, n, g]] ∧ o = wantAnnO a l n g
abbrev nWantAnn : List Str := ["numbers", "address", "length", "announcer", "origin"]
theorem scWantAnn : FnScope nWantAnn ["numbers"] (defScope sWantAnn) := ⟨rfl, rfl, rfl, by decide +kernel, rfl, by decide +kernel, by decide +kernel⟩
theorem okWantAnn (F : Defn K mg "want_announcement" sWantAnn) (C1 : CalS P w K mg base 4 "want_member" (spW C RWantMem)) (C2 : CalS P w K mg base 4 "want_prefix" (spW C RWantPre)) : CalS P w K mg base 5 "want_announcement" (spW C RWantAnn) := by
  refine mkW F scWantAnn (fun _ _ _ _ _ _ us hl => match us, hl with | [_], _ => rfl) (fun ds d h => by obtain ⟨a, l, n, g, rfl, rfl⟩ := h; rfl) ?_
  rintro f cdv A outer s H E hr _ _ ⟨a, l, n, g, rfl, rfl⟩
  refine sk_unpL (js := [1, 2, 3, 4]) (ds := [.int a, .int l, .int n, .int g]) okN_stab rfl (ev_var 0) (gs_cons scWantAnn.nd (gs_cons scWantAnn.nd (gs_cons scWantAnn.nd (gs_cons scWantAnn.nd gs_nil)))) ?_
  refine sk_seq (ew_call C1 passX hr (ea_cons (ev_var 3) ea_nil) ⟨n, rfl, rfl⟩) fun _ => sk_seq (ew_call C1 passX hr (ea_cons (ev_var 4) ea_nil) ⟨g, rfl, rfl⟩) fun _ => sk_last (ew_call C2 passX hr (ea_cons (ev_var 1) (ea_cons (ev_var 2) ea_nil)) ⟨a, l, rfl, rfl⟩)

/-! ### told_list, told_rows -/
abbrev sToldList : Stmt := topS 65
def RToldList (ds : List D) (d : D) : Prop := ∃ l : List Nat, l.length ≤ 100000 ∧ ds = [natsD l] ∧ d = natsD (l.length :: l)
theorem scToldList : FnScope ["some"] ["some"] (defScope sToldList) := ⟨rfl, rfl, rfl, by decide +kernel, rfl, by decide +kernel, by decide +kernel⟩
theorem okToldList (F : Defn K mg "told_list" sToldList) (G : Glob K mg) : CalD P w K mg base 1 "told_list" RToldList := by
  refine mkD F scToldList (fun _ _ _ _ _ _ us hl => match us, hl with | [_], _ => rfl) (fun ds d h => by obtain ⟨r, _, rfl, rfl⟩ := h; rfl) ?_
  rintro f cdv A outer s H E hr _ _ ⟨l, hl, rfl, rfl⟩
  refine sd_ret (PE.to (ev_op op_cat (od_cat ?_) (ev_lst (ea_cons (ev_len G.nLen (ev_var 0)) ea_nil)) (ev_var 0)) ?_)
  · show 1 + (l.map fun o : Nat => D.int (o : Int)).length ≤ 1000000
    rw [List.length_map]
    omega
  · show D.lst ([D.int ((l.map fun o : Nat => D.int (o : Int)).length : Int)] ++ l.map fun o : Nat => D.int (o : Int)) = natsD (l.length :: l)
    rw [List.length_map]
    rfl
abbrev sToldRows : Stmt := topS 66
def RToldRows (ds : List D) (d : D) : Prop := ∃ rs : List (List Int), rs.length ≤ 1000 ∧ (∀ r ∈ rs, r.length ≤ 4) ∧ ds = [.lst (rs.map rowD)] ∧ d = .lst (rs.flatten.map D.int)
abbrev nToldRows : List Str := ["rows", "found", "row"]
theorem scToldRows : FnScope nToldRows ["rows"] (defScope sToldRows) := ⟨rfl, rfl, rfl, by decide +kernel, rfl, by decide +kernel, by decide +kernel⟩
theorem flatten_len {rs : List (List Int)} (h : ∀ r ∈ rs, r.length ≤ 4) : rs.flatten.length ≤ rs.length * 4 := by
  induction rs with
  | nil => simp
  | cons r q ih =>
    rw [List.flatten_cons, List.length_append, List.length_cons]
    have h1 := h r List.mem_cons_self
    have h2 := ih fun z hz => h z (List.mem_cons_of_mem _ hz)
    omega
theorem okToldRows (F : Defn K mg "told_rows" sToldRows) : CalD P w K mg base 1 "told_rows" RToldRows := by
  refine mkD F scToldRows (fun _ _ _ _ _ _ us hl => match us, hl with | [_], _ => rfl) (fun ds d h => by obtain ⟨r, _, _, rfl, rfl⟩ := h; rfl) ?_
  rintro f cdv A outer s H E hr _ _ ⟨rs, h1, h2, rfl, rfl⟩
  refine os_new (i := 1) scToldRows.nd ?_
  refine os_for (Cn := fun n => Clst ((rs.take n).flatten.map D.int)) (ls := rs) (enc := rowD) (Δ' := fun r => [some (.lst (rs.map rowD)), none, some (rowD r)])
    [some (.lst (rs.map rowD)), none, none] [2] PassesOwn.never rfl (fun _ => stays_lst) (ev_var 0) (pg_name (i := 2) scToldRows.nd rfl (Or.inl rfl)) (fun p _ => gd_name) (by decide) (fun _ _ h => h) (fun n r hp => ?_) ?_
  · show PSs _ _ (tOB 1 _ (Clst ((rs.take n).flatten.map D.int)) _ (Clst ((rs.take (n + 1)).flatten.map D.int)))
    rw [take_next hp, List.flatten_append, List.map_append]
    have e : ([r] : List (List Int)).flatten = r := by simp
    rw [e]
    refine ob_extendT ?_ (ev_var 2) (ob_nil fun σ H h => h.weak (.keep (.keep (.drop .nil))))
    rw [List.length_map, List.length_map]
    have q1 := h2 r (List.mem_of_getElem? hp)
    have q2 := flatten_len (rs := rs.take n) fun z hz => h2 z (List.mem_of_mem_take hz)
    rw [List.length_take] at q2
    omega
  · show PSs _ _ (tOS 1 _ (Clst ((rs.take rs.length).flatten.map D.int)) _)
    rw [List.take_length]
    exact os_ret
end
end Ow
/-! Defs that change the registry. -/
namespace Ow
open PySem PySem.Spec PyProof.Rows L2
section
variable {X : Cx} {a b c e : Expr} {pos p2 : Pos} {Δ : Sd} {d : D} {i j k : Int}
/-- a <= b <= c -/
theorem ev_leLe (ha : PE X a (tD Δ (.int i))) (hb : PE X b (tD Δ (.int j))) (hc : PE X c (tD Δ (.int k))) (hm : lastMarks [CmpOp.LtE, CmpOp.LtE] [b, c] = false := by with_unfolding_all rfl) : PE X (.Compare a [.LtE, .LtE] [b, c] pos) (tD Δ (.bl (decide (i ≤ j) && decide (j ≤ k)))) :=
  PE.d (pe_chain op_le op_le ha hb hc hm) fun σ H Q sl q => ⟨sl, fun x H1 e1 r1 _ => ⟨sl.mono e1, fun y H2 e2 r2 _ => by
    cases r1
    cases r2
    refine ⟨i, j, rfl, rfl, decide (i ≤ j), rfl, ?_⟩
    by_cases h : i ≤ j
    · rw [decide_eq_true h, Bool.true_and] at q
      rw [if_pos (decide_eq_true h)]
      refine ⟨(sl.mono e1).mono e2, fun z H3 e3 r3 _ => ?_⟩
      cases r3
      exact ⟨j, k, rfl, rfl, q _ H3 ((e1.trans e2).trans e3) (.bl _)⟩
    · rw [decide_eq_false h, Bool.false_and] at q
      rw [decide_eq_false h, if_neg Bool.false_ne_true]
      exact q _ H2 (e1.trans e2) (.bl _)⟩⟩
theorem cut_to (xs : List V) (n : Nat) : cutV xs none (some (n : Int)) = xs.take n := by
  unfold cutV
  rw [HT.sIx_none, HT.sIx_nat, List.drop_zero, Nat.sub_zero]
  by_cases h : n ≤ xs.length
  · rw [Nat.min_eq_left h]
  · rw [Nat.min_eq_right (by omega), List.take_length, List.take_of_length_le (by omega)]
theorem cut_from (xs : List V) (n : Nat) : cutV xs (some (n : Int)) none = xs.drop n := by
  unfold cutV
  rw [HT.sIx_none, HT.sIx_nat]
  by_cases h : n ≤ xs.length
  · rw [Nat.min_eq_left h, List.take_of_length_le (by rw [List.length_drop]; omega)]
  · rw [Nat.min_eq_right (by omega), List.drop_length, List.drop_of_length_le (by omega), List.take_nil]
theorem cut_mid (xs : List V) (n m : Nat) (h : n ≤ m) : cutV xs (some (n : Int)) (some (m : Int)) = (xs.drop n).take (m - n) := by
  unfold cutV
  rw [HT.sIx_nat, HT.sIx_nat]
  by_cases h1 : m ≤ xs.length
  · rw [Nat.min_eq_left h1, Nat.min_eq_left (by omega)]
  · by_cases h2 : n ≤ xs.length
    · rw [Nat.min_eq_left h2, Nat.min_eq_right (by omega), List.take_of_length_le (by rw [List.length_drop]; omega), List.take_of_length_le (by rw [List.length_drop]; omega)]
    · rw [show min n xs.length = xs.length by omega, List.drop_length, List.drop_of_length_le (by omega), List.take_nil, List.take_nil]
/-- xs[:n] -/
theorem ev_sliceTo {ds : List D} {n : Nat} (ha : PE X a (tD Δ (.lst ds))) (hb : PE X b (tD Δ (.int (n : Int)))) : PE X (.Subscript a (.Slice none (some b) none p2) pos) (tD Δ (.lst (ds.take n))) :=
  PE.d (pe_slice sl_list ha po_none (po_some hb)) fun σ H Q sl q => ⟨sl, fun x H1 e1 r1 _ => ⟨sl.mono e1, fun y H2 e2 r2 _ => by
    cases r2
    cases r1 with
    | lst h hs =>
      refine ⟨_, rfl, _, _, rfl, SqL.of (e2 _ _ h), fun p hp => ?_⟩
      rw [cut_to]
      exact q _ _ ((e1.trans e2).trans (Same.new hp)) (.lst upd_same (((hs.take n).mono e2).mono (Same.new hp)))⟩⟩
/-- xs[n:] -/
theorem ev_sliceFrom {ds : List D} {n : Nat} (ha : PE X a (tD Δ (.lst ds))) (hb : PE X b (tD Δ (.int (n : Int)))) : PE X (.Subscript a (.Slice (some b) none none p2) pos) (tD Δ (.lst (ds.drop n))) :=
  PE.d (pe_slice sl_list ha (po_some hb) po_none) fun σ H Q sl q => ⟨sl, fun x H1 e1 r1 _ => ⟨sl.mono e1, fun y H2 e2 r2 _ => by
    cases r2
    cases r1 with
    | lst h hs =>
      refine ⟨_, rfl, _, _, rfl, SqL.of (e2 _ _ h), fun p hp => ?_⟩
      rw [cut_from]
      exact q _ _ ((e1.trans e2).trans (Same.new hp)) (.lst upd_same (((hs.drop n).mono e2).mono (Same.new hp)))⟩⟩
theorem ev_tupleOf {ds : List D} {p : Pos} (hm : X.mg "tuple" = none) (ha : PE X e (tD Δ (.lst ds))) (hg : Gl X "tuple" := by rfl) (hs : starEach [e] X.env = (false, eval e X.env) :: starEach [] X.env := by rfl) (hpl : (backTo pos (starEach [] X.env)).any (·.1) = false := by rfl) : PE X (.Call (.Name "tuple" p) [e] [] pos) (tD Δ (.tup ds)) :=
  ev_callTy call_tuple_of (cd_tupleL (X := X)) hm PyProof.Rows.boot_tuple (ea_cons ha ea_nil hs) hg (by decide) (by decide) hs hpl
end

/-! ### data in which no instance lies -/
mutual
def noIns : D → Bool
  | .lst ds => noInss ds
  | .dic _ ds => noInss ds
  | .ins _ _ _ => false
  | .tup ds => noInss ds
  | .non => true
  | .bl _ => true
  | .int _ => true
def noInss : List D → Bool
  | [] => true
  | d :: ds => noIns d && noInss ds
end
theorem noInss_all : ∀ {ds : List D}, (∀ d ∈ ds, noIns d = true) → noInss ds = true
  | [], _ => rfl
  | d :: ds, h => by
    unfold noInss
    rw [h d List.mem_cons_self, noInss_all fun e he => h e (List.mem_cons_of_mem _ he)]
    rfl
/-- all but the instance at a stands -/
def But (a : Addr) (H H' : Hp) : Prop := ∀ b o, H b = some o → b ≠ a → H' b = some o
mutual
theorem Rp.but {H H' : Hp} {a C dx : Addr} {fs : List (Str × V)} (ha : H a = some (.ins C dx fs)) (e : But a H H') : ∀ (d : D) (v : V), noIns d = true → Rp H v d → Rp H' v d
  | .non, _, _, h => by cases h; exact .non
  | .bl _, _, _, h => by cases h; exact .bl _
  | .int _, _, _, h => by cases h; exact .int _
  | .lst ds, _, f, h => by
    cases h with
    | lst hb hs => exact .lst (e _ _ hb (ne_of hb ha fun z => nomatch z)) (RpAll.but ha e ds _ (by unfold noIns at f; exact f) hs)
  | .tup ds, _, f, h => by
    cases h with
    | tup hb hs => exact .tup (e _ _ hb (ne_of hb ha fun z => nomatch z)) (RpAll.but ha e ds _ (by unfold noIns at f; exact f) hs)
  | .dic ks ds, _, f, h => by
    cases h with
    | dic hb hk hs => exact .dic (e _ _ hb (ne_of hb ha fun z => nomatch z)) hk (RpAll.but ha e ds _ (by unfold noIns at f; exact f) hs)
  | .ins _ _ _, _, f, h => by cases f
theorem RpAll.but {H H' : Hp} {a C dx : Addr} {fs : List (Str × V)} (ha : H a = some (.ins C dx fs)) (e : But a H H') : ∀ (ds : List D) (vs : List V), noInss ds = true → RpAll H vs ds → RpAll H' vs ds
  | [], _, _, h => by cases h; exact .nil
  | d :: ds, _, f, h => by
    unfold noInss at f
    rw [Bool.and_eq_true] at f
    cases h with
    | cons h1 h2 => exact .cons (Rp.but ha e d _ f.1 h1) (RpAll.but ha e ds _ f.2 h2)
end
theorem noIns_ints (ns : List Int) : noInss (ns.map D.int) = true := noInss_all fun d hd => by
  obtain ⟨n, _, rfl⟩ := List.mem_map.mp hd
  rfl
theorem noIns_row (ns : List Int) : noIns (rowD ns) = true := by
  show noIns (.tup (ns.map D.int)) = true
  unfold noIns
  exact noIns_ints ns
theorem noIns_rows {α : Type} (l : List α) (f : α → List Int) : noIns (.lst (l.map fun x => rowD (f x))) = true := by
  unfold noIns
  exact noInss_all fun d hd => by
    obtain ⟨n, _, rfl⟩ := List.mem_map.mp hd
    exact noIns_row _
theorem noIns_st (r : Su202.Registry) : noIns (stD r) = true := by
  unfold stD noIns noInss noInss noInss noInss
  rw [show noIns (.lst (r.roas.map roaD)) = true from noIns_rows r.roas roaRow, show noIns (.lst (r.announcements.map annD)) = true from noIns_rows r.announcements annRow]
  rfl

/-! ### the registry -/
def regD (CR : Addr) (r : Su202.Registry) : D := .ins CR [("state" : Str)] [stD r]
/-- a change's aim: the new state, what is told -/
def okM (CR : Addr) (z : Su202.Registry × List Nat) (En : Ends) (σ : L2.St) (H : Hp) : Prop := ∃ a dx v, σ[0]? = some (some (.ref a)) ∧ H a = some (.ins CR dx [(("state" : Str), v)]) ∧
  ∀ v' u H', H' a = some (.ins CR dx [(("state" : Str), v')]) → Rp H' v' (stD z.1) → Rp H' u (natsD z.2) → But a H H' → En.rt u H'
theorem okM_stab {CR : Addr} : Stab (okM CR) := fun z En σ σ' H H' e h0 ⟨a, dx, v, h1, h2, k⟩ => ⟨a, dx, v, h0.trans h1, e _ _ h2, fun v' u H2 q1 q2 q3 q4 => k v' u H2 q1 q2 q3 fun b o hb hne => q4 b o (e b o hb) hne⟩
/-- a change: registry, numbers -/
def spReg (C CR : Addr) (R : Su202.Registry → List Nat → Except Int (Su202.Registry × List Nat) → Prop) : Sp := fun vs H Q E => ∃ a dx v nv r ns res, vs = [.ref a, nv] ∧ H a = some (.ins CR dx [(("state" : Str), v)]) ∧ Rp H v (stD r) ∧ Rp H nv (natsD ns) ∧ R r ns res ∧ match res with
  | .error c => Er C c H E
  | .ok z => ∀ v' u H', H' a = some (.ins CR dx [(("state" : Str), v')]) → Rp H' v' (stD z.1) → Rp H' u (natsD z.2) → But a H H' → Q u H'
theorem mkM {P : Program} {w : World} {K : PySem.W.Frag} {mg : Str → Option Value} {base : Heap} {C CR : Addr} {x : Str} {st : Stmt} {N : List Str} {k : Nat} {R : Su202.Registry → List Nat → Except Int (Su202.Registry × List Nat) → Prop} (F : Defn K mg x st) (S : FnScope N ["registry", "numbers"] (defScope st))
    (hb : ∀ (kV doc pm : Value) (an : Option Addr) (cdv ct : Value) (us : List Value), us.length = (["registry", "numbers"] : List Str).length → bindArgs (PySem.W.fnOf x x (defArgs st) (defBody st) (defScope st) .none kV doc pm an cdv ct) ⟨us, []⟩ = pure ((["registry", "numbers"] : List Str).zip us))
    (body : ∀ (f : Addr) (cdv : Value) (A : Around) (outer : List Env) (s : Shared) (H : Hp) (E : XK), Room k (A.deeper (envOfC x (defScope st) s.heap.objs.size f cdv)) → ∀ r ns res, R r ns res → PSs (CtxX P w K mg base N x (defScope st) f cdv A outer s H E) (defBody st) (tK C E (okM CR) (startD N [regD CR r, natsD ns]) res)) :
    CalS P w K mg base (k + 1) x (spReg C CR R) := by
  obtain ⟨f, fd, G, hm⟩ := F.ex
  refine ⟨f, fd, ["registry", "numbers"], G.okX S (fun vs H Q E h => ?_) (fun cdv A outer s H vs Q E hr h => ?_), hm, G.kp, G.binds hb⟩
  · obtain ⟨a, dx, v, nv, r, ns, res, rfl, _⟩ := h
    rfl
  · obtain ⟨a, dx, v, nv, r, ns, res, rfl, ha, hv, hn, hR, q⟩ := h
    refine ⟨_, body f cdv A outer s H E hr r ns res hR, Sl.start (.cons (.ins ha rfl (.cons hv .nil)) (.cons hn .nil)), ?_⟩
    cases res with
    | ok z => exact ⟨a, dx, v, rfl, ha, fun v' u H' q1 q2 q3 q4 => q v' u H' q1 q2 q3 q4⟩
    | error c => exact q
/-- become's promise -/
def spBecome (CR : Addr) : Sp := fun vs H Q _ => ∃ (a dx : Addr) (v sv : V) (r t : Su202.Registry), vs = [.ref a, sv] ∧ H a = some (.ins CR dx [(("state" : Str), v)]) ∧ Rp H v (stD r) ∧ Rp H sv (stD t) ∧ GoodSt r ∧ GoodSt t ∧
  ∀ H', H' a = some (.ins CR dx [(("state" : Str), sv)]) → But a H H' → Q (.int (((r.movedAddresses t).length : Nat) : Int)) H'
structure RegTxt (P : Program) (w : World) (K : PySem.W.Frag) (mg : Str → Option Value) (base : Heap) (CR : Addr) : Prop where
  cl : Cls K CR
  nS : NoAttr K CR "state"
  bec : ∃ (f : Addr) (fd : FuncData), Meth K CR "become" f ∧ FnOk P w K mg base CX0 10 f fd ["self", "state"] (spBecome CR) ∧ Binds K fd ["self", "state"] []
section
variable {X : Cx} {C CR : Addr} {E : XK} {e1 e2 : Expr} {Δ : Sd}
/-- registry.state -/
theorem ev_state {r : Su202.Registry} {p pos : Pos} {x : Str} (T : RegTxt X.prog X.w X.K X.mg X.base CR) (he : PE X (.Name x p) (tD Δ (regD CR r))) (hb : attributeBase (.Name x p) "state" X.env (eval (.Name x p) X.env) = eval (.Name x p) X.env := by rfl) : PE X (.Attribute (.Name x p) "state" pos) (tD Δ (stD r)) := ev_fld T.cl T.nS he hb
/-- return [e1, registry.become(e2)] -/
theorem sm_ret {r t : Su202.Registry} {n : Nat} {px p1 p2 p3 pos : Pos} {k : Nat} (T : RegTxt X.prog X.w X.K X.mg X.base CR) (hr : Room k X.A) (hk : 10 ≤ k) (hg : GoodSt r) (hg2 : GoodSt t) (h1 : PE X e1 (tD Δ (.int (n : Int)))) (h2 : PE X e2 (tD Δ (stD t))) (h0 : Δ[0]? = some (some (regD CR r)) := by rfl)
    (hN : X.N[0]? = some ("registry" : Str) := by rfl) (hv : Vis X.env.scope ("registry" : Str) := by first | exact Or.inl rfl | exact Or.inr (Or.inl rfl))
    (hm : ∀ {f : Addr} {fd : FuncData} {ta : TE} {tt : TA}, Meth X.K CR "become" f → FnOk X.prog X.w X.K X.mg X.base CX0 k f fd ["self", "state"] (spBecome CR) → Binds X.K fd ["self", "state"] [] → PE X (.Name "registry" px) ta → PA X [e2] tt → PE X (.Call (.Attribute (.Name "registry" px) "become" p1) [e2] [] p2) (tMeth CR "become" (spBecome CR) [] E0 ta tt))
    (hs1 : starEach [e1, .Call (.Attribute (.Name "registry" px) "become" p1) [e2] [] p2] X.env = (false, eval e1 X.env) :: starEach [.Call (.Attribute (.Name "registry" px) "become" p1) [e2] [] p2] X.env := by rfl) (hs2 : starEach [.Call (.Attribute (.Name "registry" px) "become" p1) [e2] [] p2] X.env = (false, eval (.Call (.Attribute (.Name "registry" px) "become" p1) [e2] [] p2) X.env) :: starEach [] X.env := by rfl) (hs3 : starEach [e2] X.env = (false, eval e2 X.env) :: starEach [] X.env := by rfl) :
    PSs X [.Return (some (.List [e1, .Call (.Attribute (.Name "registry" px) "become" p1) [e2] [] p2] p3)) pos] (tK C E (okM CR) Δ (.ok (t, [n, (r.movedAddresses t).length]))) := by
  obtain ⟨f, fd, M, F, B⟩ := T.bec
  refine (pss_one (ps_ret (pe_lst (pa_cons h1 (pa_cons (hm M (F.mono hk) B (pe_var hN hv) (pa_cons h2 pa_nil hs3)) pa_nil hs2) hs1)))).imp fun En σ H q => ?_
  obtain ⟨sl, a, dx, v, hσ, ha, q⟩ := q
  obtain ⟨v0, hσ0, r0⟩ := sl.at_ 0 _ h0
  rw [hσ] at hσ0
  cases hσ0
  have hv : Rp H v (stD r) := by
    cases r0 with
    | ins ha' hn hs =>
      rw [ha] at ha'
      cases ha'
      cases hs with
      | cons h _ => exact h
  refine ⟨sl, fun x H1 e1 r1 _ => ?_⟩
  cases r1
  refine ⟨_, hσ, a, dx, _, rfl, e1 _ _ ha, rfl, sl.mono e1, fun y H2 e2 r2 _ => ?_⟩
  refine ⟨a, dx, v, y, r, t, rfl, e2 _ _ (e1 _ _ ha), (hv.mono e1).mono e2, r2, hg, hg2, fun H3 h3 b3 => ?_⟩
  refine ⟨by show 2 ≤ sizeLine; decide, fun p hp => q y _ _ ?_ ?_ ?_ fun b o hb hne => ?_⟩
  · rw [upd_ne (ne_of_none h3 hp)]
    exact h3
  · exact (Rp.but (e2 _ _ (e1 _ _ ha)) b3 _ _ (noIns_st t) r2).mono (Same.new hp)
  · exact .lst upd_same (.cons (.int _) (.cons (.int _) .nil))
  · have h4 := b3 b o (e2 _ _ (e1 _ _ hb)) hne
    rw [upd_ne (ne_of_none h4 hp)]
    exact h4
end
end Ow
/-! the changes -/
namespace Ow
open PySem PySem.Spec PyProof.Rows L2
structure WF (r : Su202.Registry) : Prop where
  roas : GoodR r.roas
  anns : GoodA r.announcements
  nR : r.roas.length ≤ 12
  nA : r.announcements.length ≤ 16
theorem WF.st {r : Su202.Registry} (h : WF r) : GoodSt r := ⟨h.roas, h.anns, Nat.le_trans h.nR (by decide), Nat.le_trans h.nA (by decide)⟩
theorem u65 {k : Nat} {A : Around} (r : Room k A) : A.units + 65 < cLine := by have := r.un; omega
section
variable {P : Program} {w : World} {K : PySem.W.Frag} {mg : Str → Option Value} {base : Heap} {C CR : Addr}
abbrev OutM : Type := Except Int (Su202.Registry × List Nat)
def outM (n : Nat) (r t : Su202.Registry) : OutM := .ok (t, [n, (r.movedAddresses t).length])

/-! ### become -/
abbrev sBecome : Stmt := inClass (topS 53) 1
abbrev nBecome : List Str := ["self", "state", "many"]
theorem scBecome : FnScope nBecome ["self", "state"] (defScope sBecome) := ⟨rfl, rfl, rfl, by decide +kernel, rfl, by decide +kernel, by decide +kernel⟩
theorem okBecome {f : Addr} {fd : FuncData} (F : Fun K "become" "Registry.become" sBecome f fd) (cl : Cls K CR) (nS : NoAttr K CR "state") (G : Glob K mg) (C1 : CalD P w K mg base 9 "moved" RMoved) : FnOk P w K mg base CX0 10 f fd ["self", "state"] (spBecome CR) := by
  refine F.ok scBecome (fun vs H Q E h => ?_) (fun cdv A outer s H vs Q E hr h => ?_)
  · obtain ⟨a, dx, v, sv, r, t, rfl, _⟩ := h
    rfl
  · obtain ⟨a, dx, v, sv, r, t, rfl, ha, hv, hs, g1, g2, q⟩ := h
    refine ⟨_, pss_cons (ps_set scBecome.nd (i := 2) rfl (Or.inl rfl) (ev_len (Δ := startD nBecome [regD CR r, stD t]) G.nLen (ev_call C1 hr (ea_cons (ev_fld cl nS (ev_var (Δ := startD nBecome [regD CR r, stD t]) 0)) (ea_cons (ev_var 1) ea_nil)) ⟨r, t, g1, g2, rfl, rfl⟩)) rfl (.inr rfl)) (pss_cons (ps_fld (pv 0) (pv 1) (by rfl)) (pss_one (ps_ret (pv 2)))), ?_⟩
    refine ⟨Sl.start (.cons (.ins ha rfl (.cons hv .nil)) (.cons hs .nil)), fun u H1 e1 r1 _ => ?_⟩
    cases r1
    refine ⟨_, rfl, _, rfl, a, CR, dx, _, rfl, e1 _ _ ha, cl, nS, by show 1 < 1000; decide, _, rfl, ?_⟩
    have e : ((r.movedAddresses t).map fun x : Nat => D.int (x : Int)).length = (r.movedAddresses t).length := List.length_map ..
    show Q (.int ((((r.movedAddresses t).map fun x : Nat => D.int (x : Int)).length : Nat) : Int)) _
    rw [e]
    refine q _ upd_same fun b o hb hne => ?_
    rw [upd_ne hne]
    exact e1 _ _ hb

/-! ### add_roa -/
theorem rows_roa (l : List Su202.Roa) : D.lst (l.map roaD) = D.lst ((l.map roaRow).map rowD) := by rw [List.map_map]; rfl
theorem rows_ann (l : List Su202.Announcement) : D.lst (l.map annD) = D.lst ((l.map annRow).map rowD) := by rw [List.map_map]; rfl
theorem noIns_len {α : Type} (l : List α) (f : α → D) : (D.int ((l.map f).length : Int)) = D.int (l.length : Int) := by rw [List.length_map]
abbrev sAddRoa : Stmt := topS 54
def addRoaM (r : Su202.Registry) (a l m o : Nat) : OutM := refuse (wantO (decide (o < 8)) (-2)) (refuse (wantO (Su202.isPrefix a l) (-22)) (refuse (wantO (decide ((l : Int) ≤ m) && decide ((m : Int) ≤ 6)) (-22)) (refuse (wantO (!(r.roas.map roaRow).any fun z => decide (z = [(a : Int), l, m, o])) (-17)) (refuse (wantO (decide ((r.roas.length : Int) < 12)) (-28)) (outM r.roas.length r { r with roas := r.roas ++ [⟨a, l, m, o⟩] })))))
def RAddRoa (r : Su202.Registry) (ns : List Nat) (res : OutM) : Prop := ∃ a l m o : Nat, WF r ∧ ns = [a, l, m, o] ∧ res = addRoaM r a l m o
abbrev nAddRoa : List Str := ["registry", "numbers", "address", "length", "most", "origin", "roas", "announcements", "strict", "roa"]
theorem scAddRoa : FnScope nAddRoa ["registry", "numbers"] (defScope sAddRoa) := ⟨rfl, rfl, rfl, by decide +kernel, rfl, by decide +kernel, by decide +kernel⟩
theorem goodR_snoc {rs : List Su202.Roa} {a l m o : Nat} (h : GoodR rs) (hp : Su202.isPrefix a l = true) : GoodR (rs ++ [⟨a, l, m, o⟩]) := fun g hg => by
  rcases List.mem_append.mp hg with q | q
  · exact h g q
  · rw [List.mem_singleton] at q
    subst q
    exact hp
theorem goodA_snoc {rs : List Su202.Announcement} {a l m o : Nat} (h : GoodA rs) (hp : Su202.isPrefix a l = true) : GoodA (rs ++ [⟨a, l, m, o⟩]) := fun g hg => by
  rcases List.mem_append.mp hg with q | q
  · exact h g q
  · rw [List.mem_singleton] at q
    subst q
    exact hp
theorem okAddRoa (F : Defn K mg "add_roa" sAddRoa) (G : Glob K mg) (T : RegTxt P w K mg base CR) (C1 : CalS P w K mg base 4 "want_member" (spW C RWantMem)) (C2 : CalS P w K mg base 4 "want_prefix" (spW C RWantPre)) (C3 : CalS P w K mg base 3 "want" (spW C RWant)) : CalS P w K mg base 11 "add_roa" (spReg C CR RAddRoa) := by
  refine mkM F scAddRoa (fun _ _ _ _ _ _ us hl => match us, hl with | [_, _], _ => rfl) ?_
  rintro f cdv A outer s H E hr r _ _ ⟨a, l, m, o, hg, rfl, rfl⟩
  refine sk_unpL (js := [2, 3, 4, 5]) (ds := [.int a, .int l, .int m, .int o]) okM_stab rfl (ev_var 1) (gs_cons scAddRoa.nd (gs_cons scAddRoa.nd (gs_cons scAddRoa.nd (gs_cons scAddRoa.nd gs_nil)))) ?_
  refine sk_unpT (js := [6, 7, 8]) (ds := [.lst (r.roas.map roaD), .lst (r.announcements.map annD), strD r.strict]) okM_stab rfl (ev_state T (ev_var 0)) (gs_cons scAddRoa.nd (gs_cons scAddRoa.nd (gs_cons scAddRoa.nd gs_nil))) ?_
  refine sk_ref okM_stab (ew_call C1 passX hr (ea_cons (ev_var 5) ea_nil) ⟨o, rfl, rfl⟩) fun _ => ?_
  refine sk_ref okM_stab (ew_call C2 passX hr (ea_cons (ev_var 2) (ea_cons (ev_var 3) ea_nil)) ⟨a, l, rfl, rfl⟩) fun h2 => ?_
  refine sk_ref okM_stab (ew_call C3 passX hr (ea_cons (ev_leLe (ev_var 3) (ev_var 4) (ev_glob G.most)) (ea_cons (ev_glob G.wrong) ea_nil)) ⟨_, _, rfl, rfl⟩) fun h3 => ?_
  refine sk_set (i := 9) okM_stab scAddRoa.nd (PE.to (ev_tup (ea_cons (ev_var 2) (ea_cons (ev_var 3) (ea_cons (ev_var 4) (ea_cons (ev_var 5) ea_nil))))) (show _ = rowD [(a : Int), l, m, o] from rfl)) ?_
  refine sk_ref okM_stab (ew_call C3 passX hr (ea_cons (ev_cmp (op_notInD (u65 hr)) od_notInRows (ev_var 9) (PE.to (ev_var 6) (rows_roa _))) (ea_cons (ev_glob G.exists_) ea_nil)) ⟨_, _, rfl, rfl⟩) fun h4 => ?_
  refine sk_ref okM_stab (ew_call C3 passX hr (ea_cons (ev_cmp op_lt od_lt (PE.to (ev_len G.nLen (ev_var 6)) (noIns_len _ _)) (ev_glob G.mostRoas)) (ea_cons (ev_glob G.full) ea_nil)) ⟨_, _, rfl, rfl⟩) fun h5 => ?_
  have hp := wantO_none h2
  have hn := of_decide_eq_true (wantO_none h5)
  have g2 : GoodSt { r with roas := r.roas ++ [⟨a, l, m, o⟩] } := ⟨goodR_snoc hg.roas hp, hg.anns, by show (r.roas ++ [_]).length ≤ 1000; rw [List.length_append, List.length_singleton]; omega, Nat.le_trans hg.nA (by decide)⟩
  refine sm_ret T hr (by decide) hg.st g2 (PE.to (ev_len G.nLen (ev_var 6)) (noIns_len _ _)) (PE.to (ev_tup (ea_cons (ev_op op_cat (od_cat ?_) (ev_var 6) (ev_lst (ea_cons (ev_var 9) ea_nil))) (ea_cons (ev_var 7) (ea_cons (ev_var 8) ea_nil)))) ?_) (hm := fun M F B h1 h2 => pe_meth h1 T.cl M F hr B .nil pass0 h2)
  · show (r.roas.map roaD).length + 1 ≤ 1000000
    rw [List.length_map]
    omega
  · unfold stD
    rw [List.map_append]
    rfl

/-! ### remove_roa -/
abbrev sRemRoa : Stmt := topS 55
def remRoaM (r : Su202.Registry) (n : Nat) : OutM := refuse (wantO (decide ((n : Int) < (r.roas.length : Int))) (-2)) (outM (r.roas.length - 1) r { r with roas := r.roas.eraseIdx n })
def RRemRoa (r : Su202.Registry) (ns : List Nat) (res : OutM) : Prop := ∃ n : Nat, WF r ∧ ns = [n] ∧ res = remRoaM r n
abbrev nRemRoa : List Str := ["registry", "numbers", "roas", "announcements", "strict", "place"]
theorem scRemRoa : FnScope nRemRoa ["registry", "numbers"] (defScope sRemRoa) := ⟨rfl, rfl, rfl, by decide +kernel, rfl, by decide +kernel, by decide +kernel⟩
theorem okRemRoa (F : Defn K mg "remove_roa" sRemRoa) (G : Glob K mg) (T : RegTxt P w K mg base CR) (C3 : CalS P w K mg base 3 "want" (spW C RWant)) : CalS P w K mg base 11 "remove_roa" (spReg C CR RRemRoa) := by
  refine mkM F scRemRoa (fun _ _ _ _ _ _ us hl => match us, hl with | [_, _], _ => rfl) ?_
  rintro f cdv A outer s H E hr r _ _ ⟨n, hg, rfl, rfl⟩
  refine sk_unpT (js := [2, 3, 4]) (ds := [.lst (r.roas.map roaD), .lst (r.announcements.map annD), strD r.strict]) okM_stab rfl (ev_state T (ev_var 0)) (gs_cons scRemRoa.nd (gs_cons scRemRoa.nd (gs_cons scRemRoa.nd gs_nil))) ?_
  refine sk_set (i := 5) (d1 := .int (n : Int)) okM_stab scRemRoa.nd (ev_itemL (ds := [.int (n : Int)]) 0 (ev_var 1)) ?_
  refine sk_ref okM_stab (ew_call C3 passX hr (ea_cons (ev_cmp op_lt od_lt (ev_var 5) (PE.to (ev_len G.nLen (ev_var 2)) (noIns_len _ _))) (ea_cons (ev_glob G.missing) ea_nil)) ⟨_, _, rfl, rfl⟩) fun h1 => ?_
  have hn := of_decide_eq_true (wantO_none h1)
  have g2 : GoodSt { r with roas := r.roas.eraseIdx n } := ⟨fun g hg' => hg.roas g (List.mem_of_mem_eraseIdx hg'), hg.anns, by
    have := List.length_eraseIdx_le r.roas n
    have := hg.nR
    show (r.roas.eraseIdx n).length ≤ 1000
    omega, Nat.le_trans hg.nA (by decide)⟩
  refine sm_ret T hr (by decide) hg.st g2 (PE.to (ev_sub (ev_len G.nLen (ev_var 2)) ev_int) ?_) (PE.to (ev_tup (ea_cons (ev_op op_cat (od_cat ?_) (ev_sliceTo (n := n) (ev_var 2) (ev_var 5)) (ev_sliceFrom (n := n + 1) (ev_var 2) (PE.to (ev_add (ev_var 5) ev_int) rfl))) (ea_cons (ev_var 3) (ea_cons (ev_var 4) ea_nil)))) ?_) (hm := fun M F B h1 h2 => pe_meth h1 T.cl M F hr B .nil pass0 h2)
  · rw [List.length_map]
    exact congrArg D.int (by omega)
  · rw [List.length_take, List.length_drop, List.length_map]
    have := hg.nR
    omega
  · unfold stD
    rw [← List.map_take, ← List.map_drop, ← List.map_append, ← List.eraseIdx_eq_take_drop_succ]

/-! ### announce -/
abbrev sAnnounce : Stmt := topS 57
def announceM (r : Su202.Registry) (a l m o : Nat) : OutM := refuse (wantAnnO a l m o) (refuse (wantO (!(r.announcements.map annRow).any fun z => decide (z = [(a : Int), l, m, o])) (-17)) (refuse (wantO (decide ((r.announcements.length : Int) < 16)) (-28)) (outM (Su202.validity r.roas a l o) r (r.announce a l m o))))
def RAnnounce (r : Su202.Registry) (ns : List Nat) (res : OutM) : Prop := ∃ a l m o : Nat, WF r ∧ ns = [a, l, m, o] ∧ res = announceM r a l m o
abbrev nAnnounce : List Str := ["registry", "numbers", "address", "length", "announcer", "origin", "roas", "announcements", "strict", "announcement", "code"]
theorem scAnnounce : FnScope nAnnounce ["registry", "numbers"] (defScope sAnnounce) := ⟨rfl, rfl, rfl, by decide +kernel, rfl, by decide +kernel, by decide +kernel⟩
theorem wantAnn_none {a l m o : Nat} (h : wantAnnO a l m o = none) : Su202.isPrefix a l = true := by
  unfold wantAnnO at h
  cases e1 : wantO (decide (m < 8)) (-2) with
  | some z => rw [e1] at h; exact nomatch h
  | none =>
    rw [e1] at h
    cases e2 : wantO (decide (o < 8)) (-2) with
    | some z => rw [e2] at h; exact nomatch h
    | none => rw [e2] at h; exact wantO_none h
theorem good_announce {r : Su202.Registry} {a l m o : Nat} (h : GoodSt r) (hn : r.announcements.length ≤ 999) (hp : Su202.isPrefix a l = true) : GoodSt (r.announce a l m o) := ⟨h.roas, goodA_snoc h.anns hp, h.nR, by show (r.announcements ++ [_]).length ≤ 1000; rw [List.length_append, List.length_singleton]; omega⟩
theorem okAnnounce (F : Defn K mg "announce" sAnnounce) (G : Glob K mg) (T : RegTxt P w K mg base CR) (C1 : CalS P w K mg base 5 "want_announcement" (spW C RWantAnn)) (C3 : CalS P w K mg base 3 "want" (spW C RWant)) (C4 : CalD P w K mg base 4 "validity" RValidity) : CalS P w K mg base 11 "announce" (spReg C CR RAnnounce) := by
  refine mkM F scAnnounce (fun _ _ _ _ _ _ us hl => match us, hl with | [_, _], _ => rfl) ?_
  rintro f cdv A outer s H E hr r _ _ ⟨a, l, m, o, hg, rfl, rfl⟩
  refine sk_unpL (js := [2, 3, 4, 5]) (ds := [.int a, .int l, .int m, .int o]) okM_stab rfl (ev_var 1) (gs_cons scAnnounce.nd (gs_cons scAnnounce.nd (gs_cons scAnnounce.nd (gs_cons scAnnounce.nd gs_nil)))) ?_
  refine sk_unpT (js := [6, 7, 8]) (ds := [.lst (r.roas.map roaD), .lst (r.announcements.map annD), strD r.strict]) okM_stab rfl (ev_state T (ev_var 0)) (gs_cons scAnnounce.nd (gs_cons scAnnounce.nd (gs_cons scAnnounce.nd gs_nil))) ?_
  refine sk_ref okM_stab (ew_call C1 passX hr (ea_cons (ev_var 1) ea_nil) ⟨a, l, m, o, rfl, rfl⟩) fun h1 => ?_
  refine sk_set (i := 9) okM_stab scAnnounce.nd (PE.to (ev_tup (ea_cons (ev_var 2) (ea_cons (ev_var 3) (ea_cons (ev_var 4) (ea_cons (ev_var 5) ea_nil))))) (show _ = rowD [(a : Int), l, m, o] from rfl)) ?_
  refine sk_ref okM_stab (ew_call C3 passX hr (ea_cons (ev_cmp (op_notInD (u65 hr)) od_notInRows (ev_var 9) (PE.to (ev_var 7) (rows_ann _))) (ea_cons (ev_glob G.exists_) ea_nil)) ⟨_, _, rfl, rfl⟩) fun h4 => ?_
  refine sk_ref okM_stab (ew_call C3 passX hr (ea_cons (ev_cmp op_lt od_lt (PE.to (ev_len G.nLen (ev_var 7)) (noIns_len _ _)) (ev_glob G.mostAnns)) (ea_cons (ev_glob G.full) ea_nil)) ⟨_, _, rfl, rfl⟩) fun h5 => ?_
  refine sk_set (i := 10) okM_stab scAnnounce.nd (ev_call C4 hr (ea_cons (ev_var 6) (ea_cons (ev_var 2) (ea_cons (ev_var 3) (ea_cons (ev_var 5) ea_nil)))) ⟨r.roas, a, l, o, hg.roas, rfl, rfl⟩) ?_
  have g2 : GoodSt (r.announce a l m o) := good_announce hg.st (Nat.le_trans hg.nA (by decide)) (wantAnn_none h1)
  refine sm_ret T hr (by decide) hg.st g2 (ev_var 10) (PE.to (ev_tup (ea_cons (ev_var 6) (ea_cons (ev_op op_cat (od_cat ?_) (ev_var 7) (ev_lst (ea_cons (ev_var 9) ea_nil))) (ea_cons (ev_var 8) ea_nil)))) ?_) (hm := fun M F B h1 h2 => pe_meth h1 T.cl M F hr B .nil pass0 h2)
  · show (r.announcements.map annD).length + 1 ≤ 1000000
    rw [List.length_map]
    have := hg.nA
    omega
  · unfold stD Su202.Registry.announce
    rw [List.map_append]
    rfl

/-! ### withdraw -/
abbrev sWithdraw : Stmt := topS 58
def leftM (r : Su202.Registry) (a l m o : Nat) : List Su202.Announcement := r.announcements.filter fun s => !decide (annRow s = [(a : Int), l, m, o])
def withdrawM (r : Su202.Registry) (a l m o : Nat) : OutM := refuse (wantO (decide (m < 8)) (-2)) (refuse (wantO (decide (o < 8)) (-2)) (refuse (wantO ((r.announcements.map annRow).any fun z => decide (z = [(a : Int), l, m, o])) (-6)) (outM (leftM r a l m o).length r { r with announcements := leftM r a l m o })))
def RWithdraw (r : Su202.Registry) (ns : List Nat) (res : OutM) : Prop := ∃ a l m o : Nat, WF r ∧ ns = [a, l, m, o] ∧ res = withdrawM r a l m o
abbrev nWithdraw : List Str := ["registry", "numbers", "address", "length", "announcer", "origin", "roas", "announcements", "strict", "announcement", "left", "one"]
theorem scWithdraw : FnScope nWithdraw ["registry", "numbers"] (defScope sWithdraw) := ⟨rfl, rfl, rfl, by decide +kernel, rfl, by decide +kernel, by decide +kernel⟩
theorem okWithdraw (F : Defn K mg "withdraw" sWithdraw) (G : Glob K mg) (T : RegTxt P w K mg base CR) (C1 : CalS P w K mg base 4 "want_member" (spW C RWantMem)) (C3 : CalS P w K mg base 3 "want" (spW C RWant)) : CalS P w K mg base 11 "withdraw" (spReg C CR RWithdraw) := by
  refine mkM F scWithdraw (fun _ _ _ _ _ _ us hl => match us, hl with | [_, _], _ => rfl) ?_
  rintro f cdv A outer s H E hr r _ _ ⟨a, l, m, o, hg, rfl, rfl⟩
  refine sk_unpL (js := [2, 3, 4, 5]) (ds := [.int a, .int l, .int m, .int o]) okM_stab rfl (ev_var 1) (gs_cons scWithdraw.nd (gs_cons scWithdraw.nd (gs_cons scWithdraw.nd (gs_cons scWithdraw.nd gs_nil)))) ?_
  refine sk_unpT (js := [6, 7, 8]) (ds := [.lst (r.roas.map roaD), .lst (r.announcements.map annD), strD r.strict]) okM_stab rfl (ev_state T (ev_var 0)) (gs_cons scWithdraw.nd (gs_cons scWithdraw.nd (gs_cons scWithdraw.nd gs_nil))) ?_
  refine sk_ref okM_stab (ew_call C1 passX hr (ea_cons (ev_var 4) ea_nil) ⟨m, rfl, rfl⟩) fun _ => ?_
  refine sk_ref okM_stab (ew_call C1 passX hr (ea_cons (ev_var 5) ea_nil) ⟨o, rfl, rfl⟩) fun _ => ?_
  refine sk_set (i := 9) okM_stab scWithdraw.nd (PE.to (ev_tup (ea_cons (ev_var 2) (ea_cons (ev_var 3) (ea_cons (ev_var 4) (ea_cons (ev_var 5) ea_nil))))) (show _ = rowD [(a : Int), l, m, o] from rfl)) ?_
  refine sk_ref okM_stab (ew_call C3 passX hr (ea_cons (ev_cmp (op_inD (u65 hr)) od_inRows (ev_var 9) (PE.to (ev_var 7) (rows_ann _))) (ea_cons (ev_glob G.noAnn) ea_nil)) ⟨_, _, rfl, rfl⟩) fun h4 => ?_
  refine sk_lc (i := 10) (ls := r.announcements) (enc := annD) (f := fun s => !decide (annRow s = [(a : Int), l, m, o])) (out := annD) [("one", 11)] okM_stab rfl scWithdraw.nd (it_list (ev_var 7))
    (blkOk_by (N := nWithdraw) (sc := defScope sWithdraw) (by decide +kernel)) (fun _ _ _ _ _ => pg_name (i := 11) scWithdraw.nd rfl (Or.inl rfl)) (fun _ _ => gd_name)
    (fun _ _ _ _ _ s hm => ts_one (et_cmp (op_neD hr.units) od_neRow (ev_var 11) (ev_var 9)))
    (fun _ _ _ _ _ s hm => ev_var 11) (fun _ _ _ => rfl) ?_
  have g2 : GoodSt { r with announcements := leftM r a l m o } := ⟨hg.roas, fun s hs => hg.anns s (List.mem_filter.mp hs).1, Nat.le_trans hg.nR (by decide), Nat.le_trans (Nat.le_trans (List.length_filter_le _ _) hg.nA) (by decide)⟩
  exact sm_ret T hr (by decide) hg.st g2 (PE.to (ev_len G.nLen (ev_var 10)) (noIns_len _ _)) (PE.to (ev_tup (ea_cons (ev_var 6) (ea_cons (ev_var 10) (ea_cons (ev_var 8) ea_nil)))) rfl) (hm := fun M F B h1 h2 => pe_meth h1 T.cl M F hr B .nil pass0 h2)

/-! ### set_strict -/
abbrev sStrict : Stmt := topS 59
def strictM (r : Su202.Registry) (n : Nat) : OutM := refuse (wantO (decide ((n : Int) ≤ 1)) (-22)) (outM (Su202.boolToNat r.strict) r { r with strict := n == 1 })
def RStrict (r : Su202.Registry) (ns : List Nat) (res : OutM) : Prop := ∃ n : Nat, WF r ∧ ns = [n] ∧ res = strictM r n
abbrev nStrict : List Str := ["registry", "numbers", "roas", "announcements", "strict"]
theorem scStrict : FnScope nStrict ["registry", "numbers"] (defScope sStrict) := ⟨rfl, rfl, rfl, by decide +kernel, rfl, by decide +kernel, by decide +kernel⟩
theorem okStrict (F : Defn K mg "set_strict" sStrict) (G : Glob K mg) (T : RegTxt P w K mg base CR) (C3 : CalS P w K mg base 3 "want" (spW C RWant)) : CalS P w K mg base 11 "set_strict" (spReg C CR RStrict) := by
  refine mkM F scStrict (fun _ _ _ _ _ _ us hl => match us, hl with | [_, _], _ => rfl) ?_
  rintro f cdv A outer s H E hr r _ _ ⟨n, hg, rfl, rfl⟩
  refine sk_unpT (js := [2, 3, 4]) (ds := [.lst (r.roas.map roaD), .lst (r.announcements.map annD), strD r.strict]) okM_stab rfl (ev_state T (ev_var 0)) (gs_cons scStrict.nd (gs_cons scStrict.nd (gs_cons scStrict.nd gs_nil))) ?_
  refine sk_ref okM_stab (ew_call C3 passX hr (ea_cons (ev_cmp op_le od_le (ev_itemL (ds := [.int (n : Int)]) 0 (ev_var 1)) ev_int) (ea_cons (ev_glob G.wrong) ea_nil)) ⟨_, _, rfl, rfl⟩) fun h1 => ?_
  have hn := of_decide_eq_true (wantO_none h1)
  have g2 : GoodSt { r with strict := n == 1 } := ⟨hg.roas, hg.anns, Nat.le_trans hg.nR (by decide), Nat.le_trans hg.nA (by decide)⟩
  refine sm_ret T hr (by decide) hg.st g2 (ev_var 4) (PE.to (ev_tup (ea_cons (ev_var 2) (ea_cons (ev_var 3) (ea_cons (ev_itemL (ds := [.int (n : Int)]) 0 (ev_var 1)) ea_nil)))) ?_) (hm := fun M F B h1 h2 => pe_meth h1 T.cl M F hr B .nil pass0 h2)
  have e : n = 0 ∨ n = 1 := by omega
  rcases e with rfl | rfl <;> rfl

/-! ### tighten_roas -/
abbrev sTighten : Stmt := topS 60
def withR (r : Su202.Registry) (m : Nat) : Su202.Registry := { r with roas := tightM r.roas r.announcements m }
def tightenM (r : Su202.Registry) (m : Nat) : OutM := refuse (wantO (decide (m < 8)) (-2)) (refuse (wantO (decide (((tightM r.roas r.announcements m).length : Int) ≤ 12)) (-28)) (outM (tightM r.roas r.announcements m).length r (withR r m)))
def RTighten (r : Su202.Registry) (ns : List Nat) (res : OutM) : Prop := ∃ n : Nat, WF r ∧ ns = [n] ∧ res = tightenM r n
abbrev nTighten : List Str := ["registry", "numbers", "roas", "announcements", "strict", "tight"]
theorem scTighten : FnScope nTighten ["registry", "numbers"] (defScope sTighten) := ⟨rfl, rfl, rfl, by decide +kernel, rfl, by decide +kernel, by decide +kernel⟩
theorem goodR_tight {rs : List Su202.Roa} {anns : List Su202.Announcement} {m : Nat} (h : GoodR rs) (h2 : GoodA anns) : GoodR (tightM rs anns m) := fun g hg => by
  unfold tightM tightN at hg
  rcases List.mem_append.mp hg with q | q
  · exact h g (List.mem_filter.mp q).1
  · obtain ⟨s, hs, rfl⟩ := List.mem_map.mp q
    exact h2 s (List.mem_of_mem_take (List.mem_filter.mp hs).1)
theorem good_withR {r : Su202.Registry} {m : Nat} (h : WF r) : GoodSt (withR r m) := ⟨goodR_tight h.roas h.anns, h.anns, by
  have := tightN_len r.roas r.announcements m r.announcements.length
  have h1 := h.nR
  have h2 := h.nA
  show (tightN r.roas r.announcements m r.announcements.length).length ≤ 1000
  omega, Nat.le_trans h.nA (by decide)⟩
theorem okTighten (F : Defn K mg "tighten_roas" sTighten) (G : Glob K mg) (T : RegTxt P w K mg base CR) (C1 : CalS P w K mg base 4 "want_member" (spW C RWantMem)) (C3 : CalS P w K mg base 3 "want" (spW C RWant)) (C4 : CalD P w K mg base 6 "tightened" RTight) : CalS P w K mg base 11 "tighten_roas" (spReg C CR RTighten) := by
  refine mkM F scTighten (fun _ _ _ _ _ _ us hl => match us, hl with | [_, _], _ => rfl) ?_
  rintro f cdv A outer s H E hr r _ _ ⟨n, hg, rfl, rfl⟩
  refine sk_unpT (js := [2, 3, 4]) (ds := [.lst (r.roas.map roaD), .lst (r.announcements.map annD), strD r.strict]) okM_stab rfl (ev_state T (ev_var 0)) (gs_cons scTighten.nd (gs_cons scTighten.nd (gs_cons scTighten.nd gs_nil))) ?_
  refine sk_ref okM_stab (ew_call C1 passX hr (ea_cons (ev_itemL (ds := [.int (n : Int)]) 0 (ev_var 1)) ea_nil) ⟨n, rfl, rfl⟩) fun _ => ?_
  refine sk_set (i := 5) okM_stab scTighten.nd (ev_call C4 hr (ea_cons (ev_var 2) (ea_cons (ev_var 3) (ea_cons (ev_itemL (ds := [.int (n : Int)]) 0 (ev_var 1)) ea_nil))) ⟨r.roas, r.announcements, n, hg.roas, hg.st.nR, hg.st.nA, rfl, rfl⟩) ?_
  refine sk_ref okM_stab (ew_call C3 passX hr (ea_cons (ev_cmp op_le od_le (PE.to (ev_len G.nLen (ev_var 5)) (noIns_len _ _)) (ev_glob G.mostRoas)) (ea_cons (ev_glob G.full) ea_nil)) ⟨_, _, rfl, rfl⟩) fun h5 => ?_
  exact sm_ret T hr (by decide) hg.st (good_withR hg) (PE.to (ev_len G.nLen (ev_var 5)) (noIns_len _ _)) (PE.to (ev_tup (ea_cons (ev_var 5) (ea_cons (ev_var 3) (ea_cons (ev_var 4) ea_nil)))) rfl) (hm := fun M F B h1 h2 => pe_meth h1 T.cl M F hr B .nil pass0 h2)
end
end Ow
/-! the queries -/
namespace Ow
open PySem PySem.Spec PyProof.Rows L2
abbrev OutQ : Type := Except Int (List Nat)
def mapD : OutQ → Except Int D
  | .ok l => .ok (natsD l)
  | .error c => .error c
theorem mapD_refuse (o : Option Int) (r : OutQ) : mapD (refuse o r) = refuse o (mapD r) := by cases o <;> rfl
section
variable {X : Cx} {C : Addr} {E : XK} {res : OutQ} {e : Expr} {rest : List Stmt} {pos : Pos} {Δ : Sd} {o : Option Int}
theorem sq_ref (he : PE X e (tDW C E Δ o)) (h : o = none → PSs X rest (tK C E okD Δ (mapD res))) (hs : swapsWith e none pos.line X.env = pure false := by rfl) : PSs X (.Expr e pos :: rest) (tK C E okD Δ (mapD (refuse o res))) :=
  Ow.PSs.toK (sk_ref okD_stab he h hs) (mapD_refuse o res).symm
theorem sq_ret {l : List Nat} {d : D} (h : PE X e (tD Δ d)) (q : d = natsD l) : PSs X [.Return (some e) pos] (tK C E okD Δ (mapD (.ok l))) := sk_pure (sd_ret (PE.to h q))
end
section
variable {P : Program} {w : World} {K : PySem.W.Frag} {mg : Str → Option Value} {base : Heap} {C : Addr}

/-! ### tell_validity -/
abbrev sTellVal : Stmt := topS 68
def tellValM (r : Su202.Registry) (a l o : Nat) : OutQ := refuse (wantO (decide (o < 8)) (-2)) (refuse (wantO (Su202.isPrefix a l) (-22)) (.ok [Su202.validity r.roas a l o]))
def RTellVal (ds : List D) (res : Except Int D) : Prop := ∃ (r : Su202.Registry) (a l o : Nat), WF r ∧ ds = [stD r, natsD [a, l, o]] ∧ res = mapD (tellValM r a l o)
abbrev nTellVal : List Str := ["state", "numbers", "address", "length", "origin"]
theorem scTellVal : FnScope nTellVal ["state", "numbers"] (defScope sTellVal) := ⟨rfl, rfl, rfl, by decide +kernel, rfl, by decide +kernel, by decide +kernel⟩
theorem okTellVal (F : Defn K mg "tell_validity" sTellVal) (C1 : CalS P w K mg base 4 "want_member" (spW C RWantMem)) (C2 : CalS P w K mg base 4 "want_prefix" (spW C RWantPre)) (C3 : CalD P w K mg base 4 "validity" RValidity) : CalS P w K mg base 12 "tell_validity" (spX C RTellVal) := by
  refine mkX F scTellVal (fun _ _ _ _ _ _ us hl => match us, hl with | [_, _], _ => rfl) (fun ds d h => by obtain ⟨r, a, l, o, _, rfl, rfl⟩ := h; rfl) ?_
  rintro f cdv A outer s H E hr _ _ ⟨r, a, l, o, hg, rfl, rfl⟩
  refine sk_unpL (js := [2, 3, 4]) (ds := [.int a, .int l, .int o]) okD_stab rfl (ev_var 1) (gs_cons scTellVal.nd (gs_cons scTellVal.nd (gs_cons scTellVal.nd gs_nil))) ?_
  refine sq_ref (ew_call C1 passX hr (ea_cons (ev_var 4) ea_nil) ⟨o, rfl, rfl⟩) fun _ => ?_
  refine sq_ref (ew_call C2 passX hr (ea_cons (ev_var 2) (ea_cons (ev_var 3) ea_nil)) ⟨a, l, rfl, rfl⟩) fun h2 => ?_
  exact sq_ret (ev_lst (ea_cons (ev_call C3 hr (ea_cons (ev_item 0 (ev_var 0)) (ea_cons (ev_var 2) (ea_cons (ev_var 3) (ea_cons (ev_var 4) ea_nil)))) ⟨r.roas, a, l, o, hg.roas, rfl, rfl⟩) ea_nil)) rfl

/-! ### tell_destination -/
abbrev sTellDest : Stmt := topS 69
def tellDestM (r : Su202.Registry) (x : Nat) : OutQ := refuse (wantO (decide (x < 64)) (-22)) (match Su202.selectAnnouncement r.accepted x with
  | none => .error (-33)
  | some s => .ok [s.announcer, s.origin, s.address, s.length])
def RTellDest (ds : List D) (res : Except Int D) : Prop := ∃ (r : Su202.Registry) (x : Nat), WF r ∧ ds = [stD r, natsD [x]] ∧ res = mapD (tellDestM r x)
abbrev nTellDest : List Str := ["state", "numbers", "found", "address", "length", "announcer", "origin"]
theorem scTellDest : FnScope nTellDest ["state", "numbers"] (defScope sTellDest) := ⟨rfl, rfl, rfl, by decide +kernel, rfl, by decide +kernel, by decide +kernel⟩
theorem okTellDest (F : Defn K mg "tell_destination" sTellDest) (G : Glob K mg) (C1 : CalS P w K mg base 4 "want_address" (spW C RWantAddr)) (C2 : CalD P w K mg base 7 "selected" RSelected) (C3 : CalS P w K mg base 3 "want" (spW C RWant)) : CalS P w K mg base 12 "tell_destination" (spX C RTellDest) := by
  refine mkX F scTellDest (fun _ _ _ _ _ _ us hl => match us, hl with | [_, _], _ => rfl) (fun ds d h => by obtain ⟨r, x, _, rfl, rfl⟩ := h; rfl) ?_
  rintro f cdv A outer s H E hr _ _ ⟨r, x, hg, rfl, rfl⟩
  refine sq_ref (ew_call C1 passX hr (ea_cons (ev_itemL (ds := [.int (x : Int)]) 0 (ev_var 1)) ea_nil) ⟨x, rfl, rfl⟩) fun _ => ?_
  refine sk_set (i := 2) okD_stab scTellDest.nd (ev_call C2 hr (ea_cons (ev_var 0) (ea_cons (ev_itemL (ds := [.int (x : Int)]) 0 (ev_var 1)) ea_nil)) ⟨r, x, hg.st, rfl, rfl⟩) ?_
  cases Su202.selectAnnouncement r.accepted x with
  | none => exact sk_ref (o := some (-33)) (res := .error (-33)) okD_stab (ew_call C3 passX hr (ea_cons (ev_cmp op_notN od_notN (ev_var 2) ev_non) (ea_cons (ev_glob G.noDest) ea_nil)) ⟨false, _, rfl, rfl⟩) (fun q => nomatch q)
  | some y =>
    refine sk_ref (o := none) okD_stab (ew_call C3 passX hr (ea_cons (ev_cmp op_notN od_notN (ev_var 2) ev_non) (ea_cons (ev_glob G.noDest) ea_nil)) ⟨true, _, rfl, rfl⟩) fun _ => ?_
    refine sk_unpT (js := [3, 4, 5, 6]) (ds := (annRow y).map D.int) okD_stab rfl (ev_var 2) (gs_cons scTellDest.nd (gs_cons scTellDest.nd (gs_cons scTellDest.nd (gs_cons scTellDest.nd gs_nil)))) ?_
    exact sq_ret (ev_lst (ea_cons (ev_var 5) (ea_cons (ev_var 6) (ea_cons (ev_var 3) (ea_cons (ev_var 4) ea_nil))))) rfl

/-! ### address_count -/
abbrev sAddrCount : Stmt := topS 70
def addrCountM (r : Su202.Registry) (m : Nat) : OutQ := refuse (wantO (decide (m < 8)) (-2)) (.ok [((List.range 64).filter fun x => decide (destM r x = (m : Int))).length, ((List.range 64).filter fun x => decide (destM r x = -1)).length])
def RAddrCount (ds : List D) (res : Except Int D) : Prop := ∃ (r : Su202.Registry) (m : Nat), WF r ∧ ds = [stD r, natsD [m]] ∧ res = mapD (addrCountM r m)
abbrev nAddrCount : List Str := ["state", "numbers", "found", "own", "one"]
theorem scAddrCount : FnScope nAddrCount ["state", "numbers"] (defScope sAddrCount) := ⟨rfl, rfl, rfl, by decide +kernel, rfl, by decide +kernel, by decide +kernel⟩
theorem okAddrCount (F : Defn K mg "address_count" sAddrCount) (G : Glob K mg) (C1 : CalS P w K mg base 4 "want_member" (spW C RWantMem)) (C2 : CalD P w K mg base 8 "destinations" RDests) : CalS P w K mg base 12 "address_count" (spX C RAddrCount) := by
  refine mkX F scAddrCount (fun _ _ _ _ _ _ us hl => match us, hl with | [_, _], _ => rfl) (fun ds d h => by obtain ⟨r, x, _, rfl, rfl⟩ := h; rfl) ?_
  rintro f cdv A outer s H E hr _ _ ⟨r, m, hg, rfl, rfl⟩
  refine sq_ref (ew_call C1 passX hr (ea_cons (ev_itemL (ds := [.int (m : Int)]) 0 (ev_var 1)) ea_nil) ⟨m, rfl, rfl⟩) fun _ => ?_
  refine sk_set (i := 2) okD_stab scAddrCount.nd (ev_call C2 hr (ea_cons (ev_var 0) ea_nil) ⟨r, hg.st, rfl, rfl⟩) ?_
  refine sk_lc (i := 3) (ls := List.range 64) (enc := fun x => D.int (destM r x)) (f := fun x => decide (destM r x = (m : Int))) (out := fun x => D.int (destM r x)) [("one", 4)] okD_stab rfl scAddrCount.nd (it_list (ev_var 2))
    (blkOk_by (N := nAddrCount) (sc := defScope sAddrCount) (by decide +kernel)) (fun _ _ _ _ _ => pg_name (i := 4) scAddrCount.nd rfl (Or.inl rfl)) (fun _ _ => gd_name)
    (fun _ _ _ _ _ x hm => ts_one (et_cmp op_eq od_eqI (ev_var 4) (ev_itemL (ds := [.int (m : Int)]) 0 (ev_var 1))))
    (fun _ _ _ _ _ x hm => ev_var 4) (fun _ _ _ => rfl) ?_
  refine sq_ret (ev_lst (ea_cons (PE.to (ev_len G.nLen (ev_var 3)) (noIns_len _ _)) (ea_cons (PE.to (ev_len G.nLen (ev_lc (ls := List.range 64) (enc := fun x => D.int (destM r x)) (f := fun x => decide (destM r x = -1)) (out := fun x => D.int (destM r x)) [("one", 4)] rfl scAddrCount.nd (it_list (ev_var 2))
    (blkOk_by (N := nAddrCount) (sc := defScope sAddrCount) (by decide +kernel)) (fun _ _ _ _ _ => pg_name (i := 4) scAddrCount.nd rfl (Or.inl rfl)) (fun _ _ => gd_name)
    (fun _ _ _ _ _ x hm => ts_one (et_cmp op_eq od_eqI (ev_var 4) (ev_glob G.nobody)))
    (fun _ _ _ _ _ x hm => ev_var 4) (fun _ _ _ => rfl))) (noIns_len _ _)) ea_nil))) rfl

/-! ### tell_hijackers, vulnerable_addresses -/
theorem hij_len (r : Su202.Registry) (x : Nat) : (r.hijackers x).length ≤ 8 := List.length_filter_le _ _
theorem vuln_len (r : Su202.Registry) (x : Nat) : (r.vulnerableAddresses x).length ≤ 64 := List.length_filter_le _ _
theorem moved_len (r t : Su202.Registry) : (r.movedAddresses t).length ≤ 64 := List.length_filter_le _ _
abbrev sTellHij : Stmt := topS 71
def listQ (l : List Nat) : OutQ := .ok (l.length :: l)
def tellHijM (r : Su202.Registry) (x : Nat) : OutQ := refuse (wantO (decide (x < 64)) (-22)) (listQ (r.hijackers x))
def RTellHij (ds : List D) (res : Except Int D) : Prop := ∃ (r : Su202.Registry) (m : Nat), WF r ∧ ds = [stD r, natsD [m]] ∧ res = mapD (tellHijM r m)
abbrev nTellHij : List Str := ["state", "numbers"]
theorem scTellHij : FnScope nTellHij ["state", "numbers"] (defScope sTellHij) := ⟨rfl, rfl, rfl, by decide +kernel, rfl, by decide +kernel, by decide +kernel⟩
theorem okTellHij (F : Defn K mg "tell_hijackers" sTellHij) (C1 : CalS P w K mg base 4 "want_address" (spW C RWantAddr)) (C2 : CalD P w K mg base 8 "hijackers" RHijackers) (C3 : CalD P w K mg base 1 "told_list" RToldList) : CalS P w K mg base 12 "tell_hijackers" (spX C RTellHij) := by
  refine mkX F scTellHij (fun _ _ _ _ _ _ us hl => match us, hl with | [_, _], _ => rfl) (fun ds d h => by obtain ⟨r, x, _, rfl, rfl⟩ := h; rfl) ?_
  rintro f cdv A outer s H E hr _ _ ⟨r, m, hg, rfl, rfl⟩
  refine sq_ref (ew_call C1 passX hr (ea_cons (ev_itemL (ds := [.int (m : Int)]) 0 (ev_var 1)) ea_nil) ⟨m, rfl, rfl⟩) fun h1 => ?_
  exact sq_ret (ev_call C3 hr (ea_cons (ev_call C2 hr (ea_cons (ev_var 0) (ea_cons (ev_itemL (ds := [.int (m : Int)]) 0 (ev_var 1)) ea_nil)) ⟨r, m, hg.st, of_decide_eq_true (wantO_none h1), rfl, rfl⟩) ea_nil) ⟨r.hijackers m, Nat.le_trans (hij_len r m) (by decide), rfl, rfl⟩) rfl
abbrev sTellVuln : Stmt := topS 72
def tellVulnM (r : Su202.Registry) (m : Nat) : OutQ := refuse (wantO (decide (m < 8)) (-2)) (listQ (r.vulnerableAddresses m))
def RTellVuln (ds : List D) (res : Except Int D) : Prop := ∃ (r : Su202.Registry) (m : Nat), WF r ∧ ds = [stD r, natsD [m]] ∧ res = mapD (tellVulnM r m)
theorem scTellVuln : FnScope nTellHij ["state", "numbers"] (defScope sTellVuln) := ⟨rfl, rfl, rfl, by decide +kernel, rfl, by decide +kernel, by decide +kernel⟩
theorem okTellVuln (F : Defn K mg "vulnerable_addresses" sTellVuln) (C1 : CalS P w K mg base 4 "want_member" (spW C RWantMem)) (C2 : CalD P w K mg base 8 "vulnerable" RVuln) (C3 : CalD P w K mg base 1 "told_list" RToldList) : CalS P w K mg base 12 "vulnerable_addresses" (spX C RTellVuln) := by
  refine mkX F scTellVuln (fun _ _ _ _ _ _ us hl => match us, hl with | [_, _], _ => rfl) (fun ds d h => by obtain ⟨r, x, _, rfl, rfl⟩ := h; rfl) ?_
  rintro f cdv A outer s H E hr _ _ ⟨r, m, hg, rfl, rfl⟩
  refine sq_ref (ew_call C1 passX hr (ea_cons (ev_itemL (ds := [.int (m : Int)]) 0 (ev_var 1)) ea_nil) ⟨m, rfl, rfl⟩) fun h1 => ?_
  exact sq_ret (ev_call C3 hr (ea_cons (ev_call C2 hr (ea_cons (ev_var 0) (ea_cons (ev_itemL (ds := [.int (m : Int)]) 0 (ev_var 1)) ea_nil)) ⟨r, m, hg.st, rfl, rfl⟩) ea_nil) ⟨r.vulnerableAddresses m, Nat.le_trans (vuln_len r m) (by decide), rfl, rfl⟩) rfl

/-! ### previews -/
abbrev sPreT : Stmt := topS 73
def preTM (r : Su202.Registry) (m : Nat) : OutQ := refuse (wantO (decide (m < 8)) (-2)) (.ok [((withR r m).vulnerableAddresses m).length, (r.movedAddresses (withR r m)).length])
def RPreT (ds : List D) (res : Except Int D) : Prop := ∃ (r : Su202.Registry) (m : Nat), WF r ∧ ds = [stD r, natsD [m]] ∧ res = mapD (preTM r m)
abbrev nPreT : List Str := ["state", "numbers", "roas", "announcements", "strict", "later"]
theorem scPreT : FnScope nPreT ["state", "numbers"] (defScope sPreT) := ⟨rfl, rfl, rfl, by decide +kernel, rfl, by decide +kernel, by decide +kernel⟩
theorem okPreT (F : Defn K mg "preview_tighten" sPreT) (G : Glob K mg) (C1 : CalS P w K mg base 4 "want_member" (spW C RWantMem)) (C2 : CalD P w K mg base 6 "tightened" RTight) (C3 : CalD P w K mg base 8 "vulnerable" RVuln) (C4 : CalD P w K mg base 9 "moved" RMoved) : CalS P w K mg base 12 "preview_tighten" (spX C RPreT) := by
  refine mkX F scPreT (fun _ _ _ _ _ _ us hl => match us, hl with | [_, _], _ => rfl) (fun ds d h => by obtain ⟨r, x, _, rfl, rfl⟩ := h; rfl) ?_
  rintro f cdv A outer s H E hr _ _ ⟨r, m, hg, rfl, rfl⟩
  refine sk_unpT (js := [2, 3, 4]) (ds := [.lst (r.roas.map roaD), .lst (r.announcements.map annD), strD r.strict]) okD_stab rfl (ev_var 0) (gs_cons scPreT.nd (gs_cons scPreT.nd (gs_cons scPreT.nd gs_nil))) ?_
  refine sq_ref (ew_call C1 passX hr (ea_cons (ev_itemL (ds := [.int (m : Int)]) 0 (ev_var 1)) ea_nil) ⟨m, rfl, rfl⟩) fun h1 => ?_
  refine sk_set (i := 5) (d1 := stD (withR r m)) okD_stab scPreT.nd (PE.to (ev_tup (ea_cons (ev_call C2 hr (ea_cons (ev_var 2) (ea_cons (ev_var 3) (ea_cons (ev_itemL (ds := [.int (m : Int)]) 0 (ev_var 1)) ea_nil))) ⟨r.roas, r.announcements, m, hg.roas, hg.st.nR, hg.st.nA, rfl, rfl⟩) (ea_cons (ev_var 3) (ea_cons (ev_var 4) ea_nil)))) rfl) ?_
  exact sq_ret (ev_lst (ea_cons (PE.to (ev_len G.nLen (ev_call C3 hr (ea_cons (ev_var 5) (ea_cons (ev_itemL (ds := [.int (m : Int)]) 0 (ev_var 1)) ea_nil)) ⟨withR r m, m, good_withR hg, rfl, rfl⟩)) (noIns_len _ _)) (ea_cons (PE.to (ev_len G.nLen (ev_call C4 hr (ea_cons (ev_var 0) (ea_cons (ev_var 5) ea_nil)) ⟨r, withR r m, hg.st, good_withR hg, rfl, rfl⟩)) (noIns_len _ _)) ea_nil))) rfl
abbrev sPreA : Stmt := topS 74
def preAM (r : Su202.Registry) (a l n g : Nat) : OutQ := refuse (wantAnnO a l n g) (listQ (r.movedAddresses (r.announce a l n g)))
def RPreA (ds : List D) (res : Except Int D) : Prop := ∃ (r : Su202.Registry) (a l n g : Nat), WF r ∧ ds = [stD r, natsD [a, l, n, g]] ∧ res = mapD (preAM r a l n g)
abbrev nPreA : List Str := ["state", "numbers", "roas", "announcements", "strict"]
theorem scPreA : FnScope nPreA ["state", "numbers"] (defScope sPreA) := ⟨rfl, rfl, rfl, by decide +kernel, rfl, by decide +kernel, by decide +kernel⟩
theorem okPreA (F : Defn K mg "preview_announce" sPreA) (G : Glob K mg) (C1 : CalS P w K mg base 5 "want_announcement" (spW C RWantAnn)) (C2 : CalD P w K mg base 1 "told_list" RToldList) (C4 : CalD P w K mg base 9 "moved" RMoved) : CalS P w K mg base 12 "preview_announce" (spX C RPreA) := by
  refine mkX F scPreA (fun _ _ _ _ _ _ us hl => match us, hl with | [_, _], _ => rfl) (fun ds d h => by obtain ⟨r, a, l, n, g, _, rfl, rfl⟩ := h; rfl) ?_
  rintro f cdv A outer s H E hr _ _ ⟨r, a, l, n, g, hg, rfl, rfl⟩
  refine sk_unpT (js := [2, 3, 4]) (ds := [.lst (r.roas.map roaD), .lst (r.announcements.map annD), strD r.strict]) okD_stab rfl (ev_var 0) (gs_cons scPreA.nd (gs_cons scPreA.nd (gs_cons scPreA.nd gs_nil))) ?_
  refine sq_ref (ew_call C1 passX hr (ea_cons (ev_var 1) ea_nil) ⟨a, l, n, g, rfl, rfl⟩) fun h1 => ?_
  have g2 : GoodSt (r.announce a l n g) := good_announce hg.st (Nat.le_trans hg.nA (by decide)) (wantAnn_none h1)
  refine sq_ret (ev_call C2 hr (ea_cons (ev_call C4 hr (ea_cons (ev_var 0) (ea_cons (PE.to (ev_tup (ea_cons (ev_var 2) (ea_cons (ev_op op_cat (od_cat ?_) (ev_var 3) (ev_lst (ea_cons (ev_tupleOf (ds := [.int a, .int l, .int n, .int g]) G.nTuple (ev_var 1)) ea_nil))) (ea_cons (ev_var 4) ea_nil)))) ?_) ea_nil)) ⟨r, r.announce a l n g, hg.st, g2, rfl, rfl⟩) ea_nil) ⟨r.movedAddresses (r.announce a l n g), Nat.le_trans (moved_len _ _) (by decide), rfl, rfl⟩) rfl
  · show (r.announcements.map annD).length + 1 ≤ 1000000
    rw [List.length_map]
    have := hg.nA
    omega
  · unfold stD Su202.Registry.announce
    rw [List.map_append]
    rfl

/-! ### lists of rows, counts -/
theorem flat_roa (l : List Su202.Roa) : D.lst ((l.map roaRow).flatten.map D.int) = natsD (l.flatMap fun g => [g.address, g.length, g.maxLength, g.origin]) := by
  unfold natsD
  refine congrArg D.lst ?_
  induction l with
  | nil => rfl
  | cons g q ih =>
    rw [List.map_cons, List.flatten_cons, List.map_append, ih, List.flatMap_cons, List.map_append]
    rfl
theorem flat_ann (l : List Su202.Announcement) : D.lst ((l.map annRow).flatten.map D.int) = natsD (l.flatMap fun s => [s.address, s.length, s.announcer, s.origin]) := by
  unfold natsD
  refine congrArg D.lst ?_
  induction l with
  | nil => rfl
  | cons g q ih =>
    rw [List.map_cons, List.flatten_cons, List.map_append, ih, List.flatMap_cons, List.map_append]
    rfl
abbrev sDroppedQ : Stmt := topS 75
def droppedQM (r : Su202.Registry) : OutQ := .ok ((droppedM r).length :: (droppedM r).flatMap fun s => [s.address, s.length, s.announcer, s.origin])
def RDroppedQ (ds : List D) (res : Except Int D) : Prop := ∃ (r : Su202.Registry), WF r ∧ ds = [stD r, natsD []] ∧ res = mapD (droppedQM r)
abbrev nDroppedQ : List Str := ["state", "numbers", "found"]
theorem scDroppedQ : FnScope nDroppedQ ["state", "numbers"] (defScope sDroppedQ) := ⟨rfl, rfl, rfl, by decide +kernel, rfl, by decide +kernel, by decide +kernel⟩
theorem rows4 {α : Type} {l : List α} {f : α → List Int} (h : ∀ a, (f a).length = 4) : ∀ r ∈ l.map f, r.length ≤ 4 := fun r hr => by
  obtain ⟨a, _, rfl⟩ := List.mem_map.mp hr
  exact Nat.le_of_eq (h a)
theorem natsD_cons {n : Nat} {l : List Nat} {ds : List D} (h : D.lst ds = natsD l) : D.lst ([D.int (n : Int)] ++ ds) = natsD (n :: l) := by
  unfold natsD at h
  injection h with h
  rw [h]
  rfl
theorem natsD_len {l : List Nat} {ds : List D} (h : D.lst ds = natsD l) : ds.length = l.length := by
  unfold natsD at h
  injection h with h
  rw [h, List.length_map]
theorem cat_len {n k : Nat} {l : List (List Int)} (h : l.length ≤ n) (h2 : ∀ x ∈ l, x.length ≤ 4) (hk : k + n * 4 ≤ 1000000) : k + (l.flatten.map D.int).length ≤ 1000000 := by
  have := flatten_len h2
  rw [List.length_map]
  have := Nat.mul_le_mul_right 4 h
  omega
theorem okDroppedQ (F : Defn K mg "dropped_announcements" sDroppedQ) (G : Glob K mg) (C1 : CalD P w K mg base 6 "dropped" RDropped) (C2 : CalD P w K mg base 1 "told_rows" RToldRows) : CalS P w K mg base 12 "dropped_announcements" (spX C RDroppedQ) := by
  refine mkX F scDroppedQ (fun _ _ _ _ _ _ us hl => match us, hl with | [_, _], _ => rfl) (fun ds d h => by obtain ⟨r, _, rfl, rfl⟩ := h; rfl) ?_
  rintro f cdv A outer s H E hr _ _ ⟨r, hg, rfl, rfl⟩
  have hl : ((droppedM r).map annRow).length ≤ 16 := by
    rw [List.length_map]
    exact Nat.le_trans (List.length_filter_le _ _) hg.nA
  have h4 : ∀ x ∈ (droppedM r).map annRow, x.length ≤ 4 := rows4 fun _ => rfl
  refine sk_set (i := 2) (d1 := .lst ((droppedM r).map annD)) okD_stab scDroppedQ.nd (ev_call C1 hr (ea_cons (ev_var 0) ea_nil) ⟨r, hg.st, rfl, rfl⟩) ?_
  exact sq_ret (ev_op op_cat (od_cat (cat_len hl h4 (Nat.le_of_ble_eq_true rfl))) (ev_lst (ea_cons (PE.to (ev_len G.nLen (ev_var 2)) (noIns_len _ _)) ea_nil)) (ev_call C2 hr (ea_cons (PE.to (ev_var 2) (rows_ann _)) ea_nil) ⟨(droppedM r).map annRow, Nat.le_trans hl (by decide), h4, rfl, rfl⟩)) (natsD_cons (flat_ann _))
abbrev sValPreQ : Stmt := topS 76
def valPreQM (r : Su202.Registry) (m : Nat) : OutQ := refuse (wantO (decide (m < 8)) (-2)) (.ok [(valPreM r.roas m).length])
def RValPreQ (ds : List D) (res : Except Int D) : Prop := ∃ (r : Su202.Registry) (m : Nat), WF r ∧ ds = [stD r, natsD [m]] ∧ res = mapD (valPreQM r m)
theorem scValPreQ : FnScope nTellHij ["state", "numbers"] (defScope sValPreQ) := ⟨rfl, rfl, rfl, by decide +kernel, rfl, by decide +kernel, by decide +kernel⟩
theorem okValPreQ (F : Defn K mg "valid_prefix_count" sValPreQ) (G : Glob K mg) (C1 : CalS P w K mg base 4 "want_member" (spW C RWantMem)) (C2 : CalD P w K mg base 5 "valid_prefixes" RValPre) : CalS P w K mg base 12 "valid_prefix_count" (spX C RValPreQ) := by
  refine mkX F scValPreQ (fun _ _ _ _ _ _ us hl => match us, hl with | [_, _], _ => rfl) (fun ds d h => by obtain ⟨r, x, _, rfl, rfl⟩ := h; rfl) ?_
  rintro f cdv A outer s H E hr _ _ ⟨r, m, hg, rfl, rfl⟩
  refine sq_ref (ew_call C1 passX hr (ea_cons (ev_itemL (ds := [.int (m : Int)]) 0 (ev_var 1)) ea_nil) ⟨m, rfl, rfl⟩) fun h1 => ?_
  exact sq_ret (ev_lst (ea_cons (PE.to (ev_len G.nLen (ev_call C2 hr (ea_cons (ev_item 0 (ev_var 0)) (ea_cons (ev_itemL (ds := [.int (m : Int)]) 0 (ev_var 1)) ea_nil)) ⟨r.roas, m, hg.roas, rfl, rfl⟩)) (noIns_len _ _)) ea_nil)) rfl
abbrev sListR : Stmt := topS 77
def listRM (r : Su202.Registry) : OutQ := .ok (r.roas.length :: r.roas.flatMap fun g => [g.address, g.length, g.maxLength, g.origin])
def RListR (ds : List D) (res : Except Int D) : Prop := ∃ (r : Su202.Registry), WF r ∧ ds = [stD r, natsD []] ∧ res = mapD (listRM r)
theorem scListR : FnScope nTellHij ["state", "numbers"] (defScope sListR) := ⟨rfl, rfl, rfl, by decide +kernel, rfl, by decide +kernel, by decide +kernel⟩
theorem okListR (F : Defn K mg "list_roas" sListR) (G : Glob K mg) (C2 : CalD P w K mg base 1 "told_rows" RToldRows) : CalS P w K mg base 12 "list_roas" (spX C RListR) := by
  refine mkX F scListR (fun _ _ _ _ _ _ us hl => match us, hl with | [_, _], _ => rfl) (fun ds d h => by obtain ⟨r, _, rfl, rfl⟩ := h; rfl) ?_
  rintro f cdv A outer s H E hr _ _ ⟨r, hg, rfl, rfl⟩
  have hl : (r.roas.map roaRow).length ≤ 12 := by
    rw [List.length_map]
    exact hg.nR
  have h4 : ∀ x ∈ r.roas.map roaRow, x.length ≤ 4 := rows4 fun _ => rfl
  exact sq_ret (ev_op op_cat (od_cat (cat_len hl h4 (Nat.le_of_ble_eq_true rfl))) (ev_lst (ea_cons (PE.to (ev_len G.nLen (ev_item 0 (ev_var 0))) (noIns_len _ _)) ea_nil)) (ev_call C2 hr (ea_cons (PE.to (ev_item 0 (ev_var 0)) (rows_roa _)) ea_nil) ⟨r.roas.map roaRow, Nat.le_trans hl (by decide), h4, rfl, rfl⟩)) (natsD_cons (flat_roa _))
abbrev sListA : Stmt := topS 78
def listAM (r : Su202.Registry) : OutQ := .ok (r.announcements.length :: Su202.boolToNat r.strict :: r.announcements.flatMap fun s => [s.address, s.length, s.announcer, s.origin])
def RListA (ds : List D) (res : Except Int D) : Prop := ∃ (r : Su202.Registry), WF r ∧ ds = [stD r, natsD []] ∧ res = mapD (listAM r)
theorem scListA : FnScope nTellHij ["state", "numbers"] (defScope sListA) := ⟨rfl, rfl, rfl, by decide +kernel, rfl, by decide +kernel, by decide +kernel⟩
theorem okListA (F : Defn K mg "list_announcements" sListA) (G : Glob K mg) (C2 : CalD P w K mg base 1 "told_rows" RToldRows) : CalS P w K mg base 12 "list_announcements" (spX C RListA) := by
  refine mkX F scListA (fun _ _ _ _ _ _ us hl => match us, hl with | [_, _], _ => rfl) (fun ds d h => by obtain ⟨r, _, rfl, rfl⟩ := h; rfl) ?_
  rintro f cdv A outer s H E hr _ _ ⟨r, hg, rfl, rfl⟩
  have hl : (r.announcements.map annRow).length ≤ 16 := by
    rw [List.length_map]
    exact hg.nA
  have h4 : ∀ x ∈ r.announcements.map annRow, x.length ≤ 4 := rows4 fun _ => rfl
  exact sq_ret (ev_op op_cat (od_cat (cat_len hl h4 (Nat.le_of_ble_eq_true rfl))) (ev_lst (ea_cons (PE.to (ev_len G.nLen (ev_item 1 (ev_var 0))) (noIns_len _ _)) (ea_cons (ev_item 2 (ev_var 0)) ea_nil))) (ev_call C2 hr (ea_cons (PE.to (ev_item 1 (ev_var 0)) (rows_ann _)) ea_nil) ⟨r.announcements.map annRow, Nat.le_trans hl (by decide), h4, rfl, rfl⟩)) (natsD_cons (natsD_cons (flat_ann _)))
end
end Ow
/-! a def out of a tuple of defs -/
namespace Ow
open PySem PySem.Spec PyProof.Rows L2
/-- a module's tuple of defs -/
def TabG (K : PySem.W.Frag) (mg : Str → Option Value) (x : Str) (ns : List Str) : Prop := ∃ (a : Addr) (fs : List Addr), mg x = some (.ref a) ∧ (∀ H, SqT K H a (fs.map V.ref)) ∧ ns.map mg = fs.map fun f => some (.ref f)
theorem TabG.at_ {mg : Str → Option Value} {ns : List Str} {fs : List Addr} {i : Nat} {nm : Str} {f : Addr} (h : ns.map mg = fs.map fun f => some (.ref f)) (hi : ns[i]? = some nm) (hm : mg nm = some (.ref f)) : fs[i]? = some f := by
  have e : (ns.map mg)[i]? = some (some (.ref f)) := by rw [List.getElem?_map, hi, ← hm]; rfl
  rw [h, List.getElem?_map] at e
  cases q : fs[i]? with
  | none => rw [q] at e; cases e
  | some g =>
    rw [q] at e
    cases e
    rfl
section
variable {X : Cx} {C : Addr} {E : XK} {e ix : Expr} {es : List Expr} {p1 p2 p3 p4 p5 p6 p7 : Pos} {Δ : Sd} {sp : Sp} {tab nm y : Str} {names : List Str} {i j k m : Nat} {t : TA}
theorem pd_deed (T : TabG X.K X.mg tab names) (hi : names[i]? = some nm) (Ca : CalS X.prog X.w X.K X.mg X.base j nm sp) (hr : Room k X.A) (hb : PE X ix (tD Δ (.int (i : Int)))) (hx : Passes (L2.CX X.prog X.w) X E) (hN : X.N.Nodup) (ha : PA X (e :: es) t) (hm : X.N[m]? = some y) (hml : m < Δ.length) (hj : j ≤ k := by decide) (hg : Gl X tab := by rfl) (hd : (tab == ("__debug__" : Str)) = false := by decide) (hpi : PlainIx ix := by exact fun _ _ => rfl)
    (hl : Loc X.env.scope y := by first | exact Or.inl rfl | exact Or.inr rfl) (hv : Vis X.env.scope y := by first | exact Or.inl rfl | exact Or.inr (Or.inl rfl)) (hs : swapsWith (.Subscript (.Name tab p2) ix p3) (some (.Name y p1)) p4.line X.env = pure false := by rfl) (hf : X.fn y = true ∨ X.env.scope.names.lookup y = some .local := by first | exact .inl rfl | exact .inr rfl)
    (hdb : (y == ("__debug__" : Str)) = false := by decide) (hcd : (y == ("__classdict__" : Str)) = false := by decide) (he : starEach (e :: es) X.env = (false, eval e X.env) :: starEach es X.env := by rfl) (hpl : (backTo p6 (starEach es X.env)).any (·.1) = false := by rfl) :
    PSs X [.Assign [.Name y p1] (.Subscript (.Name tab p2) ix p3) p4, .Return (some (.Call (.Name y p5) (e :: es) [] p6)) p7] (fun En σ H => Sl H σ Δ ∧ ∀ f H', Same H H' → t (σ.set m (some (.ref f))) H' fun vs H2 => sp (vs ++ []) H2 (fun v H3 => En.rt v H3) E) := by
  obtain ⟨a, fs, hma, hq, hfs⟩ := T
  obtain ⟨f, fd, ps, F, hmf, hk, hbd⟩ := Ca.ex
  refine (pss_cons (ps_set hN hm hl (pe_ix ix_tup (pe_glob hg hma (v := .ref a) rfl hd) hb hpi) hs hf) (pss_one (ps_ret (pe_callL F (hr.mono hj) hm hv hk hbd .nil hx ha hdb hcd he hpl)))).imp fun En σ H q => ?_
  refine ⟨q.1, fun w H2 e2 r2 _ => ?_⟩
  cases r2
  refine ⟨a, _, _, _, rfl, rfl, hq H2, atI_nat (v := .ref f) (by rw [List.getElem?_map, TabG.at_ hfs hi hmf]; rfl), ?_⟩
  exact ⟨List.getElem?_set_self (by rw [← q.1.len]; exact hml), q.2 f H2 e2⟩
/-- it hands back data or refuses -/
theorem pd_X {R : List D → Except Int D → Prop} {ds : List D} {res : Except Int D} (T : TabG X.K X.mg tab names) (hi : names[i]? = some nm) (Ca : CalS X.prog X.w X.K X.mg X.base j nm (spX C R)) (hr : Room k X.A) (hb : PE X ix (tD Δ (.int (i : Int)))) (hx : Passes (L2.CX X.prog X.w) X E) (hN : X.N.Nodup) (ha : PA X (e :: es) (tDA (Δ.set m none) ds)) (hR : R ds res) (hm : X.N[m]? = some y := by rfl) (hml : m < Δ.length := by exact Nat.le_of_ble_eq_true rfl) (hj : j ≤ k := by decide) (hg : Gl X tab := by rfl) (hd : (tab == ("__debug__" : Str)) = false := by decide) (hpi : PlainIx ix := by exact fun _ _ => rfl)
    (hl : Loc X.env.scope y := by first | exact Or.inl rfl | exact Or.inr rfl) (hv : Vis X.env.scope y := by first | exact Or.inl rfl | exact Or.inr (Or.inl rfl)) (hs : swapsWith (.Subscript (.Name tab p2) ix p3) (some (.Name y p1)) p4.line X.env = pure false := by rfl) (hf : X.fn y = true ∨ X.env.scope.names.lookup y = some .local := by first | exact .inl rfl | exact .inr rfl)
    (hdb : (y == ("__debug__" : Str)) = false := by decide) (hcd : (y == ("__classdict__" : Str)) = false := by decide) (he : starEach (e :: es) X.env = (false, eval e X.env) :: starEach es X.env := by rfl) (hpl : (backTo p6 (starEach es X.env)).any (·.1) = false := by rfl) :
    PSs X [.Assign [.Name y p1] (.Subscript (.Name tab p2) ix p3) p4, .Return (some (.Call (.Name y p5) (e :: es) [] p6)) p7] (tK C E okD Δ res) := by
  refine (pd_deed T hi Ca hr hb hx hN ha hm hml hj hg hd hpi hl hv hs hf hdb hcd he hpl).imp fun En σ H q => ⟨q.1, fun f H' e1 => ⟨(q.1.mono e1).unset m, fun vs H2 e2 r2 _ => ⟨ds, res, by rw [List.append_nil]; exact r2, hR, ?_⟩⟩⟩
  cases res with
  | ok d => exact fun v H3 e3 r3 => (show okD d En σ H from q.2) v H3 ((e1.trans e2).trans e3) r3
  | error c => exact Er.mono (show Er C c H E from q.2) (e1.trans e2)
/-- it changes the registry or refuses -/
theorem pd_M {CR : Addr} {R : Su202.Registry → List Nat → Except Int (Su202.Registry × List Nat) → Prop} {r : Su202.Registry} {ns : List Nat} {res : Except Int (Su202.Registry × List Nat)} {x1 x2 : Str} {q1 q2 : Pos} (T : TabG X.K X.mg tab names) (hi : names[i]? = some nm) (Ca : CalS X.prog X.w X.K X.mg X.base j nm (spReg C CR R)) (hr : Room k X.A) (hb : PE X ix (tD Δ (.int (i : Int)))) (hx : Passes (L2.CX X.prog X.w) X E) (hN : X.N.Nodup) (hR : R r ns res) (h0 : Δ[0]? = some (some (regD CR r)) := by rfl) (h2 : Δ[2]? = some (some (natsD ns)) := by rfl) (hm : X.N[3]? = some y := by rfl) (hml : 3 < Δ.length := by exact Nat.le_of_ble_eq_true rfl) (hj : j ≤ k := by decide) (hg : Gl X tab := by rfl) (hd : (tab == ("__debug__" : Str)) = false := by decide) (hpi : PlainIx ix := by exact fun _ _ => rfl)
    (hn1 : X.N[0]? = some x1 := by rfl) (hv1 : Vis X.env.scope x1 := by first | exact Or.inl rfl | exact Or.inr (Or.inl rfl)) (hd1 : (x1 == ("__debug__" : Str)) = false := by decide) (hc1 : (x1 == ("__classdict__" : Str)) = false := by decide) (hn2 : X.N[2]? = some x2 := by rfl) (hv2 : Vis X.env.scope x2 := by first | exact Or.inl rfl | exact Or.inr (Or.inl rfl)) (hd2 : (x2 == ("__debug__" : Str)) = false := by decide) (hc2 : (x2 == ("__classdict__" : Str)) = false := by decide) (hs2 : starEach [.Name x2 q2] X.env = (false, eval (.Name x2 q2) X.env) :: starEach [] X.env := by rfl)
    (hl : Loc X.env.scope y := by first | exact Or.inl rfl | exact Or.inr rfl) (hv : Vis X.env.scope y := by first | exact Or.inl rfl | exact Or.inr (Or.inl rfl)) (hs : swapsWith (.Subscript (.Name tab p2) ix p3) (some (.Name y p1)) p4.line X.env = pure false := by rfl) (hf : X.fn y = true ∨ X.env.scope.names.lookup y = some .local := by first | exact .inl rfl | exact .inr rfl)
    (hdb : (y == ("__debug__" : Str)) = false := by decide) (hcd : (y == ("__classdict__" : Str)) = false := by decide) (he : starEach [.Name x1 q1, .Name x2 q2] X.env = (false, eval (.Name x1 q1) X.env) :: starEach [.Name x2 q2] X.env := by rfl) (hpl : (backTo p6 (starEach [.Name x2 q2] X.env)).any (·.1) = false := by rfl) :
    PSs X [.Assign [.Name y p1] (.Subscript (.Name tab p2) ix p3) p4, .Return (some (.Call (.Name y p5) [.Name x1 q1, .Name x2 q2] [] p6)) p7] (tK C E (okM CR) Δ res) := by
  refine (pd_deed T hi Ca hr hb hx hN (pa_cons (pe_var hn1 hv1 hd1 hc1) (pa_cons (pe_var hn2 hv2 hd2 hc2) pa_nil hs2) he) hm hml hj hg hd hpi hl hv hs hf hdb hcd he hpl).imp fun En σ H q => ⟨q.1, fun f H' e1 => ?_⟩
  obtain ⟨v0, hσ0, r0⟩ := q.1.at_ 0 _ h0
  obtain ⟨v2, hσ2, r2⟩ := q.1.at_ 2 _ h2
  cases r0 with
  | @ins a _ dx fs _ _ ha hn hs =>
    match fs, hn, hs with
    | [(f', v)], hn, hs =>
      have e : f' = ("state" : Str) := by simpa using hn
      subst e
      cases hs with
      | cons hs1 _ =>
        refine ⟨.ref a, ?_, v2, ?_, a, dx, v, v2, r, ns, res, rfl, e1 _ _ ha, hs1.mono e1, r2.mono e1, hR, ?_⟩
        · exact (List.getElem?_set_ne (by decide)).trans hσ0
        · exact (List.getElem?_set_ne (by decide)).trans hσ2
        · cases res with
          | error c => exact Er.mono (show Er C c H E from q.2) e1
          | ok z =>
            obtain ⟨a', dx', v', h1, h3, kk⟩ := (show okM CR z En σ H from q.2)
            rw [hσ0] at h1
            cases h1
            rw [ha] at h3
            cases h3
            exact fun v2 u H3 w1 w2 w3 w4 => kk v2 u H3 w1 w2 w3 fun b o hb hne => w4 b o (e1 _ _ hb) hne
end
end Ow
/-! changed, asked -/
namespace Ow
open PySem PySem.Spec PyProof.Rows L2
section
variable {P : Program} {w : World} {K : PySem.W.Frag} {mg : Str → Option Value} {base : Heap} {C CR : Addr}

/-! ### asked -/
abbrev nQs : List Str := ["tell_validity", "tell_destination", "address_count", "tell_hijackers", "vulnerable_addresses", "preview_tighten", "preview_announce", "dropped_announcements", "valid_prefix_count", "list_roas", "list_announcements"]
/-- the queries' calls: place, numbers -/
inductive Ask (r : Su202.Registry) : Nat → List Nat → OutQ → Prop
  | val (a l o : Nat) : Ask r 7 [a, l, o] (tellValM r a l o)
  | dest (x : Nat) : Ask r 8 [x] (tellDestM r x)
  | count (x : Nat) : Ask r 9 [x] (addrCountM r x)
  | hij (x : Nat) : Ask r 10 [x] (tellHijM r x)
  | vuln (x : Nat) : Ask r 11 [x] (tellVulnM r x)
  | preT (x : Nat) : Ask r 12 [x] (preTM r x)
  | preA (a l n g : Nat) : Ask r 13 [a, l, n, g] (preAM r a l n g)
  | drop : Ask r 14 [] (droppedQM r)
  | valPre (x : Nat) : Ask r 15 [x] (valPreQM r x)
  | listR : Ask r 16 [] (listRM r)
  | listA : Ask r 17 [] (listAM r)
/-- what the queries promise -/
structure Qs (P : Program) (w : World) (K : PySem.W.Frag) (mg : Str → Option Value) (base : Heap) (C : Addr) : Prop where
  tab : TabG K mg "QUERIES" nQs
  q1 : CalS P w K mg base 12 "tell_validity" (spX C RTellVal)
  q2 : CalS P w K mg base 12 "tell_destination" (spX C RTellDest)
  q3 : CalS P w K mg base 12 "address_count" (spX C RAddrCount)
  q4 : CalS P w K mg base 12 "tell_hijackers" (spX C RTellHij)
  q5 : CalS P w K mg base 12 "vulnerable_addresses" (spX C RTellVuln)
  q6 : CalS P w K mg base 12 "preview_tighten" (spX C RPreT)
  q7 : CalS P w K mg base 12 "preview_announce" (spX C RPreA)
  q8 : CalS P w K mg base 12 "dropped_announcements" (spX C RDroppedQ)
  q9 : CalS P w K mg base 12 "valid_prefix_count" (spX C RValPreQ)
  q10 : CalS P w K mg base 12 "list_roas" (spX C RListR)
  q11 : CalS P w K mg base 12 "list_announcements" (spX C RListA)
abbrev sAsked : Stmt := topS 81
def RAsked (ds : List D) (res : Except Int D) : Prop := ∃ (r : Su202.Registry) (c : Nat) (ns : List Nat) (q : OutQ), WF r ∧ Ask r c ns q ∧ ds = [stD r, .int (c : Int), natsD ns] ∧ res = mapD q
abbrev nAsked : List Str := ["state", "call", "numbers", "deed"]
theorem scAsked : FnScope nAsked ["state", "call", "numbers"] (defScope sAsked) := ⟨rfl, rfl, rfl, by decide +kernel, rfl, by decide +kernel, by decide +kernel⟩
theorem okAsked (F : Defn K mg "asked" sAsked) (G : Glob K mg) (Z : Qs P w K mg base C) : CalS P w K mg base 13 "asked" (spX C RAsked) := by
  refine mkX F scAsked (fun _ _ _ _ _ _ us hl => match us, hl with | [_, _, _], _ => rfl) (fun ds d h => by obtain ⟨r, c, ns, q, _, _, rfl, rfl⟩ := h; rfl) ?_
  rintro f cdv A outer s H E hr _ _ ⟨r, c, ns, q, hg, ha, rfl, rfl⟩
  cases ha with
  | val a l o => exact pd_X (m := 3) (i := 0) Z.tab rfl Z.q1 hr (PE.to (ev_sub (ev_var 1) (ev_glob G.firstQuery)) (congrArg D.int (by decide))) passX scAsked.nd (ea_cons (ev_var 0) (ea_cons (ev_var 2) ea_nil)) ⟨r, a, l, o, hg, rfl, rfl⟩
  | dest x => exact pd_X (m := 3) (i := 1) Z.tab rfl Z.q2 hr (PE.to (ev_sub (ev_var 1) (ev_glob G.firstQuery)) (congrArg D.int (by decide))) passX scAsked.nd (ea_cons (ev_var 0) (ea_cons (ev_var 2) ea_nil)) ⟨r, x, hg, rfl, rfl⟩
  | count x => exact pd_X (m := 3) (i := 2) Z.tab rfl Z.q3 hr (PE.to (ev_sub (ev_var 1) (ev_glob G.firstQuery)) (congrArg D.int (by decide))) passX scAsked.nd (ea_cons (ev_var 0) (ea_cons (ev_var 2) ea_nil)) ⟨r, x, hg, rfl, rfl⟩
  | hij x => exact pd_X (m := 3) (i := 3) Z.tab rfl Z.q4 hr (PE.to (ev_sub (ev_var 1) (ev_glob G.firstQuery)) (congrArg D.int (by decide))) passX scAsked.nd (ea_cons (ev_var 0) (ea_cons (ev_var 2) ea_nil)) ⟨r, x, hg, rfl, rfl⟩
  | vuln x => exact pd_X (m := 3) (i := 4) Z.tab rfl Z.q5 hr (PE.to (ev_sub (ev_var 1) (ev_glob G.firstQuery)) (congrArg D.int (by decide))) passX scAsked.nd (ea_cons (ev_var 0) (ea_cons (ev_var 2) ea_nil)) ⟨r, x, hg, rfl, rfl⟩
  | preT x => exact pd_X (m := 3) (i := 5) Z.tab rfl Z.q6 hr (PE.to (ev_sub (ev_var 1) (ev_glob G.firstQuery)) (congrArg D.int (by decide))) passX scAsked.nd (ea_cons (ev_var 0) (ea_cons (ev_var 2) ea_nil)) ⟨r, x, hg, rfl, rfl⟩
  | preA a l n g => exact pd_X (m := 3) (i := 6) Z.tab rfl Z.q7 hr (PE.to (ev_sub (ev_var 1) (ev_glob G.firstQuery)) (congrArg D.int (by decide))) passX scAsked.nd (ea_cons (ev_var 0) (ea_cons (ev_var 2) ea_nil)) ⟨r, a, l, n, g, hg, rfl, rfl⟩
  | drop => exact pd_X (m := 3) (i := 7) Z.tab rfl Z.q8 hr (PE.to (ev_sub (ev_var 1) (ev_glob G.firstQuery)) (congrArg D.int (by decide))) passX scAsked.nd (ea_cons (ev_var 0) (ea_cons (ev_var 2) ea_nil)) ⟨r, hg, rfl, rfl⟩
  | valPre x => exact pd_X (m := 3) (i := 8) Z.tab rfl Z.q9 hr (PE.to (ev_sub (ev_var 1) (ev_glob G.firstQuery)) (congrArg D.int (by decide))) passX scAsked.nd (ea_cons (ev_var 0) (ea_cons (ev_var 2) ea_nil)) ⟨r, x, hg, rfl, rfl⟩
  | listR => exact pd_X (m := 3) (i := 9) Z.tab rfl Z.q10 hr (PE.to (ev_sub (ev_var 1) (ev_glob G.firstQuery)) (congrArg D.int (by decide))) passX scAsked.nd (ea_cons (ev_var 0) (ea_cons (ev_var 2) ea_nil)) ⟨r, hg, rfl, rfl⟩
  | listA => exact pd_X (m := 3) (i := 10) Z.tab rfl Z.q11 hr (PE.to (ev_sub (ev_var 1) (ev_glob G.firstQuery)) (congrArg D.int (by decide))) passX scAsked.nd (ea_cons (ev_var 0) (ea_cons (ev_var 2) ea_nil)) ⟨r, hg, rfl, rfl⟩

/-! ### changed -/
abbrev nCs : List Str := ["add_roa", "remove_roa", "announce", "withdraw", "set_strict", "tighten_roas"]
inductive Chg (r : Su202.Registry) : Nat → List Nat → OutM → Prop
  | addRoa (a l m o : Nat) : Chg r 1 [a, l, m, o] (addRoaM r a l m o)
  | remRoa (x : Nat) : Chg r 2 [x] (remRoaM r x)
  | ann (a l m o : Nat) : Chg r 3 [a, l, m, o] (announceM r a l m o)
  | wdr (a l m o : Nat) : Chg r 4 [a, l, m, o] (withdrawM r a l m o)
  | strict (x : Nat) : Chg r 5 [x] (strictM r x)
  | tighten (x : Nat) : Chg r 6 [x] (tightenM r x)
structure Cs (P : Program) (w : World) (K : PySem.W.Frag) (mg : Str → Option Value) (base : Heap) (C CR : Addr) : Prop where
  tab : TabG K mg "CHANGES" nCs
  c1 : CalS P w K mg base 11 "add_roa" (spReg C CR RAddRoa)
  c2 : CalS P w K mg base 11 "remove_roa" (spReg C CR RRemRoa)
  c3 : CalS P w K mg base 11 "announce" (spReg C CR RAnnounce)
  c4 : CalS P w K mg base 11 "withdraw" (spReg C CR RWithdraw)
  c5 : CalS P w K mg base 11 "set_strict" (spReg C CR RStrict)
  c6 : CalS P w K mg base 11 "tighten_roas" (spReg C CR RTighten)
/-- registry, call, numbers -/
def spChanged (C CR : Addr) : Sp := fun vs H Q E => ∃ a dx v nv c r ns res, vs = [.ref a, .int ((c : Nat) : Int), nv] ∧ H a = some (.ins CR dx [(("state" : Str), v)]) ∧ Rp H v (stD r) ∧ Rp H nv (natsD ns) ∧ WF r ∧ Chg r c ns res ∧ match res with
  | .error c => Er C c H E
  | .ok z => ∀ v' u H', H' a = some (.ins CR dx [(("state" : Str), v')]) → Rp H' v' (stD z.1) → Rp H' u (natsD z.2) → But a H H' → Q u H'
abbrev sChanged : Stmt := topS 62
abbrev nChanged : List Str := ["registry", "call", "numbers", "deed"]
theorem scChanged : FnScope nChanged ["registry", "call", "numbers"] (defScope sChanged) := ⟨rfl, rfl, rfl, by decide +kernel, rfl, by decide +kernel, by decide +kernel⟩
theorem bodyChanged (Z : Cs P w K mg base C CR) {f : Addr} {cdv : Value} {A : Around} {outer : List Env} {s : Shared} {H : Hp} {E : XK} (hr : Room 11 (A.deeper (envOfC "changed" (defScope sChanged) s.heap.objs.size f cdv))) {r : Su202.Registry} {c : Nat} {ns : List Nat} {res : OutM} (hg : WF r) (hc : Chg r c ns res) :
    PSs (CtxX P w K mg base nChanged "changed" (defScope sChanged) f cdv A outer s H E) (defBody sChanged) (tK C E (okM CR) (startD nChanged [regD CR r, .int (c : Int), natsD ns]) res) := by
  cases hc with
  | addRoa a l m o => exact pd_M (i := 0) Z.tab rfl Z.c1 hr (PE.to (ev_sub (ev_var 1) ev_int) (congrArg D.int (by decide))) passX scChanged.nd ⟨a, l, m, o, hg, rfl, rfl⟩
  | remRoa x => exact pd_M (i := 1) Z.tab rfl Z.c2 hr (PE.to (ev_sub (ev_var 1) ev_int) (congrArg D.int (by decide))) passX scChanged.nd ⟨x, hg, rfl, rfl⟩
  | ann a l m o => exact pd_M (i := 2) Z.tab rfl Z.c3 hr (PE.to (ev_sub (ev_var 1) ev_int) (congrArg D.int (by decide))) passX scChanged.nd ⟨a, l, m, o, hg, rfl, rfl⟩
  | wdr a l m o => exact pd_M (i := 3) Z.tab rfl Z.c4 hr (PE.to (ev_sub (ev_var 1) ev_int) (congrArg D.int (by decide))) passX scChanged.nd ⟨a, l, m, o, hg, rfl, rfl⟩
  | strict x => exact pd_M (i := 4) Z.tab rfl Z.c5 hr (PE.to (ev_sub (ev_var 1) ev_int) (congrArg D.int (by decide))) passX scChanged.nd ⟨x, hg, rfl, rfl⟩
  | tighten x => exact pd_M (i := 5) Z.tab rfl Z.c6 hr (PE.to (ev_sub (ev_var 1) ev_int) (congrArg D.int (by decide))) passX scChanged.nd ⟨x, hg, rfl, rfl⟩
theorem okChanged (F : Defn K mg "changed" sChanged) (Z : Cs P w K mg base C CR) : CalS P w K mg base 12 "changed" (spChanged C CR) := by
  obtain ⟨f, fd, G, hm⟩ := F.ex
  refine ⟨f, fd, ["registry", "call", "numbers"], G.okX scChanged (fun vs H Q E h => ?_) (fun cdv A outer s H vs Q E hr h => ?_), hm, G.kp, G.binds (fun _ _ _ _ _ _ us hl => match us, hl with | [_, _, _], _ => rfl)⟩
  · obtain ⟨a, dx, v, nv, c, r, ns, res, rfl, _⟩ := h
    rfl
  · obtain ⟨a, dx, v, nv, c, r, ns, res, rfl, ha, hv, hn, hg, hc, q⟩ := h
    refine ⟨_, bodyChanged Z hr hg hc, Sl.start (.cons (.ins ha rfl (.cons hv .nil)) (.cons (.int _) (.cons hn .nil))), ?_⟩
    cases res with
    | ok z => exact ⟨a, dx, v, rfl, ha, fun v' u H' q1 q2 q3 q4 => q v' u H' q1 q2 q3 q4⟩
    | error c => exact q
end
end Ow
/-! the request: __init__, done -/
namespace Ow
open PySem PySem.Spec PyProof.Rows L2
/-- what is no instance -/
def plainO : HO → Bool
  | .ins _ _ _ => false
  | _ => true
/-- all but instances stand -/
def NoI (H H' : Hp) : Prop := ∀ b o, H b = some o → plainO o = true → H' b = some o
theorem NoI.of {H H' : Hp} (e : Same H H') : NoI H H' := fun b o h _ => e b o h
theorem NoI.trans {H H1 H2 : Hp} (a : NoI H H1) (b : NoI H1 H2) : NoI H H2 := fun c o h i => b c o (a c o h i) i
theorem NoI.but {H H' : Hp} {a C dx : Addr} {fs : List (Str × V)} (ha : H a = some (.ins C dx fs)) (e : But a H H') : NoI H H' := fun b o h p => e b o h fun z => by
  subst z
  rw [ha] at h
  cases h
  exact Bool.noConfusion p
theorem NoI.upd {H : Hp} {a C dx : Addr} {fs : List (Str × V)} {o : HO} (ha : H a = some (.ins C dx fs)) : NoI H (upd H a o) := fun b u h p => by
  rw [upd_ne]
  · exact h
  · intro z
    subst z
    rw [ha] at h
    cases h
    exact Bool.noConfusion p
mutual
theorem Rp.noI {H H' : Hp} (e : NoI H H') : ∀ (d : D) (v : V), noIns d = true → Rp H v d → Rp H' v d
  | .non, _, _, h => by cases h; exact .non
  | .bl _, _, _, h => by cases h; exact .bl _
  | .int _, _, _, h => by cases h; exact .int _
  | .lst ds, _, f, h => by
    cases h with
    | lst hb hs => exact .lst (e _ _ hb rfl) (RpAll.noI e ds _ (by unfold noIns at f; exact f) hs)
  | .tup ds, _, f, h => by
    cases h with
    | tup hb hs => exact .tup (e _ _ hb rfl) (RpAll.noI e ds _ (by unfold noIns at f; exact f) hs)
  | .dic ks ds, _, f, h => by
    cases h with
    | dic hb hk hs => exact .dic (e _ _ hb rfl) hk (RpAll.noI e ds _ (by unfold noIns at f; exact f) hs)
  | .ins _ _ _, _, f, h => by cases f
theorem RpAll.noI {H H' : Hp} (e : NoI H H') : ∀ (ds : List D) (vs : List V), noInss ds = true → RpAll H vs ds → RpAll H' vs ds
  | [], _, _, h => by cases h; exact .nil
  | d :: ds, _, f, h => by
    unfold noInss at f
    rw [Bool.and_eq_true] at f
    cases h with
    | cons h1 h2 => exact .cons (Rp.noI e d _ f.1 h1) (RpAll.noI e ds _ f.2 h2)
end
/-- a field put in its place -/
theorem put_own {f : Str} {v x : V} : putF f v [(f, x)] = [(f, v)] := if_pos rfl

/-! ### what the top has written of the two classes -/
structure ReqTxt (P : Program) (w : World) (K : PySem.W.Frag) (mg : Str → Option Value) (base : Heap) (CR CQ : Addr) : Prop where
  cl : Cls K CQ
  nR : NoAttr K CQ "registry"
  clR : Cls K CR
  nS : NoAttr K CR "state"
  gR : mg "Registry" = some (.ref CR)
  gQ : mg "Request" = some (.ref CQ)

section
variable {P : Program} {w : World} {K : PySem.W.Frag} {mg : Str → Option Value} {base : Heap} {C CR CQ : Addr}
/-! ### Registry.__init__ -/
abbrev sRegInit : Stmt := inClass (topS 53) 0
def spRegInit (CR : Addr) : Sp := fun vs H Q _ => ∃ p dx : Addr, vs = [.ref p] ∧ H p = some (.ins CR dx []) ∧ ∀ v H', H' p = some (.ins CR dx [(("state" : Str), v)]) → Rp H' v (stD Su202.empty) → But p H H' → Q .non H'
theorem scRegInit : FnScope ["self"] ["self"] (defScope sRegInit) := ⟨rfl, rfl, rfl, by decide +kernel, rfl, by decide +kernel, by decide +kernel⟩
theorem okRegInit {f : Addr} {fd : FuncData} (F : Fun K "__init__" "Registry.__init__" sRegInit f fd) (cl : Cls K CR) (nS : NoAttr K CR "state") : FnOk P w K mg base CX0 1 f fd ["self"] (spRegInit CR) := by
  refine F.ok scRegInit (fun vs H Q E h => ?_) (fun cdv A outer s H vs Q E hr h => ?_)
  · obtain ⟨p, dx, rfl, _⟩ := h
    rfl
  · obtain ⟨p, dx, rfl, hp, q⟩ := h
    refine ⟨_, pss_one (ps_fld (pv 0) (PE.to (ev_tup (Δ := startD ["self"] [.ins CR [] []]) (ea_cons (ev_lst ea_nil) (ea_cons (ev_lst ea_nil) (ea_cons ev_int ea_nil)))) (show _ = stD Su202.empty from rfl)) (by rfl)), ?_⟩
    refine ⟨Sl.start (.cons (.ins hp rfl .nil) .nil), fun v H1 e1 r1 _ => ?_⟩
    refine ⟨_, rfl, p, CR, dx, _, rfl, e1 _ _ hp, cl, nS, by show 0 < 1000; decide, ?_⟩
    refine q v _ upd_same (Rp.noI (NoI.upd (e1 _ _ hp)) _ _ (noIns_st _) r1) fun b o hb hne => ?_
    rw [upd_ne hne]
    exact e1 _ _ hb
/-! ### Request.__init__ -/
abbrev sReqInit : Stmt := inClass (topS 86) 0
def spReqInit (CQ : Addr) : Sp := fun vs H Q _ => ∃ p dx : Addr, vs = [.ref p] ∧ H p = some (.ins CQ dx []) ∧ ∀ H', H' p = some (.ins CQ dx [(("registry" : Str), .non)]) → But p H H' → Q .non H'
theorem scReqInit : FnScope ["self"] ["self"] (defScope sReqInit) := ⟨rfl, rfl, rfl, by decide +kernel, rfl, by decide +kernel, by decide +kernel⟩
theorem okReqInit {f : Addr} {fd : FuncData} (F : Fun K "__init__" "Request.__init__" sReqInit f fd) (cl : Cls K CQ) (nS : NoAttr K CQ "registry") : FnOk P w K mg base CX0 1 f fd ["self"] (spReqInit CQ) := by
  refine F.ok scReqInit (fun vs H Q E h => ?_) (fun cdv A outer s H vs Q E hr h => ?_)
  · obtain ⟨p, dx, rfl, _⟩ := h
    rfl
  · obtain ⟨p, dx, rfl, hp, q⟩ := h
    refine ⟨_, pss_one (ps_fld (pv 0) pe_non (by rfl)), ?_⟩
    exact ⟨_, rfl, p, CQ, dx, _, rfl, hp, cl, nS, by show 0 < 1000; decide, q _ upd_same fun b o hb hne => by rw [upd_ne hne]; exact hb⟩

/-! ### done -/
def regO (CR : Addr) : Option Su202.Registry → D
  | none => .non
  | some r => regD CR r
def reqD (CR CQ : Addr) (s : Option Su202.Registry) : D := .ins CQ [("registry" : Str)] [regO CR s]
def WFo : Option Su202.Registry → Prop
  | none => True
  | some r => WF r
abbrev OutR : Type := Except Int (Option Su202.Registry × List Nat)
def ofM : OutM → OutR
  | .ok z => .ok (some z.1, z.2)
  | .error c => .error c
def ofQ (r : Su202.Registry) : OutQ → OutR
  | .ok l => .ok (some r, l)
  | .error c => .error c
inductive Done : Option Su202.Registry → Nat → List Nat → OutR → Prop
  | reset (s : Option Su202.Registry) : Done s 0 [] (.ok (some Su202.empty, [0]))
  | noReg (c : Nat) (ns : List Nat) : 1 ≤ c → Done none c ns (.error (-11))
  | chg (r : Su202.Registry) (c : Nat) (ns : List Nat) (res : OutM) : WF r → Chg r c ns res → Done (some r) c ns (ofM res)
  | ask (r : Su202.Registry) (c : Nat) (ns : List Nat) (q : OutQ) : WF r → Ask r c ns q → Done (some r) c ns (ofQ r q)
def okR (CR CQ : Addr) (z : Option Su202.Registry × List Nat) (En : Ends) (σ : L2.St) (H : Hp) : Prop := ∃ q dx v, σ[0]? = some (some (.ref q)) ∧ H q = some (.ins CQ dx [(("registry" : Str), v)]) ∧
  ∀ v' u H', H' q = some (.ins CQ dx [(("registry" : Str), v')]) → Rp H' v' (regO CR z.1) → Rp H' u (natsD z.2) → NoI H H' → En.rt u H'
theorem okR_stab : Stab (okR CR CQ) := fun z En σ σ' H H' e h0 ⟨a, dx, v, h1, h2, k⟩ => ⟨a, dx, v, h0.trans h1, e _ _ h2, fun v' u H2 q1 q2 q3 q4 => k v' u H2 q1 q2 q3 ((NoI.of e).trans q4)⟩
def spDone (C CR CQ : Addr) : Sp := fun vs H Q E => ∃ a dx v nv c s ns res, vs = [.ref a, .int ((c : Nat) : Int), nv] ∧ H a = some (.ins CQ dx [(("registry" : Str), v)]) ∧ Rp H v (regO CR s) ∧ Rp H nv (natsD ns) ∧ Done s c ns res ∧ match res with
  | .error c => Er C c H E
  | .ok z => ∀ v' u H', H' a = some (.ins CQ dx [(("registry" : Str), v')]) → Rp H' v' (regO CR z.1) → Rp H' u (natsD z.2) → NoI H H' → Q u H'
section
variable {X : Cx} {E : XK} {c : Expr} {body rest : List Stmt} {pos : Pos} {Δ : Sd} {res : OutR}
theorem sr_if {b : Bool} (hc : PT X c (tDT Δ b)) (h1 : b = true → PSs X body (tK C E (okR CR CQ) Δ res)) (h2 : b = false → PSs X rest (tK C E (okR CR CQ) Δ res)) : PSs X (.If c body [] pos :: rest) (tK C E (okR CR CQ) Δ res) :=
  (pss_cons (ps_if hc (PSs.when h1) pss_nil) (PSs.when h2)).imp fun En σ H q => ⟨q.1, fun H1 e1 => by
    have k := q.2.mono okR_stab e1 rfl
    cases b with
    | true =>
      refine ⟨rfl, q.1.mono e1, ?_⟩
      cases res with
      | ok z => exact k
      | error z => exact k
    | false => exact ⟨rfl, q.1.mono e1, k⟩⟩
end
abbrev sDone : Stmt := inClass (topS 86) 1
abbrev nDone : List Str := ["self", "call", "numbers"]
theorem scDone : FnScope nDone nDone (defScope sDone) := ⟨rfl, rfl, rfl, by decide +kernel, rfl, by decide +kernel, by decide +kernel⟩
theorem isNon_reg (s : Option Su202.Registry) : isNon (regO CR s) = s.isNone := by cases s <;> rfl
theorem chg_range {r : Su202.Registry} {c : Nat} {ns : List Nat} {res : OutM} (h : Chg r c ns res) : 1 ≤ c ∧ c < 7 := by cases h <;> exact ⟨by decide, by decide⟩
theorem ask_range {r : Su202.Registry} {c : Nat} {ns : List Nat} {q : OutQ} (h : Ask r c ns q) : 7 ≤ c := by cases h <;> decide
theorem bodyDone (G : Glob K mg) (T : ReqTxt P w K mg base CR CQ) (MR : ∃ (fI : Addr) (fd : FuncData), Mk K CR fI ∧ FnOk P w K mg base CX0 1 fI fd ["self"] (spRegInit CR) ∧ Binds K fd ["self"] []) (C1 : CalS P w K mg base 3 "want" (spW C RWant)) (C2 : CalS P w K mg base 12 "changed" (spChanged C CR)) (C3 : CalS P w K mg base 13 "asked" (spX C RAsked))
    {f : Addr} {cdv : Value} {A : Around} {outer : List Env} {st : Shared} {H : Hp} {E : XK} {qn : Str} (hr : Room 13 (A.deeper (envOfC qn (defScope sDone) st.heap.objs.size f cdv))) {s : Option Su202.Registry} {c : Nat} {ns : List Nat} {res : OutR} (hd : Done s c ns res) :
    PSs (CtxX P w K mg base nDone qn (defScope sDone) f cdv A outer st H E) (defBody sDone) (tK C E (okR CR CQ) (startD nDone [reqD CR CQ s, .int (c : Int), natsD ns]) res) := by
  refine sr_if (b := decide ((c : Int) = 0)) (et_cmp op_eq od_eqI (ev_var 1) (ev_glob G.reset)) (fun h0 => ?_) (fun h0 => ?_)
  · have hc : c = 0 := by
      have := of_decide_eq_true h0
      omega
    subst hc
    cases hd with
    | noReg _ _ h => exact absurd h (by decide)
    | chg _ _ _ _ _ h => exact absurd (chg_range h).1 (by decide)
    | ask _ _ _ _ _ h => exact absurd (ask_range h) (by decide)
    | reset =>
      obtain ⟨fI, fd, M, F, B⟩ := MR
      refine PSs.imp (pss_cons (ps_fld (pv 0) (pe_make0 M F (hr.mono (by decide)) (by rfl) T.gR B .nil pass0) (by rfl)) (pss_one (ps_ret (pe_lst (pa_cons pe_int pa_nil))))) fun En σ H1 q => ?_
      obtain ⟨sl, p, dx, v, hσ, hq, k⟩ := q
      intro x dx' nx nd ne
      refine ⟨x, dx', rfl, upd_same, fun v1 H2 h2 r2 b2 => ⟨rfl, ?_⟩⟩
      have s1 : Same H1 H2 := Same.made nx nd b2
      have hq2 := s1 _ _ hq
      have hpx : p ≠ x := ne_of_none hq nx
      refine ⟨_, hσ, p, CQ, dx, _, rfl, hq2, T.cl, T.nR, by show 1 < 1000; decide, by show 1 ≤ sizeLine; decide, fun u hu => ?_⟩
      rw [put_own] at hu ⊢
      have n2 : NoI H2 (upd H2 p (.ins CQ dx [(("registry" : Str), .ref x)])) := NoI.upd hq2
      refine k (.ref x) (.ref u) _ ?_ ?_ ?_ ?_
      · rw [upd_ne (ne_of_none upd_same hu)]
        exact upd_same
      · refine Rp.mono ?_ (Same.new hu)
        refine .ins (fs := [(("state" : Str), v1)]) (dx := dx') ?_ rfl (.cons (Rp.noI n2 _ _ (noIns_st _) r2) .nil)
        rw [upd_ne (Ne.symm hpx)]
        exact h2
      · exact .lst upd_same (.cons (.int _) .nil)
      · exact ((NoI.of s1).trans n2).trans (NoI.of (Same.new hu))
  · have hc : 1 ≤ c := by
      have := of_decide_eq_false h0
      omega
    refine sk_want (o := wantO s.isSome (-11)) okR_stab (ew_call C1 passX hr (ea_cons (ev_cmp op_notN od_notN (ev_fld T.cl T.nR (ev_var 0)) ev_non) (ea_cons (ev_glob G.noReg) ea_nil)) ⟨s.isSome, _, by rw [isNon_reg]; cases s <;> rfl, rfl⟩) (fun hs => ?_) (fun z hz => ?_)
    · refine sr_if (b := decide ((c : Int) < 7)) (et_cmp op_lt od_lt (ev_var 1) (ev_glob G.firstQuery)) (fun h7 => ?_) (fun h7 => ?_)
      · have hc7 : c < 7 := by
          have := of_decide_eq_true h7
          omega
        cases hd with
        | noReg => cases hs
        | reset => exact absurd hc (by decide)
        | ask _ _ _ _ _ h => exact absurd (ask_range h) (by omega)
        | chg r _ _ m hg h =>
          obtain ⟨fC, fd, ps, F, hm, hk, hb⟩ := C2.ex
          refine (pss_one (ps_ret (pe_call F (hr.mono (by decide)) (by rfl) hm hk hb .nil passX (pa_cons (pe_fld (pv 0) (by rfl)) (pa_cons (pv 1) (pa_cons (pv 2) pa_nil)))))).imp fun En σ H1 q => ?_
          obtain ⟨v0, hσ0, r0⟩ := q.1.at_ 0 _ (show _ = some (some (reqD CR CQ (some r))) from rfl)
          obtain ⟨v1, hσ1, r1⟩ := q.1.at_ 1 _ (show _ = some (some (.int (c : Int))) from rfl)
          obtain ⟨v2, hσ2, r2⟩ := q.1.at_ 2 _ (show _ = some (some (natsD ns)) from rfl)
          cases r1
          cases r0 with
          | @ins p _ dx fs _ _ hp hn hs =>
            match fs, hn, hs with
            | [(f', v)], hn, hs =>
              have e : f' = ("registry" : Str) := by simpa using hn
              subst e
              cases hs with
              | cons hs1 _ =>
                have hs2 : Rp H1 v (regD CR r) := hs1
                cases hs1 with
                | @ins a _ dxr fr _ _ ha hn2 ht =>
                  match fr, hn2, ht with
                  | [(f2, vs)], hn2, ht =>
                    have e2 : f2 = ("state" : Str) := by simpa using hn2
                    subst e2
                    cases ht with
                    | cons ht1 _ =>
                      refine ⟨_, hσ0, p, CQ, dx, _, .ref a, rfl, hp, T.cl, T.nR, by simp [List.lookup], _, hσ1, _, hσ2, ?_⟩
                      refine ⟨a, dxr, vs, v2, c, r, ns, m, rfl, ha, ht1, r2, hg, h, ?_⟩
                      cases m with
                      | error z => exact (show Er C z H1 E from q.2)
                      | ok z =>
                        obtain ⟨p', dx', v', g1, g2, k⟩ := (show okR CR CQ (some z.1, z.2) En σ H1 from q.2)
                        rw [hσ0] at g1
                        cases g1
                        rw [hp] at g2
                        cases g2
                        refine fun v' u H2 w1 w2 w3 w4 => k (.ref a) u H2 (w4 _ _ hp fun z => ?_) (.ins w1 rfl (.cons w2 .nil)) w3 (NoI.but ha w4)
                        rw [z, ha] at hp
                        have e3 := congrArg (fun o : Option HO => match o with
                          | some (.ins _ _ ((n, _) :: _)) => n
                          | _ => ("" : Str)) hp
                        exact absurd (show ("state" : Str) = ("registry" : Str) from e3) (by decide)
      · have hc7 : 7 ≤ c := by
          have := of_decide_eq_false h7
          omega
        cases hd with
        | noReg => cases hs
        | reset => exact absurd hc (by decide)
        | chg _ _ _ _ _ h => exact absurd (chg_range h).2 (by omega)
        | ask r _ _ m hg h =>
          obtain ⟨fC, fd, ps, F, hm, hk, hb⟩ := C3.ex
          refine (pss_one (ps_ret (pe_call F (hr.mono (by decide)) (by rfl) hm hk hb .nil passX (ea_cons (ev_fld T.clR T.nS (ev_fld T.cl T.nR (ev_var (d := reqD CR CQ (some r)) 0))) (ea_cons (ev_var 1) (ea_cons (ev_var 2) ea_nil)))))).imp fun En σ H1 q => ⟨q.1, fun vs H2 e2 r2 _ => ⟨[stD r, .int (c : Int), natsD ns], mapD m, by rw [List.append_nil]; exact r2, ⟨r, c, ns, m, hg, h, rfl, rfl⟩, ?_⟩⟩
          cases m with
          | error z => exact Er.mono (show Er C z H1 E from q.2) e2
          | ok l =>
            obtain ⟨p, dx, v, g1, g2, k⟩ := (show okR CR CQ (some r, l) En σ H1 from q.2)
            refine fun u H3 e3 r3 => k v u H3 (e3 _ _ (e2 _ _ g2)) ?_ r3 (NoI.of (e2.trans e3))
            obtain ⟨v0, hσ0, r0⟩ := q.1.at_ 0 _ (show _ = some (some (reqD CR CQ (some r))) from rfl)
            rw [g1] at hσ0
            cases hσ0
            cases r0 with
            | ins ha hn hs =>
              rw [g2] at ha
              cases ha
              cases hs with
              | cons hs1 _ => exact (hs1.mono e2).mono e3
    · cases hd with
      | noReg => cases hz; rfl
      | reset => exact absurd hc (by decide)
      | chg => cases hz
      | ask => cases hz
end
end Ow
/-! Request.answer -/
namespace Ow
open PySem PySem.Spec PyProof.Rows L2
/-- o.m(e, ..) within a try: what it raises is wished for at the slots as they stand -/
def tMethS (C : Addr) (m : Str) (sp : Sp) (E : L2.St → XK) (ta : TE) (t : TA) : TE := fun σ H Q => ta σ H fun x H1 => ∃ a dx fs, x = .ref a ∧ H1 a = some (.ins C dx fs) ∧ fs.lookup m = none ∧ t σ H1 fun vs H2 => sp (x :: vs) H2 Q (E σ)
theorem pe_methS {X : Cx} {CX : CXT} {k : Nat} {f C : Addr} {fd : FuncData} {ps : List Str} {sp : Sp} {E : L2.St → XK} {m : Str} {pos apos : Pos} {e o : Expr} {es : List Expr} {ta : TE} {t : TA} {pl : Sem Bool} (he : PE X o ta) (c : Cls X.K C) (hm : Meth X.K C m f)
    (F : FnOk X.prog X.w X.K X.mg X.base CX k f fd ps sp) (hr : Room k X.A) (hb : Binds X.K fd ps []) (hx : ∀ σ, PassesAt CX X σ (E σ)) (ha : PA X (e :: es) t)
    (hst : starEach (e :: es) X.env = (false, eval e X.env) :: starEach es X.env := by rfl) (hpl : (backTo pos (starEach es X.env)).any (·.1) = false := by rfl)
    (ht : eval (.Call (.Attribute o m apos) (e :: es) [] pos) X.env = (do
      let ov ← eval o X.env
      standAt apos.atName
      let (f, first) ← holding [ov] (getMethod ov m pl)
      callWith pos f first (backTo pos (starEach (e :: es) X.env)) (backToKw pos (keywordEach [] X.env))) := by rfl) :
    PE X (.Call (.Attribute o m apos) (e :: es) [] pos) (tMethS C m sp E ta t) := by
  refine ⟨fun pins s σ H Q I h => ?_⟩
  refine PySem.W.methodCall_KW (pl := pl) (thn (he.run pins s σ H _ I h) fun u s1 ⟨x, H1, I1, rx, a, dx, fs, ex, ea, l, q⟩ => ?_) ht
  subst ex
  obtain rfl : u = Value.ref a := rx
  refine getmeth_ok I1 ea c hm l ?_
  refine PySem.W.callWith_K (first := [.ref a]) (h₀ := X.base) I.ok.mod.kin hm.kp (thn (ha.run pos pins s1 σ H1 _ I1 q) fun us s2 ⟨vs, H2, I2, r, q2⟩ => ⟨I2.kIn, ?_⟩) hst hpl
  exact run_fnS (us := .ref a :: us) (vs := .ref a :: vs) F hr hb (hx σ) I2 (.cons rfl r) q2
section
variable {P : Program} {w : World} {K : PySem.W.Frag} {mg : Str → Option Value} {base : Heap} {C CR CQ : Addr}
theorem okDone {f : Addr} {fd : FuncData} (F : Fun K "done" "Request.done" sDone f fd) (G : Glob K mg) (T : ReqTxt P w K mg base CR CQ) (MR : ∃ (fI : Addr) (fd : FuncData), Mk K CR fI ∧ FnOk P w K mg base CX0 1 fI fd ["self"] (spRegInit CR) ∧ Binds K fd ["self"] []) (C1 : CalS P w K mg base 3 "want" (spW C RWant)) (C2 : CalS P w K mg base 12 "changed" (spChanged C CR)) (C3 : CalS P w K mg base 13 "asked" (spX C RAsked)) :
    FnOk P w K mg base (L2.CX P w) 14 f fd nDone (spDone C CR CQ) := by
  refine F.okX scDone (fun vs H Q E h => ?_) (fun cdv A outer s H vs Q E hr h => ?_)
  · obtain ⟨a, dx, v, nv, c, s, ns, res, rfl, _⟩ := h
    rfl
  · obtain ⟨a, dx, v, nv, c, z, ns, res, rfl, ha, hv, hn, hd, q⟩ := h
    refine ⟨_, bodyDone G T MR C1 C2 C3 hr hd, Sl.start (.cons (.ins ha rfl (.cons hv .nil)) (.cons (.int _) (.cons hn .nil))), ?_⟩
    cases res with
    | ok z => exact ⟨a, dx, v, rfl, ha, q⟩
    | error c => exact q
/-! ### answer -/
def Do (s : Option Su202.Registry) (c : Nat) (ns : List Nat) (s' : Option Su202.Registry) (told : List Int) : Prop := ∃ res, Done s c ns res ∧ match res with
  | .ok z => s' = z.1 ∧ told = z.2.map fun x : Nat => (x : Int)
  | .error e => s' = s ∧ told = [e]
def spAnswer (CR CQ : Addr) : Sp := fun vs H Q _ => ∃ a dx v nv c s ns s' told, vs = [.ref a, .int ((c : Nat) : Int), nv] ∧ H a = some (.ins CQ dx [(("registry" : Str), v)]) ∧ Rp H v (regO CR s) ∧ Rp H nv (natsD ns) ∧ Do s c ns s' told ∧
  ∀ v' p H', H' a = some (.ins CQ dx [(("registry" : Str), v')]) → Rp H' v' (regO CR s') → H' p = some (.lst (told.map V.int)) → NoI H H' → Q (.ref p) H'
abbrev sAnswer : Stmt := inClass (topS 86) 2
abbrev nAnswer : List Str := ["self", "call", "numbers", "told", "e"]
theorem scAnswer : FnScope nAnswer ["self", "call", "numbers"] (defScope sAnswer) := ⟨rfl, rfl, rfl, by decide +kernel, rfl, by decide +kernel, by decide +kernel⟩
/-- told = [e.code], e the error at a -/
def tCode (C : Addr) : Addr → Value → Option Addr → TS := fun a cls d => tAsg (tLst (tCons (tXf a cls d C "code" (tVar 4)) tNil)) (gName 3)
def tAnswer (K : PySem.W.Frag) (C CR CQ : Addr) : TS :=
  tSeq (fun D σ H => tAsg (tMethS CQ "done" (spDone C CR CQ) (WE (wAs K (.ref C) 4 (tCode C) (fun _ _ _ _ => False) D)) (tVar 0) (tCons (tVar 1) (tCons (tVar 2) tNil))) (gName 3) D σ H) (tRet (tVar 3))
theorem look_done {v : V} : List.lookup ("done" : Str) [(("registry" : Str), v)] = none := by
  have e : (("done" : Str) == ("registry" : Str)) = false := by decide
  simp [List.lookup, e]
theorem look_answer {v : V} : List.lookup ("answer" : Str) [(("registry" : Str), v)] = none := by
  have e : (("answer" : Str) == ("registry" : Str)) = false := by decide
  simp [List.lookup, e]
theorem natsD_rp {H : Hp} {v : V} {l : List Nat} (h : Rp H v (natsD l)) : ∃ p, v = .ref p ∧ H p = some (.lst ((l.map fun x : Nat => (x : Int)).map V.int)) := by
  cases h with
  | @lst p xs _ hp hs =>
    refine ⟨p, rfl, ?_⟩
    have e : (l.map fun o : Nat => D.int (o : Int)) = (l.map fun x : Nat => (x : Int)).map D.int := by rw [List.map_map]; rfl
    rw [e] at hs
    rw [hs.ints] at hp
    exact hp
theorem pureAnswer (T : RefTxt K mg C) (vs : List V) (H : Hp) (Q : VK) (E : XK) (h : spAnswer CR CQ vs H Q E) : tAnswer K C CR CQ { nx := fun _ H' => Q .non H', rt := Q } (start nAnswer vs) H := by
  obtain ⟨a, dx, v, nv, c, s, ns, s', told, rfl, ha, hv, hn, ⟨res, hd, hres⟩, k⟩ := h
  refine ⟨_, rfl, a, dx, _, rfl, ha, look_done, _, rfl, _, rfl, a, dx, v, nv, c, s, ns, res, rfl, ha, hv, hn, hd, ?_⟩
  cases res with
  | ok z =>
    obtain ⟨rfl, rfl⟩ := hres
    intro v' u H' w1 w2 w3 w4
    obtain ⟨p, rfl, hp⟩ := natsD_rp w3
    exact ⟨_, rfl, k v' p H' w1 w2 hp w4⟩
  | error z =>
    obtain ⟨rfl, rfl⟩ := hres
    intro d H' e2 hd2
    refine ⟨true, T.te, fun _ a0 na => ?_, fun q => Bool.noConfusion q⟩
    refine ⟨_, rfl, rfl, rfl, d, _, .int z, rfl, hd2, by simp [List.lookup], by show 1 ≤ sizeLine; decide, fun p hp => ?_⟩
    refine ⟨_, rfl, k v p _ ?_ ?_ upd_same (NoI.of (e2.trans (Same.new hp)))⟩
    · rw [upd_ne (ne_of_none (e2 _ _ ha) hp)]
      exact e2 _ _ ha
    · exact (hv.mono e2).mono (Same.new hp)
theorem okAnswer {f fD : Addr} {fd fdD : FuncData} (F : Fun K "answer" "Request.answer" sAnswer f fd) (T : RefTxt K mg C) (TQ : ReqTxt P w K mg base CR CQ) (FD : FnOk P w K mg base (L2.CX P w) 14 fD fdD nDone (spDone C CR CQ)) (bD : Binds K fdD nDone []) (mD : Meth K CQ "done" fD) : FnOk P w K mg base CX0 15 f fd ["self", "call", "numbers"] (spAnswer CR CQ) := by
  refine F.ok scAnswer (fun vs H Q E h => ?_) (fun cdv A outer s H vs Q E hr h => ⟨tAnswer K C CR CQ, ?_, pureAnswer T vs H Q E h⟩)
  · obtain ⟨a, dx, v, nv, c, s, ns, s', told, rfl, _⟩ := h
    rfl
  · exact pss_cons (ps_try_as (i := 4) (tb := fun W => tAsg (tMethS CQ "done" (spDone C CR CQ) (WE W) (tVar 0) (tCons (tVar 1) (tCons (tVar 2) tNil))) (gName 3)) (ts := tCode C) (Wout := fun _ _ _ _ => False) rfl rfl scAnswer.nd rfl rfl ⟨rfl, by decide, Or.inl T.gC⟩ takes0
        (fun W pn xe tk _ => pss_one (ps_set (i := 3) scAnswer.nd rfl (Or.inl rfl) (by exact (pe_methS (pv 0) TQ.cl mD FD hr bD (fun σ => passAt tk σ) (by exact (pa_cons (pv 1) (pa_cons (pv 2) pa_nil)))))))
        (fun a oe cls d pn hz hf => pss_one (ps_set (i := 3) scAnswer.nd rfl (Or.inl rfl) (by exact (pe_lst (pa_cons (pe_xf T.xf T.noC hz hf (pv 4)) pa_nil))))))
      (pss_one (ps_ret (pv 3)))
end
end Ow
/-! answers -/
namespace Ow
open PySem PySem.Spec PyProof.Rows L2
abbrev numsM : List Int := [0, 4, 1, 4, 4, 1, 1, 3, 1, 1, 1, 1, 1, 4, 0, 1, 0, 0]
/-- what is left of a request, from a state, gives out -/
inductive Rem : Option Su202.Registry → List Int → List Int → Prop
  | nil (s : Option Su202.Registry) : Rem s [] []
  | cons (s s' : Option Su202.Registry) (c : Nat) (args : List Nat) (told rest out : List Int) : Do s c args s' told → numsM[c]? = some (args.length : Int) → Rem s' rest out → Rem s ((c : Int) :: ((args.map fun x : Nat => (x : Int)) ++ rest)) ((told.length : Int) :: (told ++ out))
def spAns (K : PySem.W.Frag) : Sp := fun vs H Q _ => ∃ (a : Addr) (ns out : List Int), vs = [.ref a] ∧ SqL K H a (ns.map V.int) ∧ Rem none ns out ∧ out.length ≤ 10000000 ∧
  ∀ (H' : Hp) (p : Addr), H' p = some (.lst (out.map V.int)) → Q (.ref p) H'
theorem SqL.noI {K : PySem.W.Frag} {H H' : Hp} {a : Addr} {xs : List V} (e : NoI H H') (h : SqL K H a xs) : SqL K H' a xs := by
  rcases h with (h | ⟨o, h⟩) | h
  · exact .inl (.inl (e _ _ h rfl))
  · exact .inl (.inr ⟨o, e _ _ h rfl⟩)
  · exact .inr h
theorem if_yes {c : Bool} {A B : Prop} (hc : c = true) (h : A) : if c = true then A else B := by
  rw [if_pos hc]
  exact h
theorem if_no {c : Bool} {A B : Prop} (hc : c = false) (h : B) : if c = true then A else B := by
  rw [hc, if_neg Bool.false_ne_true]
  exact h
section
variable {P : Program} {w : World} {K : PySem.W.Frag} {mg : Str → Option Value} {base : Heap} {C CR CQ : Addr}
abbrev sAns : Stmt := topS 87
abbrev nAns : List Str := ["calls", "request", "found", "place", "behind", "told"]
theorem scAns : FnScope nAns ["calls"] (defScope sAns) := ⟨rfl, rfl, rfl, by decide +kernel, rfl, by decide +kernel, by decide +kernel⟩
/-- behind so many numbers of the request -/
structure Pv (K : PySem.W.Frag) (CR CQ c0 : Addr) (ns out : List Int) (m : Nat) (σ : L2.St) (H : Hp) : Prop where
  ex : ∃ (n : Nat) (acc out' : List Int) (q f dx : Addr) (v : V) (s : Option Su202.Registry) (b t : Option V), m = ns.length - n ∧ n ≤ ns.length ∧ σ = [some (.ref c0), some (.ref q), some (.ref f), some (.int (n : Int)), b, t] ∧ H f = some (.lst (acc.map V.int)) ∧
    SqL K (del H f) c0 (ns.map V.int) ∧ del H f q = some (.ins CQ dx [(("registry" : Str), v)]) ∧ Rp (del H f) v (regO CR s) ∧ Rem s (ns.drop n) out' ∧ acc ++ out' = out
theorem okAns {f fI fA : Addr} {fd fdI fdA : FuncData} (F : Fun K "answers" "answers" sAns f fd) (G : Glob K mg) (T : ReqTxt P w K mg base CR CQ) (M : Mk K CQ fI) (FI : FnOk P w K mg base CX0 1 fI fdI ["self"] (spReqInit CQ)) (bI : Binds K fdI ["self"] [])
    (FA : FnOk P w K mg base CX0 15 fA fdA ["self", "call", "numbers"] (spAnswer CR CQ)) (bA : Binds K fdA ["self", "call", "numbers"] []) (mA : Meth K CQ "answer" fA) : FnOk P w K mg base CX0 17 f fd ["calls"] (spAns K) := by
  refine F.ok scAns (fun vs H Q E h => ?_) (fun cdv A outer s H vs Q E hr h => ?_)
  · obtain ⟨a, ns, out, rfl, _⟩ := h
    rfl
  · obtain ⟨c0, ns, out, rfl, hS, hR, hlen, k⟩ := h
    obtain ⟨aN, hmN, hqN⟩ := G.numbers
    refine ⟨_, pss_cons (ps_set (i := 1) scAns.nd rfl (Or.inl rfl) (pe_make0 M FI (hr.mono (by decide)) (by rfl) T.gQ bI .nil pass0))
      (pss_cons (ps_set (i := 2) scAns.nd rfl (Or.inl rfl) (pe_lst pa_nil))
      (pss_cons (ps_set (i := 3) scAns.nd rfl (Or.inl rfl) pe_int)
      (pss_cons (ps_while PassesOwn.never (pt_cmpR op_lt (pv 3) (pe_callB call_len_seq (by rfl) G.nLen PySem.boot_len (pa_cons (pv 0) pa_nil) (by decide) (by decide) (by rfl) (by rfl)) (nomark _))
        (pss_cons (ps_set (i := 4) scAns.nd rfl (Or.inl rfl) (pe_op op_add (pe_op op_add (pv 3) pe_int) (pe_ix ix_tup (pe_glob (by rfl) hmN (v := .ref aN) rfl (by decide)) (pe_ix ix_list (pv 0) (pv 3) (fun _ _ => rfl)) (fun _ _ => rfl))))
        (pss_cons (ps_set (i := 5) scAns.nd rfl (Or.inl rfl) (PE.frame (pe_meth (pv 1) T.cl mA FA (hr.mono (by decide)) bA .nil pass0 (pa_cons (pe_ix ix_list (pv 0) (pv 3) (fun _ _ => rfl)) (pa_cons (pe_slice sl_list (pv 0) (po_some (pe_op op_add (pv 3) pe_int)) (po_some (pv 4))) pa_nil)))))
        (pss_cons (ps_set (i := 3) scAns.nd rfl (Or.inl rfl) (pv 4))
        (pss_cons (ps_expr (pe_bm PySem.F.plainAttrs_list PySem.F.slot_list_append PySem.F.type_list_append mt_append (pv 2) (pa_cons (pe_callB call_len_seq (by rfl) G.nLen PySem.boot_len (pa_cons (pv 5) pa_nil) (by decide) (by decide) (by rfl) (by rfl)) pa_nil)))
        (pss_one (ps_expr (pe_bm PySem.F.plainAttrs_list PySem.F.slot_list_extend PySem.F.type_list_extend mt_extend (pv 2) (pa_cons (pv 5) pa_nil)))))))))
      (pss_one (ps_ret (pv 2)))))), ?_⟩
    intro q dx nx nd ne
    refine ⟨q, dx, rfl, upd_same, fun H1 hq b1 => ⟨rfl, ?_⟩⟩
    have s1 : Same H H1 := Same.made nx nd b1
    refine ⟨by show 0 ≤ sizeLine; decide, fun f0 hf0 => ?_⟩
    have ed : del (upd H1 f0 (.lst [])) f0 = H1 := del_upd hf0
    refine ⟨Pv K CR CQ c0 ns out, ⟨_, ⟨0, [], out, q, f0, dx, .non, none, none, none, rfl, Nat.zero_le _, rfl, upd_same, by rw [ed]; exact s1.seq hS, by rw [ed]; exact hq, by rw [ed]; exact .non, hR, rfl⟩⟩, ?_⟩
    rintro m σ H2 ⟨n, acc, out', q, f0, dx, v, z, b, t, rfl, hn, rfl, hf, hc, hq, hv, hrem, hacc⟩
    have hc2 : SqL K H2 c0 (ns.map V.int) := same_del.seq hc
    refine ⟨_, rfl, _, rfl, c0, ns.map V.int, rfl, .inl hc2, _, _, rfl, rfl, _, rfl, ?_⟩
    rw [List.length_map]
    by_cases hlt : n < ns.length
    · refine if_yes (decide_eq_true (by omega)) ?_
      refine ⟨fun σ' H' => ∃ m', m' < ns.length - n ∧ Pv K CR CQ c0 ns out m' σ' H', fun _ _ x => x, ?_⟩
      generalize hd : ns.drop n = rest0 at hrem
      cases hrem with
      | nil =>
        have := congrArg List.length hd
        rw [List.length_drop, List.length_nil] at this
        omega
      | cons _ z' c args told rest out2 hdo hnum hrest =>
        have hat : ns[n]? = some (c : Int) := by
          have := congrArg (fun l : List Int => l[0]?) hd
          rw [List.getElem?_drop, Nat.add_zero] at this
          exact this
        have hatV : (ns.map V.int)[n]? = some (V.int (c : Int)) := by rw [List.getElem?_map, hat]; rfl
        have hnumV : (numsM.map V.int)[c]? = some (V.int (args.length : Int)) := by rw [List.getElem?_map, hnum]; rfl
        have hlenr : n + 1 + args.length ≤ ns.length := by
          have := congrArg List.length hd
          rw [List.length_drop, List.length_cons, List.length_append, List.length_map] at this
          omega
        have hdr : ns.drop (n + 1 + args.length) = rest := by
          have e1 : ns.drop (n + (1 + args.length)) = rest := by
            rw [← List.drop_drop, hd, Nat.add_comm 1, List.drop_succ_cons, List.drop_append_of_le_length (by rw [List.length_map]; exact Nat.le_refl _), List.drop_of_length_le (by rw [List.length_map]; exact Nat.le_refl _), List.nil_append]
          rw [Nat.add_assoc]
          exact e1
        have hcut : cutV (ns.map V.int) (some ((n : Int) + 1)) (some ((n : Int) + 1 + (args.length : Int))) = (args.map fun x : Nat => (x : Int)).map V.int := by
          have e := cut_mid (ns.map V.int) (n + 1) (n + 1 + args.length) (by omega)
          rw [show n + 1 + args.length - (n + 1) = args.length by omega] at e
          refine e.trans ?_
          rw [← List.map_drop, ← List.map_take]
          refine congrArg (List.map V.int) ?_
          rw [← List.drop_drop, hd, List.drop_succ_cons, List.drop_zero, List.take_append_of_le_length (by rw [List.length_map]; exact Nat.le_refl _), List.take_of_length_le (by rw [List.length_map]; exact Nat.le_refl _)]
        refine ⟨_, rfl, _, _, rfl, rfl, _, rfl, _, rfl, c0, _, _, _, rfl, rfl, hc2, atI_nat hatV, aN, _, _, _, rfl, rfl, hqN H2, atI_nat hnumV, _, _, rfl, rfl, ?_⟩
        refine ⟨f0, _, hf, rfl, _, rfl, q, dx, _, rfl, hq, look_answer, _, rfl, _, rfl, c0, _, _, _, rfl, rfl, hc, atI_nat hatV, _, rfl, ⟨_, rfl, _, _, rfl, rfl, _, rfl, _, rfl, _, rfl, ?_⟩⟩
        refine ⟨c0, _, rfl, hc, fun p hp => ?_⟩
        have sp1 : Same (del H2 f0) (upd (del H2 f0) p (.lst (cutV (ns.map V.int) (some ((n : Int) + 1)) (some ((n : Int) + 1 + (args.length : Int)))))) := Same.new hp
        have hbound : acc.length + (told.length + 1) ≤ 10000000 := by
          have := congrArg List.length hacc
          rw [List.length_append, List.length_cons, List.length_append] at this
          omega
        refine ⟨q, dx, v, .ref p, c, z, args, z', told, rfl, sp1 _ _ hq, hv.mono sp1, ?_, hdo, fun v' t' H3 w1 w2 w3 w4 => ?_⟩
        · rw [hcut]
          refine .lst upd_same ?_
          rw [show (args.map fun o : Nat => D.int (o : Int)) = (args.map fun x : Nat => (x : Int)).map D.int by rw [List.map_map]; rfl]
          exact RpAll.ofInts _
        · have n3 : NoI (del H2 f0) H3 := (NoI.of sp1).trans w4
          refine ⟨fun b xs h => n3 b _ h rfl, fun hn3 => ?_⟩
          have htf : t' ≠ f0 := ne_of_none w3 hn3
          refine ⟨_, rfl, _, rfl, Or.inl ⟨rfl, _, SqL.of upd_same⟩, _, rfl, t', _, rfl, .inl (SqL.of (by rw [upd_ne htf]; exact w3)), f0, _, _, rfl, rfl, upd_same, ?_, ?_⟩
          · rw [List.length_map, sizeLine_eq]
            omega
          refine ⟨_, rfl, Or.inl ⟨rfl, _, SqL.of upd_same⟩, _, rfl, f0, t', _, told.map V.int, rfl, rfl, upd_same, by rw [upd_ne htf, upd_ne htf]; exact w3, ?_, ?_⟩
          · rw [List.length_append, List.length_map, List.length_map, List.length_singleton, sizeLine_eq]
            omega
          have ed : ∀ o, del (upd (upd (upd H3 f0 (.lst (acc.map V.int))) f0 (.lst (acc.map V.int ++ [.int ((told.map V.int).length : Int)]))) f0 o) f0 = H3 := fun o => by rw [same_delU, same_delU, del_upd hn3]
          refine ⟨ns.length - (n + 1 + args.length), by omega, ⟨n + 1 + args.length, acc ++ (told.length : Int) :: told, out2, q, f0, dx, v', z', _, _, rfl, hlenr, rfl, ?_, ?_, ?_, ?_, ?_, ?_⟩⟩
          · rw [upd_same, List.length_map, List.map_append, List.map_cons, List.append_assoc]
            rfl
          · rw [ed]
            exact SqL.noI n3 hc
          · rw [ed]
            exact w1
          · rw [ed]
            exact w2
          · rw [hdr]
            exact hrest
          · rw [← hacc, List.append_assoc]
            rfl
    · refine if_no (by rw [decide_eq_false_iff_not]; omega) ?_
      have en : n = ns.length := by omega
      subst en
      rw [List.drop_length] at hrem
      cases hrem
      rw [List.append_nil] at hacc
      subst hacc
      exact ⟨_, rfl, k _ f0 hf⟩
end
end Ow
/-! what the deeds tell is what the specification's steps tell -/
namespace Ow
open PySem PySem.Spec PyProof.Rows L2
def cast1 (l : List Nat) : List Int := l.map fun x : Nat => (x : Int)
def encR (x : Su202.Registry × Su202.Result) : Su202.Registry × List Int := (x.1, x.2.value :: Su202Neutral.outs x.2.fields)
def outMR (r : Su202.Registry) : OutM → Su202.Registry × List Int
  | .ok z => (z.1, cast1 z.2)
  | .error e => (r, [e])
def outQR (r : Su202.Registry) : OutQ → Su202.Registry × List Int
  | .ok l => (r, cast1 l)
  | .error e => (r, [e])
theorem mT {r : Su202.Registry} {b : Bool} {c : Int} {res : OutM} (h : b = true) : outMR r (refuse (wantO b c) res) = outMR r res := by rw [h]; rfl
theorem mF {r : Su202.Registry} {b : Bool} {c : Int} {res : OutM} (h : b = false) : outMR r (refuse (wantO b c) res) = (r, [c]) := by rw [h]; rfl
theorem qT {r : Su202.Registry} {b : Bool} {c : Int} {res : OutQ} (h : b = true) : outQR r (refuse (wantO b c) res) = outQR r res := by rw [h]; rfl
theorem qF {r : Su202.Registry} {b : Bool} {c : Int} {res : OutQ} (h : b = false) : outQR r (refuse (wantO b c) res) = (r, [c]) := by rw [h]; rfl
theorem refuse_seq {α : Type} (o1 o2 : Option Int) (r : Except Int α) : refuse (seqO o1 o2) r = refuse o1 (refuse o2 r) := by cases o1 <;> rfl
theorem encR_err (r : Su202.Registry) (c : Int) : encR (r, Su202.error c) = (r, [c]) := rfl
theorem encR_ok (r t : Su202.Registry) (n : Nat) (l : List Nat) : encR (t, Su202.ok n l) = outMR r (.ok (t, n :: l)) := rfl
theorem encQ_ok (r : Su202.Registry) (n : Nat) (l : List Nat) : encR (r, Su202.ok n l) = outQR r (.ok (n :: l)) := rfl
theorem roaRow_eq (g : Su202.Roa) (a l m o : Nat) : roaRow g = [(a : Int), l, m, o] ↔ g = ⟨a, l, m, o⟩ := by
  obtain ⟨a', l', m', o'⟩ := g
  simp only [roaRow, List.cons.injEq, and_true, Su202.Roa.mk.injEq]
  omega
theorem annRow_eq (g : Su202.Announcement) (a l m o : Nat) : annRow g = [(a : Int), l, m, o] ↔ g = ⟨a, l, m, o⟩ := by
  obtain ⟨a', l', m', o'⟩ := g
  simp only [annRow, List.cons.injEq, and_true, Su202.Announcement.mk.injEq]
  omega
theorem any_roa (rs : List Su202.Roa) (a l m o : Nat) : ((rs.map roaRow).any fun z => decide (z = [(a : Int), l, m, o])) = rs.contains ⟨a, l, m, o⟩ := by
  rw [Bool.eq_iff_iff, List.any_map, List.any_eq_true, List.contains_iff_mem]
  constructor
  · rintro ⟨g, hg, h⟩
    have := (roaRow_eq g a l m o).mp (of_decide_eq_true h)
    rw [← this]
    exact hg
  · intro h
    exact ⟨_, h, decide_eq_true ((roaRow_eq _ a l m o).mpr rfl)⟩
theorem any_ann (rs : List Su202.Announcement) (a l m o : Nat) : ((rs.map annRow).any fun z => decide (z = [(a : Int), l, m, o])) = rs.contains ⟨a, l, m, o⟩ := by
  rw [Bool.eq_iff_iff, List.any_map, List.any_eq_true, List.contains_iff_mem]
  constructor
  · rintro ⟨g, hg, h⟩
    have := (annRow_eq g a l m o).mp (of_decide_eq_true h)
    rw [← this]
    exact hg
  · intro h
    exact ⟨_, h, decide_eq_true ((annRow_eq _ a l m o).mpr rfl)⟩
theorem withR_eq (r : Su202.Registry) (m : Nat) : withR r m = r.tighten m := by
  unfold withR Su202.Registry.tighten tightM tightN Su202.Registry.ownValidAnnouncements
  rw [List.take_length]
  rfl
theorem tightM_eq (r : Su202.Registry) (m : Nat) : tightM r.roas r.announcements m = (r.tighten m).roas := congrArg Su202.Registry.roas (withR_eq r m)
theorem leftM_eq (r : Su202.Registry) (a l m o : Nat) : leftM r a l m o = r.announcements.filter fun s => s != ⟨a, l, m, o⟩ := by
  unfold leftM
  refine List.filter_congr fun s _ => ?_
  rw [Bool.eq_iff_iff, bne_iff_ne, Bool.not_eq_true', decide_eq_false_iff_not, annRow_eq]
/-! ### the changes -/
theorem ex_addRoa (r : Su202.Registry) (a l m o : Nat) : encR (Su202.execute r (.addRoa a l m o)) = outMR r (addRoaM r a l m o) := by
  unfold addRoaM
  rw [any_roa]
  simp only [Su202.execute]
  unfold Su202.memberCount Su202.addressBits Su202.maxRoas
  by_cases h1 : 8 ≤ o
  · rw [if_pos h1, mF (decide_eq_false (show ¬ o < 8 by omega))]
    rfl
  rw [if_neg h1, mT (decide_eq_true (show o < 8 by omega))]
  by_cases h2 : Su202.isPrefix a l = true
  · rw [mT h2]
    by_cases h3 : m < l ∨ 6 < m
    · rw [if_pos (Or.inr h3), mF (show (decide ((l : Int) ≤ m) && decide ((m : Int) ≤ 6)) = false by
        rw [Bool.and_eq_false_iff, decide_eq_false_iff_not, decide_eq_false_iff_not]
        omega)]
      rfl
    · have h3' : ¬ (Su202.isPrefix a l = false ∨ m < l ∨ 6 < m) := fun q => q.elim (fun z => by rw [h2] at z; exact Bool.noConfusion z) h3
      rw [if_neg h3', mT (show (decide ((l : Int) ≤ m) && decide ((m : Int) ≤ 6)) = true by
        rw [Bool.and_eq_true, decide_eq_true_eq, decide_eq_true_eq]
        omega)]
      by_cases h4 : r.roas.contains ⟨a, l, m, o⟩ = true
      · rw [if_pos h4, mF (show (!r.roas.contains ⟨a, l, m, o⟩) = false by rw [h4]; rfl)]
        rfl
      · rw [if_neg h4, mT (show (!r.roas.contains ⟨a, l, m, o⟩) = true by rw [Bool.eq_false_iff.mpr h4]; rfl)]
        by_cases h5 : 12 ≤ r.roas.length
        · rw [if_pos h5, mF (decide_eq_false (show ¬ (r.roas.length : Int) < 12 by omega))]
          rfl
        · rw [if_neg h5, mT (decide_eq_true (show (r.roas.length : Int) < 12 by omega))]
          rfl
  · rw [if_pos (Or.inl (Bool.eq_false_iff.mpr h2)), mF (Bool.eq_false_iff.mpr h2)]
    rfl
theorem ex_remRoa (r : Su202.Registry) (n : Nat) : encR (Su202.execute r (.removeRoa n)) = outMR r (remRoaM r n) := by
  unfold remRoaM
  simp only [Su202.execute]
  by_cases h : r.roas.length ≤ n
  · rw [if_pos h, mF (decide_eq_false (show ¬ (n : Int) < (r.roas.length : Int) by omega))]
    rfl
  · rw [if_neg h, mT (decide_eq_true (show (n : Int) < (r.roas.length : Int) by omega))]
    rfl
theorem ex_announce (r : Su202.Registry) (a l m o : Nat) : encR (Su202.execute r (.announce a l m o)) = outMR r (announceM r a l m o) := by
  unfold announceM wantAnnO
  rw [refuse_seq, refuse_seq, any_ann]
  simp only [Su202.execute]
  unfold Su202.memberCount Su202.maxAnnouncements
  by_cases h1 : 8 ≤ m
  · rw [if_pos (Or.inl h1), mF (decide_eq_false (show ¬ m < 8 by omega))]
    rfl
  rw [mT (decide_eq_true (show m < 8 by omega))]
  by_cases h1b : 8 ≤ o
  · rw [if_pos (Or.inr h1b), mF (decide_eq_false (show ¬ o < 8 by omega))]
    rfl
  rw [if_neg (fun q => q.elim h1 h1b), mT (decide_eq_true (show o < 8 by omega))]
  by_cases h2 : Su202.isPrefix a l = true
  · rw [if_neg (show ¬ Su202.isPrefix a l = false by rw [h2]; exact Bool.noConfusion), mT h2]
    by_cases h4 : r.announcements.contains ⟨a, l, m, o⟩ = true
    · rw [if_pos h4, mF (show (!r.announcements.contains ⟨a, l, m, o⟩) = false by rw [h4]; rfl)]
      rfl
    · rw [if_neg h4, mT (show (!r.announcements.contains ⟨a, l, m, o⟩) = true by rw [Bool.eq_false_iff.mpr h4]; rfl)]
      by_cases h5 : 16 ≤ r.announcements.length
      · rw [if_pos h5, mF (decide_eq_false (show ¬ (r.announcements.length : Int) < 16 by omega))]
        rfl
      · rw [if_neg h5, mT (decide_eq_true (show (r.announcements.length : Int) < 16 by omega))]
        rfl
  · rw [if_pos (Bool.eq_false_iff.mpr h2), mF (Bool.eq_false_iff.mpr h2)]
    rfl
theorem ex_withdraw (r : Su202.Registry) (a l m o : Nat) : encR (Su202.execute r (.withdraw a l m o)) = outMR r (withdrawM r a l m o) := by
  unfold withdrawM
  rw [any_ann, leftM_eq]
  simp only [Su202.execute]
  unfold Su202.memberCount
  by_cases h1 : 8 ≤ m
  · rw [if_pos (Or.inl h1), mF (decide_eq_false (show ¬ m < 8 by omega))]
    rfl
  rw [mT (decide_eq_true (show m < 8 by omega))]
  by_cases h1b : 8 ≤ o
  · rw [if_pos (Or.inr h1b), mF (decide_eq_false (show ¬ o < 8 by omega))]
    rfl
  rw [if_neg (fun q => q.elim h1 h1b), mT (decide_eq_true (show o < 8 by omega))]
  by_cases h4 : r.announcements.contains ⟨a, l, m, o⟩ = true
  · rw [if_neg (show ¬ r.announcements.contains ⟨a, l, m, o⟩ = false by rw [h4]; exact Bool.noConfusion), mT h4]
    rfl
  · rw [if_pos (Bool.eq_false_iff.mpr h4), mF (Bool.eq_false_iff.mpr h4)]
    rfl
theorem ex_strict (r : Su202.Registry) (n : Nat) : encR (Su202.execute r (.setStrict n)) = outMR r (strictM r n) := by
  unfold strictM
  simp only [Su202.execute]
  by_cases h : 1 < n
  · rw [if_pos h, mF (decide_eq_false (show ¬ (n : Int) ≤ 1 by omega))]
    rfl
  · rw [if_neg h, mT (decide_eq_true (show (n : Int) ≤ 1 by omega))]
    rfl
theorem ex_tighten (r : Su202.Registry) (n : Nat) : encR (Su202.execute r (.tightenRoas n)) = outMR r (tightenM r n) := by
  unfold tightenM
  rw [tightM_eq, withR_eq]
  simp only [Su202.execute]
  unfold Su202.memberCount Su202.maxRoas
  by_cases h : 8 ≤ n
  · rw [if_pos h, mF (decide_eq_false (show ¬ n < 8 by omega))]
    rfl
  rw [if_neg h, mT (decide_eq_true (show n < 8 by omega))]
  by_cases h2 : 12 < (r.tighten n).roas.length
  · rw [if_pos h2, mF (decide_eq_false (show ¬ ((r.tighten n).roas.length : Int) ≤ 12 by omega))]
    rfl
  · rw [if_neg h2, mT (decide_eq_true (show ((r.tighten n).roas.length : Int) ≤ 12 by omega))]
    rfl
/-! ### the queries -/
theorem ex_val (r : Su202.Registry) (a l o : Nat) : encR (Su202.execute r (.validity a l o)) = outQR r (tellValM r a l o) := by
  unfold tellValM
  simp only [Su202.execute]
  unfold Su202.memberCount
  by_cases h1 : 8 ≤ o
  · rw [if_pos h1, qF (decide_eq_false (show ¬ o < 8 by omega))]
    rfl
  rw [if_neg h1, qT (decide_eq_true (show o < 8 by omega))]
  by_cases h2 : Su202.isPrefix a l = true
  · rw [if_neg (show ¬ Su202.isPrefix a l = false by rw [h2]; exact Bool.noConfusion), qT h2]
    rfl
  · rw [if_pos (Bool.eq_false_iff.mpr h2), qF (Bool.eq_false_iff.mpr h2)]
    rfl
theorem ex_dest (r : Su202.Registry) (x : Nat) : encR (Su202.execute r (.destination x)) = outQR r (tellDestM r x) := by
  unfold tellDestM
  simp only [Su202.execute]
  unfold Su202.addressBits
  by_cases h1 : 2 ^ 6 ≤ x
  · rw [if_pos h1, qF (decide_eq_false (show ¬ x < 64 by omega))]
    rfl
  rw [if_neg h1, qT (decide_eq_true (show x < 64 by omega))]
  cases Su202.selectAnnouncement r.accepted x with
  | none => rfl
  | some y => rfl
theorem ex_count (r : Su202.Registry) (m : Nat) : encR (Su202.execute r (.addressCount m)) = outQR r (addrCountM r m) := by
  have e1 : (fun x => decide (destM r x = (m : Int))) = fun x => r.destination x == some m := funext fun x => by
    unfold destM Su202.Registry.destination
    cases Su202.selectAnnouncement r.accepted x with
    | none =>
      rw [Bool.eq_iff_iff, decide_eq_true_eq]
      simp [annOf]
      try omega
    | some y =>
      rw [Bool.eq_iff_iff, decide_eq_true_eq]
      simp [annOf]
      try omega
  have e2 : (fun x => decide (destM r x = -1)) = fun x => (r.destination x).isNone := funext fun x => by
    unfold destM Su202.Registry.destination
    cases Su202.selectAnnouncement r.accepted x with
    | none => rfl
    | some y =>
      rw [Bool.eq_iff_iff, decide_eq_true_eq]
      simp [annOf]
      try omega
  unfold addrCountM
  rw [e1, e2]
  simp only [Su202.execute]
  unfold Su202.memberCount
  by_cases h1 : 8 ≤ m
  · rw [if_pos h1, qF (decide_eq_false (show ¬ m < 8 by omega))]
    rfl
  rw [if_neg h1, qT (decide_eq_true (show m < 8 by omega))]
  rfl
theorem ex_hij (r : Su202.Registry) (x : Nat) : encR (Su202.execute r (.hijackers x)) = outQR r (tellHijM r x) := by
  unfold tellHijM
  simp only [Su202.execute]
  unfold Su202.addressBits
  by_cases h1 : 2 ^ 6 ≤ x
  · rw [if_pos h1, qF (decide_eq_false (show ¬ x < 64 by omega))]
    rfl
  rw [if_neg h1, qT (decide_eq_true (show x < 64 by omega))]
  rfl
theorem ex_vuln (r : Su202.Registry) (m : Nat) : encR (Su202.execute r (.vulnerableAddresses m)) = outQR r (tellVulnM r m) := by
  unfold tellVulnM
  simp only [Su202.execute]
  unfold Su202.memberCount
  by_cases h1 : 8 ≤ m
  · rw [if_pos h1, qF (decide_eq_false (show ¬ m < 8 by omega))]
    rfl
  rw [if_neg h1, qT (decide_eq_true (show m < 8 by omega))]
  rfl
theorem ex_preT (r : Su202.Registry) (m : Nat) : encR (Su202.execute r (.previewTighten m)) = outQR r (preTM r m) := by
  unfold preTM
  rw [withR_eq]
  simp only [Su202.execute]
  unfold Su202.memberCount
  by_cases h1 : 8 ≤ m
  · rw [if_pos h1, qF (decide_eq_false (show ¬ m < 8 by omega))]
    rfl
  rw [if_neg h1, qT (decide_eq_true (show m < 8 by omega))]
  rfl
theorem ex_preA (r : Su202.Registry) (a l m o : Nat) : encR (Su202.execute r (.previewAnnounce a l m o)) = outQR r (preAM r a l m o) := by
  unfold preAM wantAnnO
  rw [refuse_seq, refuse_seq]
  simp only [Su202.execute]
  unfold Su202.memberCount
  by_cases h1 : 8 ≤ m
  · rw [if_pos (Or.inl h1), qF (decide_eq_false (show ¬ m < 8 by omega))]
    rfl
  rw [qT (decide_eq_true (show m < 8 by omega))]
  by_cases h1b : 8 ≤ o
  · rw [if_pos (Or.inr h1b), qF (decide_eq_false (show ¬ o < 8 by omega))]
    rfl
  rw [if_neg (fun q => q.elim h1 h1b), qT (decide_eq_true (show o < 8 by omega))]
  by_cases h2 : Su202.isPrefix a l = true
  · rw [if_neg (show ¬ Su202.isPrefix a l = false by rw [h2]; exact Bool.noConfusion), qT h2]
    rfl
  · rw [if_pos (Bool.eq_false_iff.mpr h2), qF (Bool.eq_false_iff.mpr h2)]
    rfl
theorem filter_rest {α : Type} (p : α → Bool) (l : List α) : (l.filter fun x => !p x).length = l.length - (l.filter p).length := by
  have h : (l.filter p).length + (l.filter fun x => !p x).length = l.length := by
    induction l with
    | nil => rfl
    | cons a q ih =>
      rw [List.filter_cons, List.filter_cons]
      cases p a with
      | true => simp only [Bool.not_true, if_true, Bool.false_eq_true, if_false, List.length_cons]; omega
      | false => simp only [Bool.not_false, if_true, Bool.false_eq_true, if_false, List.length_cons]; omega
  omega
theorem ex_drop (r : Su202.Registry) : encR (Su202.execute r .droppedAnnouncements) = outQR r (droppedQM r) := by
  simp only [Su202.execute]
  unfold droppedQM droppedM
  rw [encQ_ok r, filter_rest]
  rfl
theorem ex_valPre (r : Su202.Registry) (m : Nat) : encR (Su202.execute r (.validPrefixCount m)) = outQR r (valPreQM r m) := by
  unfold valPreQM valPreM
  rw [math_count]
  simp only [Su202.execute]
  by_cases h1 : Su202.memberCount ≤ m
  · rw [if_pos h1, qF (decide_eq_false (show ¬ m < 8 from Nat.not_lt.mpr h1))]
    rfl
  rw [if_neg h1, qT (decide_eq_true (show m < 8 from Nat.not_le.mp h1))]
  rfl
theorem ex_listR (r : Su202.Registry) : encR (Su202.execute r .listRoas) = outQR r (listRM r) := rfl
theorem ex_listA (r : Su202.Registry) : encR (Su202.execute r .listAnnouncements) = outQR r (listAM r) := rfl
end Ow
/-! a request's steps -/
namespace Ow
open PySem PySem.Spec PyProof.Rows L2
theorem ref_ok {α : Type} {b : Bool} {c : Int} {res : Except Int α} {z : α} (h : refuse (wantO b c) res = .ok z) : b = true ∧ res = .ok z := by
  cases b with
  | true => exact ⟨rfl, h⟩
  | false => cases h
theorem chg_wf {r : Su202.Registry} {c : Nat} {ns : List Nat} {res : OutM} (w : WF r) (h : Chg r c ns res) : ∀ z, res = .ok z → WF z.1 := by
  intro z e
  cases h with
  | addRoa a l m o =>
    obtain ⟨_, e⟩ := ref_ok e
    obtain ⟨hp, e⟩ := ref_ok e
    obtain ⟨_, e⟩ := ref_ok e
    obtain ⟨_, e⟩ := ref_ok e
    obtain ⟨hl, e⟩ := ref_ok e
    cases e
    have hl := of_decide_eq_true hl
    exact ⟨goodR_snoc w.roas hp, w.anns, by show (r.roas ++ [_]).length ≤ 12; rw [List.length_append, List.length_singleton]; omega, w.nA⟩
  | remRoa n =>
    obtain ⟨_, e⟩ := ref_ok e
    cases e
    exact ⟨fun g hg => w.roas g (List.mem_of_mem_eraseIdx hg), w.anns, Nat.le_trans (List.length_eraseIdx_le r.roas n) w.nR, w.nA⟩
  | ann a l m o =>
    unfold announceM wantAnnO at e
    rw [refuse_seq, refuse_seq] at e
    obtain ⟨_, e⟩ := ref_ok e
    obtain ⟨_, e⟩ := ref_ok e
    obtain ⟨hp, e⟩ := ref_ok e
    obtain ⟨_, e⟩ := ref_ok e
    obtain ⟨hl, e⟩ := ref_ok e
    cases e
    have hl := of_decide_eq_true hl
    exact ⟨w.roas, goodA_snoc w.anns hp, w.nR, by show (r.announcements ++ [_]).length ≤ 16; rw [List.length_append, List.length_singleton]; omega⟩
  | wdr a l m o =>
    obtain ⟨_, e⟩ := ref_ok e
    obtain ⟨_, e⟩ := ref_ok e
    obtain ⟨_, e⟩ := ref_ok e
    cases e
    exact ⟨w.roas, fun s hs => w.anns s (List.mem_filter.mp hs).1, w.nR, Nat.le_trans (List.length_filter_le _ _) w.nA⟩
  | strict n =>
    obtain ⟨_, e⟩ := ref_ok e
    cases e
    exact ⟨w.roas, w.anns, w.nR, w.nA⟩
  | tighten n =>
    obtain ⟨_, e⟩ := ref_ok e
    obtain ⟨hl, e⟩ := ref_ok e
    cases e
    have hl := of_decide_eq_true hl
    exact ⟨goodR_tight w.roas w.anns, w.anns, by show (tightM r.roas r.announcements n).length ≤ 12; omega, w.nA⟩
theorem wf_empty : WF Su202.empty := ⟨fun _ h => (List.not_mem_nil h).elim, fun _ h => (List.not_mem_nil h).elim, Nat.zero_le _, Nat.zero_le _⟩
/-- a call, from any state, is a step of the specification -/
def StepOk (c : Nat) (args : List Nat) (cl : List Int) : Prop := ∀ s, WFo s → ∃ s' told, Do s c args s' told ∧ WFo s' ∧ Su202Neutral.step s cl = (s', told)
theorem step_chg {c : Nat} {args : List Nat} {cl : List Int} {op : Su202.Operation} (hc : 1 ≤ c) (hop : Su202Neutral.callOf cl = some op) (hne : ∀ s, s = none → Su202.step s op = (none, Su202.error (-11))) (hs : ∀ r, Su202.step (some r) op = (some (Su202.execute r op).1, (Su202.execute r op).2)) (M : Su202.Registry → OutM) (hM : ∀ r, Chg r c args (M r)) (ex : ∀ r, encR (Su202.execute r op) = outMR r (M r)) : StepOk c args cl := by
  intro s w
  unfold Su202Neutral.step
  rw [hop]
  cases s with
  | none =>
    refine ⟨none, [-11], ⟨_, .noReg c args hc, rfl, rfl⟩, trivial, ?_⟩
    show ((Su202.step none op).1, (Su202.step none op).2.value :: Su202Neutral.outs (Su202.step none op).2.fields) = _
    rw [hne none rfl]
    rfl
  | some r =>
    have e := ex r
    have hw : WF r := w
    show ∃ s' told, _ ∧ _ ∧ ((Su202.step (some r) op).1, (Su202.step (some r) op).2.value :: Su202Neutral.outs (Su202.step (some r) op).2.fields) = (s', told)
    rw [hs r]
    have k := chg_wf hw (hM r)
    have d := Done.chg r c args (M r) hw (hM r)
    generalize hm : M r = res at e k d
    unfold encR at e
    cases res with
    | ok z =>
      injection e with e1 e2
      refine ⟨some z.1, cast1 z.2, ⟨_, d, rfl, rfl⟩, k z rfl, ?_⟩
      show (some (Su202.execute r op).1, _) = _
      rw [e1, e2]
    | error x =>
      injection e with e1 e2
      refine ⟨some r, [x], ⟨_, d, rfl, rfl⟩, hw, ?_⟩
      show (some (Su202.execute r op).1, _) = _
      rw [e1, e2]
theorem step_ask {c : Nat} {args : List Nat} {cl : List Int} {op : Su202.Operation} (hc : 1 ≤ c) (hop : Su202Neutral.callOf cl = some op) (hne : ∀ s, s = none → Su202.step s op = (none, Su202.error (-11))) (hs : ∀ r, Su202.step (some r) op = (some (Su202.execute r op).1, (Su202.execute r op).2)) (M : Su202.Registry → OutQ) (hM : ∀ r, Ask r c args (M r)) (ex : ∀ r, encR (Su202.execute r op) = outQR r (M r)) : StepOk c args cl := by
  intro s w
  unfold Su202Neutral.step
  rw [hop]
  cases s with
  | none =>
    refine ⟨none, [-11], ⟨_, .noReg c args hc, rfl, rfl⟩, trivial, ?_⟩
    show ((Su202.step none op).1, (Su202.step none op).2.value :: Su202Neutral.outs (Su202.step none op).2.fields) = _
    rw [hne none rfl]
    rfl
  | some r =>
    have e := ex r
    have hw : WF r := w
    show ∃ s' told, _ ∧ _ ∧ ((Su202.step (some r) op).1, (Su202.step (some r) op).2.value :: Su202Neutral.outs (Su202.step (some r) op).2.fields) = (s', told)
    rw [hs r]
    have d := Done.ask r c args (M r) hw (hM r)
    generalize hm : M r = res at e d
    unfold encR at e
    cases res with
    | ok z =>
      injection e with e1 e2
      refine ⟨some r, cast1 z, ⟨_, d, rfl, rfl⟩, hw, ?_⟩
      show (some (Su202.execute r op).1, _) = _
      rw [e1, e2]
    | error x =>
      injection e with e1 e2
      refine ⟨some r, [x], ⟨_, d, rfl, rfl⟩, hw, ?_⟩
      show (some (Su202.execute r op).1, _) = _
      rw [e1, e2]
theorem step_reset : StepOk 0 [] [0] := by
  intro s w
  refine ⟨some Su202.empty, [0], ⟨_, .reset s, rfl, rfl⟩, wf_empty, ?_⟩
  cases s <;> rfl
theorem nat_of {z : Int} (h : Su202Neutral.natural z 32 = true) : ∃ n : Nat, z = (n : Int) := by
  unfold Su202Neutral.natural at h
  rw [Bool.and_eq_true, decide_eq_true_eq] at h
  exact ⟨z.toNat, (Int.toNat_of_nonneg h.1).symm⟩
/-- each call that is asked -/
theorem call_ok {cl : List Int} (h : Su202Neutral.asked1 cl = true) : ∃ (c : Nat) (args : List Nat), cl = (c : Int) :: cast1 args ∧ numsM[c]? = some (args.length : Int) ∧ StepOk c args cl := by
  unfold Su202Neutral.asked1 at h
  split at h
  · rename_i a b c
    rw [Bool.and_eq_true, Bool.and_eq_true] at h
    obtain ⟨a, rfl⟩ := nat_of h.1
    obtain ⟨b, rfl⟩ := nat_of h.2.1
    obtain ⟨c, rfl⟩ := nat_of h.2.2
    exact ⟨7, [a, b, c], rfl, rfl, step_ask (op := .validity a b c) (by decide) rfl (fun _ q => by subst q; rfl) (fun _ => rfl) (fun r => tellValM r a b c) (fun r => .val a b c) fun r => ex_val r a b c⟩
  · rename_i p a b c e
    rw [Bool.and_eq_true, Bool.and_eq_true, Bool.and_eq_true, Bool.and_eq_true] at h
    obtain ⟨a, rfl⟩ := nat_of h.2.1
    obtain ⟨b, rfl⟩ := nat_of h.2.2.1
    obtain ⟨c, rfl⟩ := nat_of h.2.2.2.1
    obtain ⟨e, rfl⟩ := nat_of h.2.2.2.2
    have hp : p = 1 ∨ p = 3 ∨ p = 4 ∨ p = 13 := by simpa using h.1
    rcases hp with rfl | rfl | rfl | rfl
    · exact ⟨1, [a, b, c, e], rfl, rfl, step_chg (op := .addRoa a b c e) (by decide) rfl (fun _ q => by subst q; rfl) (fun _ => rfl) (fun r => addRoaM r a b c e) (fun r => .addRoa a b c e) fun r => ex_addRoa r a b c e⟩
    · exact ⟨3, [a, b, c, e], rfl, rfl, step_chg (op := .announce a b c e) (by decide) rfl (fun _ q => by subst q; rfl) (fun _ => rfl) (fun r => announceM r a b c e) (fun r => .ann a b c e) fun r => ex_announce r a b c e⟩
    · exact ⟨4, [a, b, c, e], rfl, rfl, step_chg (op := .withdraw a b c e) (by decide) rfl (fun _ q => by subst q; rfl) (fun _ => rfl) (fun r => withdrawM r a b c e) (fun r => .wdr a b c e) fun r => ex_withdraw r a b c e⟩
    · exact ⟨13, [a, b, c, e], rfl, rfl, step_ask (op := .previewAnnounce a b c e) (by decide) rfl (fun _ q => by subst q; rfl) (fun _ => rfl) (fun r => preAM r a b c e) (fun r => .preA a b c e) fun r => ex_preA r a b c e⟩
  · rename_i p a
    rw [Bool.and_eq_true] at h
    obtain ⟨a, rfl⟩ := nat_of h.2
    have hp : p = 2 ∨ p = 5 ∨ p = 6 ∨ p = 8 ∨ p = 9 ∨ p = 10 ∨ p = 11 ∨ p = 12 ∨ p = 15 := by simpa using h.1
    rcases hp with rfl | rfl | rfl | rfl | rfl | rfl | rfl | rfl | rfl
    · exact ⟨2, [a], rfl, rfl, step_chg (op := .removeRoa a) (by decide) rfl (fun _ q => by subst q; rfl) (fun _ => rfl) (fun r => remRoaM r a) (fun r => .remRoa a) fun r => ex_remRoa r a⟩
    · exact ⟨5, [a], rfl, rfl, step_chg (op := .setStrict a) (by decide) rfl (fun _ q => by subst q; rfl) (fun _ => rfl) (fun r => strictM r a) (fun r => .strict a) fun r => ex_strict r a⟩
    · exact ⟨6, [a], rfl, rfl, step_chg (op := .tightenRoas a) (by decide) rfl (fun _ q => by subst q; rfl) (fun _ => rfl) (fun r => tightenM r a) (fun r => .tighten a) fun r => ex_tighten r a⟩
    · exact ⟨8, [a], rfl, rfl, step_ask (op := .destination a) (by decide) rfl (fun _ q => by subst q; rfl) (fun _ => rfl) (fun r => tellDestM r a) (fun r => .dest a) fun r => ex_dest r a⟩
    · exact ⟨9, [a], rfl, rfl, step_ask (op := .addressCount a) (by decide) rfl (fun _ q => by subst q; rfl) (fun _ => rfl) (fun r => addrCountM r a) (fun r => .count a) fun r => ex_count r a⟩
    · exact ⟨10, [a], rfl, rfl, step_ask (op := .hijackers a) (by decide) rfl (fun _ q => by subst q; rfl) (fun _ => rfl) (fun r => tellHijM r a) (fun r => .hij a) fun r => ex_hij r a⟩
    · exact ⟨11, [a], rfl, rfl, step_ask (op := .vulnerableAddresses a) (by decide) rfl (fun _ q => by subst q; rfl) (fun _ => rfl) (fun r => tellVulnM r a) (fun r => .vuln a) fun r => ex_vuln r a⟩
    · exact ⟨12, [a], rfl, rfl, step_ask (op := .previewTighten a) (by decide) rfl (fun _ q => by subst q; rfl) (fun _ => rfl) (fun r => preTM r a) (fun r => .preT a) fun r => ex_preT r a⟩
    · exact ⟨15, [a], rfl, rfl, step_ask (op := .validPrefixCount a) (by decide) rfl (fun _ q => by subst q; rfl) (fun _ => rfl) (fun r => valPreQM r a) (fun r => .valPre a) fun r => ex_valPre r a⟩
  · rename_i p
    have hp : p = 0 ∨ p = 14 ∨ p = 16 ∨ p = 17 := by simpa using h
    rcases hp with rfl | rfl | rfl | rfl
    · exact ⟨0, [], rfl, rfl, step_reset⟩
    · exact ⟨14, [], rfl, rfl, step_ask (op := .droppedAnnouncements) (by decide) rfl (fun _ q => by subst q; rfl) (fun _ => rfl) (fun r => droppedQM r) (fun r => .drop) fun r => ex_drop r⟩
    · exact ⟨16, [], rfl, rfl, step_ask (op := .listRoas) (by decide) rfl (fun _ q => by subst q; rfl) (fun _ => rfl) (fun r => listRM r) (fun r => .listR) fun r => ex_listR r⟩
    · exact ⟨17, [], rfl, rfl, step_ask (op := .listAnnouncements) (by decide) rfl (fun _ q => by subst q; rfl) (fun _ => rfl) (fun r => listAM r) (fun r => .listA) fun r => ex_listA r⟩
  · cases h
theorem whole_id (c : List (List Int)) : PySu202.whole c = c := by
  unfold PySu202.whole
  split <;> rfl
theorem ite_k {c : Prop} [Decidable c] {a : Nat} {b : Option (Nat × Nat)} (hb : ∀ n k, b = some (n, k) → k = 0) : ∀ n k, (if c then some (a, 0) else b) = some (n, k) → k = 0 := fun n k h => by
  by_cases q : c
  · rw [if_pos q] at h
    injection h with h
    injection h with _ h
    exact h.symm
  · rw [if_neg q] at h
    exact hb n k h
theorem shape_0 {p : Int} {n k : Nat} (h : PySu202.shape p = some (n, k)) : k = 0 := by
  unfold PySu202.shape at h
  revert h
  revert n k
  have z : ∀ n k : Nat, (none : Option (Nat × Nat)) = some (n, k) → k = 0 := fun _ _ h => nomatch h
  exact @(ite_k (ite_k (ite_k (ite_k (ite_k (ite_k (ite_k (ite_k (ite_k (ite_k (ite_k (ite_k (ite_k (ite_k (ite_k (ite_k (ite_k (ite_k z))))))))))))))))))
theorem played_cons {S : Type} (st : S → List (List Int) → S × List Int) (s : S) (c : List (List Int)) (r : List (List (List Int))) : PyFlat.played st s (c :: r) = (st s c).2 :: PyFlat.played st (st s c).1 r := rfl
theorem told_cons (a : List Int) (l : List (List Int)) : PyFlat.told (a :: l) = (a.length : Int) :: (a ++ PyFlat.told l) := by
  unfold PyFlat.told
  rw [List.flatMap_cons]
  rfl
theorem rem_of : ∀ (f : Nat) (l : List Int) (raw : List (List (List Int))) (s : Option Su202.Registry), PyFlat.calls PySu202.shape f l = some raw → (∀ c ∈ raw, Su202Neutral.asked1 (c.headD []) = true) → WFo s →
    Rem s l (PyFlat.told (PyFlat.played (fun s c => Su202Neutral.step s (c.headD [])) s raw))
  | _, [], raw, s, h, _, _ => by
    unfold PyFlat.calls at h
    cases h
    exact .nil s
  | 0, p :: r, raw, s, h, _, _ => by
    unfold PyFlat.calls at h
    cases h
  | f + 1, p :: r, raw, s, h, ha, w => by
    unfold PyFlat.calls at h
    unfold PyFlat.call at h
    dsimp only at h
    cases hs : PySu202.shape p with
    | none => rw [hs] at h; cases h
    | some nk =>
      obtain ⟨n, k⟩ := nk
      have hk := shape_0 hs
      subst hk
      rw [hs] at h
      simp only [PyFlat.rows] at h
      by_cases hlt : r.length < n
      · rw [if_pos hlt] at h
        cases h
      · rw [if_neg hlt] at h
        simp only at h
        cases hc : PyFlat.calls PySu202.shape f (r.drop n) with
        | none => rw [hc] at h; cases h
        | some cs =>
          rw [hc] at h
          cases h
          obtain ⟨c, args, hcl, hnum, hst⟩ := call_ok (ha _ List.mem_cons_self)
          have hcl : p :: r.take n = (c : Int) :: cast1 args := hcl
          obtain ⟨s', told, hdo, hw, he⟩ := hst s w
          have ih := rem_of f (r.drop n) cs s' hc (fun c hc => ha c (List.mem_cons_of_mem _ hc)) hw
          have e1 : p :: r = (c : Int) :: (cast1 args ++ r.drop n) := by
            injection hcl with h1 h2
            rw [h1, ← h2, List.take_append_drop]
          rw [e1]
          have he : Su202Neutral.step s ([p :: r.take n].headD []) = (s', told) := he
          have e2 : PyFlat.told (PyFlat.played (fun s c => Su202Neutral.step s (c.headD [])) s ([p :: r.take n] :: cs)) = (told.length : Int) :: (told ++ PyFlat.told (PyFlat.played (fun s c => Su202Neutral.step s (c.headD [])) s' cs)) := by
            rw [played_cons, told_cons]
            rw [he]
          rw [e2]
          exact .cons s s' c args told _ _ hdo hnum ih
/-- what is asked -/
theorem rem_ask {l : List Int} (h : PySu202.answers_asked l = true) : Rem none l (PySu202.answers l) ∧ (PySu202.answers l).length ≤ 10000000 := by
  unfold PySu202.answers_asked at h
  cases hc : PyFlat.calls PySu202.shape l.length l with
  | none => rw [hc] at h; cases h
  | some raw =>
    rw [hc] at h
    simp only [Bool.and_eq_true] at h
    have hw : raw.map PySu202.whole = raw := by
      refine (List.map_congr_left fun c _ => whole_id c).trans ?_
      exact List.map_id' raw
    have e : PySu202.answers l = PyFlat.told (PyFlat.played (fun s c => Su202Neutral.step s (c.headD [])) Su202Neutral.start raw) := by
      unfold PySu202.answers PySu202.calls
      rw [hc]
      simp only
      rw [hw]
    have hs : (PySu202.answers l).length ≤ 10000000 := by
      have := h.2
      unfold PyFlat.short at this
      exact of_decide_eq_true this
    refine ⟨?_, hs⟩
    rw [e]
    refine rem_of l.length l raw none hc (fun c hm => ?_) trivial
    have ha := h.1.2
    unfold Su202Neutral.asked at ha
    rw [hw] at ha
    simp only [Bool.and_eq_true] at ha
    exact List.all_eq_true.mp ha.2 _ (List.mem_map.mpr ⟨c, hm, rfl⟩)
end Ow
/-! what the top has written gives all the contracts -/
namespace Ow
open PySem PySem.Spec PyProof.Rows L2
/-- a def of the module -/
structure DefK (K : PySem.W.Frag) (x : Str) (st : Stmt) (f : Addr) : Prop where
  a : PySem.W.nsIn K mainGlobals x = some (some (.ref f))
  fn : ∃ fd : FuncData, Fun K x x st f fd
theorem DefK.of {K : PySem.W.Frag} {x : Str} {st : Stmt} {f : Addr} {oc : Value} {od an : Option Addr} {osl : Array (Option Value)} {kV doc pm cdv ct : Value} (a : PySem.W.nsIn K mainGlobals x = some (some (.ref f))) (l : K.lookup f = some ⟨oc, od, .func (PySem.W.fnOf x x (defArgs st) (defBody st) (defScope st) .none kV doc pm an cdv ct), osl⟩) (c : PySem.W.codeIn K cdv x = true) (k : PySem.W.keepIn K (.ref f) = true) : DefK K x st f := ⟨a, _, fun_mk l c k⟩
theorem DefK.at_ {K : PySem.W.Frag} {h : Heap} {mg : Str → Option Value} {x : Str} {st : Stmt} {f : Addr} (X : K.In h) (N : h.Ns mainGlobals mg) (d : DefK K x st f) : mg x = some (.ref f) := PySem.W.mg_of X N d.a
theorem DefK.defn {K : PySem.W.Frag} {h : Heap} {mg : Str → Option Value} {x : Str} {st : Stmt} {f : Addr} (X : K.In h) (N : h.Ns mainGlobals mg) (d : DefK K x st f) : Defn K mg x st := by
  obtain ⟨fd, F⟩ := d.fn
  exact ⟨f, fd, F, d.at_ X N⟩
/-- a def of a class -/
structure MetK (K : PySem.W.Frag) (C : Addr) (x q : Str) (st : Stmt) (f : Addr) : Prop where
  a : PySem.W.findIn K (.ref C) x = some (some (.ref f))
  i : PySem.W.isFn K (.ref f) = true
  k : PySem.W.keepIn K (.ref f) = true
  fn : ∃ fd : FuncData, Fun K x q st f fd
theorem MetK.of {K : PySem.W.Frag} {C : Addr} {x q : Str} {st : Stmt} {f : Addr} {oc : Value} {od an : Option Addr} {osl : Array (Option Value)} {kV doc pm cdv ct : Value} (a : PySem.W.findIn K (.ref C) x = some (some (.ref f))) (i : PySem.W.isFn K (.ref f) = true) (l : K.lookup f = some ⟨oc, od, .func (PySem.W.fnOf x q (defArgs st) (defBody st) (defScope st) .none kV doc pm an cdv ct), osl⟩) (c : PySem.W.codeIn K cdv q = true) (k : PySem.W.keepIn K (.ref f) = true) : MetK K C x q st f := ⟨a, i, k, _, fun_mk l c k⟩
theorem MetK.tie {K : PySem.W.Frag} {C : Addr} {x q : Str} {st : Stmt} {f : Addr} {Z : Prop} (m : MetK K C x q st f) (z : ∀ (f : Addr) (fd : FuncData), Fun K x q st f fd → Meth K C x f → (∀ {ps : List Str}, (∀ (kV doc pm : Value) (an : Option Addr) (cdv ct : Value) (us : List Value), us.length = ps.length → bindArgs (PySem.W.fnOf x q (defArgs st) (defBody st) (defScope st) .none kV doc pm an cdv ct) ⟨us, []⟩ = pure (ps.zip us)) → Binds K fd ps []) → Z) : Z := by
  obtain ⟨fd, F⟩ := m.fn
  exact z f fd F ⟨m.a, m.i, m.k⟩ fun hb => F.binds hb
/-- a class of the module, whose instances have the one field -/
structure ClsK (K : PySem.W.Frag) (x fld : Str) (C : Addr) : Prop where
  a : PySem.W.nsIn K mainGlobals x = some (some (.ref C))
  cls : Cls K C
  nA : NoAttr K C fld
  mak : PySem.W.makesIn K C = true
  kc : PySem.W.keepIn K (.ref C) = true
theorem ClsK.of {K : PySem.W.Frag} {x fld : Str} {C : Addr} (a : PySem.W.nsIn K mainGlobals x = some (some (.ref C))) (pg : PySem.W.plainGet K C Str.empty = true) (hd : PySem.W.hasDictIn K C = true) (po : PySem.W.plainOver K C = true) (sa : PySem.W.findIn K (.ref C) "__setattr__" = some (some (.builtin "object.__setattr__"))) (nA : PySem.W.findIn K (.ref C) fld = some none) (mk : PySem.W.makesIn K C = true) (kc : PySem.W.keepIn K (.ref C) = true) : ClsK K x fld C := ⟨a, ⟨pg, hd, po, sa⟩, nA, mk, kc⟩
/-- an error of the class at S is what «except S» names -/
theorem exm_self {K : PySem.W.Frag} {S : Addr} (h1 : PySem.W.subIn K (.ref S) (.type "BaseException") = some true) (h2 : PySem.W.isClsIn K S = true) (h3 : PySem.W.typeIn K (.ref S) = some (.type "type")) (h4 : PySem.W.subIn K (.ref S) (.ref S) = some true) :
    PySem.W.exmOne K (.ref S) (.ref S) = some true := by
  have e1 : (PySem.W.subIn K (.ref S) (.type "BaseException") == some true) = true := by rw [h1] <;> rfl
  have e2 : ((PySem.W.clsIn K S).isSome && PySem.W.typeIn K (.ref S) == some (.type "type")) = true := by
    have h2' : (PySem.W.clsIn K S).isSome = true := h2
    rw [h2', h3] <;> rfl
  show (if (PySem.W.subIn K (.ref S) (.type "BaseException") == some true) = true then (if ((PySem.W.clsIn K S).isSome && PySem.W.typeIn K (.ref S) == some (.type "type")) = true then PySem.W.subIn K (.ref S) (.ref S) else none) else none) = some true
  rw [if_pos e1, if_pos e2]
  exact h4
/-- the error's class -/
structure ErrK (K : PySem.W.Frag) (C : Addr) : Prop where
  a : PySem.W.nsIn K mainGlobals "Refused" = some (some (.ref C))
  oex : OexC K C
  nc : PySem.W.findIn K (.ref C) "code" = some none
  te : PySem.W.exmOne K (.ref C) (.ref C) = some true
  xf : XfC K C
  vV : PySem.W.findCls K (.type "ValueError") (.type "type") "__init__" = some (.val (.builtin "ValueError.__init__"))
  ini : ∃ (fI : Addr) (fd : FuncData), PySem.W.findIn K (.ref C) "__init__" = some (some (.ref fI)) ∧ PySem.W.typeIn K (.ref fI) = some (.type "function") ∧ Fun K "__init__" "Refused.__init__" sRefInit fI fd
theorem ErrK.of {K : PySem.W.Frag} {C : Addr} {nm q : Str} {N : Addr} {bs : List Value} {sn : List Str} {sub : List Value} {ab : Bool} {col : Option Bool} {dd : Option Addr} {m0 m1 m2 m3 m5 : Option Value} {f : Addr} {oc : Value} {od an : Option Addr} {osl : Array (Option Value)} {kV doc pm cdv ct : Value}
    (a : PySem.W.nsIn K mainGlobals "Refused" = some (some (.ref C))) (xL : K.lookup C = some (excClassObj nm q C N bs [.type "ValueError", .type "Exception", .type "BaseException", .type "object"] true sn sub ab col dd m0 m1 m2 m3 m5 "ValueError.__new__"))
    (sa : PySem.W.findIn K (.ref C) "__setattr__" = some (some (.builtin "object.__setattr__"))) (ga : PySem.W.findIn K (.ref C) "__getattribute__" = some (some (.builtin "BaseException.__getattribute__"))) (gg : PySem.W.findIn K (.ref C) "__getattr__" = some none) (nc : PySem.W.findIn K (.ref C) "code" = some none)
    (a1 : PySem.W.findIn K (.ref C) "__init__" = some (some (.ref f))) (t1 : PySem.W.typeIn K (.ref f) = some (.type "function")) (l1 : K.lookup f = some ⟨oc, od, .func (PySem.W.fnOf "__init__" "Refused.__init__" (defArgs sRefInit) (defBody sRefInit) (defScope sRefInit) .none kV doc pm an cdv ct), osl⟩) (c1 : PySem.W.codeIn K cdv "Refused.__init__" = true) (k1 : PySem.W.keepIn K (.ref f) = true)
    (kC : PySem.W.keepIn K (.ref C) = true) (eC : PySem.W.subIn K (.ref C) (.type "BaseException") = some true) (tC : PySem.W.typeIn K (.ref C) = some (.type "type")) (hC : PySem.W.hasDictIn K C = true) (iC : PySem.W.isClsIn K C = true) (sC : PySem.W.subIn K (.ref C) (.ref C) = some true)
    (vV : PySem.W.findCls K (.type "ValueError") (.type "type") "__init__" = some (.val (.builtin "ValueError.__init__"))) : ErrK K C :=
  ⟨a, ⟨⟨nm, q, N, bs, _, sn, sub, ab, col, dd, m0, m1, m2, m3, m5, xL, by decide +kernel⟩, sa, eC, tC, kC⟩, nc, exm_self eC iC tC sC, ⟨ga, gg, eC, hC⟩, vV, f, _, a1, t1, fun_mk l1 c1 k1⟩
/-! ### tuples of the module -/
def absI : Value → Option Int
  | .int i _ => some i
  | _ => none
def absA : Value → Option Addr
  | .ref a => some a
  | _ => none
theorem vals_absI : ∀ (us : List Value) (ns : List Int), us.map absI = ns.map some → Vals (ns.map V.int) us
  | [], [], _ => .nil
  | [], _ :: _, h => nomatch h
  | _ :: _, [], h => nomatch h
  | u :: us, n :: ns, h => by
    rw [List.map_cons, List.map_cons] at h
    injection h with h1 h2
    refine .cons ?_ (vals_absI us ns h2)
    cases u with
    | int i t =>
      cases h1
      exact ⟨_, rfl⟩
    | _ => cases h1
theorem vals_absA : ∀ (us : List Value) (fs : List Addr), us.map absA = fs.map some → Vals (fs.map V.ref) us
  | [], [], _ => .nil
  | [], _ :: _, h => nomatch h
  | _ :: _, [], h => nomatch h
  | u :: us, n :: ns, h => by
    rw [List.map_cons, List.map_cons] at h
    injection h with h1 h2
    refine .cons ?_ (vals_absA us ns h2)
    cases u with
    | ref i =>
      cases h1
      exact rfl
    | _ => cases h1
/-- a tuple of numbers -/
structure NumK (K : PySem.W.Frag) (x : Str) (ns : List Int) : Prop where
  ex : ∃ (a : Addr) (o : Obj) (its : Array Value) (n : Nat), PySem.W.nsIn K mainGlobals x = some (some (.ref a)) ∧ K.lookup a = some o ∧ o.cls = .type "tuple" ∧ o.data = .seq its n ∧ its.toList.map absI = ns.map some
theorem NumK.of {K : PySem.W.Frag} {x : Str} {ns : List Int} {a : Addr} {d : Option Addr} {its : Array Value} {n : Nat} {sl : Array (Option Value)} (ha : PySem.W.nsIn K mainGlobals x = some (some (.ref a))) (l : K.lookup a = some ⟨.type "tuple", d, .seq its n, sl⟩) (e : its.toList.map absI = ns.map some) : NumK K x ns := ⟨a, _, its, n, ha, l, rfl, rfl, e⟩
theorem NumK.tup {K : PySem.W.Frag} {h : Heap} {mg : Str → Option Value} {x : Str} {ns : List Int} (X : K.In h) (N : h.Ns mainGlobals mg) (t : NumK K x ns) (hl : ns.length ≤ 1000) : TupG K mg x ns := by
  obtain ⟨a, o, its, n, ha, l, hc, hd, e⟩ := t.ex
  refine ⟨a, PySem.W.mg_of X N ha, fun H => .inr ⟨o, its, n, l, hc, hd, ?_, vals_absI _ _ e⟩⟩
  have q := congrArg List.length e
  rw [List.length_map, List.length_map, Array.length_toList] at q
  rw [q, sizeLine_eq]
  omega
/-- a tuple of defs -/
structure TabK (K : PySem.W.Frag) (x : Str) (fs : List Addr) : Prop where
  ex : ∃ (a : Addr) (o : Obj) (its : Array Value) (n : Nat), PySem.W.nsIn K mainGlobals x = some (some (.ref a)) ∧ K.lookup a = some o ∧ o.cls = .type "tuple" ∧ o.data = .seq its n ∧ its.toList.map absA = fs.map some
theorem TabK.of {K : PySem.W.Frag} {x : Str} {fs : List Addr} {a : Addr} {d : Option Addr} {its : Array Value} {n : Nat} {sl : Array (Option Value)} (ha : PySem.W.nsIn K mainGlobals x = some (some (.ref a))) (l : K.lookup a = some ⟨.type "tuple", d, .seq its n, sl⟩) (e : its.toList.map absA = fs.map some) : TabK K x fs := ⟨a, _, its, n, ha, l, rfl, rfl, e⟩
theorem TabK.tab {K : PySem.W.Frag} {h : Heap} {mg : Str → Option Value} {x : Str} {ns : List Str} {fs : List Addr} (X : K.In h) (N : h.Ns mainGlobals mg) (t : TabK K x fs) (e2 : ns.map mg = fs.map fun f => some (.ref f)) (hl : fs.length ≤ 1000 := by exact Nat.le_of_ble_eq_true rfl) : TabG K mg x ns := by
  obtain ⟨a, o, its, n, ha, l, hc, hd, e⟩ := t.ex
  refine ⟨a, fs, PySem.W.mg_of X N ha, fun H => .inr ⟨o, its, n, l, hc, hd, ?_, vals_absA _ _ e⟩, e2⟩
  have q := congrArg List.length e
  rw [List.length_map, List.length_map, Array.length_toList] at q
  rw [q, sizeLine_eq]
  omega
/-- a number of the module; a name that it does not bind -/
def IntK (K : PySem.W.Frag) (x : Str) (i : Int) : Prop := ∃ t, PySem.W.nsIn K mainGlobals x = some (some (.int i t))
theorem IntK.of {K : PySem.W.Frag} {x : Str} {i : Int} {t : Nat} (h : PySem.W.nsIn K mainGlobals x = some (some (.int i t))) : IntK K x i := ⟨t, h⟩
theorem IntK.at_ {K : PySem.W.Frag} {h : Heap} {mg : Str → Option Value} {x : Str} {i : Int} (X : K.In h) (N : h.Ns mainGlobals mg) (k : IntK K x i) : IntG mg x i := by
  obtain ⟨t, e⟩ := k
  exact ⟨t, PySem.W.mg_of X N e⟩
def NonK (K : PySem.W.Frag) (x : Str) : Prop := PySem.W.nsIn K mainGlobals x = some none

theorem all_mk {P : Program} {w : World} {K : PySem.W.Frag} {h : Heap} {mg : Str → Option Value} {fa C CR CQ fR fB fQ fD fA f_is_prefix f_first_of f_contains f_prefixes_around f_all_prefixes f_covering f_validity_by f_validity f_is_passing f_is_own_valid f_tightened f_is_accepted f_accepted f_dropped f_rank f_best_for f_selected f_all_selected f_announcer_of f_destinations f_moved f_open_origins f_origins_of_prefixes f_claims_on f_can_take f_takers f_hijackers f_vulnerable f_valid_prefixes f_want f_want_member f_want_prefix f_add_roa f_remove_roa f_want_announcement f_announce f_withdraw f_set_strict f_tighten_roas f_changed f_told_list f_told_rows f_want_address f_tell_validity f_tell_destination f_address_count f_tell_hijackers f_vulnerable_addresses f_preview_tighten f_preview_announce f_dropped_announcements f_valid_prefix_count f_list_roas f_list_announcements f_asked f_answers : Addr} {od0 an0 : Option Addr} {sl0 : Array (Option Value)} {oc0 kV0 dc0 pm0 cd0 ct0 : Value} (X : K.In h) (N : h.Ns mainGlobals mg) (hfa : mg "answers" = some (.ref fa))
    (I_addr : IntK K "ADDRESSES" (64))
    (I_most : IntK K "MOST_LENGTH" (6))
    (I_notFound : IntK K "NOT_FOUND" (0))
    (I_valid : IntK K "VALID" (1))
    (I_invalid : IntK K "INVALID" (2))
    (I_nobody : IntK K "NOBODY" (-1))
    (I_members : IntK K "MEMBERS" (8))
    (I_missing : IntK K "MISSING" (-2))
    (I_noAnn : IntK K "NO_ANNOUNCEMENT" (-6))
    (I_exists_ : IntK K "EXISTS" (-17))
    (I_wrong : IntK K "WRONG" (-22))
    (I_full : IntK K "FULL" (-28))
    (I_mostRoas : IntK K "MOST_ROAS" (12))
    (I_mostAnns : IntK K "MOST_ANNOUNCEMENTS" (16))
    (I_noDest : IntK K "NO_DESTINATION" (-33))
    (I_firstQuery : IntK K "FIRST_QUERY" (7))
    (I_noReg : IntK K "NO_REGISTRY" (-11))
    (I_reset : IntK K "RESET" (0))
    (E_nLen : NonK K "len")
    (E_nRange : NonK K "range")
    (E_nAny : NonK K "any")
    (E_nMin : NonK K "min")
    (E_nInt : NonK K "int")
    (E_nTuple : NonK K "tuple")
    (E_nVE : NonK K "ValueError")
    (num1 : NumK K "SIZES" [64, 32, 16, 8, 4, 2, 1])
    (num2 : NumK K "NUMBERS" numsM)
    (KE : ErrK K C)
    (KR : ClsK K "Registry" "state" CR)
    (KQ : ClsK K "Request" "registry" CQ)
    (rin : MetK K CR "__init__" "Registry.__init__" sRegInit fR)
    (bcm : MetK K CR "become" "Registry.become" sBecome fB)
    (qin : MetK K CQ "__init__" "Request.__init__" sReqInit fQ)
    (don : MetK K CQ "done" "Request.done" sDone fD)
    (ans : MetK K CQ "answer" "Request.answer" sAnswer fA)
    (D_is_prefix : DefK K "is_prefix" sIsPrefix f_is_prefix)
    (D_first_of : DefK K "first_of" sFirstOf f_first_of)
    (D_contains : DefK K "contains" sContains f_contains)
    (D_prefixes_around : DefK K "prefixes_around" sAround f_prefixes_around)
    (D_all_prefixes : DefK K "all_prefixes" sAll f_all_prefixes)
    (D_covering : DefK K "covering" sCovering f_covering)
    (D_validity_by : DefK K "validity_by" sValBy f_validity_by)
    (D_validity : DefK K "validity" sValidity f_validity)
    (D_is_passing : DefK K "is_passing" sPassing f_is_passing)
    (D_is_own_valid : DefK K "is_own_valid" sOwnValid f_is_own_valid)
    (D_tightened : DefK K "tightened" sTight f_tightened)
    (D_is_accepted : DefK K "is_accepted" sIsAcc f_is_accepted)
    (D_accepted : DefK K "accepted" sAccepted f_accepted)
    (D_dropped : DefK K "dropped" sDropped f_dropped)
    (D_rank : DefK K "rank" sRank f_rank)
    (D_best_for : DefK K "best_for" sBest f_best_for)
    (D_selected : DefK K "selected" sSelected f_selected)
    (D_all_selected : DefK K "all_selected" sAllSel f_all_selected)
    (D_announcer_of : DefK K "announcer_of" sAnnOf f_announcer_of)
    (D_destinations : DefK K "destinations" sDests f_destinations)
    (D_moved : DefK K "moved" sMoved f_moved)
    (D_open_origins : DefK K "open_origins" sOpen f_open_origins)
    (D_origins_of_prefixes : DefK K "origins_of_prefixes" sOrg f_origins_of_prefixes)
    (D_claims_on : DefK K "claims_on" sClaims f_claims_on)
    (D_can_take : DefK K "can_take" sCanTake f_can_take)
    (D_takers : DefK K "takers" sTakers f_takers)
    (D_hijackers : DefK K "hijackers" sHijackers f_hijackers)
    (D_vulnerable : DefK K "vulnerable" sVuln f_vulnerable)
    (D_valid_prefixes : DefK K "valid_prefixes" sValPre f_valid_prefixes)
    (D_want : DefK K "want" sWant f_want)
    (D_want_member : DefK K "want_member" sWantMem f_want_member)
    (D_want_prefix : DefK K "want_prefix" sWantPre f_want_prefix)
    (D_add_roa : DefK K "add_roa" sAddRoa f_add_roa)
    (D_remove_roa : DefK K "remove_roa" sRemRoa f_remove_roa)
    (D_want_announcement : DefK K "want_announcement" sWantAnn f_want_announcement)
    (D_announce : DefK K "announce" sAnnounce f_announce)
    (D_withdraw : DefK K "withdraw" sWithdraw f_withdraw)
    (D_set_strict : DefK K "set_strict" sStrict f_set_strict)
    (D_tighten_roas : DefK K "tighten_roas" sTighten f_tighten_roas)
    (D_changed : DefK K "changed" sChanged f_changed)
    (D_told_list : DefK K "told_list" sToldList f_told_list)
    (D_told_rows : DefK K "told_rows" sToldRows f_told_rows)
    (D_want_address : DefK K "want_address" sWantAddr f_want_address)
    (D_tell_validity : DefK K "tell_validity" sTellVal f_tell_validity)
    (D_tell_destination : DefK K "tell_destination" sTellDest f_tell_destination)
    (D_address_count : DefK K "address_count" sAddrCount f_address_count)
    (D_tell_hijackers : DefK K "tell_hijackers" sTellHij f_tell_hijackers)
    (D_vulnerable_addresses : DefK K "vulnerable_addresses" sTellVuln f_vulnerable_addresses)
    (D_preview_tighten : DefK K "preview_tighten" sPreT f_preview_tighten)
    (D_preview_announce : DefK K "preview_announce" sPreA f_preview_announce)
    (D_dropped_announcements : DefK K "dropped_announcements" sDroppedQ f_dropped_announcements)
    (D_valid_prefix_count : DefK K "valid_prefix_count" sValPreQ f_valid_prefix_count)
    (D_list_roas : DefK K "list_roas" sListR f_list_roas)
    (D_list_announcements : DefK K "list_announcements" sListA f_list_announcements)
    (D_asked : DefK K "asked" sAsked f_asked)
    (a0 : PySem.W.nsIn K mainGlobals "answers" = some (some (.ref f_answers))) (l0 : K.lookup f_answers = some ⟨oc0, od0, .func (PySem.W.fnOf "answers" "answers" (defArgs sAns) (defBody sAns) (defScope sAns) .none kV0 dc0 pm0 an0 cd0 ct0), sl0⟩) (c0 : PySem.W.codeIn K cd0 "answers" = true) (k0 : PySem.W.keepIn K (.ref f_answers) = true)
    (tabC : TabK K "CHANGES" [f_add_roa, f_remove_roa, f_announce, f_withdraw, f_set_strict, f_tighten_roas])
    (tabQ : TabK K "QUERIES" [f_tell_validity, f_tell_destination, f_address_count, f_tell_hijackers, f_vulnerable_addresses, f_preview_tighten, f_preview_announce, f_dropped_announcements, f_valid_prefix_count, f_list_roas, f_list_announcements]) :
    ∃ fd : FuncData, (∀ (s : Shared) (us : List Value), us.length = (["calls"] : List Str).length → BindsTo s fd ⟨us, []⟩ ((["calls"] : List Str).zip us)) ∧ ∀ base : Heap, K.In base → base.Ns mainGlobals mg → FnOk P w K mg base CX0 17 fa fd ["calls"] (spAns K) := by
  have ea := hfa.symm.trans (PySem.W.mg_of X N a0)
  cases ea
  have G : Glob K mg :=
    { addr := I_addr.at_ X N, most := I_most.at_ X N, notFound := I_notFound.at_ X N, valid := I_valid.at_ X N, invalid := I_invalid.at_ X N, nobody := I_nobody.at_ X N, members := I_members.at_ X N, missing := I_missing.at_ X N, noAnn := I_noAnn.at_ X N, exists_ := I_exists_.at_ X N, wrong := I_wrong.at_ X N, full := I_full.at_ X N, mostRoas := I_mostRoas.at_ X N, mostAnns := I_mostAnns.at_ X N, noDest := I_noDest.at_ X N, firstQuery := I_firstQuery.at_ X N, noReg := I_noReg.at_ X N, reset := I_reset.at_ X N,
      nLen := PySem.W.mg_none_of X N E_nLen, nRange := PySem.W.mg_none_of X N E_nRange, nAny := PySem.W.mg_none_of X N E_nAny, nMin := PySem.W.mg_none_of X N E_nMin, nInt := PySem.W.mg_none_of X N E_nInt, nTuple := PySem.W.mg_none_of X N E_nTuple, nVE := PySem.W.mg_none_of X N E_nVE,
      sizes := num1.tup X N (by decide), numbers := num2.tup X N (by decide) }
  have TR : RefTxt K mg C := ⟨KE.oex, PySem.W.mg_of X N KE.a, KE.nc, KE.ini, KE.vV, KE.te, KE.xf⟩
  have F := fun_mk (st := sAns) l0 c0 k0
  refine ⟨PySem.W.fnOf "answers" "answers" (defArgs sAns) (defBody sAns) (defScope sAns) .none kV0 dc0 pm0 an0 cd0 ct0, fun s us hu => match us, hu with | [_], _ => .of_eq rfl, fun base _ _ => ?_⟩
  have h_is_prefix : CalD P w K mg base 1 "is_prefix" RIsPrefix := okIsPrefix (D_is_prefix.defn X N) G
  have h_first_of : CalD P w K mg base 1 "first_of" RFirstOf := okFirstOf (D_first_of.defn X N) G
  have h_contains : CalD P w K mg base 2 "contains" RContains := okContains (D_contains.defn X N) G h_first_of
  have h_prefixes_around : CalD P w K mg base 2 "prefixes_around" RAround := okAround (D_prefixes_around.defn X N) G h_first_of
  have h_all_prefixes : CalD P w K mg base 1 "all_prefixes" RAll := okAll (D_all_prefixes.defn X N) G
  have h_covering : CalD P w K mg base 3 "covering" RCovering := okCovering (D_covering.defn X N) G h_contains
  have h_validity_by : CalD P w K mg base 1 "validity_by" RValBy := okValBy (D_validity_by.defn X N) G
  have h_validity : CalD P w K mg base 4 "validity" RValidity := okValidity (D_validity.defn X N) h_covering h_validity_by
  have h_is_passing : CalD P w K mg base 1 "is_passing" RPassing := okPassing (D_is_passing.defn X N) G
  have h_is_own_valid : CalD P w K mg base 5 "is_own_valid" ROwnValid := okOwnValid (D_is_own_valid.defn X N) G h_validity
  have h_tightened : CalD P w K mg base 6 "tightened" RTight := okTight (D_tightened.defn X N) h_is_own_valid
  have h_is_accepted : CalD P w K mg base 5 "is_accepted" RIsAcc := okIsAcc (D_is_accepted.defn X N) h_validity h_is_passing
  have h_accepted : CalD P w K mg base 6 "accepted" RAccepted := okAccepted (D_accepted.defn X N) h_is_accepted
  have h_dropped : CalD P w K mg base 6 "dropped" RDropped := okDropped (D_dropped.defn X N) h_is_accepted
  have h_rank : CalD P w K mg base 1 "rank" RRank := okRank (D_rank.defn X N) G
  have h_best_for : CalD P w K mg base 4 "best_for" RBest := okBest (D_best_for.defn X N) G h_contains h_rank
  have h_selected : CalD P w K mg base 7 "selected" RSelected := okSelected (D_selected.defn X N) h_accepted h_best_for
  have h_all_selected : CalD P w K mg base 7 "all_selected" RAllSel := okAllSel (D_all_selected.defn X N) G h_accepted h_best_for
  have h_announcer_of : CalD P w K mg base 1 "announcer_of" RAnnOf := okAnnOf (D_announcer_of.defn X N) G
  have h_destinations : CalD P w K mg base 8 "destinations" RDests := okDests (D_destinations.defn X N) h_all_selected h_announcer_of
  have h_moved : CalD P w K mg base 9 "moved" RMoved := okMoved (D_moved.defn X N) G h_destinations
  have h_open_origins : CalD P w K mg base 4 "open_origins" ROpen := okOpen (D_open_origins.defn X N) G h_covering h_validity_by h_is_passing
  have h_origins_of_prefixes : CalD P w K mg base 5 "origins_of_prefixes" ROrg := okOrg (D_origins_of_prefixes.defn X N) h_all_prefixes h_open_origins
  have h_claims_on : CalD P w K mg base 3 "claims_on" RClaims := okClaims (D_claims_on.defn X N) h_prefixes_around
  have h_can_take : CalD P w K mg base 2 "can_take" RCanTake := okCanTake (D_can_take.defn X N) G h_rank
  have h_takers : CalD P w K mg base 4 "takers" RTakers := okTakers (D_takers.defn X N) G h_claims_on h_announcer_of h_can_take
  have h_hijackers : CalD P w K mg base 8 "hijackers" RHijackers := okHijackers (D_hijackers.defn X N) h_origins_of_prefixes h_selected h_takers
  have h_vulnerable : CalD P w K mg base 8 "vulnerable" RVuln := okVuln (D_vulnerable.defn X N) G h_origins_of_prefixes h_all_selected h_announcer_of h_takers
  have h_valid_prefixes : CalD P w K mg base 5 "valid_prefixes" RValPre := okValPre (D_valid_prefixes.defn X N) G h_all_prefixes h_validity
  have h_want : CalS P w K mg base 3 "want" (spW C RWant) := okWant (D_want.defn X N) TR G
  have h_want_member : CalS P w K mg base 4 "want_member" (spW C RWantMem) := okWantMem (D_want_member.defn X N) G h_want
  have h_want_prefix : CalS P w K mg base 4 "want_prefix" (spW C RWantPre) := okWantPre (D_want_prefix.defn X N) G h_want h_is_prefix
  have TG : RegTxt P w K mg base CR := ⟨KR.cls, KR.nA, bcm.tie fun f fd F M B => ⟨f, fd, M, okBecome F KR.cls KR.nA G h_moved, B fun _ _ _ _ _ _ us hl => match us, hl with | [_, _], _ => rfl⟩⟩
  have h_add_roa : CalS P w K mg base 11 "add_roa" (spReg C CR RAddRoa) := okAddRoa (D_add_roa.defn X N) G TG h_want_member h_want_prefix h_want
  have h_remove_roa : CalS P w K mg base 11 "remove_roa" (spReg C CR RRemRoa) := okRemRoa (D_remove_roa.defn X N) G TG h_want
  have h_want_announcement : CalS P w K mg base 5 "want_announcement" (spW C RWantAnn) := okWantAnn (D_want_announcement.defn X N) h_want_member h_want_prefix
  have h_announce : CalS P w K mg base 11 "announce" (spReg C CR RAnnounce) := okAnnounce (D_announce.defn X N) G TG h_want_announcement h_want h_validity
  have h_withdraw : CalS P w K mg base 11 "withdraw" (spReg C CR RWithdraw) := okWithdraw (D_withdraw.defn X N) G TG h_want_member h_want
  have h_set_strict : CalS P w K mg base 11 "set_strict" (spReg C CR RStrict) := okStrict (D_set_strict.defn X N) G TG h_want
  have h_tighten_roas : CalS P w K mg base 11 "tighten_roas" (spReg C CR RTighten) := okTighten (D_tighten_roas.defn X N) G TG h_want_member h_want h_tightened
  have Zc : Cs P w K mg base C CR := ⟨TabK.tab X N tabC (by
    show [mg "add_roa", mg "remove_roa", mg "announce", mg "withdraw", mg "set_strict", mg "tighten_roas"] = [some (.ref f_add_roa), some (.ref f_remove_roa), some (.ref f_announce), some (.ref f_withdraw), some (.ref f_set_strict), some (.ref f_tighten_roas)]
    rw [D_add_roa.at_ X N, D_remove_roa.at_ X N, D_announce.at_ X N, D_withdraw.at_ X N, D_set_strict.at_ X N, D_tighten_roas.at_ X N]), h_add_roa, h_remove_roa, h_announce, h_withdraw, h_set_strict, h_tighten_roas⟩
  have h_changed : CalS P w K mg base 12 "changed" (spChanged C CR) := okChanged (D_changed.defn X N) Zc
  have h_told_list : CalD P w K mg base 1 "told_list" RToldList := okToldList (D_told_list.defn X N) G
  have h_told_rows : CalD P w K mg base 1 "told_rows" RToldRows := okToldRows (D_told_rows.defn X N)
  have h_want_address : CalS P w K mg base 4 "want_address" (spW C RWantAddr) := okWantAddr (D_want_address.defn X N) G h_want
  have h_tell_validity : CalS P w K mg base 12 "tell_validity" (spX C RTellVal) := okTellVal (D_tell_validity.defn X N) h_want_member h_want_prefix h_validity
  have h_tell_destination : CalS P w K mg base 12 "tell_destination" (spX C RTellDest) := okTellDest (D_tell_destination.defn X N) G h_want_address h_selected h_want
  have h_address_count : CalS P w K mg base 12 "address_count" (spX C RAddrCount) := okAddrCount (D_address_count.defn X N) G h_want_member h_destinations
  have h_tell_hijackers : CalS P w K mg base 12 "tell_hijackers" (spX C RTellHij) := okTellHij (D_tell_hijackers.defn X N) h_want_address h_hijackers h_told_list
  have h_vulnerable_addresses : CalS P w K mg base 12 "vulnerable_addresses" (spX C RTellVuln) := okTellVuln (D_vulnerable_addresses.defn X N) h_want_member h_vulnerable h_told_list
  have h_preview_tighten : CalS P w K mg base 12 "preview_tighten" (spX C RPreT) := okPreT (D_preview_tighten.defn X N) G h_want_member h_tightened h_vulnerable h_moved
  have h_preview_announce : CalS P w K mg base 12 "preview_announce" (spX C RPreA) := okPreA (D_preview_announce.defn X N) G h_want_announcement h_told_list h_moved
  have h_dropped_announcements : CalS P w K mg base 12 "dropped_announcements" (spX C RDroppedQ) := okDroppedQ (D_dropped_announcements.defn X N) G h_dropped h_told_rows
  have h_valid_prefix_count : CalS P w K mg base 12 "valid_prefix_count" (spX C RValPreQ) := okValPreQ (D_valid_prefix_count.defn X N) G h_want_member h_valid_prefixes
  have h_list_roas : CalS P w K mg base 12 "list_roas" (spX C RListR) := okListR (D_list_roas.defn X N) G h_told_rows
  have h_list_announcements : CalS P w K mg base 12 "list_announcements" (spX C RListA) := okListA (D_list_announcements.defn X N) G h_told_rows
  have Zq : Qs P w K mg base C := ⟨TabK.tab X N tabQ (by
    show [mg "tell_validity", mg "tell_destination", mg "address_count", mg "tell_hijackers", mg "vulnerable_addresses", mg "preview_tighten", mg "preview_announce", mg "dropped_announcements", mg "valid_prefix_count", mg "list_roas", mg "list_announcements"] = [some (.ref f_tell_validity), some (.ref f_tell_destination), some (.ref f_address_count), some (.ref f_tell_hijackers), some (.ref f_vulnerable_addresses), some (.ref f_preview_tighten), some (.ref f_preview_announce), some (.ref f_dropped_announcements), some (.ref f_valid_prefix_count), some (.ref f_list_roas), some (.ref f_list_announcements)]
    rw [D_tell_validity.at_ X N, D_tell_destination.at_ X N, D_address_count.at_ X N, D_tell_hijackers.at_ X N, D_vulnerable_addresses.at_ X N, D_preview_tighten.at_ X N, D_preview_announce.at_ X N, D_dropped_announcements.at_ X N, D_valid_prefix_count.at_ X N, D_list_roas.at_ X N, D_list_announcements.at_ X N]), h_tell_validity, h_tell_destination, h_address_count, h_tell_hijackers, h_vulnerable_addresses, h_preview_tighten, h_preview_announce, h_dropped_announcements, h_valid_prefix_count, h_list_roas, h_list_announcements⟩
  have h_asked : CalS P w K mg base 13 "asked" (spX C RAsked) := okAsked (D_asked.defn X N) G Zq
  have TQ : ReqTxt P w K mg base CR CQ := ⟨KQ.cls, KQ.nA, KR.cls, KR.nA, PySem.W.mg_of X N KR.a, PySem.W.mg_of X N KQ.a⟩
  have MR : ∃ (fI : Addr) (fd : FuncData), Mk K CR fI ∧ FnOk P w K mg base CX0 1 fI fd ["self"] (spRegInit CR) ∧ Binds K fd ["self"] [] := rin.tie fun f fd F M B => ⟨f, fd, ⟨KR.mak, M.at_, M.fn, KR.kc⟩, okRegInit F KR.cls KR.nA, B fun _ _ _ _ _ _ us hl => match us, hl with | [_], _ => rfl⟩
  refine don.tie fun f2 fd2 F2 M2 B2 => ?_
  have b2 : Binds K fd2 nDone [] := B2 fun _ _ _ _ _ _ us hl => match us, hl with | [_, _, _], _ => rfl
  have GD := okDone (P := P) (w := w) (base := base) F2 G TQ MR h_want h_changed h_asked
  refine ans.tie fun f3 fd3 F3 M3 B3 => ?_
  have b3 : Binds K fd3 ["self", "call", "numbers"] [] := B3 fun _ _ _ _ _ _ us hl => match us, hl with | [_, _, _], _ => rfl
  have GA := okAnswer (P := P) (w := w) (base := base) F3 TR TQ GD b2 M2
  refine qin.tie fun f1 fd1 F1 M1 B1 => ?_
  exact okAns F G TQ ⟨KQ.mak, M1.at_, M1.fn, KQ.kc⟩ (okReqInit F1 KQ.cls KQ.nA) (B1 fun _ _ _ _ _ _ us hl => match us, hl with | [_], _ => rfl) GA b3 M3
end Ow
/-! the last theorem -/
open PySem PySem.W PyProof.Rows
set_option maxRecDepth 100000 in
set_option maxHeartbeats 16000000 in
theorem PySem.Challenge.cw_originways_s01_answers_holds : PySem.Challenge.rw_originways_s01_answers.Holds := by
  w_on; k_headS; (case hw => exact ⟨[.list [.int 0]], by decide +kernel, by decide +kernel⟩)
  k_fillS
  refine L2.walk_specK (r := PySem.Challenge.rw_originways_s01_answers) (k := 17) (CX := L2.CX0) (ps := ["calls"]) (sp := Ow.spAns) (by decide +kernel) rfl rfl ⟨rfl, by decide, by decide⟩ (fun w h Y => PySem.W.kIn_of Y) ?F ?S (fun _ _ _ _ z => z)
  case F =>
    intro w mg fa h Y KX G hmg
    refine' Ow.all_mk KX G hmg ?i_addr ?i_most ?i_notFound ?i_valid ?i_invalid ?i_nobody ?i_members ?i_missing ?i_noAnn ?i_exists_ ?i_wrong ?i_full ?i_mostRoas ?i_mostAnns ?i_noDest ?i_firstQuery ?i_noReg ?i_reset ?e_nLen ?e_nRange ?e_nAny ?e_nMin ?e_nInt ?e_nTuple ?e_nVE ?num1 ?num2 ?ke ?kr ?kq ?rin ?bcm ?qin ?don ?ans ?d_is_prefix ?d_first_of ?d_contains ?d_prefixes_around ?d_all_prefixes ?d_covering ?d_validity_by ?d_validity ?d_is_passing ?d_is_own_valid ?d_tightened ?d_is_accepted ?d_accepted ?d_dropped ?d_rank ?d_best_for ?d_selected ?d_all_selected ?d_announcer_of ?d_destinations ?d_moved ?d_open_origins ?d_origins_of_prefixes ?d_claims_on ?d_can_take ?d_takers ?d_hijackers ?d_vulnerable ?d_valid_prefixes ?d_want ?d_want_member ?d_want_prefix ?d_add_roa ?d_remove_roa ?d_want_announcement ?d_announce ?d_withdraw ?d_set_strict ?d_tighten_roas ?d_changed ?d_told_list ?d_told_rows ?d_want_address ?d_tell_validity ?d_tell_destination ?d_address_count ?d_tell_hijackers ?d_vulnerable_addresses ?d_preview_tighten ?d_preview_announce ?d_dropped_announcements ?d_valid_prefix_count ?d_list_roas ?d_list_announcements ?d_asked ?a0 ?l0 ?c0 ?k0 ?tabC ?tabQ
    (case i_addr => refine' Ow.IntK.of ?a; (case a => k_is))
    (case i_most => refine' Ow.IntK.of ?a; (case a => k_is))
    (case i_notFound => refine' Ow.IntK.of ?a; (case a => k_is))
    (case i_valid => refine' Ow.IntK.of ?a; (case a => k_is))
    (case i_invalid => refine' Ow.IntK.of ?a; (case a => k_is))
    (case i_nobody => refine' Ow.IntK.of ?a; (case a => k_is))
    (case i_members => refine' Ow.IntK.of ?a; (case a => k_is))
    (case i_missing => refine' Ow.IntK.of ?a; (case a => k_is))
    (case i_noAnn => refine' Ow.IntK.of ?a; (case a => k_is))
    (case i_exists_ => refine' Ow.IntK.of ?a; (case a => k_is))
    (case i_wrong => refine' Ow.IntK.of ?a; (case a => k_is))
    (case i_full => refine' Ow.IntK.of ?a; (case a => k_is))
    (case i_mostRoas => refine' Ow.IntK.of ?a; (case a => k_is))
    (case i_mostAnns => refine' Ow.IntK.of ?a; (case a => k_is))
    (case i_noDest => refine' Ow.IntK.of ?a; (case a => k_is))
    (case i_firstQuery => refine' Ow.IntK.of ?a; (case a => k_is))
    (case i_noReg => refine' Ow.IntK.of ?a; (case a => k_is))
    (case i_reset => refine' Ow.IntK.of ?a; (case a => k_is))
    (case e_nLen => show PySem.W.nsIn _ PySem.mainGlobals _ = _; k_is)
    (case e_nRange => show PySem.W.nsIn _ PySem.mainGlobals _ = _; k_is)
    (case e_nAny => show PySem.W.nsIn _ PySem.mainGlobals _ = _; k_is)
    (case e_nMin => show PySem.W.nsIn _ PySem.mainGlobals _ = _; k_is)
    (case e_nInt => show PySem.W.nsIn _ PySem.mainGlobals _ = _; k_is)
    (case e_nTuple => show PySem.W.nsIn _ PySem.mainGlobals _ = _; k_is)
    (case e_nVE => show PySem.W.nsIn _ PySem.mainGlobals _ = _; k_is)
    (case num1 => refine' Ow.NumK.of ?a ?l ?e; (case a => k_is); (case l => k_is); (case e => rfl))
    (case num2 => refine' Ow.NumK.of ?a ?l ?e; (case a => k_is); (case l => k_is); (case e => rfl))
    (case ke => refine' Ow.ErrK.of ?a ?xL ?sa ?ga ?gg ?nc ?a1 ?t1 ?l1 ?c1 ?k1 ?kC ?eC ?tC ?hC ?iC ?sC ?vV; (case a => k_is); (case xL => k_is); (case sa => k_is); (case ga => k_is); (case gg => k_is); (case nc => k_is); (case a1 => k_is); (case t1 => k_is); (case l1 => k_is); (case c1 => k_is); (case k1 => k_is); (case kC => k_is); (case eC => k_is); (case tC => k_is); (case hC => k_is); (case iC => k_is); (case sC => first | rfl | k_is); (case vV => k_is))
    (case kr => refine' Ow.ClsK.of ?a ?pg ?hd ?po ?sa ?nA ?mk ?kc; (case a => k_is); (case pg => k_is); (case hd => k_is); (case po => k_is); (case sa => k_is); (case nA => k_is); (case mk => k_is); (case kc => k_is))
    (case kq => refine' Ow.ClsK.of ?a ?pg ?hd ?po ?sa ?nA ?mk ?kc; (case a => k_is); (case pg => k_is); (case hd => k_is); (case po => k_is); (case sa => k_is); (case nA => k_is); (case mk => k_is); (case kc => k_is))
    (case rin => refine' Ow.MetK.of ?a ?i ?l ?c ?k; (case a => k_is); (case i => k_is); (case l => k_is); (case c => k_is); (case k => k_is))
    (case bcm => refine' Ow.MetK.of ?a ?i ?l ?c ?k; (case a => k_is); (case i => k_is); (case l => k_is); (case c => k_is); (case k => k_is))
    (case qin => refine' Ow.MetK.of ?a ?i ?l ?c ?k; (case a => k_is); (case i => k_is); (case l => k_is); (case c => k_is); (case k => k_is))
    (case don => refine' Ow.MetK.of ?a ?i ?l ?c ?k; (case a => k_is); (case i => k_is); (case l => k_is); (case c => k_is); (case k => k_is))
    (case ans => refine' Ow.MetK.of ?a ?i ?l ?c ?k; (case a => k_is); (case i => k_is); (case l => k_is); (case c => k_is); (case k => k_is))
    (case d_is_prefix => refine' Ow.DefK.of ?a ?l ?c ?k; (case a => k_is); (case l => k_is); (case c => k_is); (case k => k_is))
    (case d_first_of => refine' Ow.DefK.of ?a ?l ?c ?k; (case a => k_is); (case l => k_is); (case c => k_is); (case k => k_is))
    (case d_contains => refine' Ow.DefK.of ?a ?l ?c ?k; (case a => k_is); (case l => k_is); (case c => k_is); (case k => k_is))
    (case d_prefixes_around => refine' Ow.DefK.of ?a ?l ?c ?k; (case a => k_is); (case l => k_is); (case c => k_is); (case k => k_is))
    (case d_all_prefixes => refine' Ow.DefK.of ?a ?l ?c ?k; (case a => k_is); (case l => k_is); (case c => k_is); (case k => k_is))
    (case d_covering => refine' Ow.DefK.of ?a ?l ?c ?k; (case a => k_is); (case l => k_is); (case c => k_is); (case k => k_is))
    (case d_validity_by => refine' Ow.DefK.of ?a ?l ?c ?k; (case a => k_is); (case l => k_is); (case c => k_is); (case k => k_is))
    (case d_validity => refine' Ow.DefK.of ?a ?l ?c ?k; (case a => k_is); (case l => k_is); (case c => k_is); (case k => k_is))
    (case d_is_passing => refine' Ow.DefK.of ?a ?l ?c ?k; (case a => k_is); (case l => k_is); (case c => k_is); (case k => k_is))
    (case d_is_own_valid => refine' Ow.DefK.of ?a ?l ?c ?k; (case a => k_is); (case l => k_is); (case c => k_is); (case k => k_is))
    (case d_tightened => refine' Ow.DefK.of ?a ?l ?c ?k; (case a => k_is); (case l => k_is); (case c => k_is); (case k => k_is))
    (case d_is_accepted => refine' Ow.DefK.of ?a ?l ?c ?k; (case a => k_is); (case l => k_is); (case c => k_is); (case k => k_is))
    (case d_accepted => refine' Ow.DefK.of ?a ?l ?c ?k; (case a => k_is); (case l => k_is); (case c => k_is); (case k => k_is))
    (case d_dropped => refine' Ow.DefK.of ?a ?l ?c ?k; (case a => k_is); (case l => k_is); (case c => k_is); (case k => k_is))
    (case d_rank => refine' Ow.DefK.of ?a ?l ?c ?k; (case a => k_is); (case l => k_is); (case c => k_is); (case k => k_is))
    (case d_best_for => refine' Ow.DefK.of ?a ?l ?c ?k; (case a => k_is); (case l => k_is); (case c => k_is); (case k => k_is))
    (case d_selected => refine' Ow.DefK.of ?a ?l ?c ?k; (case a => k_is); (case l => k_is); (case c => k_is); (case k => k_is))
    (case d_all_selected => refine' Ow.DefK.of ?a ?l ?c ?k; (case a => k_is); (case l => k_is); (case c => k_is); (case k => k_is))
    (case d_announcer_of => refine' Ow.DefK.of ?a ?l ?c ?k; (case a => k_is); (case l => k_is); (case c => k_is); (case k => k_is))
    (case d_destinations => refine' Ow.DefK.of ?a ?l ?c ?k; (case a => k_is); (case l => k_is); (case c => k_is); (case k => k_is))
    (case d_moved => refine' Ow.DefK.of ?a ?l ?c ?k; (case a => k_is); (case l => k_is); (case c => k_is); (case k => k_is))
    (case d_open_origins => refine' Ow.DefK.of ?a ?l ?c ?k; (case a => k_is); (case l => k_is); (case c => k_is); (case k => k_is))
    (case d_origins_of_prefixes => refine' Ow.DefK.of ?a ?l ?c ?k; (case a => k_is); (case l => k_is); (case c => k_is); (case k => k_is))
    (case d_claims_on => refine' Ow.DefK.of ?a ?l ?c ?k; (case a => k_is); (case l => k_is); (case c => k_is); (case k => k_is))
    (case d_can_take => refine' Ow.DefK.of ?a ?l ?c ?k; (case a => k_is); (case l => k_is); (case c => k_is); (case k => k_is))
    (case d_takers => refine' Ow.DefK.of ?a ?l ?c ?k; (case a => k_is); (case l => k_is); (case c => k_is); (case k => k_is))
    (case d_hijackers => refine' Ow.DefK.of ?a ?l ?c ?k; (case a => k_is); (case l => k_is); (case c => k_is); (case k => k_is))
    (case d_vulnerable => refine' Ow.DefK.of ?a ?l ?c ?k; (case a => k_is); (case l => k_is); (case c => k_is); (case k => k_is))
    (case d_valid_prefixes => refine' Ow.DefK.of ?a ?l ?c ?k; (case a => k_is); (case l => k_is); (case c => k_is); (case k => k_is))
    (case d_want => refine' Ow.DefK.of ?a ?l ?c ?k; (case a => k_is); (case l => k_is); (case c => k_is); (case k => k_is))
    (case d_want_member => refine' Ow.DefK.of ?a ?l ?c ?k; (case a => k_is); (case l => k_is); (case c => k_is); (case k => k_is))
    (case d_want_prefix => refine' Ow.DefK.of ?a ?l ?c ?k; (case a => k_is); (case l => k_is); (case c => k_is); (case k => k_is))
    (case d_add_roa => refine' Ow.DefK.of ?a ?l ?c ?k; (case a => k_is); (case l => k_is); (case c => k_is); (case k => k_is))
    (case d_remove_roa => refine' Ow.DefK.of ?a ?l ?c ?k; (case a => k_is); (case l => k_is); (case c => k_is); (case k => k_is))
    (case d_want_announcement => refine' Ow.DefK.of ?a ?l ?c ?k; (case a => k_is); (case l => k_is); (case c => k_is); (case k => k_is))
    (case d_announce => refine' Ow.DefK.of ?a ?l ?c ?k; (case a => k_is); (case l => k_is); (case c => k_is); (case k => k_is))
    (case d_withdraw => refine' Ow.DefK.of ?a ?l ?c ?k; (case a => k_is); (case l => k_is); (case c => k_is); (case k => k_is))
    (case d_set_strict => refine' Ow.DefK.of ?a ?l ?c ?k; (case a => k_is); (case l => k_is); (case c => k_is); (case k => k_is))
    (case d_tighten_roas => refine' Ow.DefK.of ?a ?l ?c ?k; (case a => k_is); (case l => k_is); (case c => k_is); (case k => k_is))
    (case d_changed => refine' Ow.DefK.of ?a ?l ?c ?k; (case a => k_is); (case l => k_is); (case c => k_is); (case k => k_is))
    (case d_told_list => refine' Ow.DefK.of ?a ?l ?c ?k; (case a => k_is); (case l => k_is); (case c => k_is); (case k => k_is))
    (case d_told_rows => refine' Ow.DefK.of ?a ?l ?c ?k; (case a => k_is); (case l => k_is); (case c => k_is); (case k => k_is))
    (case d_want_address => refine' Ow.DefK.of ?a ?l ?c ?k; (case a => k_is); (case l => k_is); (case c => k_is); (case k => k_is))
    (case d_tell_validity => refine' Ow.DefK.of ?a ?l ?c ?k; (case a => k_is); (case l => k_is); (case c => k_is); (case k => k_is))
    (case d_tell_destination => refine' Ow.DefK.of ?a ?l ?c ?k; (case a => k_is); (case l => k_is); (case c => k_is); (case k => k_is))
    (case d_address_count => refine' Ow.DefK.of ?a ?l ?c ?k; (case a => k_is); (case l => k_is); (case c => k_is); (case k => k_is))
    (case d_tell_hijackers => refine' Ow.DefK.of ?a ?l ?c ?k; (case a => k_is); (case l => k_is); (case c => k_is); (case k => k_is))
    (case d_vulnerable_addresses => refine' Ow.DefK.of ?a ?l ?c ?k; (case a => k_is); (case l => k_is); (case c => k_is); (case k => k_is))
    (case d_preview_tighten => refine' Ow.DefK.of ?a ?l ?c ?k; (case a => k_is); (case l => k_is); (case c => k_is); (case k => k_is))
    (case d_preview_announce => refine' Ow.DefK.of ?a ?l ?c ?k; (case a => k_is); (case l => k_is); (case c => k_is); (case k => k_is))
    (case d_dropped_announcements => refine' Ow.DefK.of ?a ?l ?c ?k; (case a => k_is); (case l => k_is); (case c => k_is); (case k => k_is))
    (case d_valid_prefix_count => refine' Ow.DefK.of ?a ?l ?c ?k; (case a => k_is); (case l => k_is); (case c => k_is); (case k => k_is))
    (case d_list_roas => refine' Ow.DefK.of ?a ?l ?c ?k; (case a => k_is); (case l => k_is); (case c => k_is); (case k => k_is))
    (case d_list_announcements => refine' Ow.DefK.of ?a ?l ?c ?k; (case a => k_is); (case l => k_is); (case c => k_is); (case k => k_is))
    (case d_asked => refine' Ow.DefK.of ?a ?l ?c ?k; (case a => k_is); (case l => k_is); (case c => k_is); (case k => k_is))
    (case a0 => k_is)
    (case l0 => k_is)
    (case c0 => k_is)
    (case k0 => k_is)
    (case tabC => refine' Ow.TabK.of ?a ?l ?e; (case a => k_is); (case l => k_is); (case e => rfl))
    (case tabQ => refine' Ow.TabK.of ?a ?l ?e; (case a => k_is); (case l => k_is); (case e => rfl))
  case S =>
    intro K H xs a hO hwi hask hx
    cases hx with
    | cons h1 h2 =>
      cases h2
      cases h1 with
      | lst hs ha =>
        have e := L2.ints_dw a.1 _ ha
        subst e
        have hq : PySu202.answers_asked a.1 = true := hask
        exact ⟨_, a.1, PySu202.answers a.1, rfl, hs, (Ow.rem_ask hq).1, (Ow.rem_ask hq).2, fun H' p hp => .lst (L2.SqL.of hp) (L2.dw_ints _)⟩
