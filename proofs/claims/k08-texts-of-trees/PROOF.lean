import PyProof.Rows.All
import Wide.All
import OpenK.AllK
import Wide.FinOn
import HandS.ForMost
import HandS.Exc
import HandS.ExcOwn
import HandS.WordsExc
import HandS.Walk
import HandS.Flow
import PyProof.EqKinds
import PyProof.NeKinds
import PyProof.NeData
import HandS.TupAny
import HandS.TupLe
import HandS.Style
import HandS.IsInst
import HandS.ExcInit
import HandS.ExcField
import HandS.ExcIs
import HandS.Small
import HandS.Words
import HandS.Ends
import PySem.Challenge.RW_backlook_k08_texts_of_trees
set_option Elab.async false
set_option linter.all false
set_option maxRecDepth 100000
set_option maxHeartbeats 2000000
namespace Bk
open PySem PySem.Spec PyProof.Rows L2

/-! ### 1. values and what a def's names hold -/
/-- an object that is changed: a list, a dict, an instance of the class number c -/
inductive O where
  | lst (xs : List PyData)
  | dct (kvs : List (Key × PyData))
  | ins (c : Nat) (fs : List (Str × PyData))
/-- what a name holds: nothing, a value, an object of the def's own, an object of the caller's -/
inductive Sl where
  | un
  | val (d : PyData)
  | own (o : O)
  | io (o : O)
abbrev SEnv := List Sl
/-- an exception: its class's number, its fields -/
structure Ex where
  c : Nat
  fs : List (Str × PyData)
/-- what an expression comes to -/
inductive R (α : Type) where
  | stuck
  | ok (a : α) (env : SEnv)
  | exc (x : Ex) (env : SEnv)
/-- what a statement comes to -/
inductive SR where
  | stuck
  | nx (env : SEnv)
  | rt (d : PyData) (env : SEnv)
  | bk (env : SEnv)
  | ct (env : SEnv)
  | exc (x : Ex) (env : SEnv)

def Sl.obj : Sl → Option O
  | .own o => some o
  | .io o => some o
  | _ => none

/-! ### 2. the heap behind them -/
theorem SqT.mono {K : PySem.W.Frag} {H H' : Hp} {a : Addr} {xs : List V} (e : Same H H') (h : SqT K H a xs) : SqT K H' a xs := by
  rcases h with (h | ⟨o, h⟩) | h
  · exact .inl (.inl (e _ _ h))
  · exact .inl (.inr ⟨o, e _ _ h⟩)
  · exact .inr h
theorem SqL.mono {K : PySem.W.Frag} {H H' : Hp} {a : Addr} {xs : List V} (e : Same H H') (h : SqL K H a xs) : SqL K H' a xs := e.seq h
mutual
theorem dp_mono {K : PySem.W.Frag} {H H' : Hp} (e : Same H H') : ∀ {d : PyData} {v : V}, Dp K H v d → Dp K H' v d
  | .none, _, h => by cases h; exact .non
  | .bool b, _, h => by cases h; exact .bl b
  | .int i, _, h => by cases h; exact .int i
  | .str x, _, h => by cases h; exact .str x
  | .list ds, _, h => by
    cases h with
    | lst hs ha => exact .lst (SqL.mono e hs) (dpAll_mono e ha)
  | .tuple ds, _, h => by
    cases h with
    | tup hs ha => exact .tup (SqT.mono e hs) (dpAll_mono e ha)
  | .dict _, _, h => by cases h
theorem dpAll_mono {K : PySem.W.Frag} {H H' : Hp} (e : Same H H') : ∀ {ds : List PyData} {vs : List V}, DpAll K H vs ds → DpAll K H' vs ds
  | [], _, h => by cases h; exact .nil
  | _ :: _, _, h => by
    cases h with
    | cons h1 h2 => exact .cons (dp_mono e h1) (dpAll_mono e h2)
end
theorem dpAll_len {K : PySem.W.Frag} {H : Hp} : ∀ {ds : List PyData} {vs : List V}, DpAll K H vs ds → vs.length = ds.length
  | [], _, h => by cases h; rfl
  | _ :: _, _, h => by
    cases h with
    | cons h1 h2 => simp [dpAll_len h2]
theorem dpAll_app {K : PySem.W.Frag} {H : Hp} : ∀ {ds es : List PyData} {vs ws : List V}, DpAll K H vs ds → DpAll K H ws es → DpAll K H (vs ++ ws) (ds ++ es)
  | [], _, _, _, h, h' => by cases h; exact h'
  | _ :: _, _, _, _, h, h' => by
    cases h with
    | cons h1 h2 => exact .cons h1 (dpAll_app h2 h')
theorem dpAll_get {K : PySem.W.Frag} {H : Hp} : ∀ {ds : List PyData} {vs : List V} {i : Nat} {d : PyData}, DpAll K H vs ds → ds[i]? = some d → ∃ v, vs[i]? = some v ∧ Dp K H v d
  | [], _, _, _, h, e => by simp at e
  | d :: ds, _, i, d', h, e => by
    cases h with
    | cons h1 h2 =>
      cases i with
      | zero => simp at e; subst e; exact ⟨_, rfl, h1⟩
      | succ i =>
        obtain ⟨v, q, r⟩ := dpAll_get h2 (i := i) (d := d') (by simpa using e)
        exact ⟨v, by simpa using q, r⟩
theorem dpAll_getV {K : PySem.W.Frag} {H : Hp} : ∀ {ds : List PyData} {vs : List V} {i : Nat} {v : V}, DpAll K H vs ds → vs[i]? = some v → ∃ d, ds[i]? = some d ∧ Dp K H v d
  | [], _, _, _, h, e => by cases h; simp at e
  | d :: ds, _, i, v', h, e => by
    cases h with
    | cons h1 h2 =>
      cases i with
      | zero => simp at e; subst e; exact ⟨_, rfl, h1⟩
      | succ i =>
        obtain ⟨v, q, r⟩ := dpAll_getV h2 (i := i) (v := v') (by simpa using e)
        exact ⟨v, by simpa using q, r⟩
theorem dpAll_take {K : PySem.W.Frag} {H : Hp} : ∀ {ds : List PyData} {vs : List V} (n : Nat), DpAll K H vs ds → DpAll K H (vs.take n) (ds.take n)
  | [], _, n, h => by cases h; simp; exact .nil
  | d :: ds, _, 0, h => .nil
  | d :: ds, _, n + 1, h => by
    cases h with
    | cons h1 h2 => exact .cons h1 (dpAll_take n h2)
theorem dpAll_drop {K : PySem.W.Frag} {H : Hp} : ∀ {ds : List PyData} {vs : List V} (n : Nat), DpAll K H vs ds → DpAll K H (vs.drop n) (ds.drop n)
  | [], _, n, h => by cases h; simp; exact .nil
  | d :: ds, _, 0, h => h
  | d :: ds, _, n + 1, h => by
    cases h with
    | cons h1 h2 => exact dpAll_drop n h2
theorem dpAll_set {K : PySem.W.Frag} {H : Hp} {v : V} {d : PyData} (h0 : Dp K H v d) : ∀ {ds : List PyData} {vs : List V} (n : Nat), DpAll K H vs ds → DpAll K H (vs.set n v) (ds.set n d)
  | [], _, n, h => by cases h; exact .nil
  | d :: ds, _, 0, h => by
    cases h with
    | cons h1 h2 => exact .cons h0 h2
  | d :: ds, _, n + 1, h => by
    cases h with
    | cons h1 h2 => exact .cons h1 (dpAll_set h0 n h2)

/-- a dict's entries, an instance's fields -/
def DpK {α : Type} (K : PySem.W.Frag) (H : Hp) (vs : List (α × V)) (ds : List (α × PyData)) : Prop := Paired (fun p q => p.1 = q.1 ∧ Dp K H p.2 q.2) vs ds
theorem DpK.mono {α : Type} {K : PySem.W.Frag} {H H' : Hp} (e : Same H H') {vs : List (α × V)} {ds : List (α × PyData)} (h : DpK K H vs ds) : DpK K H' vs ds := Paired.mapP h fun _ _ q => ⟨q.1, dp_mono e q.2⟩

/-- a def's entry: the classes' places, the heap, what of it stands still, the caller's objects by their slots -/
structure Fm where
  K : PySem.W.Frag
  cad : Nat → Addr
  H0 : Hp
  F0 : Hp
  io : Nat → Addr → Prop

/-- the object o lies at a, what is in it lies in F -/
def OAt (K : PySem.W.Frag) (cad : Nat → Addr) (F H : Hp) (a : Addr) : O → Prop
  | .lst ds => ∃ xs, H a = some (.lst xs) ∧ DpAll K F xs ds
  | .dct kvs => ∃ xs, H a = some (.dK xs) ∧ DpK K F xs kvs
  | .ins c fs => ∃ dx xs, H a = some (.ins (cad c) dx xs) ∧ DpK K F xs fs
theorem OAt.mono {K : PySem.W.Frag} {cad : Nat → Addr} {F F' H H' : Hp} {a : Addr} {o : O} (x : OAt K cad F H a o) (e : Same F F') (k : H' a = H a) : OAt K cad F' H' a o := by
  cases o with
  | lst ds => obtain ⟨xs, h, d⟩ := x; exact ⟨xs, by rw [k]; exact h, dpAll_mono e d⟩
  | dct kvs => obtain ⟨xs, h, d⟩ := x; exact ⟨xs, by rw [k]; exact h, d.mono e⟩
  | ins c fs => obtain ⟨dx, xs, h, d⟩ := x; exact ⟨dx, xs, by rw [k]; exact h, d.mono e⟩
theorem OAt.some {K : PySem.W.Frag} {cad : Nat → Addr} {F H : Hp} {a : Addr} {o : O} (x : OAt K cad F H a o) : ∃ u, H a = some u := by
  cases o with
  | lst ds => obtain ⟨xs, h, d⟩ := x; exact ⟨_, h⟩
  | dct kvs => obtain ⟨xs, h, d⟩ := x; exact ⟨_, h⟩
  | ins c fs => obtain ⟨dx, xs, h, d⟩ := x; exact ⟨_, h⟩

/-- what a slot holds -/
def SlOk (G : Fm) (F H : Hp) (i : Nat) : Sl → Option V → Prop
  | .un, _ => True
  | .val d, ov => ∃ v, ov = some v ∧ Dp G.K F v d
  | .own o, ov => ∃ a, ov = some (.ref a) ∧ F a = none ∧ G.H0 a = none ∧ OAt G.K G.cad F H a o
  | .io o, ov => ∃ a, ov = some (.ref a) ∧ F a = none ∧ G.io i a ∧ OAt G.K G.cad F H a o

/-- the state: env tells what the slots σ hold over H; F is the part of H that no more changes; ps are values at hand, po objects at hand -/
structure Rel (G : Fm) (F : Hp) (env : SEnv) (ps : List (V × PyData)) (po : List (Addr × O)) (σ : L2.St) (H : Hp) : Prop where
  len : env.length = σ.length
  sub : Same F H
  slot : ∀ (i : Nat) (l : Sl), env[i]? = some l → ∃ ov, σ[i]? = some ov ∧ SlOk G F H i l ov
  dist : ∀ (i j : Nat) (l m : Sl) (a : Addr), i ≠ j → env[i]? = some l → env[j]? = some m → l.obj.isSome = true → m.obj.isSome = true → σ[i]? = some (some (.ref a)) → σ[j]? ≠ some (some (.ref a))
  old : Same G.F0 F
  new : ∀ b o, F b = some o → G.F0 b = some o ∨ G.H0 b = none
  rest : ∀ b o, G.H0 b = some o → (∀ i, ¬ G.io i b) → H b = some o
  ios : ∀ i a, G.io i a → ∃ o, env[i]? = some (.io o) ∧ σ[i]? = some (some (.ref a))
  pend : ∀ p ∈ ps, Dp G.K F p.1 p.2
  pobj : ∀ p ∈ po, F p.1 = none ∧ G.H0 p.1 = none ∧ OAt G.K G.cad F H p.1 p.2
  pdist : (po.map (·.1)).Nodup
  pslot : ∀ p ∈ po, ∀ (i : Nat) (l : Sl), env[i]? = some l → l.obj.isSome = true → σ[i]? ≠ some (some (.ref p.1))

section
variable {G : Fm} {F F' H H' : Hp} {env : SEnv} {ps : List (V × PyData)} {po : List (Addr × O)} {σ : L2.St}
theorem Same.upd_new {H : Hp} {a : Addr} {o : HO} (h : H a = none) : Same H (upd H a o) := fun b u e => by rw [upd_ne (ne_of_none e h)]; exact e

/-- nothing tracked is lost, only new things come -/
theorem Rel.grow (r : Rel G F env ps po σ H) (e : Same H H') : Rel G F env ps po σ H' := by
  have keepO : ∀ {a o}, OAt G.K G.cad F H a o → OAt G.K G.cad F H' a o := fun {a o} x => by
    obtain ⟨u, hu⟩ := x.some
    exact x.mono (Same.refl _) (by rw [hu, e _ _ hu])
  refine ⟨r.len, r.sub.trans e, fun i l h => ?_, r.dist, r.old, r.new, fun b o h n => e _ _ (r.rest b o h n), r.ios, r.pend, fun p hp => ?_, r.pdist, r.pslot⟩
  · obtain ⟨ov, h1, h2⟩ := r.slot i l h
    refine ⟨ov, h1, ?_⟩
    cases l with
    | un => trivial
    | val d => exact h2
    | own o => obtain ⟨a, x1, x2, x3, x4⟩ := h2; exact ⟨a, x1, x2, x3, keepO x4⟩
    | io o => obtain ⟨a, x1, x2, x3, x4⟩ := h2; exact ⟨a, x1, x2, x3, keepO x4⟩
  · obtain ⟨x1, x2, x3⟩ := r.pobj p hp
    exact ⟨x1, x2, keepO x3⟩
theorem Rel.h0 (r : Rel G F env ps po σ H) {b : Addr} (h : H b = none) : G.H0 b = none := by
  cases q : G.H0 b with
  | none => rfl
  | some o =>
    by_cases hi : ∃ i, G.io i b
    · obtain ⟨i, hi⟩ := hi
      obtain ⟨o', h1, h2⟩ := r.ios i b hi
      obtain ⟨ov, h3, a, x1, x2, x3, x4⟩ := r.slot i _ h1
      rw [h2] at h3
      obtain rfl := Option.some.inj h3
      have e : b = a := by simpa using x1
      subst e
      obtain ⟨u, hu⟩ := x4.some
      rw [h] at hu; cases hu
    · rw [r.rest b o q fun i z => hi ⟨i, z⟩] at h; cases h
/-- a new object of the part that no more changes -/
theorem Rel.alloc (r : Rel G F env ps po σ H) {a : Addr} {o : HO} (h : H a = none) : Rel G (upd F a o) env ps po σ (upd H a o) := by
  have hF : F a = none := r.sub.free h
  have sF : Same F (upd F a o) := Same.upd_new hF
  have sH : Same H (upd H a o) := Same.upd_new h
  have g := r.grow sH
  have ne : ∀ {b u}, OAt G.K G.cad F H b u → b ≠ a := fun {b u} x e => by
    subst e
    obtain ⟨w, hw⟩ := x.some
    rw [h] at hw; cases hw
  have keepO : ∀ {b u}, OAt G.K G.cad F H b u → OAt G.K G.cad (upd F a o) (upd H a o) b u := fun {b u} x => x.mono sF (upd_ne (ne x))
  refine ⟨r.len, fun b u e => ?_, fun i l hl => ?_, r.dist, r.old.trans sF, fun b u e => ?_, g.rest, r.ios, fun p hp => dp_mono sF (r.pend p hp), fun p hp => ?_, r.pdist, r.pslot⟩
  · by_cases hb : b = a
    · subst hb; rw [upd_same] at e ⊢; exact e
    · rw [upd_ne hb] at e ⊢; exact r.sub b u e
  · obtain ⟨ov, h1, h2⟩ := r.slot i l hl
    refine ⟨ov, h1, ?_⟩
    cases l with
    | un => trivial
    | val d => obtain ⟨v, x1, x2⟩ := h2; exact ⟨v, x1, dp_mono sF x2⟩
    | own u => obtain ⟨b, x1, x2, x3, x4⟩ := h2; exact ⟨b, x1, by rw [upd_ne (ne x4)]; exact x2, x3, keepO x4⟩
    | io u => obtain ⟨b, x1, x2, x3, x4⟩ := h2; exact ⟨b, x1, by rw [upd_ne (ne x4)]; exact x2, x3, keepO x4⟩
  · by_cases hb : b = a
    · subst hb; exact .inr (r.h0 h)
    · rw [upd_ne hb] at e; exact r.new b u e
  · obtain ⟨x1, x2, x3⟩ := r.pobj p hp
    exact ⟨by rw [upd_ne (ne x3)]; exact x1, x2, keepO x3⟩
theorem Rel.push (r : Rel G F env ps po σ H) {v : V} {d : PyData} (h : Dp G.K F v d) : Rel G F env ((v, d) :: ps) po σ H :=
  ⟨r.len, r.sub, r.slot, r.dist, r.old, r.new, r.rest, r.ios, fun p hp => (List.mem_cons.mp hp).elim (fun e => by rw [e]; exact h) (r.pend p), r.pobj, r.pdist, r.pslot⟩
theorem Rel.drop1 {p : V × PyData} (r : Rel G F env (p :: ps) po σ H) : Rel G F env ps po σ H :=
  ⟨r.len, r.sub, r.slot, r.dist, r.old, r.new, r.rest, r.ios, fun p hp => r.pend p (List.mem_cons_of_mem _ hp), r.pobj, r.pdist, r.pslot⟩
theorem Rel.top {p : V × PyData} (r : Rel G F env (p :: ps) po σ H) : Dp G.K F p.1 p.2 := r.pend p List.mem_cons_self
/-- only fewer values at hand -/
theorem Rel.less {qs : List (V × PyData)} (r : Rel G F env ps po σ H) (h : ∀ p ∈ qs, p ∈ ps) : Rel G F env qs po σ H :=
  ⟨r.len, r.sub, r.slot, r.dist, r.old, r.new, r.rest, r.ios, fun p hp => r.pend p (h p hp), r.pobj, r.pdist, r.pslot⟩
/-- a new object at hand -/
theorem Rel.pushO (r : Rel G F env ps po σ H) {a : Addr} {o : O} {u : HO} (h : H a = none) (hx : OAt G.K G.cad F (upd H a u) a o) : Rel G F env ps ((a, o) :: po) σ (upd H a u) := by
  have g := r.grow (Same.upd_new (o := u) h)
  have hF : F a = none := r.sub.free h
  refine ⟨g.len, g.sub, g.slot, g.dist, g.old, g.new, g.rest, g.ios, g.pend, fun p hp => ?_, ?_, fun p hp i l hl ho => ?_⟩
  · rcases List.mem_cons.mp hp with e | hp
    · rw [e]; exact ⟨hF, r.h0 h, hx⟩
    · exact g.pobj p hp
  · rw [List.map_cons, List.nodup_cons]
    refine ⟨fun hm => ?_, r.pdist⟩
    obtain ⟨q, hq, e⟩ := List.mem_map.mp hm
    obtain ⟨_, _, x3⟩ := r.pobj q hq
    obtain ⟨w, hw⟩ := x3.some
    rw [e, h] at hw; cases hw
  · rcases List.mem_cons.mp hp with e | hp
    · rw [e]
      intro hs
      obtain ⟨ov, h1, h2⟩ := r.slot i l hl
      rw [hs] at h1
      obtain rfl := Option.some.inj h1
      cases l with
      | un => cases ho
      | val d => cases ho
      | own o' =>
        obtain ⟨b, x1, x2, x3, x4⟩ := h2
        have e : a = b := by simpa using x1
        subst e
        obtain ⟨w, hw⟩ := x4.some
        rw [h] at hw; cases hw
      | io o' =>
        obtain ⟨b, x1, x2, x3, x4⟩ := h2
        have e : a = b := by simpa using x1
        subst e
        obtain ⟨w, hw⟩ := x4.some
        rw [h] at hw; cases hw
    · exact r.pslot p hp i l hl ho
end
end Bk

set_option linter.all false
set_option maxRecDepth 100000
set_option maxHeartbeats 2000000
namespace Bk
open PySem PySem.Spec PyProof.Rows L2

def Sl.isIo : Sl → Bool
  | .io _ => true
  | _ => false
def Sl.put : Sl → O → Sl
  | .io _, o => .io o
  | _, o => .own o

section
variable {G : Fm} {F F' H H' : Hp} {env : SEnv} {ps : List (V × PyData)} {po : List (Addr × O)} {σ : L2.St}

theorem SlOk.at {i : Nat} {l : Sl} {ov : Option V} (x : SlOk G F H i l ov) {o : O} (h : l.obj = some o) : ∃ a, ov = some (.ref a) ∧ F a = none ∧ OAt G.K G.cad F H a o := by
  cases l with
  | un => cases h
  | val d => cases h
  | own u => cases h; obtain ⟨a, x1, x2, x3, x4⟩ := x; exact ⟨a, x1, x2, x4⟩
  | io u => cases h; obtain ⟨a, x1, x2, x3, x4⟩ := x; exact ⟨a, x1, x2, x4⟩
theorem Rel.objAt (r : Rel G F env ps po σ H) {i : Nat} {l : Sl} {o : O} (h : env[i]? = some l) (ho : l.obj = some o) : ∃ a, σ[i]? = some (some (.ref a)) ∧ F a = none ∧ OAt G.K G.cad F H a o := by
  obtain ⟨ov, h1, h2⟩ := r.slot i l h
  obtain ⟨a, rfl, x2, x3⟩ := h2.at ho
  exact ⟨a, h1, x2, x3⟩

theorem set_some {α : Type} {xs : List α} {i j : Nat} {x y : α} (h : (xs.set i x)[j]? = some y) : (j = i ∧ y = x ∧ i < xs.length) ∨ (j ≠ i ∧ xs[j]? = some y) := by
  by_cases hj : j = i
  · subst hj
    have hl : j < xs.length := by
      have := (List.getElem?_eq_some_iff.mp h).1
      simpa using this
    rw [List.getElem?_set_self hl] at h
    exact .inl ⟨rfl, (Option.some.inj h).symm, hl⟩
  · rw [List.getElem?_set_ne (Ne.symm hj)] at h
    exact .inr ⟨hj, h⟩

/-- a name is stored: a value -/
theorem Rel.setVal {v : V} {d : PyData} {i : Nat} {l0 : Sl} (r : Rel G F env ((v, d) :: ps) po σ H) (h0 : env[i]? = some l0) (hio : l0.isIo = false) : Rel G F (env.set i (.val d)) ps po (σ.set i (some v)) H := by
  have il : i < σ.length := by rw [← r.len]; exact (List.getElem?_eq_some_iff.mp h0).1
  refine ⟨by simp [r.len], r.sub, fun j l h => ?_, fun j k l m a hjk h1 h2 o1 o2 s1 => ?_, r.old, r.new, r.rest, fun j a hj => ?_, fun p hp => r.pend p (List.mem_cons_of_mem _ hp), r.pobj, r.pdist, fun p hp j l h ho => ?_⟩
  · rcases set_some h with ⟨rfl, rfl, _⟩ | ⟨hj, h⟩
    · exact ⟨some v, by rw [List.getElem?_set_self il], v, rfl, r.top⟩
    · obtain ⟨ov, h1, h2⟩ := r.slot j l h
      exact ⟨ov, by rw [List.getElem?_set_ne (Ne.symm hj)]; exact h1, h2⟩
  · rcases set_some h1 with ⟨rfl, rfl, _⟩ | ⟨hj, h1⟩
    · cases o1
    · rcases set_some h2 with ⟨rfl, rfl, _⟩ | ⟨hk, h2⟩
      · cases o2
      · rw [List.getElem?_set_ne (Ne.symm hj)] at s1
        rw [List.getElem?_set_ne (Ne.symm hk)]
        exact r.dist j k l m a hjk h1 h2 o1 o2 s1
  · obtain ⟨o, h1, h2⟩ := r.ios j a hj
    have hji : j ≠ i := fun e => by subst e; rw [h0] at h1; obtain rfl := Option.some.inj h1; cases hio
    exact ⟨o, by rw [List.getElem?_set_ne (Ne.symm hji)]; exact h1, by rw [List.getElem?_set_ne (Ne.symm hji)]; exact h2⟩
  · rcases set_some h with ⟨rfl, rfl, _⟩ | ⟨hj, h⟩
    · cases ho
    · rw [List.getElem?_set_ne (Ne.symm hj)]
      exact r.pslot p hp j l h ho

/-- a name forgotten -/
theorem Rel.setUn {ov : Option V} {i : Nat} {l0 : Sl} (r : Rel G F env ps po σ H) (h0 : env[i]? = some l0) (hio : l0.isIo = false) : Rel G F (env.set i .un) ps po (σ.set i ov) H := by
  have il : i < σ.length := by rw [← r.len]; exact (List.getElem?_eq_some_iff.mp h0).1
  refine ⟨by simp [r.len], r.sub, fun j l h => ?_, fun j k l m a hjk h1 h2 o1 o2 s1 => ?_, r.old, r.new, r.rest, fun j a hj => ?_, r.pend, r.pobj, r.pdist, fun p hp j l h ho => ?_⟩
  · rcases set_some h with ⟨rfl, rfl, _⟩ | ⟨hj, h⟩
    · exact ⟨ov, by rw [List.getElem?_set_self il], trivial⟩
    · obtain ⟨ov, h1, h2⟩ := r.slot j l h
      exact ⟨ov, by rw [List.getElem?_set_ne (Ne.symm hj)]; exact h1, h2⟩
  · rcases set_some h1 with ⟨rfl, rfl, _⟩ | ⟨hj, h1⟩
    · cases o1
    · rcases set_some h2 with ⟨rfl, rfl, _⟩ | ⟨hk, h2⟩
      · cases o2
      · rw [List.getElem?_set_ne (Ne.symm hj)] at s1
        rw [List.getElem?_set_ne (Ne.symm hk)]
        exact r.dist j k l m a hjk h1 h2 o1 o2 s1
  · obtain ⟨o, h1, h2⟩ := r.ios j a hj
    have hji : j ≠ i := fun e => by subst e; rw [h0] at h1; obtain rfl := Option.some.inj h1; cases hio
    exact ⟨o, by rw [List.getElem?_set_ne (Ne.symm hji)]; exact h1, by rw [List.getElem?_set_ne (Ne.symm hji)]; exact h2⟩
  · rcases set_some h with ⟨rfl, rfl, _⟩ | ⟨hj, h⟩
    · cases ho
    · rw [List.getElem?_set_ne (Ne.symm hj)]
      exact r.pslot p hp j l h ho

/-- a name is stored: a new object of the def's own -/
theorem Rel.setOwn {a : Addr} {o : O} {i : Nat} {l0 : Sl} (r : Rel G F env ps ((a, o) :: po) σ H) (h0 : env[i]? = some l0) (hio : l0.isIo = false) : Rel G F (env.set i (.own o)) ps po (σ.set i (some (.ref a))) H := by
  have il : i < σ.length := by rw [← r.len]; exact (List.getElem?_eq_some_iff.mp h0).1
  obtain ⟨y1, y2, y3⟩ := r.pobj (a, o) List.mem_cons_self
  have nd := r.pdist
  rw [List.map_cons, List.nodup_cons] at nd
  refine ⟨by simp [r.len], r.sub, fun j l h => ?_, fun j k l m b hjk h1 h2 o1 o2 s1 => ?_, r.old, r.new, r.rest, fun j b hj => ?_, r.pend, fun p hp => r.pobj p (List.mem_cons_of_mem _ hp), nd.2, fun p hp j l h ho => ?_⟩
  · rcases set_some h with ⟨rfl, rfl, _⟩ | ⟨hj, h⟩
    · exact ⟨some (.ref a), by rw [List.getElem?_set_self il], a, rfl, y1, y2, y3⟩
    · obtain ⟨ov, h1, h2⟩ := r.slot j l h
      exact ⟨ov, by rw [List.getElem?_set_ne (Ne.symm hj)]; exact h1, h2⟩
  · rcases set_some h1 with ⟨rfl, rfl, _⟩ | ⟨hj, g1⟩
    · rw [List.getElem?_set_self il] at s1
      have e : a = b := by simpa using s1
      subst e
      rcases set_some h2 with ⟨rfl, rfl, _⟩ | ⟨hk, g2⟩
      · exact absurd rfl hjk
      · rw [List.getElem?_set_ne (Ne.symm hk)]
        exact r.pslot (a, o) List.mem_cons_self k m g2 o2
    · rw [List.getElem?_set_ne (Ne.symm hj)] at s1
      rcases set_some h2 with ⟨rfl, rfl, _⟩ | ⟨hk, g2⟩
      · rw [List.getElem?_set_self il]
        intro e
        have e' : a = b := by simpa using e
        subst e'
        exact r.pslot (a, o) List.mem_cons_self j l g1 o1 s1
      · rw [List.getElem?_set_ne (Ne.symm hk)]
        exact r.dist j k l m b hjk g1 g2 o1 o2 s1
  · obtain ⟨u, h1, h2⟩ := r.ios j b hj
    have hji : j ≠ i := fun e => by subst e; rw [h0] at h1; obtain rfl := Option.some.inj h1; cases hio
    exact ⟨u, by rw [List.getElem?_set_ne (Ne.symm hji)]; exact h1, by rw [List.getElem?_set_ne (Ne.symm hji)]; exact h2⟩
  · rcases set_some h with ⟨rfl, rfl, _⟩ | ⟨hj, h⟩
    · rw [List.getElem?_set_self il]
      intro e
      have e' : a = p.1 := by simpa using e
      exact nd.1 (List.mem_map.mpr ⟨p, hp, e'.symm⟩)
    · rw [List.getElem?_set_ne (Ne.symm hj)]
      exact r.pslot p (List.mem_cons_of_mem _ hp) j l h ho

/-- F takes in an object that no one changes any more: the rest of the state -/
theorem Rel.frozen {a : Addr} {u : HO} {env' : SEnv} {po' : List (Addr × O)} (r : Rel G F env ps po σ H) (hF : F a = none) (h0 : G.H0 a = none) (hH : H a = some u)
    (hl : env'.length = env.length) (he : ∀ (j : Nat) (l : Sl), env'[j]? = some l → (env[j]? = some l ∧ (l.obj.isSome = true → σ[j]? ≠ some (some (.ref a)))) ∨ (∃ v d, l = .val d ∧ σ[j]? = some (some v) ∧ Dp G.K (upd F a u) v d))
    (hio : ∀ i b, G.io i b → ∃ o, env'[i]? = some (.io o)) (hp : ∀ p ∈ po', p ∈ po ∧ p.1 ≠ a) (hn : (po'.map (·.1)).Nodup) : Rel G (upd F a u) env' ps po' σ H := by
  have sF : Same F (upd F a u) := Same.upd_new hF
  have ne : ∀ {b o}, OAt G.K G.cad F H b o → OAt G.K G.cad (upd F a u) H b o := fun {b o} x => x.mono sF rfl
  refine ⟨hl.trans r.len, fun b o e => ?_, fun j l h => ?_, fun j k l m b hjk h1 h2 o1 o2 s1 => ?_, r.old.trans sF, fun b o e => ?_, r.rest, fun i b hi => ?_, fun p q => dp_mono sF (r.pend p q), fun p q => ?_, hn, fun p q j l h ho => ?_⟩
  · by_cases hb : b = a
    · subst hb; rw [upd_same] at e; rw [hH]; exact e
    · rw [upd_ne hb] at e; exact r.sub b o e
  · rcases he j l h with ⟨h, nn⟩ | ⟨v, d, rfl, h1, h2⟩
    · obtain ⟨ov, h1, h2⟩ := r.slot j l h
      refine ⟨ov, h1, ?_⟩
      cases l with
      | un => trivial
      | val d => obtain ⟨v, x1, x2⟩ := h2; exact ⟨v, x1, dp_mono sF x2⟩
      | own o =>
        obtain ⟨b, x1, x2, x3, x4⟩ := h2
        have hb : b ≠ a := fun e => nn rfl (by rw [h1, x1, e])
        exact ⟨b, x1, by rw [upd_ne hb]; exact x2, x3, ne x4⟩
      | io o =>
        obtain ⟨b, x1, x2, x3, x4⟩ := h2
        have hb : b ≠ a := fun e => nn rfl (by rw [h1, x1, e])
        exact ⟨b, x1, by rw [upd_ne hb]; exact x2, x3, ne x4⟩
    · exact ⟨some v, h1, v, rfl, h2⟩
  · have g1 : env[j]? = some l := by
      rcases he j l h1 with ⟨h, _⟩ | ⟨v, d, rfl, _, _⟩
      · exact h
      · cases o1
    have g2 : env[k]? = some m := by
      rcases he k m h2 with ⟨h, _⟩ | ⟨v, d, rfl, _, _⟩
      · exact h
      · cases o2
    exact r.dist j k l m b hjk g1 g2 o1 o2 s1
  · by_cases hb : b = a
    · subst hb; exact .inr h0
    · rw [upd_ne hb] at e; exact r.new b o e
  · obtain ⟨o, h1⟩ := hio i b hi
    obtain ⟨o', _, h2⟩ := r.ios i b hi
    exact ⟨o, h1, h2⟩
  · obtain ⟨q1, q2⟩ := hp p q
    obtain ⟨x1, x2, x3⟩ := r.pobj p q1
    exact ⟨by rw [upd_ne q2]; exact x1, x2, ne x3⟩
  · have g1 : env[j]? = some l := by
      rcases he j l h with ⟨h, _⟩ | ⟨v, d, rfl, _, _⟩
      · exact h
      · cases ho
    exact r.pslot p (hp p q).1 j l g1 ho
/-- a new list at hand becomes a value -/
theorem Rel.freezeP {a : Addr} {ds : List PyData} (r : Rel G F env ps ((a, .lst ds) :: po) σ H) : ∃ F', Rel G F' env ((.ref a, .list ds) :: ps) po σ H := by
  obtain ⟨y1, y2, xs, y3, y4⟩ := r.pobj _ List.mem_cons_self
  have nd := r.pdist
  rw [List.map_cons, List.nodup_cons] at nd
  have hs := r.pslot _ List.mem_cons_self
  have r2 := r.frozen (env' := env) (po' := po) y1 y2 y3 rfl (fun j l h => .inl ⟨h, fun ho => hs j l h ho⟩) (fun i b hi => let ⟨o, h1, _⟩ := r.ios i b hi; ⟨o, h1⟩)
    (fun p hp => ⟨List.mem_cons_of_mem _ hp, fun e => nd.1 (List.mem_map.mpr ⟨p, hp, e⟩)⟩) nd.2
  exact ⟨_, r2.push (.lst (SqL.of upd_same) (dpAll_mono (Same.upd_new y1) y4))⟩
/-- a list of the def's own becomes a value -/
theorem Rel.freezeS {i : Nat} {ds : List PyData} (r : Rel G F env ps po σ H) (h : env[i]? = some (.own (.lst ds))) :
    ∃ a F', σ[i]? = some (some (.ref a)) ∧ Rel G F' (env.set i (.val (.list ds))) ((.ref a, .list ds) :: ps) po σ H := by
  have il : i < env.length := (List.getElem?_eq_some_iff.mp h).1
  obtain ⟨ov, h1, h2⟩ := r.slot i _ h
  obtain ⟨a, rfl, x2, x3, xs, x4, x5⟩ := h2
  have dp : Dp G.K (upd F a (.lst xs)) (.ref a) (.list ds) := .lst (SqL.of upd_same) (dpAll_mono (Same.upd_new x2) x5)
  have r2 := r.frozen (env' := env.set i (.val (.list ds))) (po' := po) x2 x3 x4 (by simp) (fun j l hj => ?_) (fun j b hb => ?_) (fun p hp => ⟨hp, fun e => ?_⟩) r.pdist
  · exact ⟨a, _, h1, r2.push dp⟩
  · rcases set_some hj with ⟨rfl, rfl, _⟩ | ⟨hji, hj⟩
    · exact .inr ⟨_, _, rfl, h1, dp⟩
    · exact .inl ⟨hj, fun ho => r.dist i j _ l a (Ne.symm hji) h hj rfl ho h1⟩
  · obtain ⟨o, g1, _⟩ := r.ios j b hb
    have hji : j ≠ i := fun e => by subst e; rw [h] at g1; cases g1
    exact ⟨o, by rw [List.getElem?_set_ne (Ne.symm hji)]; exact g1⟩
  · exact r.pslot p hp i _ h rfl (by rw [h1, e])

/-- an object that a name holds is changed -/
theorem Rel.write {i : Nat} {l : Sl} {o o' : O} {a : Addr} {u : HO} (r : Rel G F env ps po σ H) (h : env[i]? = some l) (ho : l.obj = some o) (ha : σ[i]? = some (some (.ref a))) (hx : OAt G.K G.cad F (upd H a u) a o') :
    Rel G F (env.set i (l.put o')) ps po σ (upd H a u) := by
  obtain ⟨ov, h1, h2⟩ := r.slot i l h
  rw [ha] at h1
  obtain rfl := Option.some.inj h1
  obtain ⟨b0, e0, x2, x3⟩ := h2.at ho
  obtain rfl : a = b0 := by simpa using e0
  have hne : ∀ b, b ≠ a → (upd H a u) b = H b := fun b hb => upd_ne hb
  have lput : (l.put o').obj = some o' := by cases l <;> first | rfl | cases ho
  refine ⟨by simp [r.len], fun b w e => ?_, fun j m hj => ?_, fun j k m n b hjk h1 h2 o1 o2 s1 => ?_, r.old, r.new, fun b w e nn => ?_, fun j b hj => ?_, r.pend, fun p hp => ?_, r.pdist, fun p hp j m hj hm => ?_⟩
  · have hb : b ≠ a := fun z => by subst z; rw [x2] at e; cases e
    rw [hne b hb]; exact r.sub b w e
  · rcases set_some hj with ⟨rfl, rfl, _⟩ | ⟨hji, hj⟩
    · refine ⟨some (.ref a), ha, ?_⟩
      cases l with
      | un => cases ho
      | val d => cases ho
      | own o0 => obtain ⟨c, c1, c2, c3, c4⟩ := h2; obtain rfl : a = c := by simpa using c1
                  exact ⟨a, rfl, c2, c3, hx⟩
      | io o0 => obtain ⟨c, c1, c2, c3, c4⟩ := h2; obtain rfl : a = c := by simpa using c1
                 exact ⟨a, rfl, c2, c3, hx⟩
    · obtain ⟨ov, g1, g2⟩ := r.slot j m hj
      refine ⟨ov, g1, ?_⟩
      have nd : m.obj.isSome = true → ov ≠ some (.ref a) := fun hm e => r.dist i j l m a (Ne.symm hji) h hj (by rw [ho]; rfl) hm ha (by rw [g1, e])
      cases m with
      | un => trivial
      | val d => exact g2
      | own o0 =>
        obtain ⟨c, c1, c2, c3, c4⟩ := g2
        have hc : c ≠ a := fun z => nd rfl (by rw [c1, z])
        exact ⟨c, c1, c2, c3, c4.mono (Same.refl _) (hne c hc)⟩
      | io o0 =>
        obtain ⟨c, c1, c2, c3, c4⟩ := g2
        have hc : c ≠ a := fun z => nd rfl (by rw [c1, z])
        exact ⟨c, c1, c2, c3, c4.mono (Same.refl _) (hne c hc)⟩
  · have g : ∀ {j : Nat} {m : Sl}, (env.set i (l.put o'))[j]? = some m → m.obj.isSome = true → ∃ m' : Sl, env[j]? = some m' ∧ m'.obj.isSome = true := fun {j m} hj hm => by
      rcases set_some hj with ⟨rfl, rfl, _⟩ | ⟨hji, hj⟩
      · exact ⟨l, h, by rw [ho]; rfl⟩
      · exact ⟨m, hj, hm⟩
    obtain ⟨m', g1, g2⟩ := g h1 o1
    obtain ⟨n', g3, g4⟩ := g h2 o2
    exact r.dist j k m' n' b hjk g1 g3 g2 g4 s1
  · by_cases hb : b = a
    · subst hb
      cases l with
      | un => cases ho
      | val d => cases ho
      | own o0 => obtain ⟨c, c1, c2, c3, c4⟩ := h2; obtain rfl : b = c := by simpa using c1
                  rw [c3] at e; cases e
      | io o0 => obtain ⟨c, c1, c2, c3, c4⟩ := h2; obtain rfl : b = c := by simpa using c1
                 exact absurd c3 (nn i)
    · rw [hne b hb]; exact r.rest b w e nn
  · obtain ⟨o0, g1, g2⟩ := r.ios j b hj
    by_cases hji : j = i
    · subst hji
      rw [h] at g1
      obtain rfl := Option.some.inj g1
      exact ⟨o', by rw [List.getElem?_set_self (List.getElem?_eq_some_iff.mp h).1]; rfl, g2⟩
    · exact ⟨o0, by rw [List.getElem?_set_ne (Ne.symm hji)]; exact g1, g2⟩
  · obtain ⟨y1, y2, y3⟩ := r.pobj p hp
    have hpa : p.1 ≠ a := fun e => r.pslot p hp i l h (by rw [ho]; rfl) (by rw [ha, e])
    exact ⟨y1, y2, y3.mono (Same.refl _) (hne _ hpa)⟩
  · rcases set_some hj with ⟨rfl, rfl, _⟩ | ⟨hji, hj⟩
    · exact r.pslot p hp _ l h (by rw [ho]; rfl)
    · exact r.pslot p hp j m hj hm
/-- an object at hand is changed -/
theorem Rel.writeP {o o' : O} {a : Addr} {u : HO} (r : Rel G F env ps ((a, o) :: po) σ H) (hx : OAt G.K G.cad F (upd H a u) a o') : Rel G F env ps ((a, o') :: po) σ (upd H a u) := by
  obtain ⟨y1, y2, y3⟩ := r.pobj (a, o) List.mem_cons_self
  have nd := r.pdist
  rw [List.map_cons, List.nodup_cons] at nd
  have hne : ∀ b, b ≠ a → (upd H a u) b = H b := fun b hb => upd_ne hb
  refine ⟨r.len, fun b w e => ?_, fun j m hj => ?_, r.dist, r.old, r.new, fun b w e nn => ?_, r.ios, r.pend, fun p hp => ?_, r.pdist, fun p hp j m hj hm => ?_⟩
  · have hb : b ≠ a := fun z => by subst z; rw [y1] at e; cases e
    rw [hne b hb]; exact r.sub b w e
  · obtain ⟨ov, g1, g2⟩ := r.slot j m hj
    refine ⟨ov, g1, ?_⟩
    have ns := r.pslot (a, o) List.mem_cons_self j m hj
    cases m with
    | un => trivial
    | val d => exact g2
    | own o0 =>
      obtain ⟨c, c1, c2, c3, c4⟩ := g2
      have hc : c ≠ a := fun z => ns rfl (by rw [g1, c1, z])
      exact ⟨c, c1, c2, c3, c4.mono (Same.refl _) (hne c hc)⟩
    | io o0 =>
      obtain ⟨c, c1, c2, c3, c4⟩ := g2
      have hc : c ≠ a := fun z => ns rfl (by rw [g1, c1, z])
      exact ⟨c, c1, c2, c3, c4.mono (Same.refl _) (hne c hc)⟩
  · have hb : b ≠ a := fun z => by subst z; rw [y2] at e; cases e
    rw [hne b hb]; exact r.rest b w e nn
  · rcases List.mem_cons.mp hp with e | hp
    · rw [e]; exact ⟨y1, y2, hx⟩
    · obtain ⟨z1, z2, z3⟩ := r.pobj p (List.mem_cons_of_mem _ hp)
      have hpa : p.1 ≠ a := fun e => nd.1 (List.mem_map.mpr ⟨p, hp, e⟩)
      exact ⟨z1, z2, z3.mono (Same.refl _) (hne _ hpa)⟩
  · rcases List.mem_cons.mp hp with e | hp
    · rw [e]; exact r.pslot (a, o) List.mem_cons_self j m hj hm
    · exact r.pslot p (List.mem_cons_of_mem _ hp) j m hj hm
end
end Bk

set_option linter.all false
set_option maxRecDepth 100000
set_option maxHeartbeats 2000000
namespace Bk
open PySem PySem.Spec PyProof.Rows L2

/-! ### a call: what it leaves -/
/-- what a def comes to: a value or an exception, and what became of the caller's object -/
inductive RC where
  | stuck
  | ok (d : PyData) (o : Option O)
  | exc (x : Ex) (o : Option O)

structure Back (K : PySem.W.Frag) (cad : Nat → Addr) (F H : Hp) (io : Option (Nat × Addr)) (F' H' : Hp) (o : Option O) : Prop where
  ext : Same F F'
  sub : Same F' H'
  new : ∀ b u, F' b = some u → F b = some u ∨ H b = none
  rest : ∀ b u, H b = some u → (∀ i, io ≠ some (i, b)) → H' b = some u
  io : ∀ i a, io = some (i, a) → ∃ o', o = some o' ∧ F' a = none ∧ OAt K cad F' H' a o'

section
variable {G : Fm} {F F' H H' : Hp} {env : SEnv} {ps : List (V × PyData)} {po : List (Addr × O)} {σ : L2.St}

/-- behind a call: the part that stands still has grown, one object may have changed -/
theorem Rel.moved {env' : SEnv} {x : Option Addr} (r : Rel G F env ps po σ H) (hl : env'.length = env.length)
    (he : ∀ (j : Nat) (l : Sl), env'[j]? = some l → (env[j]? = some l ∧ (l.obj.isSome = true → ∀ b, σ[j]? = some (some (.ref b)) → x ≠ some b)) ∨
      ∃ (a : Addr) (l0 : Sl) (o' : O), env[j]? = some l0 ∧ l0.obj.isSome = true ∧ l = l0.put o' ∧ σ[j]? = some (some (.ref a)) ∧ F' a = none ∧ OAt G.K G.cad F' H' a o')
    (hx : ∀ a, x = some a → ∃ (j : Nat) (l : Sl), env[j]? = some l ∧ l.obj.isSome = true ∧ σ[j]? = some (some (.ref a)))
    (ext : Same F F') (sub : Same F' H') (new : ∀ b u, F' b = some u → F b = some u ∨ H b = none) (rest : ∀ b u, H b = some u → x ≠ some b → H' b = some u) : Rel G F' env' ps po σ H' := by
  have keepO : ∀ {b o}, F b = none → OAt G.K G.cad F H b o → x ≠ some b → F' b = none ∧ OAt G.K G.cad F' H' b o := fun {b o} hF hO hb => by
    obtain ⟨u, hu⟩ := hO.some
    refine ⟨?_, hO.mono ext (by rw [hu, rest b u hu hb])⟩
    cases q : F' b with
    | none => rfl
    | some w =>
      rcases new b w q with z | z
      · rw [hF] at z; cases z
      · rw [hu] at z; cases z
  have back : ∀ {j : Nat} {l : Sl}, env'[j]? = some l → l.obj.isSome = true → ∃ m : Sl, env[j]? = some m ∧ m.obj.isSome = true := fun {j l} h ho => by
    rcases he j l h with ⟨h, _⟩ | ⟨a, l0, o', h1, h2, _⟩
    · exact ⟨l, h, ho⟩
    · exact ⟨l0, h1, h2⟩
  refine ⟨hl.trans r.len, sub, fun j l h => ?_, fun j k l m b hjk h1 h2 o1 o2 s1 => ?_, r.old.trans ext, fun b o e => ?_, fun b o e n => ?_, fun i a hi => ?_, fun p hp => dp_mono ext (r.pend p hp), fun p hp => ?_, r.pdist, fun p hp j l h ho => ?_⟩
  · rcases he j l h with ⟨h, hn⟩ | ⟨a, l0, o', h1, h2, rfl, h3, h4, h5⟩
    · obtain ⟨ov, h1, h2⟩ := r.slot j l h
      refine ⟨ov, h1, ?_⟩
      cases l with
      | un => trivial
      | val d => obtain ⟨v, x1, x2⟩ := h2; exact ⟨v, x1, dp_mono ext x2⟩
      | own o =>
        obtain ⟨b, x1, x2, x3, x4⟩ := h2
        obtain ⟨y1, y2⟩ := keepO x2 x4 (hn rfl b (by rw [h1, x1]))
        exact ⟨b, x1, y1, x3, y2⟩
      | io o =>
        obtain ⟨b, x1, x2, x3, x4⟩ := h2
        obtain ⟨y1, y2⟩ := keepO x2 x4 (hn rfl b (by rw [h1, x1]))
        exact ⟨b, x1, y1, x3, y2⟩
    · obtain ⟨ov, g1, g2⟩ := r.slot j l0 h1
      rw [h3] at g1
      obtain rfl := Option.some.inj g1
      refine ⟨_, h3, ?_⟩
      cases l0 with
      | un => cases h2
      | val d => cases h2
      | own o => obtain ⟨b, x1, x2, x3, x4⟩ := g2; obtain rfl : a = b := by simpa using x1
                 exact ⟨a, rfl, h4, x3, h5⟩
      | io o => obtain ⟨b, x1, x2, x3, x4⟩ := g2; obtain rfl : a = b := by simpa using x1
                exact ⟨a, rfl, h4, x3, h5⟩
  · obtain ⟨l', g1, g2⟩ := back h1 o1
    obtain ⟨m', g3, g4⟩ := back h2 o2
    exact r.dist j k l' m' b hjk g1 g3 g2 g4 s1
  · rcases new b o e with z | z
    · exact r.new b o z
    · exact .inr (r.h0 z)
  · have h1 := r.rest b o e n
    refine rest b o h1 fun z => ?_
    obtain ⟨j, l, g1, g2, g3⟩ := hx b z
    obtain ⟨ov, g4, g5⟩ := r.slot j l g1
    rw [g3] at g4
    obtain rfl := Option.some.inj g4
    cases l with
    | un => cases g2
    | val d => cases g2
    | own o => obtain ⟨c, x1, x2, x3, x4⟩ := g5; obtain rfl : b = c := by simpa using x1
               rw [x3] at e; cases e
    | io o => obtain ⟨c, x1, x2, x3, x4⟩ := g5; obtain rfl : b = c := by simpa using x1
              exact n j x3
  · obtain ⟨o, h1, h2⟩ := r.ios i a hi
    have hi' : i < env'.length := by rw [hl]; exact (List.getElem?_eq_some_iff.mp h1).1
    obtain ⟨l, hl'⟩ : ∃ l, env'[i]? = some l := ⟨env'[i], by simp [hi']⟩
    rcases he i l hl' with ⟨h, _⟩ | ⟨b, l0, o', g1, g2, rfl, _⟩
    · rw [h1] at h; obtain rfl := Option.some.inj h; exact ⟨o, hl', h2⟩
    · rw [h1] at g1; obtain rfl := Option.some.inj g1; exact ⟨o', hl', h2⟩
  · obtain ⟨y1, y2, y3⟩ := r.pobj p hp
    have hn : x ≠ some p.1 := fun z => by
      obtain ⟨j, l, g1, g2, g3⟩ := hx p.1 z
      exact r.pslot p hp j l g1 g2 g3
    obtain ⟨z1, z2⟩ := keepO y1 y3 hn
    exact ⟨z1, y2, z2⟩
  · obtain ⟨m, g1, g2⟩ := back h ho
    exact r.pslot p hp j m g1 g2
/-- behind a call that changes none of our objects -/
theorem Rel.after {o : Option O} (r : Rel G F env ps po σ H) (b : Back G.K G.cad F H none F' H' o) : Rel G F' env ps po σ H' :=
  r.moved (x := none) rfl (fun j l h => .inl ⟨h, fun _ _ _ => by simp⟩) (fun a e => by cases e) b.ext b.sub b.new fun c u e _ => b.rest c u e fun i => by simp
/-- behind a call that may change the object of slot j -/
theorem Rel.afterIo {o : Option O} {j k : Nat} {l : Sl} {a : Addr} (r : Rel G F env ps po σ H) (hl : env[j]? = some l) (ho : l.obj.isSome = true) (ha : σ[j]? = some (some (.ref a))) (b : Back G.K G.cad F H (some (k, a)) F' H' o) :
    ∃ o', o = some o' ∧ Rel G F' (env.set j (l.put o')) ps po σ H' := by
  obtain ⟨o', e, h1, h2⟩ := b.io k a rfl
  refine ⟨o', e, ?_⟩
  refine r.moved (x := some a) (by simp) (fun i m h => ?_) (fun c e => ?_) b.ext b.sub b.new fun c u e n => b.rest c u e fun i z => n (by cases z; rfl)
  · rcases set_some h with ⟨rfl, rfl, _⟩ | ⟨hi, h⟩
    · exact .inr ⟨a, l, o', hl, ho, rfl, ha, h1, h2⟩
    · refine .inl ⟨h, fun hm c hc z => ?_⟩
      cases z
      exact r.dist i j m l a hi h hl hm ho hc ha
  · cases e
    exact ⟨j, l, hl, ho, ha⟩

/-- the promise of a def -/
def spOf (K : PySem.W.Frag) (cad : Nat → Addr) (n : Nat) (sem : SEnv → RC) : Sp := fun vs H Q E => vs.length = n ∧ ∃ (F : Hp) (io : Option (Nat × Addr)) (as : SEnv),
  Rel ⟨K, cad, H, F, fun i a => io = some (i, a)⟩ F as [] [] (vs.map some) H ∧
    match sem as with
    | .stuck => False
    | .ok d o => ∀ v F' H', Back K cad F H io F' H' o → Dp K F' v d → Q v H'
    | .exc x o => ∀ F' H' dx fvs, Back K cad F H io F' H' o → F' dx = none → H' dx = some (.xd fvs) → DpK K F' fvs x.fs → E (.ref (cad x.c)) (some dx) H'
theorem spOf_len {K : PySem.W.Frag} {cad : Nat → Addr} {n : Nat} {sem : SEnv → RC} {ps : List Str} (h : ps.length = n) : ∀ vs H Q E, spOf K cad n sem vs H Q E → vs.length = ps.length := fun vs H Q E x => by rw [h]; exact x.1
end
end Bk

set_option linter.all false
set_option maxRecDepth 100000
set_option maxHeartbeats 2000000
namespace Bk
open PySem PySem.Spec PyProof.Rows L2

/-! ### the judgements -/
def R.bind {α β : Type} (r : R α) (f : α → SEnv → R β) : R β :=
  match r with
  | .stuck => .stuck
  | .ok a e => f a e
  | .exc x e => .exc x e
theorem R.bind_ok {α β : Type} (a : α) (e : SEnv) (f : α → SEnv → R β) : (R.ok a e).bind f = f a e := rfl
theorem R.bind_exc {α β : Type} (x : Ex) (e : SEnv) (f : α → SEnv → R β) : (R.exc x e).bind f = .exc x e := rfl
theorem R.bind_stuck {α β : Type} (f : α → SEnv → R β) : (R.stuck).bind f = .stuck := rfl

abbrev PS0 := List (V × PyData)
abbrev PO0 := List (Addr × O)
/-- what is wanted of an exception -/
def XWant (G : Fm) (W : WX) (x : Ex) (env : SEnv) (ps : PS0) (po : PO0) (σ : L2.St) : Prop :=
  ∀ F' H' dx fvs, Rel G F' env ps po σ H' → F' dx = none → H' dx = some (.xd fvs) → DpK G.K F' fvs x.fs → W (.ref (G.cad x.c)) (some dx) σ H'
def MSat (G : Fm) (W : WX) (r : R PyData) (ps : PS0) (po : PO0) (σ : L2.St) (Q : VK) : Prop :=
  match r with
  | .stuck => False
  | .ok d env => ∀ v F' H', Rel G F' env ((v, d) :: ps) po σ H' → Q v H'
  | .exc x env => XWant G W x env ps po σ
def tM (G : Fm) (W : WX) (m : SEnv → R PyData) : TE := fun σ H Q => ∃ env F ps po, Rel G F env ps po σ H ∧ MSat G W (m env) ps po σ Q
abbrev ME (X : Cx) (G : Fm) (W : WX) (e : Expr) (m : SEnv → R PyData) : Prop := PE X e (tM G W m)
def BSat (G : Fm) (W : WX) (r : R Bool) (ps : PS0) (po : PO0) (σ : L2.St) (Q : Bool → Hp → Prop) : Prop :=
  match r with
  | .stuck => False
  | .ok b env => ∀ F' H', Rel G F' env ps po σ H' → Q b H'
  | .exc x env => XWant G W x env ps po σ
def tB' (G : Fm) (W : WX) (m : SEnv → R Bool) : TT := fun σ H Q => ∃ env F ps po, Rel G F env ps po σ H ∧ BSat G W (m env) ps po σ Q
abbrev MT (X : Cx) (G : Fm) (W : WX) (e : Expr) (m : SEnv → R Bool) : Prop := PT X e (tB' G W m)
abbrev MW (X : Cx) (G : Fm) (W : WX) (e : Expr) (m : SEnv → R Bool) : Prop := PW X e (tB' G W m)

theorem _root_.L2.PE.imp {X : Cx} {e : Expr} {t t' : TE} (h : PE X e t) (i : ∀ σ H Q, t' σ H Q → t σ H Q) : PE X e t' := ⟨fun pins s σ H Q I q => h.run pins s σ H Q I (i σ H Q q)⟩
theorem _root_.L2.PT.imp {X : Cx} {e : Expr} {t t' : TT} (h : PT X e t) (i : ∀ σ H Q, t' σ H Q → t σ H Q) : PT X e t' := ⟨fun pins s σ H Q I q => h.run pins s σ H Q I (i σ H Q q)⟩
theorem _root_.L2.PW.imp {X : Cx} {e : Expr} {t t' : TT} (h : PW X e t) (i : ∀ σ H Q, t' σ H Q → t σ H Q) : PW X e t' := ⟨fun wh pins s σ H Q I q => h.run wh pins s σ H Q I (i σ H Q q)⟩
theorem _root_.L2.PS.imp {X : Cx} {e : Stmt} {t t' : TS} (h : PS X e t) (i : ∀ D σ H, t' D σ H → t D σ H) : PS X e t' := ⟨fun pins s σ H D I q => h.run pins s σ H D I (i D σ H q)⟩
theorem _root_.L2.PSs.imp {X : Cx} {e : List Stmt} {t t' : TS} (h : PSs X e t) (i : ∀ D σ H, t' D σ H → t D σ H) : PSs X e t' := ⟨fun pins s σ H D I q => h.run pins s σ H D I (i D σ H q)⟩
theorem _root_.L2.PA.imp {X : Cx} {e : List Expr} {t t' : TA} (h : PA X e t) (i : ∀ σ H Q, t' σ H Q → t σ H Q) : PA X e t' := ⟨fun pos pins s σ H Q I q => h.run pos pins s σ H Q I (i σ H Q q)⟩
theorem _root_.L2.PI.imp {X : Cx} {tg e : Expr} {t t' : TI} (h : PI X tg e t) (i : ∀ σ H Q, t' σ H Q → t σ H Q) : PI X tg e t' := ⟨fun pins s σ H Q I q => h.run pins s σ H Q I (i σ H Q q)⟩

section
variable {G : Fm} {W : WX} {F H : Hp} {env : SEnv} {ps ps0 : PS0} {po po0 : PO0} {σ : L2.St}
theorem Rel.dropO {p : Addr × O} (r : Rel G F env ps (p :: po) σ H) : Rel G F env ps po σ H :=
  ⟨r.len, r.sub, r.slot, r.dist, r.old, r.new, r.rest, r.ios, r.pend, fun q hq => r.pobj q (List.mem_cons_of_mem _ hq), by have := r.pdist; rw [List.map_cons, List.nodup_cons] at this; exact this.2, fun q hq => r.pslot q (List.mem_cons_of_mem _ hq)⟩
/-- ps0, po0 are the last of ps, po -/
structure Ends2 (ps0 ps : PS0) (po0 po : PO0) : Prop where
  p : ∃ q, ps = q ++ ps0
  o : ∃ q, po = q ++ po0
theorem Ends2.refl : Ends2 ps ps po po := ⟨⟨[], rfl⟩, ⟨[], rfl⟩⟩
theorem Ends2.val {p : V × PyData} (e : Ends2 ps0 ps po0 po) : Ends2 ps0 (p :: ps) po0 po := ⟨let ⟨q, h⟩ := e.p; ⟨p :: q, by rw [h]; rfl⟩, e.o⟩
theorem Ends2.obj {p : Addr × O} (e : Ends2 ps0 ps po0 po) : Ends2 ps0 ps po0 (p :: po) := ⟨e.p, let ⟨q, h⟩ := e.o; ⟨p :: q, by rw [h]; rfl⟩⟩
theorem Rel.ends (e : Ends2 ps0 ps po0 po) (r : Rel G F env ps po σ H) : Rel G F env ps0 po0 σ H := by
  obtain ⟨⟨q, rfl⟩, ⟨u, rfl⟩⟩ := e
  have r1 : Rel G F env ps0 (u ++ po0) σ H := r.less fun p hp => List.mem_append_right _ hp
  clear r
  induction u with
  | nil => exact r1
  | cons a u ih => exact ih (Rel.dropO r1)
theorem XWant.more {x : Ex} (e : Ends2 ps0 ps po0 po) (h : XWant G W x env ps0 po0 σ) : XWant G W x env ps po σ := fun F' H' dx fvs r a b c => h F' H' dx fvs (r.ends e) a b c
/-- one expression, then the rest -/
theorem tM_bind {m : SEnv → R PyData} {f : PyData → SEnv → R PyData} {Q Q' : VK} (r : Rel G F env ps po σ H) (e : Ends2 ps0 ps po0 po) (h : MSat G W ((m env).bind f) ps0 po0 σ Q)
    (k : ∀ v d env' F' H', Rel G F' env' ((v, d) :: ps) po σ H' → MSat G W (f d env') ps0 po0 σ Q → Q' v H') : tM G W m σ H Q' := by
  refine ⟨env, F, ps, po, r, ?_⟩
  cases q : m env with
  | stuck => rw [q] at h; exact h.elim
  | ok d env' => rw [q] at h; exact fun v F' H' r' => k v d env' F' H' r' h
  | exc x env' => rw [q] at h; exact XWant.more e h
theorem tM_bindB {m : SEnv → R PyData} {f : PyData → SEnv → R Bool} {Q : Bool → Hp → Prop} {Q' : VK} (r : Rel G F env ps po σ H) (e : Ends2 ps0 ps po0 po) (h : BSat G W ((m env).bind f) ps0 po0 σ Q)
    (k : ∀ v d env' F' H', Rel G F' env' ((v, d) :: ps) po σ H' → BSat G W (f d env') ps0 po0 σ Q → Q' v H') : tM G W m σ H Q' := by
  refine ⟨env, F, ps, po, r, ?_⟩
  cases q : m env with
  | stuck => rw [q] at h; exact h.elim
  | ok d env' => rw [q] at h; exact fun v F' H' r' => k v d env' F' H' r' h
  | exc x env' => rw [q] at h; exact XWant.more e h
theorem tB_bind {m : SEnv → R Bool} {f : Bool → SEnv → R PyData} {Q : VK} {Q' : Bool → Hp → Prop} (r : Rel G F env ps po σ H) (e : Ends2 ps0 ps po0 po) (h : MSat G W ((m env).bind f) ps0 po0 σ Q)
    (k : ∀ b env' F' H', Rel G F' env' ps po σ H' → MSat G W (f b env') ps0 po0 σ Q → Q' b H') : tB' G W m σ H Q' := by
  refine ⟨env, F, ps, po, r, ?_⟩
  cases q : m env with
  | stuck => rw [q] at h; exact h.elim
  | ok d env' => rw [q] at h; exact fun F' H' r' => k d env' F' H' r' h
  | exc x env' => rw [q] at h; exact XWant.more e h
theorem tB_bindB {m : SEnv → R Bool} {f : Bool → SEnv → R Bool} {Q Q' : Bool → Hp → Prop} (r : Rel G F env ps po σ H) (e : Ends2 ps0 ps po0 po) (h : BSat G W ((m env).bind f) ps0 po0 σ Q)
    (k : ∀ b env' F' H', Rel G F' env' ps po σ H' → BSat G W (f b env') ps0 po0 σ Q → Q' b H') : tB' G W m σ H Q' := by
  refine ⟨env, F, ps, po, r, ?_⟩
  cases q : m env with
  | stuck => rw [q] at h; exact h.elim
  | ok d env' => rw [q] at h; exact fun F' H' r' => k d env' F' H' r' h
  | exc x env' => rw [q] at h; exact XWant.more e h
theorem MSat.more {r : R PyData} {Q : VK} (e : Ends2 ps0 ps po0 po) (h : MSat G W r ps0 po0 σ Q) : MSat G W r ps po σ Q := by
  cases r with
  | stuck => exact h
  | ok d env =>
    intro v F' H' r
    obtain ⟨⟨q, rfl⟩, eo⟩ := e
    have r1 : Rel G F' env ((v, d) :: ps0) po σ H' := r.less fun p hp => by
      rcases List.mem_cons.mp hp with e | hp
      · rw [e]; exact List.mem_cons_self
      · exact List.mem_cons_of_mem _ (List.mem_append_right _ hp)
    exact h v F' H' (r1.ends ⟨⟨[], rfl⟩, eo⟩)
  | exc x env => exact XWant.more e h
theorem BSat.more {r : R Bool} {Q : Bool → Hp → Prop} (e : Ends2 ps0 ps po0 po) (h : BSat G W r ps0 po0 σ Q) : BSat G W r ps po σ Q := by
  cases r with
  | stuck => exact h
  | ok d env => exact fun F' H' r => h F' H' (r.ends e)
  | exc x env => exact XWant.more e h
/-- the value at hand is the end -/
theorem MSat.here {d : PyData} {Q : VK} {v : V} (h : MSat G W (.ok d env) ps0 po0 σ Q) (e : Ends2 ps0 ps po0 po) (r : Rel G F env ps po σ H) (hd : Dp G.K F v d) : Q v H :=
  MSat.more e h v F H (r.push hd)
/-- go on with a further expression -/
theorem tM_of {m : SEnv → R PyData} {Q : VK} (r : Rel G F env ps po σ H) (e : Ends2 ps0 ps po0 po) (h : MSat G W (m env) ps0 po0 σ Q) : tM G W m σ H Q := ⟨env, F, ps, po, r, MSat.more e h⟩
theorem tB_of {m : SEnv → R Bool} {Q : Bool → Hp → Prop} (r : Rel G F env ps po σ H) (e : Ends2 ps0 ps po0 po) (h : BSat G W (m env) ps0 po0 σ Q) : tB' G W m σ H Q := ⟨env, F, ps, po, r, BSat.more e h⟩
end

/-! ### constants, names -/
def mC (d : PyData) : SEnv → R PyData := fun env => .ok d env
/-- a name: a list of the def's own is a value from then on -/
def mVar (i : Nat) : SEnv → R PyData := fun env =>
  match env[i]? with
  | some (.val d) => .ok d env
  | some (.own (.lst ds)) => .ok (.list ds) (env.set i (.val (.list ds)))
  | _ => .stuck
section
variable {X : Cx} {G : Fm} {W : WX} {pos : Pos}
theorem me_c {e : Expr} {v : V} {d : PyData} (h : PE X e (tC v)) (hd : ∀ H, Dp G.K H v d) : ME X G W e (mC d) :=
  h.imp fun σ H Q ⟨env, F, ps, po, r, q⟩ => q v F H (r.push (hd F))
theorem me_int {i j pos} : ME X G W (.Constant (.int i) j pos) (mC (.int i)) := me_c pe_int fun _ => .int i
theorem me_bl {b j pos} : ME X G W (.Constant (.bool b) j pos) (mC (.bool b)) := me_c pe_bl fun _ => .bl b
theorem me_non {j pos} : ME X G W (.Constant .none j pos) (mC .none) := me_c pe_non fun _ => .non
theorem me_str {x : Str} {l : List Nat} {j pos} (h : x = ⟨l.toArray⟩ := by decide +kernel) : ME X G W (.Constant (.str x) j pos) (mC (.str ⟨l.toArray⟩)) := by
  subst h; exact me_c pe_str fun _ => .str _
theorem me_glob {x : Str} {v : V} {u : Value} {d : PyData} {pos : Pos} (hg : Gl X x) (hm : X.mg x = some u) (r : RelV v u) (hd : ∀ H, Dp G.K H v d) (hdb : (x == ("__debug__" : Str)) = false := by decide) : ME X G W (.Name x pos) (mC d) := me_c (pe_glob hg hm r hdb) hd
theorem me_var (i : Nat) {x : Str} {pos : Pos} (hN : X.N[i]? = some x := by rfl) (hv : Vis X.env.scope x := by first | exact Or.inl rfl | exact Or.inr (Or.inl rfl) | exact Or.inr (Or.inr rfl)) (hd : (x == ("__debug__" : Str)) = false := by decide)
    (hcd : (x == ("__classdict__" : Str)) = false := by decide) : ME X G W (.Name x pos) (mVar i) := by
  refine (pe_var hN hv hd hcd).imp fun σ H Q ⟨env, F, ps, po, r, q⟩ => ?_
  unfold mVar at q
  split at q
  · rename_i d h
    obtain ⟨ov, h1, v, rfl, h2⟩ := r.slot i _ h
    exact ⟨v, h1, q v F H (r.push h2)⟩
  · rename_i ds h
    obtain ⟨a, F', h1, r'⟩ := r.freezeS h
    exact ⟨_, h1, q _ F' H r'⟩
  · exact q.elim

/-! ### operators -/
def mOp2 (f : PyData → PyData → Option PyData) (ma mb : SEnv → R PyData) : SEnv → R PyData := fun env =>
  (ma env).bind fun a e1 => (mb e1).bind fun b e2 => match f a b with
    | some d => .ok d e2
    | none => .stuck
def mOp1 (f : PyData → Option PyData) (ma : SEnv → R PyData) : SEnv → R PyData := fun env =>
  (ma env).bind fun a e1 => match f a with
    | some d => .ok d e1
    | none => .stuck
/-- what a rule of two values does -/
def Op2 (G : Fm) (r : R2) (f : PyData → PyData → Option PyData) : Prop :=
  ∀ (F : Hp) (env : SEnv) (ps : PS0) (po : PO0) (σ : L2.St) (H : Hp) (x y : V) (a b d : PyData) (Q : VK), Rel G F env ((y, b) :: (x, a) :: ps) po σ H → f a b = some d →
    (∀ v F' H', Rel G F' env ((v, d) :: ps) po σ H' → Q v H') → r x y H Q
def Op1 (G : Fm) (r : V → Hp → VK → Prop) (f : PyData → Option PyData) : Prop :=
  ∀ (F : Hp) (env : SEnv) (ps : PS0) (po : PO0) (σ : L2.St) (H : Hp) (x : V) (a d : PyData) (Q : VK), Rel G F env ((x, a) :: ps) po σ H → f a = some d →
    (∀ v F' H', Rel G F' env ((v, d) :: ps) po σ H' → Q v H') → r x H Q
variable {a b : Expr} {ma mb : SEnv → R PyData} {f : PyData → PyData → Option PyData} {r : R2}
theorem tOp_of (s : Op2 G r f) : ∀ σ H Q, tM G W (mOp2 f ma mb) σ H Q → tOp r (tM G W ma) (tM G W mb) σ H Q := fun σ H Q ⟨env, F, ps, po, hr, q⟩ =>
  tM_bind hr .refl q fun v d env1 F1 H1 r1 q1 => tM_bind r1 (Ends2.refl.val) q1 fun v2 d2 env2 F2 H2 r2 q2 => by
    cases h : f d d2 with
    | none => rw [h] at q2; exact q2.elim
    | some z => rw [h] at q2; exact s F2 env2 ps po σ H2 v v2 d d2 z Q r2 h q2
theorem tUn_of {f : PyData → Option PyData} {r : V → Hp → VK → Prop} (s : Op1 G r f) : ∀ σ H Q, tM G W (mOp1 f ma) σ H Q → tUn r (tM G W ma) σ H Q := fun σ H Q ⟨env, F, ps, po, hr, q⟩ =>
  tM_bind hr .refl q fun v d env1 F1 H1 r1 q1 => by
    cases h : f d with
    | none => rw [h] at q1; exact q1.elim
    | some z => rw [h] at q1; exact s F1 env1 ps po σ H1 v d z Q r1 h q1
theorem me_op {op : Operator} (ho : OpR X (binaryOp op) r) (s : Op2 G r f) (ha : ME X G W a ma) (hb : ME X G W b mb) : ME X G W (.BinOp a op b pos) (mOp2 f ma mb) := (pe_op ho ha hb).imp (tOp_of s)
theorem me_un {op : UnaryOp} {f : PyData → Option PyData} {r : V → Hp → VK → Prop} (ho : UnR X (unaryOp op) r) (s : Op1 G r f) (ha : ME X G W a ma) : ME X G W (.UnaryOp op a pos) (mOp1 f ma) := (pe_un ho ha).imp (tUn_of s)
theorem me_cmp {op : CmpOp} (ho : OpR X (compareOp op) r) (s : Op2 G r f) (ha : ME X G W a ma) (hb : ME X G W b mb) (hm : behindInMarks op b = false) : ME X G W (.Compare a [op] [b] pos) (mOp2 f ma mb) := (pe_cmpR ho ha hb hm).imp (tOp_of s)

/-! ### truth -/
def mTest (m : SEnv → R PyData) : SEnv → R Bool := fun env => (m env).bind fun d e => match d with
  | .bool b => .ok b e
  | _ => .stuck
theorem dp_bool {K : PySem.W.Frag} {H : Hp} {v : V} {b : Bool} (h : Dp K H v (.bool b)) : v = .bl b := by cases h; rfl
theorem mt_val {e : Expr} {m : SEnv → R PyData} (h : ME X G W e m) (he : ∀ whole, isTrue e X.env whole = (do let v ← whole; standAt e.pos; holding [v] (truthy v)) := by intro _; rfl) : MT X G W e (mTest m) := by
  refine (pt_val h he).imp fun σ H Q ⟨env, F, ps, po, hr, q⟩ => tM_bindB hr .refl q fun v d env1 F1 H1 r1 q1 => ?_
  cases d with
  | bool b => exact ⟨b, dp_bool r1.top, q1 F1 H1 r1.drop1⟩
  | _ => exact q1.elim
def mNotT (m : SEnv → R Bool) : SEnv → R Bool := fun env => (m env).bind fun b e => .ok (!b) e
def mAndT (m n : SEnv → R Bool) : SEnv → R Bool := fun env => (m env).bind fun b e => if b then n e else .ok false e
def mOrT (m n : SEnv → R Bool) : SEnv → R Bool := fun env => (m env).bind fun b e => if b then .ok true e else n e
variable {m n : SEnv → R Bool} {rest : List Expr}
theorem mw_and1 (ha : MT X G W a m) : MW X G W (.BoolOp .And [a] pos) m := pw_and1 ha
theorem mw_or1 (ha : MT X G W a m) : MW X G W (.BoolOp .Or [a] pos) m := pw_or1 ha
theorem mw_and (ha : MT X G W a m) (hb : MW X G W (.BoolOp .And (b :: rest) pos) n) : MW X G W (.BoolOp .And (a :: b :: rest) pos) (mAndT m n) := by
  refine (pw_and ha hb).imp fun σ H Q ⟨env, F, ps, po, hr, q⟩ => tB_bindB hr .refl q fun c env1 F1 H1 r1 q1 => ?_
  cases c with
  | true => exact ⟨env1, F1, ps, po, r1, q1⟩
  | false => exact q1 F1 H1 r1
theorem mw_or (ha : MT X G W a m) (hb : MW X G W (.BoolOp .Or (b :: rest) pos) n) : MW X G W (.BoolOp .Or (a :: b :: rest) pos) (mOrT m n) := by
  refine (pw_or ha hb).imp fun σ H Q ⟨env, F, ps, po, hr, q⟩ => tB_bindB hr .refl q fun c env1 F1 H1 r1 q1 => ?_
  cases c with
  | true => exact q1 F1 H1 r1
  | false => exact ⟨env1, F1, ps, po, r1, q1⟩
theorem mt_w {e : Expr} (h : MW X G W e m) : MT X G W e m := PW.pt h
theorem mt_not (ha : MT X G W a m) : MT X G W (.UnaryOp .Not a pos) (mNotT m) :=
  (pt_not ha).imp fun σ H Q ⟨env, F, ps, po, hr, q⟩ => tB_bindB hr .refl q fun c env1 F1 H1 r1 q1 => q1 F1 H1 r1
/-- and, or, not as values -/
def mAnd (ma mb : SEnv → R PyData) : SEnv → R PyData := fun env => (ma env).bind fun d e => match d with
  | .bool true => mb e
  | .bool false => .ok (.bool false) e
  | _ => .stuck
def mOr (ma mb : SEnv → R PyData) : SEnv → R PyData := fun env => (ma env).bind fun d e => match d with
  | .bool true => .ok (.bool true) e
  | .bool false => mb e
  | _ => .stuck
def mNot (ma : SEnv → R PyData) : SEnv → R PyData := fun env => (ma env).bind fun d e => match d with
  | .bool b => .ok (.bool (!b)) e
  | _ => .stuck
theorem me_one {op} (h : ME X G W a ma) : ME X G W (.BoolOp op [a] pos) ma := pe_one h
theorem me_and (ha : ME X G W a ma) (hb : ME X G W (.BoolOp .And (b :: rest) pos) mb) : ME X G W (.BoolOp .And (a :: b :: rest) pos) (mAnd ma mb) := by
  refine (pe_and ha hb).imp fun σ H Q ⟨env, F, ps, po, hr, q⟩ => tM_bind hr .refl q fun v d env1 F1 H1 r1 q1 => ?_
  cases d with
  | bool c =>
    refine ⟨c, dp_bool r1.top, ?_⟩
    cases c with
    | true => exact ⟨env1, F1, ps, po, r1.drop1, q1⟩
    | false => exact q1 _ F1 H1 (r1.drop1.push (.bl false))
  | _ => exact q1.elim
theorem me_or (ha : ME X G W a ma) (hb : ME X G W (.BoolOp .Or (b :: rest) pos) mb) : ME X G W (.BoolOp .Or (a :: b :: rest) pos) (mOr ma mb) := by
  refine (pe_or ha hb).imp fun σ H Q ⟨env, F, ps, po, hr, q⟩ => tM_bind hr .refl q fun v d env1 F1 H1 r1 q1 => ?_
  cases d with
  | bool c =>
    refine ⟨c, dp_bool r1.top, ?_⟩
    cases c with
    | true => exact q1 _ F1 H1 (r1.drop1.push (.bl true))
    | false => exact ⟨env1, F1, ps, po, r1.drop1, q1⟩
  | _ => exact q1.elim
theorem me_not (ha : ME X G W a ma) : ME X G W (.UnaryOp .Not a pos) (mNot ma) := by
  refine (pe_not ha).imp fun σ H Q ⟨env, F, ps, po, hr, q⟩ => tM_bind hr .refl q fun v d env1 F1 H1 r1 q1 => ?_
  cases d with
  | bool c => exact ⟨c, dp_bool r1.top, q1 _ F1 H1 (r1.drop1.push (.bl (!c)))⟩
  | _ => exact q1.elim
def mIf (m : SEnv → R Bool) (ma mb : SEnv → R PyData) : SEnv → R PyData := fun env => (m env).bind fun b e => if b then ma e else mb e
theorem me_if {c : Expr} (hc : MT X G W c m) (ha : ME X G W a ma) (hb : ME X G W b mb) : ME X G W (.IfExp c a b pos) (mIf m ma mb) := by
  refine (pe_ifExp hc ha hb).imp fun σ H Q ⟨env, F, ps, po, hr, q⟩ => tB_bind hr .refl q fun d env1 F1 H1 r1 q1 => ?_
  cases d with
  | true => exact ⟨env1, F1, ps, po, r1, q1⟩
  | false => exact ⟨env1, F1, ps, po, r1, q1⟩
end
end Bk

set_option linter.all false
set_option maxRecDepth 100000
set_option maxHeartbeats 2000000
namespace Bk
open PySem PySem.Spec PyProof.Rows L2

theorem line16 {n : Nat} (h : n ≤ 16777216) : n ≤ sizeLine := by rw [sizeLine_eq]; exact h
theorem line16' {n : Nat} (h : n ≤ sizeLine) : n ≤ 16777216 := by rw [sizeLine_eq] at h; exact h
section
variable {X : Cx} {G : Fm} {W : WX} {pos : Pos}

/-! ### + - * // % -/
def addD : PyData → PyData → Option PyData
  | .int i, .int j => some (.int (i + j))
  | .str x, .str y => if x.length + y.length ≤ 16777216 then some (.str (x ++ y)) else none
  | .tuple xs, .tuple ys => if xs.length + ys.length ≤ 16777216 then some (.tuple (xs ++ ys)) else none
  | .list xs, .list ys => if xs.length + ys.length ≤ 16777216 then some (.list (xs ++ ys)) else none
  | _, _ => none
def rCatL (K : PySem.W.Frag) : R2 := fun x y H Q => ∃ l b xs zs, x = .ref l ∧ y = .ref b ∧ SqL K H l xs ∧ SqL K H b zs ∧ xs.length + zs.length ≤ sizeLine ∧ ∀ p, H p = none → Q (.ref p) (upd H p (.lst (xs ++ zs)))
theorem op_catL : OpR X (binaryOp .Add) (rCatL X.K) := by
  intro pins s σ H x y v u Q I rx ry h
  obtain ⟨l, b, xs, zs, rfl, rfl, hH, hB, hz, q⟩ := h
  cases rx
  cases ry
  obtain ⟨its, r, hl, _⟩ := I.list hH
  obtain ⟨its2, r2, hl2, _⟩ := I.list hB
  obtain ⟨⟨cls, dd, data, sl⟩, n, ho, hc, hdd, hd⟩ := hl
  obtain ⟨⟨cls2, dd2, data2, sl2⟩, n2, ho2, hc2, hdd2, hd2⟩ := hl2
  simp only at hc hd hc2 hd2 hdd hdd2
  subst hc hd hc2 hd2 hdd hdd2
  have ea : its.toArray ++ its2.toArray = (its ++ its2).toArray := by simp
  have e1 := r.length
  have e2 := r2.length
  refine concat_meets ⟨_, ho, rfl⟩ ⟨_, ho2, rfl⟩ noFill_list_add seq_list_add PySem.F.slot_list_add PySem.F.entry_list_add (PySem.F.args_list_add_2 _ _) (list_addW l b its.toArray its2.toArray n n2 none none sl sl2 (by rw [List.size_toArray, List.size_toArray]; omega)) ⟨ho, ho2, ?_⟩
  rw [ea]
  exact ⟨.ref _, _, I.lnew (t' := s.toks) (r.append r2) (by rw [List.length_append]; omega), rfl, q _ I.fresh⟩
def rAddD (K : PySem.W.Frag) : R2 := fun x y H Q => (rI0 fun i j => .int (i + j)) x y H Q ∨ (∃ i j, x = .str i ∧ y = .str j ∧ i.length + j.length ≤ sizeLine ∧ Q (.str (i ++ j)) H) ∨ rCatA K x y H Q ∨ rCatL K x y H Q
theorem op_addD : OpR X (binaryOp .Add) (rAddD X.K) := OpR.or op_add (OpR.or op_add_str (OpR.or op_catA op_catL))
theorem dp_int {K : PySem.W.Frag} {H : Hp} {v : V} {i : Int} (h : Dp K H v (.int i)) : v = .int i := by cases h; rfl
theorem dp_str {K : PySem.W.Frag} {H : Hp} {v : V} {x : Str} (h : Dp K H v (.str x)) : v = .str x := by cases h; rfl
theorem dp_none {K : PySem.W.Frag} {H : Hp} {v : V} (h : Dp K H v .none) : v = .non := by cases h; rfl
theorem dp_tup {K : PySem.W.Frag} {H : Hp} {v : V} {ds : List PyData} (h : Dp K H v (.tuple ds)) : ∃ a xs, v = .ref a ∧ SqT K H a xs ∧ DpAll K H xs ds := by
  cases h with
  | tup h1 h2 => exact ⟨_, _, rfl, h1, h2⟩
theorem dp_lst {K : PySem.W.Frag} {H : Hp} {v : V} {ds : List PyData} (h : Dp K H v (.list ds)) : ∃ a xs, v = .ref a ∧ SqL K H a xs ∧ DpAll K H xs ds := by
  cases h with
  | lst h1 h2 => exact ⟨_, _, rfl, h1, h2⟩
/-- a new tuple, a new list that no one changes -/
theorem Rel.newTup {F H : Hp} {env : SEnv} {ps : PS0} {po : PO0} {σ : L2.St} {p : Addr} {xs : List V} {ds : List PyData} (r : Rel G F env ps po σ H) (hp : H p = none) (h : DpAll G.K F xs ds) :
    Rel G (upd F p (.tup xs)) env ((.ref p, .tuple ds) :: ps) po σ (upd H p (.tup xs)) := (r.alloc hp).push (.tup (SqT.of upd_same) (dpAll_mono (Same.upd_new (r.sub.free hp)) h))
theorem Rel.newLst {F H : Hp} {env : SEnv} {ps : PS0} {po : PO0} {σ : L2.St} {p : Addr} {xs : List V} {ds : List PyData} (r : Rel G F env ps po σ H) (hp : H p = none) (h : DpAll G.K F xs ds) :
    Rel G (upd F p (.lst xs)) env ((.ref p, .list ds) :: ps) po σ (upd H p (.lst xs)) := (r.alloc hp).push (.lst (SqL.of upd_same) (dpAll_mono (Same.upd_new (r.sub.free hp)) h))
theorem Rel.top2 {F H : Hp} {env : SEnv} {ps : PS0} {po : PO0} {σ : L2.St} {p q : V × PyData} (r : Rel G F env (p :: q :: ps) po σ H) : Dp G.K F q.1 q.2 := r.pend q (List.mem_cons_of_mem _ List.mem_cons_self)
theorem Rel.drop2 {F H : Hp} {env : SEnv} {ps : PS0} {po : PO0} {σ : L2.St} {p q : V × PyData} (r : Rel G F env (p :: q :: ps) po σ H) : Rel G F env ps po σ H := r.drop1.drop1
theorem nil_of {K : PySem.W.Frag} {H : Hp} {xs : List V} {ds : List PyData} (h : DpAll K H xs ds) : xs = [] ↔ ds = [] := by
  cases h with
  | nil => simp
  | cons _ _ => simp
theorem add_s : Op2 G (rAddD G.K) addD := by
  intro F env ps po σ H x y a b d Q r hf q
  have ha := r.top2
  have hb := r.top
  have r0 := r.drop2
  unfold addD at hf
  split at hf
  · obtain rfl := Option.some.inj hf
    exact .inl ⟨_, _, dp_int ha, dp_int hb, q _ F H (r0.push (.int _))⟩
  · split at hf
    · rename_i hz
      obtain rfl := Option.some.inj hf
      exact .inr (.inl ⟨_, _, dp_str ha, dp_str hb, line16 hz, q _ F H (r0.push (.str _))⟩)
    · cases hf
  · rename_i xs ys
    split at hf
    · rename_i hz
      obtain rfl := Option.some.inj hf
      obtain ⟨p1, vs, e1, s1, d1⟩ := dp_tup ha
      obtain ⟨p2, ws, e2, s2, d2⟩ := dp_tup hb
      refine .inr (.inr (.inl ⟨p1, p2, vs, ws, e1, e2, SqT.mono r.sub s1, SqT.mono r.sub s2, by rw [dpAll_len d1, dpAll_len d2]; exact line16 hz, fun e => ?_, fun _ e => ?_, fun _ _ p hp => ?_⟩))
      · have : xs = [] := (nil_of d1).mp e
        subst this
        exact q _ F H (r0.push (.tup s2 d2))
      · have : ys = [] := (nil_of d2).mp e
        subst this
        exact q _ F H (r0.push (.tup s1 (by rw [List.append_nil]; exact d1)))
      · exact q _ _ _ (r0.newTup hp (dpAll_app d1 d2))
    · cases hf
  · split at hf
    · rename_i hz
      obtain rfl := Option.some.inj hf
      obtain ⟨p1, vs, e1, s1, d1⟩ := dp_lst ha
      obtain ⟨p2, ws, e2, s2, d2⟩ := dp_lst hb
      exact .inr (.inr (.inr ⟨p1, p2, vs, ws, e1, e2, SqL.mono r.sub s1, SqL.mono r.sub s2, by rw [dpAll_len d1, dpAll_len d2]; exact line16 hz, fun p hp => q _ _ _ (r0.newLst hp (dpAll_app d1 d2))⟩))
    · cases hf
  · cases hf
theorem me_add {a b : Expr} {ma mb : SEnv → R PyData} (hK : X.K = G.K := by rfl) (ha : ME X G W a ma) (hb : ME X G W b mb) : ME X G W (.BinOp a .Add b pos) (mOp2 addD ma mb) := me_op op_addD (by rw [hK]; exact add_s) ha hb

/-- ints alone -/
def intD (C : Int → Int → Bool) (g : Int → Int → Int) : PyData → PyData → Option PyData
  | .int i, .int j => if C i j then some (.int (g i j)) else none
  | _, _ => none
theorem int_s {C : Int → Int → Prop} {c : Int → Int → Bool} {g : Int → Int → Int} (h : ∀ i j, c i j = true → C i j) : Op2 G (rI C fun i j => .int (g i j)) (intD c g) := by
  intro F env ps po σ H x y a b d Q r hf q
  unfold intD at hf
  split at hf
  · split at hf
    · rename_i hc
      obtain rfl := Option.some.inj hf
      exact ⟨_, _, dp_int r.top2, dp_int r.top, h _ _ hc, q _ F H (r.drop2.push (.int _))⟩
    · cases hf
  · cases hf
theorem int0_s {g : Int → Int → Int} : Op2 G (rI0 fun i j => .int (g i j)) (intD (fun _ _ => true) g) := by
  intro F env ps po σ H x y a b d Q r hf q
  unfold intD at hf
  split at hf
  · rw [if_pos rfl] at hf
    obtain rfl := Option.some.inj hf
    exact ⟨_, _, dp_int r.top2, dp_int r.top, q _ F H (r.drop2.push (.int _))⟩
  · cases hf
abbrev subD := intD (fun _ _ => true) (fun i j => i - j)
abbrev mulD := intD (fun i j => decide (j.natAbs < 2 ^ 64) || decide (i.natAbs < 2 ^ 64)) (fun i j => i * j)
abbrev fdivD := intD (fun _ j => decide (0 < j) && decide (j < 1073741824)) (fun i j => i / j)
abbrev modD := intD (fun _ j => decide (0 < j)) (fun i j => i % j)
abbrev powD := intD (fun i j => decide (0 ≤ j) && decide (j ≤ 1000000) && decide (i.natAbs < 2 ^ 64)) (fun i j => i ^ j.toNat)
variable {a b : Expr} {ma mb : SEnv → R PyData}
theorem me_sub (ha : ME X G W a ma) (hb : ME X G W b mb) : ME X G W (.BinOp a .Sub b pos) (mOp2 subD ma mb) := me_op op_sub int0_s ha hb
theorem me_mul (ha : ME X G W a ma) (hb : ME X G W b mb) : ME X G W (.BinOp a .Mult b pos) (mOp2 mulD ma mb) := me_op op_mul (int_s fun i j h => by
  unfold CMul
  simp only [Bool.or_eq_true, decide_eq_true_eq] at h
  omega) ha hb
theorem me_fdiv (ha : ME X G W a ma) (hb : ME X G W b mb) : ME X G W (.BinOp a .FloorDiv b pos) (mOp2 fdivD ma mb) := me_op op_fdiv (int_s fun i j h => by
  unfold CDiv
  simp only [Bool.and_eq_true, decide_eq_true_eq] at h
  exact h) ha hb
theorem me_mod (ha : ME X G W a ma) (hb : ME X G W b mb) : ME X G W (.BinOp a .Mod b pos) (mOp2 modD ma mb) := me_op op_mod (int_s fun i j h => by simpa using h) ha hb
theorem me_pow (ha : ME X G W a ma) (hb : ME X G W b mb) : ME X G W (.BinOp a .Pow b pos) (mOp2 powD ma mb) := me_op op_pow (int_s fun i j h => by
  unfold CPow
  simp only [Bool.and_eq_true, decide_eq_true_eq] at h
  exact ⟨h.1.1, h.1.2, h.2⟩) ha hb
def negD : PyData → Option PyData
  | .int i => some (.int (-i))
  | _ => none
theorem me_neg (ha : ME X G W a ma) : ME X G W (.UnaryOp .USub a pos) (mOp1 negD ma) := me_un un_neg (fun F env ps po σ H x a d Q r hf q => by
  unfold negD at hf
  split at hf
  · obtain rfl := Option.some.inj hf
    exact ⟨_, dp_int r.top, q _ F H (r.drop1.push (.int _))⟩
  · cases hf) ha

/-! ### == != < <= > >= in -/
/-- deep equality (where it is told by more than the lengths: both at most 64 deep) -/
def eqB : PyData → PyData → Option Bool
  | .int i, .int j => some (decide (i = j))
  | .str x, .str y => some (decide (x = y))
  | .list xs, .list ys => if xs.length = ys.length then (if xs.isEmpty then some true else if SeqAt.shaped (.list xs) && SeqAt.shaped (.list ys) then some (PyData.eqv (.list xs) (.list ys)) else none) else some false
  | a, b => if SeqAt.shaped a && SeqAt.shaped b then some (PyData.eqv a b) else none
def eqD (a b : PyData) : Option PyData := (eqB a b).map .bool
def neD (a b : PyData) : Option PyData := (eqB a b).map fun k => .bool (!k)
def rEqU (K : PySem.W.Frag) (g : Bool → Bool) : R2 := fun x y H Q => ∃ d e k, Dp K H x d ∧ Dp K H y e ∧ eqB d e = some k ∧ Q (.bl (g k)) H
theorem eqU_refl (hu : X.A.units + 64 < cLine) {d e : PyData} {k : Bool} (h : eqB d e = some k) : (∃ i j, d = .int i ∧ e = .int j ∧ k = decide (i = j)) ∨ (∃ i j, d = .str i ∧ e = .str j ∧ k = decide (i = j)) ∨ (∃ xs ys, d = .list xs ∧ e = .list ys ∧ (xs.length ≠ ys.length ∧ k = false ∨ xs = [] ∧ ys = [] ∧ k = true)) ∨ (SeqAt.shaped d = true ∧ SeqAt.shaped e = true ∧ k = PyData.eqv d e) := by
  unfold eqB at h
  split at h
  · exact .inl ⟨_, _, rfl, rfl, (Option.some.inj h).symm⟩
  · exact .inr (.inl ⟨_, _, rfl, rfl, (Option.some.inj h).symm⟩)
  · rename_i xs ys
    split at h
    · rename_i hl
      split at h
      · rename_i hx
        have hx : xs = [] := by simpa using hx
        subst hx
        have hy : ys = [] := by simpa using hl.symm
        exact .inr (.inr (.inl ⟨_, _, rfl, rfl, .inr ⟨rfl, hy, (Option.some.inj h).symm⟩⟩))
      · split at h
        · rename_i hc
          rw [Bool.and_eq_true] at hc
          exact .inr (.inr (.inr ⟨hc.1, hc.2, (Option.some.inj h).symm⟩))
        · cases h
    · rename_i hl
      exact .inr (.inr (.inl ⟨_, _, rfl, rfl, .inl ⟨hl, (Option.some.inj h).symm⟩⟩))
  · split at h
    · rename_i hc
      rw [Bool.and_eq_true] at hc
      exact .inr (.inr (.inr ⟨hc.1, hc.2, (Option.some.inj h).symm⟩))
    · cases h
theorem lists_eq {pins : List (Addr × Obj)} {σ : L2.St} {H : Hp} {s : Shared} {l b : Addr} {xs ys : List V} {k : Bool} {A : Around} (I : Inv X pins σ H s) (h1 : SqL X.K H l xs) (h2 : SqL X.K H b ys) (hk : xs.length ≠ ys.length ∧ k = false ∨ xs = [] ∧ ys = [] ∧ k = true) (hu : A.units < cLine) :
    SeqAt.RcAt A s (.ref l) (.ref b) k ∧ SeqAt.RcNeAt A s (.ref l) (.ref b) (!k) := by
  obtain ⟨i1, r1, p1, _⟩ := I.list h1
  obtain ⟨i2, r2, p2, _⟩ := I.list h2
  have e1 := r1.length
  have e2 := r2.length
  rcases hk with ⟨hl, rfl⟩ | ⟨rfl, rfl, rfl⟩
  · have hz : (i1.toArray.size != i2.toArray.size) = true := by simp [← e1, ← e2, hl]
    exact ⟨SeqAt.RcAt.lists_lengths p1.isList p2.isList hz hu, SeqAt.RcNeAt.lists_lengths p1.isList p2.isList hz hu⟩
  · cases r1
    cases r2
    refine ⟨?_, ?_⟩
    · have := SeqAt.RcAt.lists (A := A) (e := fun _ => true) p1.isList p2.isList rfl hu (fun j h1 h2 => by simp at h1)
      simpa using this
    · have := SeqAt.RcNeAt.lists (A := A) (e := fun _ => true) p1.isList p2.isList rfl hu (fun j h1 h2 => by simp at h1)
      simpa using this
theorem op_eqU (hu : X.A.units + 64 < cLine) : OpR X (compareOp .Eq) (rEqU X.K id) := by
  intro pins s σ H x y v u Q I rx ry h
  obtain ⟨d, e, k, hd, he, hk, q⟩ := h
  rcases eqU_refl hu hk with ⟨i, j, rfl, rfl, rfl⟩ | ⟨i, j, rfl, rfl, rfl⟩ | ⟨xs, ys, rfl, rfl, hw⟩ | ⟨h1, h2, rfl⟩
  · cases hd; cases he
    exact op_eq pins s σ H _ _ v u Q I rx ry ⟨rfl, by simpa using q⟩
  · cases hd; cases he
    exact op_eq pins s σ H _ _ v u Q I rx ry ⟨rfl, by simpa using q⟩
  · cases hd with
    | lst s1 a1 =>
      cases he with
      | lst s2 a2 =>
        cases rx
        cases ry
        refine (lists_eq I s1 s2 (hw.imp (fun z => ⟨by rw [dpAll_len a1, dpAll_len a2]; exact z.1, z.2⟩) fun z => ?_) (by omega)).1 _ _ _ _ ⟨.bl k, H, I, rfl, q⟩
        obtain ⟨rfl, rfl, z⟩ := z
        cases a1; cases a2
        exact ⟨rfl, rfl, z⟩
  · exact op_eqD hu pins s σ H x y v u Q I rx ry ⟨d, e, hd, he, h1, h2, q⟩
theorem op_neU (hu : X.A.units + 64 < cLine) : OpR X (compareOp .NotEq) (rEqU X.K (!·)) := by
  intro pins s σ H x y v u Q I rx ry h
  obtain ⟨d, e, k, hd, he, hk, q⟩ := h
  rcases eqU_refl hu hk with ⟨i, j, rfl, rfl, rfl⟩ | ⟨i, j, rfl, rfl, rfl⟩ | ⟨xs, ys, rfl, rfl, hw⟩ | ⟨h1, h2, rfl⟩
  · cases hd; cases he
    exact op_ne pins s σ H _ _ v u Q I rx ry ⟨rfl, by simpa using q⟩
  · cases hd; cases he
    exact op_ne pins s σ H _ _ v u Q I rx ry ⟨rfl, by simpa using q⟩
  · cases hd with
    | lst s1 a1 =>
      cases he with
      | lst s2 a2 =>
        cases rx
        cases ry
        refine (lists_eq I s1 s2 (hw.imp (fun z => ⟨by rw [dpAll_len a1, dpAll_len a2]; exact z.1, z.2⟩) fun z => ?_) (by omega)).2 _ _ _ _ ⟨.bl (!k), H, I, rfl, q⟩
        obtain ⟨rfl, rfl, z⟩ := z
        cases a1; cases a2
        exact ⟨rfl, rfl, z⟩
  · exact op_neD hu pins s σ H x y v u Q I rx ry ⟨d, e, hd, he, h1, h2, q⟩
theorem eqU_s (hK : X.K = G.K) : Op2 G (rEqU X.K id) eqD := fun F env ps po σ H x y a b d Q r hf q => by
  unfold eqD at hf
  obtain ⟨k, hk, rfl⟩ := Option.map_eq_some_iff.mp hf
  rw [hK]
  exact ⟨_, _, _, dp_mono r.sub r.top2, dp_mono r.sub r.top, hk, q _ F H (r.drop2.push (.bl _))⟩
theorem neU_s (hK : X.K = G.K) : Op2 G (rEqU X.K (!·)) neD := fun F env ps po σ H x y a b d Q r hf q => by
  unfold neD at hf
  obtain ⟨k, hk, rfl⟩ := Option.map_eq_some_iff.mp hf
  rw [hK]
  exact ⟨_, _, _, dp_mono r.sub r.top2, dp_mono r.sub r.top, hk, q _ F H (r.drop2.push (.bl _))⟩
theorem me_eq (hu : X.A.units + 64 < cLine) (ha : ME X G W a ma) (hb : ME X G W b mb) (hK : X.K = G.K := by rfl) (hm : behindInMarks .Eq b = false := by exact nomark _) : ME X G W (.Compare a [.Eq] [b] pos) (mOp2 eqD ma mb) :=
  me_cmp (op_eqU hu) (eqU_s hK) ha hb hm
theorem me_ne (hu : X.A.units + 64 < cLine) (ha : ME X G W a ma) (hb : ME X G W b mb) (hK : X.K = G.K := by rfl) (hm : behindInMarks .NotEq b = false := by exact nomark _) : ME X G W (.Compare a [.NotEq] [b] pos) (mOp2 neD ma mb) :=
  me_cmp (op_neU hu) (neU_s hK) ha hb hm
/-- ints and texts -/
def ordD (f : Int → Int → Bool) (g : List Nat → List Nat → Bool) : PyData → PyData → Option PyData
  | .int i, .int j => some (.bool (f i j))
  | .str x, .str y => some (.bool (g x.cps.toList y.cps.toList))
  | _, _ => none
abbrev ltD := ordD (fun i j => decide (i < j)) (fun x y => decide (x < y))
abbrev leD := ordD (fun i j => decide (i ≤ j)) (fun x y => !decide (y < x))
abbrev gtD := ordD (fun i j => decide (j < i)) (fun x y => decide (y < x))
abbrev geD := ordD (fun i j => decide (j ≤ i)) (fun x y => !decide (x < y))
theorem ord_s {f : Int → Int → Bool} {g : List Nat → List Nat → Bool} : Op2 G (fun x y H Q => (rI0 fun i j => .bl (f i j)) x y H Q ∨ ∃ i j, x = .str i ∧ y = .str j ∧ Q (.bl (g i.cps.toList j.cps.toList)) H) (ordD f g) := by
  intro F env ps po σ H x y a b d Q r hf q
  unfold ordD at hf
  split at hf
  · obtain rfl := Option.some.inj hf
    exact .inl ⟨_, _, dp_int r.top2, dp_int r.top, q _ F H (r.drop2.push (.bl _))⟩
  · obtain rfl := Option.some.inj hf
    exact .inr ⟨_, _, dp_str r.top2, dp_str r.top, q _ F H (r.drop2.push (.bl _))⟩
  · cases hf
theorem me_lt (ha : ME X G W a ma) (hb : ME X G W b mb) (hm : behindInMarks .Lt b = false := by exact nomark _) : ME X G W (.Compare a [.Lt] [b] pos) (mOp2 ltD ma mb) := me_cmp (OpR.or op_lt op_lt_str) ord_s ha hb hm
theorem me_le (ha : ME X G W a ma) (hb : ME X G W b mb) (hm : behindInMarks .LtE b = false := by exact nomark _) : ME X G W (.Compare a [.LtE] [b] pos) (mOp2 leD ma mb) := me_cmp (OpR.or op_le op_le_str) ord_s ha hb hm
theorem me_gt (ha : ME X G W a ma) (hb : ME X G W b mb) (hm : behindInMarks .Gt b = false := by exact nomark _) : ME X G W (.Compare a [.Gt] [b] pos) (mOp2 gtD ma mb) := me_cmp (OpR.or op_gt op_gt_str) ord_s ha hb hm
theorem me_ge (ha : ME X G W a ma) (hb : ME X G W b mb) (hm : behindInMarks .GtE b = false := by exact nomark _) : ME X G W (.Compare a [.GtE] [b] pos) (mOp2 geD ma mb) := me_cmp (OpR.or op_ge op_ge_str) ord_s ha hb hm
/-- one sign in a text; a flat value in a list, a tuple -/
def flatD : PyData → Bool
  | .none => true
  | .bool _ => true
  | .int _ => true
  | .str _ => true
  | _ => false
def inD : PyData → PyData → Option PyData
  | .str x, .str y => match x.cps.toList with
    | [c] => some (.bool (decide (c ∈ y.cps.toList)))
    | _ => none
  | a, .list ds => if flatD a && ds.all flatD then some (.bool (ds.any fun d => PyData.eqv d a)) else none
  | a, .tuple ds => if flatD a && ds.all flatD then some (.bool (ds.any fun d => PyData.eqv d a)) else none
  | _, _ => none
def notInD (a b : PyData) : Option PyData := match inD a b with
  | some (.bool k) => some (.bool (!k))
  | _ => none
theorem one_sign {x : Str} {c : Nat} (h : x.cps.toList = [c]) : x = ⟨#[c]⟩ := by
  obtain ⟨⟨l⟩⟩ := x
  simp only at h
  subst h
  rfl
theorem flat_of {K : PySem.W.Frag} {H : Hp} {v : V} {d : PyData} (h : Dp K H v d) (f : flatD d = true) : flatV v = true := by
  cases h <;> first | rfl | cases f
theorem eqV_of {K : PySem.W.Frag} {H : Hp} {v w : V} {d e : PyData} (h : Dp K H v d) (h' : Dp K H w e) (f : flatD d = true) (f' : flatD e = true) : eqV v w = PyData.eqv d e := by
  cases h <;> cases h' <;> first | cases f; done | cases f'; done | skip
  all_goals first
    | rfl
    | simp [eqV, PyData.eqv]
    | (rename_i b c; cases b <;> cases c <;> rfl)
theorem any_of {K : PySem.W.Frag} {H : Hp} {w : V} {e : PyData} (h' : Dp K H w e) (f' : flatD e = true) : ∀ {vs : List V} {ds : List PyData}, DpAll K H vs ds → ds.all flatD = true → (vs.all flatV = true ∧ (inV w vs) = ds.any fun d => PyData.eqv d e)
  | _, [], h, _ => by cases h; exact ⟨rfl, rfl⟩
  | _, d :: ds, h, f => by
    cases h with
    | cons h1 h2 =>
      rw [List.all_cons, Bool.and_eq_true] at f
      obtain ⟨q1, q2⟩ := any_of h' f' h2 f.2
      refine ⟨by rw [List.all_cons, flat_of h1 f.1, q1]; rfl, ?_⟩
      show inV w (_ :: _) = _
      unfold inV at q2 ⊢
      rw [List.any_cons, List.any_cons, q2, eqV_of h1 h' f.1 f']
theorem in_s {neg : Bool} : Op2 G (fun x y H Q => (∃ (c : Nat) (z : Str), x = .str ⟨#[c]⟩ ∧ y = .str z ∧ Q (.bl (if neg then !decide (c ∈ z.cps.toList) else decide (c ∈ z.cps.toList))) H) ∨ rIn G.K neg x y H Q) (if neg then notInD else inD) := by
  intro F env ps po σ H x y a b d Q r hf q
  have key : ∀ k : Bool, inD a b = some (.bool k) → (∃ (c : Nat) (z : Str), a = .str ⟨#[c]⟩ ∧ b = .str z ∧ k = decide (c ∈ z.cps.toList)) ∨ (flatD a = true ∧ ∃ ds, (b = .list ds ∨ b = .tuple ds) ∧ ds.all flatD = true ∧ k = ds.any fun d => PyData.eqv d a) := by
    intro k hk
    unfold inD at hk
    split at hk
    · split at hk
      · rename_i hc
        injection hk with hk; injection hk with hk
        exact .inl ⟨_, _, by rw [one_sign hc], rfl, hk.symm⟩
      · cases hk
    · split at hk
      · rename_i hc
        rw [Bool.and_eq_true] at hc
        injection hk with hk; injection hk with hk
        exact .inr ⟨hc.1, _, .inl rfl, hc.2, hk.symm⟩
      · cases hk
    · split at hk
      · rename_i hc
        rw [Bool.and_eq_true] at hc
        injection hk with hk; injection hk with hk
        exact .inr ⟨hc.1, _, .inr rfl, hc.2, hk.symm⟩
      · cases hk
    · cases hk
  have main : ∀ k : Bool, inD a b = some (.bool k) → d = .bool (if neg then !k else k) → ((∃ (c : Nat) (z : Str), x = .str ⟨#[c]⟩ ∧ y = .str z ∧ Q (.bl (if neg then !decide (c ∈ z.cps.toList) else decide (c ∈ z.cps.toList))) H) ∨ rIn G.K neg x y H Q) := fun k hk hd => by
    subst hd
    rcases key k hk with ⟨c, z, rfl, rfl, rfl⟩ | ⟨fa, ds, hb, fd, rfl⟩
    · exact Or.inl ⟨c, z, dp_str r.top2, dp_str r.top, q _ F H (r.drop2.push (by cases neg <;> exact .bl _))⟩
    · refine Or.inr ?_
      have hx := r.top2
      have hy := r.top
      rcases hb with rfl | rfl
      · obtain ⟨p, vs, e, s1, d1⟩ := dp_lst hy
        obtain ⟨q1, q2⟩ := any_of hx fa d1 fd
        refine ⟨p, vs, e, .inl (SqL.mono r.sub s1), flat_of hx fa, q1, q _ F H (r.drop2.push ?_)⟩
        simp only [q2]
        cases neg <;> exact .bl _
      · obtain ⟨p, vs, e, s1, d1⟩ := dp_tup hy
        obtain ⟨q1, q2⟩ := any_of hx fa d1 fd
        refine ⟨p, vs, e, .inr (SqT.mono r.sub s1), flat_of hx fa, q1, q _ F H (r.drop2.push ?_)⟩
        simp only [q2]
        cases neg <;> exact .bl _
  cases neg with
  | false =>
    have hf : inD a b = some d := hf
    have : ∃ k, d = .bool k := by
      unfold inD at hf
      split at hf
      · split at hf
        · injection hf with hf; exact ⟨_, hf.symm⟩
        · cases hf
      · split at hf
        · injection hf with hf; exact ⟨_, hf.symm⟩
        · cases hf
      · split at hf
        · injection hf with hf; exact ⟨_, hf.symm⟩
        · cases hf
      · cases hf
    obtain ⟨k, rfl⟩ := this
    exact main k hf rfl
  | true =>
    have hf : notInD a b = some d := hf
    unfold notInD at hf
    split at hf
    · rename_i k hk
      injection hf with hf
      exact main k hk hf.symm
    · cases hf
theorem me_in (ha : ME X G W a ma) (hb : ME X G W b mb) (hK : X.K = G.K := by rfl) (hm : behindInMarks .In b = false := by rfl) : ME X G W (.Compare a [.In] [b] pos) (mOp2 inD ma mb) := by
  refine me_cmp (r := fun x y H Q => (∃ (c : Nat) (z : Str), x = .str ⟨#[c]⟩ ∧ y = .str z ∧ Q (.bl (decide (c ∈ z.cps.toList))) H) ∨ rIn X.K false x y H Q) (OpR.or op_in_sign op_in_seq) ?_ ha hb hm
  have := in_s (G := G) (neg := false)
  rw [hK]; exact this
theorem me_notIn (ha : ME X G W a ma) (hb : ME X G W b mb) (hK : X.K = G.K := by rfl) (hm : behindInMarks .NotIn b = false := by rfl) : ME X G W (.Compare a [.NotIn] [b] pos) (mOp2 notInD ma mb) := by
  refine me_cmp (r := fun x y H Q => (∃ (c : Nat) (z : Str), x = .str ⟨#[c]⟩ ∧ y = .str z ∧ Q (.bl (!decide (c ∈ z.cps.toList))) H) ∨ rIn X.K true x y H Q) (OpR.or op_notIn_sign op_notIn_seq) ?_ ha hb hm
  have := in_s (G := G) (neg := true)
  rw [hK]; exact this
/-- is None -/
def isNb : PyData → Bool
  | .none => true
  | _ => false
theorem dp_isN {K : PySem.W.Frag} {H : Hp} {v : V} {d : PyData} (h : Dp K H v d) : decide (v = V.non) = isNb d := by
  cases h <;> simp [isNb]
def isNoneD : PyData → PyData → Option PyData
  | a, .none => some (.bool (isNb a))
  | _, _ => none
def notNoneD : PyData → PyData → Option PyData
  | a, .none => some (.bool (!isNb a))
  | _, _ => none
theorem me_isN (ha : ME X G W a ma) (hb : ME X G W b mb) (hm : behindInMarks .Is b = false := by exact nomark _) : ME X G W (.Compare a [.Is] [b] pos) (mOp2 isNoneD ma mb) :=
  me_cmp op_isN (fun F env ps po σ H x y a b d Q r hf q => by
    unfold isNoneD at hf
    split at hf
    · obtain rfl := Option.some.inj hf
      refine ⟨dp_none r.top, q _ F H (r.drop2.push ?_)⟩
      rw [dp_isN r.top2]; exact .bl _
    · cases hf) ha hb hm
theorem me_notN (ha : ME X G W a ma) (hb : ME X G W b mb) (hm : behindInMarks .IsNot b = false := by exact nomark _) : ME X G W (.Compare a [.IsNot] [b] pos) (mOp2 notNoneD ma mb) :=
  me_cmp op_notN (fun F env ps po σ H x y a b d Q r hf q => by
    unfold notNoneD at hf
    split at hf
    · obtain rfl := Option.some.inj hf
      refine ⟨dp_none r.top, q _ F H (r.drop2.push ?_)⟩
      rw [dp_isN r.top2]; exact .bl _
    · cases hf) ha hb hm
/-- a < b < c -/
def mChain (f g : PyData → PyData → Option PyData) (ma mb mc : SEnv → R PyData) : SEnv → R PyData := fun env =>
  (ma env).bind fun a e1 => (mb e1).bind fun b e2 => match f a b with
    | some (.bool true) => (mc e2).bind fun c e3 => match g b c with
      | some d => .ok d e3
      | none => .stuck
    | some (.bool false) => .ok (.bool false) e2
    | _ => .stuck

/-! ### items and slices -/
def idxD : PyData → PyData → Option PyData
  | .list ds, .int i => atI ds i
  | .tuple ds, .int i => atI ds i
  | .str x, .int i => if x.length ≤ 16777216 then (atI x.cps.toList i).map fun c => .str ⟨#[c]⟩ else none
  | _, _ => none
theorem atI_dp {K : PySem.W.Frag} {H : Hp} {vs : List V} {ds : List PyData} {i : Int} {d : PyData} (h : DpAll K H vs ds) (e : atI ds i = some d) : ∃ v, atI vs i = some v ∧ Dp K H v d := by
  unfold atI at e ⊢
  rw [dpAll_len h]
  cases q : ixN ds.length i with
  | none => rw [q] at e; cases e
  | some j =>
    rw [q] at e
    obtain ⟨v, q1, q2⟩ := dpAll_get h (i := j) (d := d) e
    exact ⟨v, q1, q2⟩
theorem me_idx (ha : ME X G W a ma) (hb : ME X G W b mb) (hs : PlainIx b) (hK : X.K = G.K := by rfl) : ME X G W (.Subscript a b pos) (mOp2 idxD ma mb) := by
  refine (pe_ix ix_seq ha hb hs).imp (tOp_of ?_)
  intro F env ps po σ H x y a b d Q r hf q
  rw [hK]
  unfold idxD at hf
  split at hf
  · obtain ⟨p, vs, e, s1, d1⟩ := dp_lst r.top2
    obtain ⟨v, q1, q2⟩ := atI_dp d1 hf
    exact .inl ⟨p, vs, _, v, e, dp_int r.top, SqL.mono r.sub s1, q1, q _ F H (r.drop2.push q2)⟩
  · obtain ⟨p, vs, e, s1, d1⟩ := dp_tup r.top2
    obtain ⟨v, q1, q2⟩ := atI_dp d1 hf
    exact .inr (.inl ⟨p, vs, _, v, e, dp_int r.top, SqT.mono r.sub s1, q1, q _ F H (r.drop2.push q2)⟩)
  · rename_i x i
    split at hf
    · rename_i hz
      cases h : atI x.cps.toList i with
      | none => rw [h] at hf; cases hf
      | some c =>
        rw [h] at hf
        injection hf with hf
        subst hf
        exact .inr (.inr ⟨x, i, c, dp_str r.top2, dp_int r.top, line16 hz, h, q _ F H (r.drop2.push (.str _))⟩)
    · cases hf
  · cases hf
def cutD (ds : List PyData) (lo hi : Option Int) : List PyData := (ds.drop (HT.sIx ds.length 0 lo)).take (HT.sIx ds.length ds.length hi - HT.sIx ds.length 0 lo)
theorem cut_dp {K : PySem.W.Frag} {H : Hp} {vs : List V} {ds : List PyData} {lo hi : Option Int} (h : DpAll K H vs ds) : DpAll K H (cutV vs lo hi) (cutD ds lo hi) := by
  unfold cutV cutD
  rw [dpAll_len h]
  exact dpAll_take _ (dpAll_drop _ h)
def sliceD (d : PyData) (lo hi : Option Int) : Option PyData := match d with
  | .str x => if x.length ≤ 16777216 then some (.str (cutS x lo hi)) else none
  | .tuple ds => some (.tuple (cutD ds lo hi))
  | .list ds => some (.list (cutD ds lo hi))
  | _ => none
/-- a part of a slice -/
def mPart (m : Option (SEnv → R PyData)) : SEnv → R (Option Int) := match m with
  | none => fun env => .ok none env
  | some m => fun env => (m env).bind fun d e => match d with
    | .int i => .ok (some i) e
    | _ => .stuck
def mSlice (ma : SEnv → R PyData) (lo hi : Option (SEnv → R PyData)) : SEnv → R PyData := fun env =>
  (ma env).bind fun a e1 => (mPart lo e1).bind fun l e2 => (mPart hi e2).bind fun h e3 => match sliceD a l h with
    | some d => .ok d e3
    | none => .stuck
def PSat (G : Fm) (W : WX) (r : R (Option Int)) (ps : PS0) (po : PO0) (σ : L2.St) (Q : Option Int → Hp → Prop) : Prop :=
  match r with
  | .stuck => False
  | .ok b env => ∀ F' H', Rel G F' env ps po σ H' → Q b H'
  | .exc x env => XWant G W x env ps po σ
def tP' (G : Fm) (W : WX) (m : SEnv → R (Option Int)) : TO := fun σ H Q => ∃ env F ps po, Rel G F env ps po σ H ∧ PSat G W (m env) ps po σ Q
theorem tP_bind {F H : Hp} {env : SEnv} {ps ps0 : PS0} {po po0 : PO0} {σ : L2.St} {m : SEnv → R (Option Int)} {f : Option Int → SEnv → R PyData} {Q : VK} {Q' : Option Int → Hp → Prop} (r : Rel G F env ps po σ H) (e : Ends2 ps0 ps po0 po) (h : MSat G W ((m env).bind f) ps0 po0 σ Q)
    (k : ∀ b env' F' H', Rel G F' env' ps po σ H' → MSat G W (f b env') ps0 po0 σ Q → Q' b H') : tP' G W m σ H Q' := by
  refine ⟨env, F, ps, po, r, ?_⟩
  cases q : m env with
  | stuck => rw [q] at h; exact h.elim
  | ok d env' => rw [q] at h; exact fun F' H' r' => k d env' F' H' r' h
  | exc x env' => rw [q] at h; exact XWant.more e h
theorem _root_.L2.PO.imp {X : Cx} {e : Option Expr} {t t' : TO} (h : PO X e t) (i : ∀ σ H Q, t' σ H Q → t σ H Q) : PO X e t' := ⟨fun pins s σ H Q I q => h.run pins s σ H Q I (i σ H Q q)⟩
theorem mpo_none : PO X none (tP' G W (mPart none)) := po_none.imp fun σ H Q ⟨env, F, ps, po, r, q⟩ => q F H r
theorem mpo_some (h : ME X G W a ma) : PO X (some a) (tP' G W (mPart (some ma))) := (po_some h).imp fun σ H Q ⟨env, F, ps, po, r, q⟩ => by
  refine ⟨env, F, ps, po, r, ?_⟩
  have q : PSat G W ((ma env).bind fun d e => match d with
    | .int i => .ok (some i) e
    | _ => .stuck) ps po σ Q := q
  cases h : ma env with
  | stuck => rw [h] at q; exact q.elim
  | ok d env' =>
    rw [h] at q
    intro v F' H' r'
    cases d with
    | int i => exact ⟨i, dp_int r'.top, q F' H' r'.drop1⟩
    | _ => exact q.elim
  | exc x env' => rw [h] at q; exact q
theorem me_slice {lo hi : Option Expr} {ml mh : Option (SEnv → R PyData)} {p2 : Pos} (ha : ME X G W a ma) (hl : PO X lo (tP' G W (mPart ml))) (hh : PO X hi (tP' G W (mPart mh))) (hK : X.K = G.K := by rfl) : ME X G W (.Subscript a (.Slice lo hi none p2) pos) (mSlice ma ml mh) := by
  refine (pe_slice (SlR.or sl_str (SlR.or sl_tupA sl_list)) ha hl hh).imp fun σ H Q ⟨env, F, ps, po, r, q⟩ => ?_
  refine tM_bind r .refl q fun v d env1 F1 H1 r1 q1 => ?_
  refine tP_bind r1 Ends2.refl.val q1 fun l env2 F2 H2 r2 q2 => ?_
  refine tP_bind r2 Ends2.refl.val q2 fun h env3 F3 H3 r3 q3 => ?_
  rw [hK]
  unfold sliceD at q3
  split at q3
  · rename_i z hz
    split at hz
    · split at hz
      · rename_i hzz
        obtain rfl := Option.some.inj hz
        exact .inl ⟨_, dp_str r3.top, line16 hzz, q3 _ F3 H3 (r3.drop1.push (.str _))⟩
      · cases hz
    · obtain rfl := Option.some.inj hz
      obtain ⟨p, vs, e, s1, d1⟩ := dp_tup r3.top
      refine .inr (.inl ⟨p, vs, e, SqT.mono r3.sub s1, fun w => ?_, fun _ p hp => q3 _ _ _ (r3.drop1.newTup hp (cut_dp d1))⟩)
      have : cutV vs l h = vs := by
        unfold cutV
        rw [w.1, w.2]
        simp
      have d2 := cut_dp (lo := l) (hi := h) d1
      rw [this] at d2
      exact q3 _ F3 H3 (r3.drop1.push (.tup s1 d2))
    · obtain rfl := Option.some.inj hz
      obtain ⟨p, vs, e, s1, d1⟩ := dp_lst r3.top
      exact .inr (.inr ⟨p, vs, e, SqL.mono r3.sub s1, fun p hp => q3 _ _ _ (r3.drop1.newLst hp (cut_dp d1))⟩)
    · cases hz
  · exact q3.elim
end
end Bk

set_option linter.all false
set_option maxRecDepth 100000
set_option maxHeartbeats 2000000
namespace Bk
open PySem PySem.Spec PyProof.Rows L2

/-! ### several expressions -/
def mList : List (SEnv → R PyData) → SEnv → R (List PyData)
  | [], env => .ok [] env
  | m :: ms, env => (m env).bind fun d e => (mList ms e).bind fun ds e2 => .ok (d :: ds) e2
def ASat (G : Fm) (W : WX) (r : R (List PyData)) (ps : PS0) (po : PO0) (σ : L2.St) (Q : List V → Hp → Prop) : Prop :=
  match r with
  | .stuck => False
  | .ok ds env => ∀ vs F' H', vs.length = ds.length → Rel G F' env (vs.zip ds ++ ps) po σ H' → Q vs H'
  | .exc x env => XWant G W x env ps po σ
def tA (G : Fm) (W : WX) (ms : List (SEnv → R PyData)) : TA := fun σ H Q => ∃ env F ps po, Rel G F env ps po σ H ∧ ASat G W (mList ms env) ps po σ Q
abbrev MA (X : Cx) (G : Fm) (W : WX) (es : List Expr) (ms : List (SEnv → R PyData)) : Prop := PA X es (tA G W ms)
theorem zip_dp {K : PySem.W.Frag} {F : Hp} : ∀ {vs : List V} {ds : List PyData}, vs.length = ds.length → (∀ p ∈ vs.zip ds, Dp K F p.1 p.2) → DpAll K F vs ds
  | [], [], _, _ => .nil
  | [], _ :: _, h, _ => by simp at h
  | _ :: _, [], h, _ => by simp at h
  | v :: vs, d :: ds, h, q => .cons (q (v, d) (by simp)) (zip_dp (by simpa using h) fun p hp => q p (by simp [hp]))
theorem mList_len : ∀ {ms : List (SEnv → R PyData)} {env env' : SEnv} {ds : List PyData}, mList ms env = .ok ds env' → ds.length = ms.length
  | [], _, _, _, h => by cases h; rfl
  | m :: ms, env, env', ds, h => by
    have h : ((m env).bind fun d e => (mList ms e).bind fun ds e2 => .ok (d :: ds) e2) = .ok ds env' := h
    cases q : m env with
    | stuck => rw [q] at h; cases h
    | exc x e => rw [q] at h; cases h
    | ok d e =>
      rw [q] at h
      have h : ((mList ms e).bind fun ds e2 => .ok (d :: ds) e2) = .ok ds env' := h
      cases q2 : mList ms e with
      | stuck => rw [q2] at h; cases h
      | exc x e2 => rw [q2] at h; cases h
      | ok ds2 e2 =>
        rw [q2] at h
        cases h
        simp [mList_len q2]
section
variable {X : Cx} {G : Fm} {W : WX} {pos : Pos} {e : Expr} {es : List Expr} {m : SEnv → R PyData} {ms : List (SEnv → R PyData)}
variable {F H : Hp} {env : SEnv} {ps ps0 : PS0} {po po0 : PO0} {σ : L2.St}
theorem Rel.zip {vs : List V} {ds : List PyData} (r : Rel G F env (vs.zip ds ++ ps) po σ H) (h : vs.length = ds.length) : DpAll G.K F vs ds := zip_dp h fun p hp => r.pend p (List.mem_append_left _ hp)
theorem Rel.unzip {vs : List V} {ds : List PyData} (r : Rel G F env (vs.zip ds ++ ps) po σ H) : Rel G F env ps po σ H := r.less fun p hp => List.mem_append_right _ hp
theorem ma_nil : MA X G W [] [] := pa_nil.imp fun σ H Q ⟨env, F, ps, po, r, q⟩ => q [] F H rfl r
theorem ma_cons (ha : ME X G W e m) (hr : MA X G W es ms) (hs : starEach (e :: es) X.env = (false, eval e X.env) :: starEach es X.env := by rfl) : MA X G W (e :: es) (m :: ms) := by
  refine (pa_cons ha hr hs).imp fun σ H Q ⟨env, F, ps, po, r, q⟩ => ?_
  have q : ASat G W ((m env).bind fun d e => (mList ms e).bind fun ds e2 => .ok (d :: ds) e2) ps po σ Q := q
  refine ⟨env, F, ps, po, r, ?_⟩
  cases h : m env with
  | stuck => rw [h] at q; exact q.elim
  | exc x env' => rw [h] at q; exact q
  | ok d env' =>
    rw [h] at q
    intro v F' H' r'
    have q : ASat G W ((mList ms env').bind fun ds e2 => .ok (d :: ds) e2) ps po σ Q := q
    refine ⟨env', F', (v, d) :: ps, po, r', ?_⟩
    cases h2 : mList ms env' with
    | stuck => rw [h2] at q; exact q.elim
    | exc x env2 => rw [h2] at q; exact XWant.more (Ends2.refl.val) q
    | ok ds env2 =>
      rw [h2] at q
      intro vs F2 H2 hl r2
      refine q (v :: vs) F2 H2 (by simp [hl]) (r2.less fun p hp => ?_)
      rw [List.zip_cons_cons, List.cons_append, List.mem_cons] at hp
      rcases hp with e | hp
      · rw [e]; exact List.mem_append_right _ List.mem_cons_self
      · rcases List.mem_append.mp hp with hp | hp
        · exact List.mem_append_left _ hp
        · exact List.mem_append_right _ (List.mem_cons_of_mem _ hp)
theorem tA_bind {f : List PyData → SEnv → R PyData} {Q : VK} {Q' : List V → Hp → Prop} (r : Rel G F env ps po σ H) (e : Ends2 ps0 ps po0 po) (h : MSat G W ((mList ms env).bind f) ps0 po0 σ Q)
    (k : ∀ vs ds env' F' H', vs.length = ds.length ∧ ds.length = ms.length → Rel G F' env' (vs.zip ds ++ ps) po σ H' → MSat G W (f ds env') ps0 po0 σ Q → Q' vs H') : tA G W ms σ H Q' := by
  refine ⟨env, F, ps, po, r, ?_⟩
  cases q : mList ms env with
  | stuck => rw [q] at h; exact h.elim
  | ok ds env' => rw [q] at h; exact fun vs F' H' hl r' => k vs ds env' F' H' ⟨hl, mList_len q⟩ r' h
  | exc x env' => rw [q] at h; exact XWant.more e h
/-! ### tuples and lists written -/
def mTup (ms : List (SEnv → R PyData)) : SEnv → R PyData := fun env => (mList ms env).bind fun ds e => if ds.length ≤ 16777216 then .ok (.tuple ds) e else .stuck
def mLst (ms : List (SEnv → R PyData)) : SEnv → R PyData := fun env => (mList ms env).bind fun ds e => if ds.length ≤ 16777216 then .ok (.list ds) e else .stuck
theorem me_tup {x1} (h : MA X G W es ms) : ME X G W (.Tuple es x1 pos) (mTup ms) := (pe_tup h).imp fun σ H Q ⟨env, F, ps, po, r, q⟩ => tA_bind r .refl q fun vs ds env1 F1 H1 ⟨hl, _⟩ r1 q1 => by
  split at q1
  · rename_i hz
    exact ⟨by rw [hl]; exact line16 hz, fun p hp => q1 _ _ _ (r1.unzip.newTup hp (r1.zip hl))⟩
  · exact q1.elim
theorem me_lst (h : MA X G W es ms) : ME X G W (.List es pos) (mLst ms) := (pe_lst h).imp fun σ H Q ⟨env, F, ps, po, r, q⟩ => tA_bind r .refl q fun vs ds env1 F1 H1 ⟨hl, _⟩ r1 q1 => by
  split at q1
  · rename_i hz
    exact ⟨by rw [hl]; exact line16 hz, fun p hp => q1 _ _ _ (r1.unzip.newLst hp (r1.zip hl))⟩
  · exact q1.elim

/-! ### new objects of the def's own -/
def OSat (G : Fm) (W : WX) (r : R O) (ps : PS0) (po : PO0) (σ : L2.St) (Q : VK) : Prop :=
  match r with
  | .stuck => False
  | .ok o env => ∀ a F' H', Rel G F' env ps ((a, o) :: po) σ H' → Q (.ref a) H'
  | .exc x env => XWant G W x env ps po σ
def tF (G : Fm) (W : WX) (m : SEnv → R O) : TE := fun σ H Q => ∃ env F ps po, Rel G F env ps po σ H ∧ OSat G W (m env) ps po σ Q
abbrev MF (X : Cx) (G : Fm) (W : WX) (e : Expr) (m : SEnv → R O) : Prop := PE X e (tF G W m)
/-- a new list is used as a value -/
def mFz (m : SEnv → R O) : SEnv → R PyData := fun env => (m env).bind fun o e => match o with
  | .lst ds => .ok (.list ds) e
  | _ => .stuck
theorem tF_bind {m : SEnv → R O} {f : O → SEnv → R PyData} {Q Q' : VK} (r : Rel G F env ps po σ H) (e : Ends2 ps0 ps po0 po) (h : MSat G W ((m env).bind f) ps0 po0 σ Q)
    (k : ∀ a o env' F' H', Rel G F' env' ps ((a, o) :: po) σ H' → MSat G W (f o env') ps0 po0 σ Q → Q' (.ref a) H') : tF G W m σ H Q' := by
  refine ⟨env, F, ps, po, r, ?_⟩
  cases q : m env with
  | stuck => rw [q] at h; exact h.elim
  | ok o env' => rw [q] at h; exact fun a F' H' r' => k a o env' F' H' r' h
  | exc x env' => rw [q] at h; exact XWant.more e h
theorem me_fz {m : SEnv → R O} (h : MF X G W e m) : ME X G W e (mFz m) := h.imp fun σ H Q ⟨env, F, ps, po, r, q⟩ => tF_bind r .refl q fun a o env1 F1 H1 r1 q1 => by
  cases o with
  | lst ds =>
    obtain ⟨F2, r2⟩ := r1.freezeP
    exact q1 _ F2 H1 r2
  | _ => exact q1.elim
def mLstF (ms : List (SEnv → R PyData)) : SEnv → R O := fun env => (mList ms env).bind fun ds e => if ds.length ≤ 16777216 then .ok (.lst ds) e else .stuck
theorem tA_bindO {f : List PyData → SEnv → R O} {Q : VK} {Q' : List V → Hp → Prop} (r : Rel G F env ps po σ H) (e : Ends2 ps0 ps po0 po) (h : OSat G W ((mList ms env).bind f) ps0 po0 σ Q)
    (k : ∀ vs ds env' F' H', vs.length = ds.length ∧ ds.length = ms.length → Rel G F' env' (vs.zip ds ++ ps) po σ H' → OSat G W (f ds env') ps0 po0 σ Q → Q' vs H') : tA G W ms σ H Q' := by
  refine ⟨env, F, ps, po, r, ?_⟩
  cases q : mList ms env with
  | stuck => rw [q] at h; exact h.elim
  | ok ds env' => rw [q] at h; exact fun vs F' H' hl r' => k vs ds env' F' H' ⟨hl, mList_len q⟩ r' h
  | exc x env' => rw [q] at h; exact XWant.more e h
theorem mf_lst (h : MA X G W es ms) : MF X G W (.List es pos) (mLstF ms) := (pe_lst h).imp fun σ H Q ⟨env, F, ps, po, r, q⟩ => tA_bindO r .refl q fun vs ds env1 F1 H1 ⟨hl, _⟩ r1 q1 => by
  split at q1
  · rename_i hz
    refine ⟨by rw [hl]; exact line16 hz, fun p hp => q1 _ _ _ (r1.unzip.pushO hp ?_)⟩
    exact ⟨vs, upd_same, r1.zip hl⟩
  · exact q1.elim

/-! ### a def is called -/
theorem Rel.entry {vs : List V} {ds : List PyData} (r : Rel G F env ps po σ H) (hd : DpAll G.K F vs ds) :
    Rel ⟨G.K, G.cad, H, F, fun i a => (none : Option (Nat × Addr)) = some (i, a)⟩ F (ds.map .val) [] [] (vs.map some) H := by
  refine ⟨by simp [dpAll_len hd], r.sub, fun i l h => ?_, fun i j l m a hij h1 h2 o1 o2 s1 => ?_, Same.refl _, fun b o e => .inl e, fun b o e _ => e, fun i a e => (by cases e), fun p hp => (by cases hp), fun p hp => (by cases hp), List.nodup_nil, fun p hp => (by cases hp)⟩
  · rw [List.getElem?_map] at h
    cases q : ds[i]? with
    | none => rw [q] at h; cases h
    | some d =>
      rw [q] at h
      cases h
      obtain ⟨v, h1, h2⟩ := dpAll_get hd q
      exact ⟨some v, by rw [List.getElem?_map, h1]; rfl, v, rfl, h2⟩
  · rw [List.getElem?_map] at h1
    cases q : ds[i]? with
    | none => rw [q] at h1; cases h1
    | some d => rw [q] at h1; cases h1; cases o1
theorem Rel.entryIo {vs : List V} {ds : List PyData} {a : Addr} {o : O} (r : Rel G F env ps po σ H) (hd : DpAll G.K F vs ds) (hF : F a = none) (ho : OAt G.K G.cad F H a o) :
    Rel ⟨G.K, G.cad, H, F, fun i b => some (0, a) = some (i, b)⟩ F (.io o :: ds.map .val) [] [] ((V.ref a :: vs).map some) H := by
  have isv : ∀ (i : Nat) (l : Sl), (ds.map Sl.val)[i]? = some l → ∃ d v, l = .val d ∧ ds[i]? = some d ∧ vs[i]? = some v ∧ Dp G.K F v d := fun i l h => by
    rw [List.getElem?_map] at h
    cases q : ds[i]? with
    | none => rw [q] at h; cases h
    | some d =>
      rw [q] at h
      cases h
      obtain ⟨v, h1, h2⟩ := dpAll_get hd q
      exact ⟨d, v, rfl, rfl, h1, h2⟩
  refine ⟨by simp [dpAll_len hd], r.sub, fun i l h => ?_, fun i j l m b hij h1 h2 o1 o2 s1 => ?_, Same.refl _, fun b o e => .inl e, fun b o e _ => e, fun i b e => ?_, fun p hp => (by cases hp), fun p hp => (by cases hp), List.nodup_nil, fun p hp => (by cases hp)⟩
  · cases i with
    | zero => cases h; exact ⟨some (.ref a), rfl, a, rfl, hF, rfl, ho⟩
    | succ i =>
      obtain ⟨d, v, rfl, h1, h2, h3⟩ := isv i l (by simpa using h)
      exact ⟨some v, by simp [h2], v, rfl, h3⟩
  · cases i with
    | zero =>
      cases j with
      | zero => exact absurd rfl hij
      | succ j =>
        obtain ⟨d, v, rfl, _⟩ := isv j m (by simpa using h2)
        cases o2
    | succ i =>
      obtain ⟨d, v, rfl, _⟩ := isv i l (by simpa using h1)
      cases o1
  · cases e
    exact ⟨o, rfl, rfl⟩
def mCall (sem : SEnv → RC) (ms : List (SEnv → R PyData)) : SEnv → R PyData := fun env => (mList ms env).bind fun ds e =>
  match sem (ds.map .val) with
  | .stuck => .stuck
  | .ok d _ => .ok d e
  | .exc x _ => .exc x e
/-- the first argument is the object of slot j -/
def mCallIo (sem : SEnv → RC) (j : Nat) (ms : List (SEnv → R PyData)) : SEnv → R PyData := fun env => (mList ms env).bind fun ds e =>
  match e[j]? with
  | none => .stuck
  | some l => match l.obj with
    | none => .stuck
    | some o => match sem (.io o :: ds.map .val) with
      | .stuck => .stuck
      | .ok d (some o') => .ok d (e.set j (l.put o'))
      | .ok _ none => .stuck
      | .exc x (some o') => .exc x (e.set j (l.put o'))
      | .exc _ none => .stuck
theorem sp_of {sem : SEnv → RC} {n : Nat} {vs : List V} {ds : List PyData} {Q : VK} (hl : vs.length = ds.length) (hn : vs.length = n) (r : Rel G F env (vs.zip ds ++ ps) po σ H)
    (h : MSat G W (match sem (ds.map .val) with
      | .stuck => .stuck
      | .ok d _ => .ok d env
      | .exc x _ => .exc x env) ps po σ Q) : spOf G.K G.cad n sem vs H Q (WE W σ) := by
  refine ⟨hn, F, none, ds.map .val, r.entry (r.zip hl), ?_⟩
  cases q : sem (ds.map .val) with
  | stuck => rw [q] at h; exact h
  | ok d o => rw [q] at h; exact fun v F' H' b hd => h v F' H' ((r.unzip.after b).push hd)
  | exc x o => rw [q] at h; exact fun F' H' dx fvs b h1 h2 h3 => h F' H' dx fvs (r.unzip.after b) h1 h2 h3
theorem sp_ofIo {sem : SEnv → RC} {n j : Nat} {vs : List V} {ds : List PyData} {Q : VK} {l : Sl} {o : O} {a : Addr} (hl : vs.length = ds.length) (hn : vs.length + 1 = n) (r : Rel G F env (vs.zip ds ++ ps) po σ H) (hj : env[j]? = some l) (ho : l.obj = some o) (ha : σ[j]? = some (some (.ref a)))
    (h : MSat G W (match sem (.io o :: ds.map .val) with
      | .stuck => .stuck
      | .ok d (some o') => .ok d (env.set j (l.put o'))
      | .ok _ none => .stuck
      | .exc x (some o') => .exc x (env.set j (l.put o'))
      | .exc _ none => .stuck) ps po σ Q) : spOf G.K G.cad n sem (.ref a :: vs) H Q (WE W σ) := by
  obtain ⟨a', ha', hF, hO⟩ := r.objAt hj ho
  rw [ha] at ha'
  obtain rfl : a = a' := by simpa using ha'
  refine ⟨by simp [hn], F, some (0, a), .io o :: ds.map .val, r.entryIo (r.zip hl) hF hO, ?_⟩
  cases q : sem (.io o :: ds.map .val) with
  | stuck => rw [q] at h; exact h
  | ok d o2 =>
    intro v F' H' b hd
    obtain ⟨o', e, r'⟩ := r.unzip.afterIo hj (by rw [ho]; rfl) ha b
    rw [q, e] at h
    exact h v F' H' (r'.push hd)
  | exc x o2 =>
    intro F' H' dx fvs b h1 h2 h3
    obtain ⟨o', e, r'⟩ := r.unzip.afterIo hj (by rw [ho]; rfl) ha b
    rw [q, e] at h
    exact h F' H' dx fvs r' h1 h2 h3
variable {k n : Nat} {f : Addr} {fd : FuncData} {pn : List Str} {sem : SEnv → RC} {x : Str} {p : Pos}
theorem me_call (FO : FnOk X.prog X.w X.K X.mg X.base (L2.CX X.prog X.w) k f fd pn (spOf G.K G.cad n sem)) (hr : Room k X.A) (tk : Takes X W) (hm : X.mg x = some (.ref f)) (hk : PySem.W.keepIn X.K (.ref f) = true) (hb : Binds X.K fd pn [])
    (ha : MA X G W (e :: es) ms) (hms : ms.length = n := by rfl) (hg : Gl X x := by rfl) (hdb : (x == ("__debug__" : Str)) = false := by decide) (he : starEach (e :: es) X.env = (false, eval e X.env) :: starEach es X.env := by rfl) (hpl : (backTo pos (starEach es X.env)).any (·.1) = false := by rfl) :
    ME X G W (.Call (.Name x p) (e :: es) [] pos) (mCall sem ms) := by
  refine (pe_callS FO hr hg hm hk hb (fun σ => passAt tk σ) ha hdb he hpl).imp fun σ H Q ⟨env, F, ps, po, r, q⟩ => tA_bind r .refl q fun vs ds env1 F1 H1 ⟨hl, hm⟩ r1 q1 => ?_
  exact sp_of hl (by rw [hl, hm, hms]) r1 q1
end
end Bk

set_option linter.all false
set_option maxRecDepth 100000
set_option maxHeartbeats 2000000
namespace Bk
open PySem PySem.Spec PyProof.Rows L2

/-! ### fields and dicts, as lists of pairs -/
def fput (f : Str) (v : PyData) : List (Str × PyData) → List (Str × PyData)
  | [] => [(f, v)]
  | (g, x) :: r => if g = f then (g, v) :: r else (g, x) :: fput f v r
def klook (kvs : List (Key × PyData)) (k : Key) : Option PyData := (kvs.find? fun kv => decide (kv.1 = k)).map (·.2)
def kput (kvs : List (Key × PyData)) (k : Key) (v : PyData) : List (Key × PyData) :=
  if (kvs.any fun kv => decide (kv.1 = k)) = true then kvs.map (fun kv => if kv.1 = k then (kv.1, v) else kv) else kvs ++ [(k, v)]
def keyOf : PyData → Option Key
  | .int i => some (.inl i)
  | .str x => some (.inr x)
  | _ => none
section
variable {K : PySem.W.Frag} {H : Hp}
theorem dpk_len {α : Type} {vs : List (α × V)} {ds : List (α × PyData)} (h : DpK K H vs ds) : vs.length = ds.length := Paired.length h
theorem lookup_dp {f : Str} {d : PyData} : ∀ {vs : List (Str × V)} {ds : List (Str × PyData)}, DpK K H vs ds → ds.lookup f = some d → ∃ v, vs.lookup f = some v ∧ Dp K H v d
  | _, _, .nil, e => by simp at e
  | (g, x) :: vs, (g', y) :: ds, .cons q t, e => by
    obtain ⟨q1, q2⟩ := q
    simp only at q1 q2
    subst q1
    by_cases h : f = g
    · subst h
      have e' : some y = some d := by simpa [List.lookup] using e
      cases e'
      exact ⟨x, by simp [List.lookup], q2⟩
    · have hb : (f == g) = false := by simpa using h
      simp only [List.lookup, hb] at e ⊢
      exact lookup_dp t e
theorem lookup_dpN {f : Str} : ∀ {vs : List (Str × V)} {ds : List (Str × PyData)}, DpK K H vs ds → ds.lookup f = none → vs.lookup f = none
  | _, _, .nil, e => rfl
  | (g, x) :: vs, (g', y) :: ds, .cons q t, e => by
    obtain ⟨q1, q2⟩ := q
    simp only at q1 q2
    subst q1
    by_cases h : f = g
    · subst h; simp [List.lookup] at e
    · have hb : (f == g) = false := by simpa using h
      simp only [List.lookup, hb] at e ⊢
      exact lookup_dpN t e
theorem fput_dp {f : Str} {v : V} {d : PyData} (h : Dp K H v d) : ∀ {vs : List (Str × V)} {ds : List (Str × PyData)}, DpK K H vs ds → DpK K H (putF f v vs) (fput f d ds)
  | _, _, .nil => .cons ⟨rfl, h⟩ .nil
  | (g, x) :: vs, (g', y) :: ds, .cons q t => by
    obtain ⟨q1, q2⟩ := q
    simp only at q1 q2
    subst q1
    unfold putF fput
    by_cases hg : g = f
    · rw [if_pos hg, if_pos hg]; exact .cons ⟨rfl, h⟩ t
    · rw [if_neg hg, if_neg hg]; exact .cons ⟨rfl, q2⟩ (fput_dp h t)
theorem klook_dp {k : Key} : ∀ {vs : List (Key × V)} {ds : List (Key × PyData)}, DpK K H vs ds → (∀ d, klook ds k = some d → ∃ v, valV vs k = some v ∧ Dp K H v d) ∧ (klook ds k = none → valV vs k = none)
  | _, _, .nil => ⟨fun d e => (by cases e), fun _ => rfl⟩
  | (g, x) :: vs, (g', y) :: ds, .cons q t => by
    obtain ⟨q1, q2⟩ := q
    simp only at q1 q2
    subst q1
    by_cases h : g = k
    · refine ⟨fun d e => ⟨x, valV_pos h, ?_⟩, fun e => ?_⟩
      · simp [klook, List.find?_cons, h] at e; subst e; exact q2
      · simp [klook, List.find?_cons, h] at e
    · obtain ⟨i1, i2⟩ := klook_dp (k := k) t
      have e1 : klook ((g, y) :: ds) k = klook ds k := by simp [klook, List.find?_cons, h]
      have e2 : valV ((g, x) :: vs) k = valV vs k := valV_neg h
      rw [e1, e2]
      exact ⟨i1, i2⟩
theorem any_dp {k : Key} : ∀ {vs : List (Key × V)} {ds : List (Key × PyData)}, DpK K H vs ds → (vs.any fun kv => decide (kv.1 = k)) = (ds.any fun kv => decide (kv.1 = k))
  | _, _, .nil => rfl
  | (g, x) :: vs, (g', y) :: ds, .cons q t => by
    obtain ⟨q1, q2⟩ := q
    simp only at q1 q2
    subst q1
    rw [List.any_cons, List.any_cons, any_dp t]
theorem kmap_dp {k : Key} {v : V} {d : PyData} (h : Dp K H v d) : ∀ {vs : List (Key × V)} {ds : List (Key × PyData)}, DpK K H vs ds →
    DpK K H (vs.map fun kv => if kv.1 = k then (kv.1, v) else kv) (ds.map fun kv => if kv.1 = k then (kv.1, d) else kv)
  | _, _, .nil => .nil
  | (g, x) :: vs, (g', y) :: ds, .cons q t => by
    obtain ⟨q1, q2⟩ := q
    simp only at q1 q2
    subst q1
    refine .cons ?_ (kmap_dp h t)
    by_cases hg : g = k
    · simp only [if_pos hg]; exact ⟨trivial, h⟩
    · simp only [if_neg hg]; exact ⟨trivial, q2⟩
theorem kapp_dp {k : Key} {v : V} {d : PyData} (h : Dp K H v d) : ∀ {vs : List (Key × V)} {ds : List (Key × PyData)}, DpK K H vs ds → DpK K H (vs ++ [(k, v)]) (ds ++ [(k, d)])
  | _, _, .nil => .cons ⟨rfl, h⟩ .nil
  | _ :: vs, _ :: ds, .cons q t => .cons q (kapp_dp h t)
theorem kput_dp {k : Key} {v : V} {d : PyData} (h : Dp K H v d) {vs : List (Key × V)} {ds : List (Key × PyData)} (r : DpK K H vs ds) : DpK K H (putK vs k v) (kput ds k d) := by
  unfold putK kput
  rw [any_dp r]
  split
  · exact kmap_dp h r
  · exact kapp_dp h r
theorem key_dp {v : V} {d : PyData} {k : Key} (h : Dp K H v d) (e : keyOf d = some k) : v = kV k := by
  cases h <;> cases e <;> rfl
end

section
variable {X : Cx} {G : Fm} {W : WX} {pos : Pos} {e : Expr} {es : List Expr} {m : SEnv → R PyData} {ms : List (SEnv → R PyData)}
variable {F H : Hp} {env : SEnv} {ps ps0 : PS0} {po po0 : PO0} {σ : L2.St}

/-! ### a field, an entry of a slot's object -/
def objOf (env : SEnv) (j : Nat) : Option O := match env[j]? with
  | some l => l.obj
  | none => none
theorem objOf_some {j : Nat} {o : O} (h : objOf env j = some o) : ∃ l, env[j]? = some l ∧ l.obj = some o := by
  unfold objOf at h
  split at h
  · exact ⟨_, by assumption, h⟩
  · cases h
def mFld (c j : Nat) (f : Str) : SEnv → R PyData := fun env => match objOf env j with
  | some (.ins c' fs) => if c' = c then (match fs.lookup f with
    | some d => .ok d env
    | none => .stuck) else .stuck
  | _ => .stuck
theorem me_fld {c j : Nat} {x f : Str} {p1 pos : Pos} (hc : Cls X.K (G.cad c)) (hn : NoAttr X.K (G.cad c) f) (hN : X.N[j]? = some x := by rfl) (hv : Vis X.env.scope x := by first | exact Or.inl rfl | exact Or.inr (Or.inl rfl) | exact Or.inr (Or.inr rfl)) (hd : (x == ("__debug__" : Str)) = false := by decide)
    (hcd : (x == ("__classdict__" : Str)) = false := by decide) (hb : attributeBase (.Name x p1) f X.env (eval (.Name x p1) X.env) = eval (.Name x p1) X.env := by rfl) : ME X G W (.Attribute (.Name x p1) f pos) (mFld c j f) := by
  refine (pe_fld (pe_var (i := j) hN hv hd hcd) hb).imp fun σ H Q ⟨env, F, ps, po, r, q⟩ => ?_
  unfold mFld at q
  split at q
  · rename_i c' fs ho
    obtain ⟨l, h1, h2⟩ := objOf_some ho
    obtain ⟨a, ha, hF, dx, fvs, hH, hD⟩ := r.objAt h1 h2
    split at q
    · rename_i hcc
      subst hcc
      split at q
      · rename_i d hl
        obtain ⟨v, g1, g2⟩ := lookup_dp hD hl
        exact ⟨_, ha, a, _, dx, fvs, v, rfl, hH, hc, hn, g1, q v F H (r.push g2)⟩
      · exact q.elim
    · exact q.elim
  · exact q.elim
def mDget (j : Nat) (m : SEnv → R PyData) : SEnv → R PyData := fun env => if (objOf env j).isSome then (m env).bind fun k e => match objOf e j with
  | some (.dct kvs) => (match keyOf k with
    | some k => (match klook kvs k with
      | some d => .ok d e
      | none => .stuck)
    | none => .stuck)
  | _ => .stuck
  else .stuck
theorem Rel.at {j : Nat} (r : Rel G F env ps po σ H) {o : O} (h : objOf env j = some o) : ∃ a, σ[j]? = some (some (.ref a)) ∧ F a = none ∧ OAt G.K G.cad F H a o := by
  obtain ⟨l, h1, h2⟩ := objOf_some h
  exact r.objAt h1 h2
theorem me_dget {j : Nat} {x : Str} {p1 pos : Pos} {i : Expr} (hu : X.A.units + 1 < cLine) (hi : ME X G W i m) (hs : NoSl i) (hN : X.N[j]? = some x := by rfl) (hv : Vis X.env.scope x := by first | exact Or.inl rfl | exact Or.inr (Or.inl rfl) | exact Or.inr (Or.inr rfl)) (hd : (x == ("__debug__" : Str)) = false := by decide)
    (hcd : (x == ("__classdict__" : Str)) = false := by decide) : ME X G W (.Subscript (.Name x p1) i pos) (mDget j m) := by
  refine (pe_dget hu (pe_var (i := j) hN hv hd hcd) hi hs).imp fun σ H Q ⟨env, F, ps, po, r, q⟩ => ?_
  unfold mDget at q
  split at q
  · rename_i hs
    obtain ⟨o, ho⟩ := Option.isSome_iff_exists.mp hs
    obtain ⟨a, ha, _, _⟩ := r.at ho
    refine ⟨_, ha, tM_bind r .refl q fun y d env1 F1 H1 r1 q1 => ?_⟩
    split at q1
    · rename_i kvs ho1
      obtain ⟨a', ha', _, xs, hH, hD⟩ := r1.at ho1
      rw [ha] at ha'
      obtain rfl : a = a' := by simpa using ha'
      split at q1
      · rename_i k hk
        split at q1
        · rename_i d2 hl
          obtain ⟨w, g1, g2⟩ := (klook_dp (k := k) hD).1 _ hl
          refine ⟨a, w, rfl, ?_, q1 w F1 H1 (r1.drop1.push g2)⟩
          have e : y = kV k := key_dp r1.top hk
          rw [e, ← g1]
          exact DGet.k hH
        · exact q1.elim
      · exact q1.elim
    · exact q1.elim
  · exact q.elim

/-! ### methods of a slot's object, instances made -/
/-- behind a call that changes the object at hand -/
theorem Rel.afterPo {F' H' : Hp} {o : Option O} {o0 : O} {k : Nat} {a : Addr} (r : Rel G F env ps ((a, o0) :: po) σ H) (b : Back G.K G.cad F H (some (k, a)) F' H' o) :
    ∃ o', o = some o' ∧ Rel G F' env ps ((a, o') :: po) σ H' := by
  obtain ⟨o', e, h1, h2⟩ := b.io k a rfl
  refine ⟨o', e, ?_⟩
  obtain ⟨y1, y2, y3⟩ := r.pobj _ List.mem_cons_self
  have nd := r.pdist
  rw [List.map_cons, List.nodup_cons] at nd
  have rest : ∀ c u, H c = some u → c ≠ a → H' c = some u := fun c u e n => b.rest c u e fun i z => n (by cases z; rfl)
  have keepO : ∀ {c u}, F c = none → OAt G.K G.cad F H c u → c ≠ a → F' c = none ∧ OAt G.K G.cad F' H' c u := fun {c u} hF hO hc => by
    obtain ⟨w, hw⟩ := hO.some
    refine ⟨?_, hO.mono b.ext (by rw [hw, rest c w hw hc])⟩
    cases q : F' c with
    | none => rfl
    | some z =>
      rcases b.new c z q with t | t
      · rw [hF] at t; cases t
      · rw [hw] at t; cases t
  have nsl := r.pslot _ List.mem_cons_self
  refine ⟨r.len, b.sub, fun j l h => ?_, r.dist, r.old.trans b.ext, fun c u e => ?_, fun c u e n => ?_, r.ios, fun p hp => dp_mono b.ext (r.pend p hp), fun p hp => ?_, r.pdist, fun p hp j l h ho => ?_⟩
  · obtain ⟨ov, g1, g2⟩ := r.slot j l h
    refine ⟨ov, g1, ?_⟩
    cases l with
    | un => trivial
    | val d => obtain ⟨v, x1, x2⟩ := g2; exact ⟨v, x1, dp_mono b.ext x2⟩
    | own u =>
      obtain ⟨c, x1, x2, x3, x4⟩ := g2
      obtain ⟨z1, z2⟩ := keepO x2 x4 fun z => nsl j _ h rfl (by rw [g1, x1, z])
      exact ⟨c, x1, z1, x3, z2⟩
    | io u =>
      obtain ⟨c, x1, x2, x3, x4⟩ := g2
      obtain ⟨z1, z2⟩ := keepO x2 x4 fun z => nsl j _ h rfl (by rw [g1, x1, z])
      exact ⟨c, x1, z1, x3, z2⟩
  · rcases b.new c u e with z | z
    · exact r.new c u z
    · exact .inr (r.h0 z)
  · have hc : c ≠ a := fun z => by subst z; rw [y2] at e; cases e
    exact rest c u (r.rest c u e n) hc
  · rcases List.mem_cons.mp hp with e | hp
    · rw [e]; exact ⟨h1, y2, h2⟩
    · obtain ⟨z1, z2, z3⟩ := r.pobj p (List.mem_cons_of_mem _ hp)
      obtain ⟨t1, t2⟩ := keepO z1 z3 fun z => nd.1 (List.mem_map.mpr ⟨p, hp, z⟩)
      exact ⟨t1, z2, t2⟩
  · rcases List.mem_cons.mp hp with e | hp
    · rw [e]; exact nsl j l h ho
    · exact r.pslot p (List.mem_cons_of_mem _ hp) j l h ho
variable {CX : CXT} {k n : Nat} {C f : Addr} {fd : FuncData} {pn : List Str} {sp : Sp} {E : L2.St → XK} {x mth : Str} {p apos : Pos} {o : Expr} {ta : TE} {t : TA} {sem : SEnv → RC}
def tMethS (C : Addr) (m : Str) (sp : Sp) (E : L2.St → XK) (ta : TE) (t : TA) : TE := fun σ H Q => ta σ H fun x H1 => ∃ a dx fs, x = .ref a ∧ H1 a = some (.ins C dx fs) ∧ fs.lookup m = none ∧
  t σ H1 fun vs H2 => sp (x :: vs) H2 Q (E σ)
theorem pe_methS {pl : Sem Bool} (he : PE X o ta) (c : Cls X.K C) (hm : Meth X.K C mth f) (FO : FnOk X.prog X.w X.K X.mg X.base CX k f fd pn sp) (hr : Room k X.A) (hb : Binds X.K fd pn []) (hx : ∀ σ, PassesAt CX X σ (E σ)) (ha : PA X (e :: es) t)
    (hst : starEach (e :: es) X.env = (false, eval e X.env) :: starEach es X.env := by rfl) (hpl : (backTo pos (starEach es X.env)).any (·.1) = false := by rfl)
    (ht : eval (.Call (.Attribute o mth apos) (e :: es) [] pos) X.env = (do
      let ov ← eval o X.env
      standAt apos.atName
      let (f, first) ← holding [ov] (getMethod ov mth pl)
      callWith pos f first (backTo pos (starEach (e :: es) X.env)) (backToKw pos (keywordEach [] X.env))) := by rfl) :
    PE X (.Call (.Attribute o mth apos) (e :: es) [] pos) (tMethS C mth sp E ta t) := by
  refine ⟨fun pins s σ H Q I h => ?_⟩
  refine PySem.W.methodCall_KW (pl := pl) (thn (he.run pins s σ H _ I h) fun u s1 ⟨x, H1, I1, rx, a, dx, fs, ex, ea, l, q⟩ => ?_) ht
  subst ex
  obtain rfl : u = Value.ref a := rx
  refine getmeth_ok I1 ea c hm l ?_
  refine PySem.W.callWith_K (first := [.ref a]) (h₀ := X.base) I.ok.mod.kin hm.kp (thn (ha.run pos pins s1 σ H1 _ I1 q) fun us s2 ⟨vs, H2, I2, r, q2⟩ => ⟨I2.kIn, ?_⟩) hst hpl
  exact run_fnS (us := .ref a :: us) (vs := .ref a :: vs) FO hr hb (hx σ) I2 (.cons rfl r) q2
theorem pe_methS0 {pl : Sem Bool} (he : PE X o ta) (c : Cls X.K C) (hm : Meth X.K C mth f) (FO : FnOk X.prog X.w X.K X.mg X.base CX k f fd pn sp) (hr : Room k X.A) (hb : Binds X.K fd pn []) (hx : ∀ σ, PassesAt CX X σ (E σ))
    (ht : eval (.Call (.Attribute o mth apos) [] [] pos) X.env = (do
      let ov ← eval o X.env
      standAt apos.atName
      let (f, first) ← holding [ov] (getMethod ov mth pl)
      callWith pos f first (backTo pos (starEach [] X.env)) (backToKw pos (keywordEach [] X.env))) := by rfl) :
    PE X (.Call (.Attribute o mth apos) [] [] pos) (tMethS C mth sp E ta tNil) := by
  refine ⟨fun pins s σ H Q I h => ?_⟩
  refine PySem.W.methodCall_KW (pl := pl) (thn (he.run pins s σ H _ I h) fun u s1 ⟨x, H1, I1, rx, a, dx, fs, ex, ea, l, q⟩ => ?_) ht
  subst ex
  obtain rfl : u = Value.ref a := rx
  refine getmeth_ok I1 ea c hm l ?_
  exact PySem.W.callWith_K0 (first := [.ref a]) I1.kIn hm.kp (run_fnS (us := [.ref a]) (vs := [.ref a]) FO hr hb (hx σ) I1 (.cons rfl .nil) q)
/-- o.m(..), o the object of slot j, of the class c -/
def mMeth (sem : SEnv → RC) (c : Nat) (mth : Str) (j : Nat) (ms : List (SEnv → R PyData)) : SEnv → R PyData := fun env => match objOf env j with
  | some (.ins c' fs) => if c' = c ∧ fs.lookup mth = none then mCallIo sem j ms env else .stuck
  | _ => .stuck
theorem meth_imp {c j : Nat} : ∀ σ H Q, tM G W (mMeth sem c mth j ms) σ H Q → ms.length + 1 = n → tMethS (G.cad c) mth (spOf G.K G.cad n sem) (WE W) (tVar j) (tA G W ms) σ H Q := fun σ H Q ⟨env, F, ps, po, r, q⟩ hn => by
  unfold mMeth at q
  split at q
  · rename_i c' fs ho
    split at q
    · rename_i hcc
      obtain ⟨rfl, hl⟩ := hcc
      obtain ⟨a, ha, _, dx, fvs, hH, hD⟩ := r.at ho
      refine ⟨_, ha, a, dx, fvs, rfl, hH, lookup_dpN hD hl, ?_⟩
      refine tA_bind r .refl q fun vs ds env1 F1 H1 ⟨h1, h2⟩ r1 q1 => ?_
      split at q1
      · exact q1.elim
      · rename_i l hl1
        split at q1
        · exact q1.elim
        · rename_i o1 ho1
          exact sp_ofIo h1 (by rw [h1, h2]; exact hn) r1 hl1 ho1 ha q1
    · exact q.elim
  · exact q.elim
theorem tA_nil : ∀ σ H Q, tA G W [] σ H Q → tNil σ H Q := fun σ H Q ⟨env, F, ps, po, r, q⟩ => q [] F H rfl r
theorem me_meth {c j : Nat} {y : Str} {p1 : Pos} {pl : Sem Bool} (FO : FnOk X.prog X.w X.K X.mg X.base (L2.CX X.prog X.w) k f fd pn (spOf G.K G.cad n sem)) (cl : Cls X.K (G.cad c)) (hm : Meth X.K (G.cad c) mth f) (hr : Room k X.A) (tk : Takes X W) (hb : Binds X.K fd pn [])
    (ha : MA X G W (e :: es) ms) (hms : ms.length + 1 = n := by rfl) (hN : X.N[j]? = some y := by rfl) (hv : Vis X.env.scope y := by first | exact Or.inl rfl | exact Or.inr (Or.inl rfl) | exact Or.inr (Or.inr rfl)) (hd : (y == ("__debug__" : Str)) = false := by decide)
    (hcd : (y == ("__classdict__" : Str)) = false := by decide)
    (hst : starEach (e :: es) X.env = (false, eval e X.env) :: starEach es X.env := by rfl) (hpl : (backTo pos (starEach es X.env)).any (·.1) = false := by rfl)
    (ht : eval (.Call (.Attribute (.Name y p1) mth apos) (e :: es) [] pos) X.env = (do
      let ov ← eval (.Name y p1) X.env
      standAt apos.atName
      let (f, first) ← holding [ov] (getMethod ov mth pl)
      callWith pos f first (backTo pos (starEach (e :: es) X.env)) (backToKw pos (keywordEach [] X.env))) := by rfl) :
    ME X G W (.Call (.Attribute (.Name y p1) mth apos) (e :: es) [] pos) (mMeth sem c mth j ms) :=
  (pe_methS (pl := pl) (pe_var (i := j) hN hv hd hcd) cl hm FO hr hb (fun σ => passAt tk σ) ha hst hpl ht).imp fun σ H Q q => meth_imp σ H Q q hms
theorem me_meth0 {c j : Nat} {y : Str} {p1 : Pos} {pl : Sem Bool} (FO : FnOk X.prog X.w X.K X.mg X.base (L2.CX X.prog X.w) k f fd pn (spOf G.K G.cad n sem)) (cl : Cls X.K (G.cad c)) (hm : Meth X.K (G.cad c) mth f) (hr : Room k X.A) (tk : Takes X W) (hb : Binds X.K fd pn [])
    (hn : 1 = n := by rfl) (hN : X.N[j]? = some y := by rfl) (hv : Vis X.env.scope y := by first | exact Or.inl rfl | exact Or.inr (Or.inl rfl) | exact Or.inr (Or.inr rfl)) (hd : (y == ("__debug__" : Str)) = false := by decide)
    (hcd : (y == ("__classdict__" : Str)) = false := by decide)
    (ht : eval (.Call (.Attribute (.Name y p1) mth apos) [] [] pos) X.env = (do
      let ov ← eval (.Name y p1) X.env
      standAt apos.atName
      let (f, first) ← holding [ov] (getMethod ov mth pl)
      callWith pos f first (backTo pos (starEach [] X.env)) (backToKw pos (keywordEach [] X.env))) := by rfl) :
    ME X G W (.Call (.Attribute (.Name y p1) mth apos) [] [] pos) (mMeth sem c mth j []) :=
  (pe_methS0 (pl := pl) (pe_var (i := j) hN hv hd hcd) cl hm FO hr hb (fun σ => passAt tk σ) ht).imp fun σ H Q q => by
    obtain ⟨v, h1, a, dx, fs, h2, h3, h4, h5⟩ := meth_imp (n := n) σ H Q q (by rw [← hn]; rfl)
    exact ⟨v, h1, a, dx, fs, h2, h3, h4, tA_nil σ _ _ h5⟩
/-- f(o, ..), o the object of slot j -/
def mCallS (sem : SEnv → RC) (j : Nat) (ms : List (SEnv → R PyData)) : SEnv → R PyData := fun env => if (objOf env j).isSome then mCallIo sem j ms env else .stuck
theorem me_callIo {j : Nat} {y : Str} {p1 : Pos} (FO : FnOk X.prog X.w X.K X.mg X.base (L2.CX X.prog X.w) k f fd pn (spOf G.K G.cad n sem)) (hr : Room k X.A) (tk : Takes X W) (hm : X.mg x = some (.ref f)) (hk : PySem.W.keepIn X.K (.ref f) = true) (hb : Binds X.K fd pn [])
    (ha : MA X G W es ms) (hms : ms.length + 1 = n := by rfl) (hN : X.N[j]? = some y := by rfl) (hv : Vis X.env.scope y := by first | exact Or.inl rfl | exact Or.inr (Or.inl rfl) | exact Or.inr (Or.inr rfl)) (hd : (y == ("__debug__" : Str)) = false := by decide)
    (hcd : (y == ("__classdict__" : Str)) = false := by decide) (hg : Gl X x := by rfl) (hdb : (x == ("__debug__" : Str)) = false := by decide) (he : starEach (.Name y p1 :: es) X.env = (false, eval (.Name y p1) X.env) :: starEach es X.env := by rfl) (hpl : (backTo pos (starEach es X.env)).any (·.1) = false := by rfl) :
    ME X G W (.Call (.Name x p) (.Name y p1 :: es) [] pos) (mCallS sem j ms) := by
  refine (pe_callS FO hr hg hm hk hb (fun σ => passAt tk σ) (pa_cons (pe_var (i := j) hN hv hd hcd) ha he) hdb he hpl).imp fun σ H Q ⟨env, F, ps, po, r, q⟩ => ?_
  unfold mCallS at q
  split at q
  · rename_i hs
    obtain ⟨o, ho⟩ := Option.isSome_iff_exists.mp hs
    obtain ⟨a, ha, _, _⟩ := r.at ho
    refine ⟨_, ha, tA_bind r .refl q fun vs ds env1 F1 H1 ⟨h1, h2⟩ r1 q1 => ?_⟩
    split at q1
    · exact q1.elim
    · rename_i l hl1
      split at q1
      · exact q1.elim
      · rename_i o1 ho1
        exact sp_ofIo h1 (by rw [h1, h2]; exact hms) r1 hl1 ho1 ha q1
  · exact q.elim
/-- C(..) -/
def mMake (c : Nat) (sem : SEnv → RC) (ms : List (SEnv → R PyData)) : SEnv → R O := fun env => (mList ms env).bind fun ds e =>
  match sem (.io (.ins c []) :: ds.map .val) with
  | .ok .none (some o) => .ok o e
  | _ => .stuck
theorem mf_make {c : Nat} (M : Mk X.K (G.cad c) f) (FO : FnOk X.prog X.w X.K X.mg X.base (L2.CX X.prog X.w) k f fd pn (spOf G.K G.cad n sem)) (hr : Room (k + 1) X.A) (hm : X.mg x = some (.ref (G.cad c))) (hb : Binds X.K fd pn [])
    (ha : MA X G W (e :: es) ms) (hms : ms.length + 1 = n := by rfl) (hg : Gl X x := by rfl) (hdb : (x == ("__debug__" : Str)) = false := by decide) (he : starEach (e :: es) X.env = (false, eval e X.env) :: starEach es X.env := by rfl) (hpl : (backTo pos (starEach es X.env)).any (·.1) = false := by rfl) :
    MF X G W (.Call (.Name x p) (e :: es) [] pos) (mMake c sem ms) := by
  refine (pe_make (dvs := []) M FO hr hg hm hb .nil passL ha hdb he hpl).imp fun σ H Q ⟨env, F, ps, po, r, q⟩ => tA_bindO r .refl q fun vs ds env1 F1 H1 ⟨h1, h2⟩ r1 q1 => ?_
  intro a dx na nd ne
  rw [List.append_nil]
  have g : Rel G F1 env1 ps po σ (upd H1 dx (.own a)) := r1.unzip.grow (Same.upd_new nd)
  have na2 : (upd H1 dx (.own a)) a = none := by rw [upd_ne (Ne.symm ne)]; exact na
  have g2 : Rel G F1 env1 ps ((a, .ins c []) :: po) σ (upd (upd H1 dx (.own a)) a (.ins (G.cad c) dx [])) := g.pushO na2 ⟨dx, [], upd_same, .nil⟩
  have g3 : Rel G F1 env1 (vs.zip ds ++ ps) po σ (upd (upd H1 dx (.own a)) a (.ins (G.cad c) dx [])) := (r1.grow (Same.upd_new nd)).grow (Same.upd_new na2)
  obtain ⟨y1, y2, y3⟩ := g2.pobj _ List.mem_cons_self
  refine ⟨by simp [h1, h2, hms], F1, some (0, a), .io (.ins c []) :: ds.map .val, g3.entryIo (g3.zip h1) y1 y3, ?_⟩
  cases z : sem (.io (.ins c []) :: ds.map .val) with
  | stuck => rw [z] at q1; exact q1.elim
  | exc x o => rw [z] at q1; exact q1.elim
  | ok d o =>
    rw [z] at q1
    intro v F' H' b hd
    obtain ⟨o', e', r'⟩ := g2.afterPo b
    subst e'
    cases d with
    | none => exact ⟨dp_none hd, q1 a F' H' r'⟩
    | _ => exact q1.elim
end
end Bk

set_option linter.all false
set_option maxRecDepth 100000
set_option maxHeartbeats 2000000
namespace Bk
open PySem PySem.Spec PyProof.Rows L2

/-! ### what is walked -/
structure Iter (G : Fm) (J : It) (qs : PS0) (ds : List PyData) : Prop where
  goes : ∀ i F env ps po σ H, i < ds.length → Rel G F env ps po σ H → (∀ q ∈ qs, q ∈ ps) → J.go i H
  stops : ∀ F env ps po σ H, Rel G F env ps po σ H → (∀ q ∈ qs, q ∈ ps) → J.stop ds.length H
  yields : ∀ i F env ps po σ H x H', i < ds.length → Rel G F env ps po σ H → (∀ q ∈ qs, q ∈ ps) → J.yld i H x H' → ∃ F2 d, ds[i]? = some d ∧ Rel G F2 env ((x, d) :: ps) po σ H'
def ISat (G : Fm) (W : WX) (r : R (List PyData)) (ps : PS0) (po : PO0) (σ : L2.St) (Q : It → Hp → Prop) : Prop :=
  match r with
  | .stuck => False
  | .ok ds env => ∀ J qs F' H', Rel G F' env (qs ++ ps) po σ H' → Iter G J qs ds → Q J H'
  | .exc x env => XWant G W x env ps po σ
def tI (G : Fm) (W : WX) (m : SEnv → R (List PyData)) : TI := fun σ H Q => ∃ env F ps po, Rel G F env ps po σ H ∧ ISat G W (m env) ps po σ Q
abbrev MI (X : Cx) (G : Fm) (W : WX) (tg e : Expr) (m : SEnv → R (List PyData)) : Prop := PI X tg e (tI G W m)
def signs (x : Str) : List PyData := x.cps.toList.map fun c => .str ⟨#[c]⟩
def mIter (m : SEnv → R PyData) : SEnv → R (List PyData) := fun env => (m env).bind fun d e => match d with
  | .list ds => .ok ds e
  | .tuple ds => .ok ds e
  | .str x => .ok (signs x) e
  | _ => .stuck
def intsD (lo : Int) (n : Nat) : List PyData := (List.range n).map fun (i : Nat) => .int (lo + (i : Int))

section
variable {X : Cx} {G : Fm} {W : WX} {pos : Pos} {e tg : Expr} {es : List Expr} {m : SEnv → R PyData} {ms : List (SEnv → R PyData)}
variable {F H : Hp} {env : SEnv} {ps ps0 : PS0} {po po0 : PO0} {σ : L2.St}
theorem PI.or {tg e : Expr} {wi wi' : TI} (h : PI X tg e wi) (h' : PI X tg e wi') : PI X tg e (fun σ H R => wi σ H R ∨ wi' σ H R) := ⟨fun pins s σ H R I q => by
  rcases q with q | q
  · exact h.run pins s σ H R I q
  · exact h'.run pins s σ H R I q⟩
theorem iter_list {a : Addr} {ds : List PyData} : Iter G (Itl G.K a) [(.ref a, .list ds)] ds where
  goes := fun i F env ps po σ H hi r hq => by
    obtain ⟨a', xs, e, s1, d1⟩ := dp_lst (r.pend _ (hq _ List.mem_cons_self))
    obtain rfl : a = a' := by simpa using e
    have hi' : i < xs.length := by rw [dpAll_len d1]; exact hi
    exact ⟨xs, xs[i], SqL.mono r.sub s1, by simp [hi']⟩
  stops := fun F env ps po σ H r hq => by
    obtain ⟨a', xs, e, s1, d1⟩ := dp_lst (r.pend _ (hq _ List.mem_cons_self))
    obtain rfl : a = a' := by simpa using e
    exact ⟨xs, SqL.mono r.sub s1, Nat.le_of_eq (dpAll_len d1)⟩
  yields := fun i F env ps po σ H x H' hi r hq y => by
    obtain ⟨a', xs, e, s1, d1⟩ := dp_lst (r.pend _ (hq _ List.mem_cons_self))
    obtain rfl : a = a' := by simpa using e
    obtain ⟨rfl, y⟩ := y
    obtain ⟨d, h1, h2⟩ := dpAll_getV d1 (y xs (SqL.mono r.sub s1))
    exact ⟨F, d, h1, r.push h2⟩
theorem iter_tup {a : Addr} {ds : List PyData} : Iter G (Itt G.K a) [(.ref a, .tuple ds)] ds where
  goes := fun i F env ps po σ H hi r hq => by
    obtain ⟨a', xs, e, s1, d1⟩ := dp_tup (r.pend _ (hq _ List.mem_cons_self))
    obtain rfl : a = a' := by simpa using e
    have hi' : i < xs.length := by rw [dpAll_len d1]; exact hi
    exact ⟨xs, xs[i], SqT.mono r.sub s1, by simp [hi']⟩
  stops := fun F env ps po σ H r hq => by
    obtain ⟨a', xs, e, s1, d1⟩ := dp_tup (r.pend _ (hq _ List.mem_cons_self))
    obtain rfl : a = a' := by simpa using e
    exact ⟨xs, SqT.mono r.sub s1, Nat.le_of_eq (dpAll_len d1)⟩
  yields := fun i F env ps po σ H x H' hi r hq y => by
    obtain ⟨a', xs, e, s1, d1⟩ := dp_tup (r.pend _ (hq _ List.mem_cons_self))
    obtain rfl : a = a' := by simpa using e
    obtain ⟨rfl, y⟩ := y
    obtain ⟨d, h1, h2⟩ := dpAll_getV d1 (y xs (SqT.mono r.sub s1))
    exact ⟨F, d, h1, r.push h2⟩
theorem iter_str {z : Str} : Iter G (Its z) [] (signs z) where
  goes := fun i F env ps po σ H hi r hq => by
    have : i < z.cps.size := by simpa [signs] using hi
    exact this
  stops := fun F env ps po σ H r hq => by
    show z.cps.size ≤ _
    simp [signs]
  yields := fun i F env ps po σ H x H' hi r hq y => by
    obtain ⟨rfl, c, h1, rfl⟩ := y
    refine ⟨F, .str ⟨#[c]⟩, ?_, r.push (.str _)⟩
    simp [signs, h1]
theorem iter_rng {lo : Int} {n : Nat} : Iter G (Itr lo n) [] (intsD lo n) where
  goes := fun i F env ps po σ H hi r hq => by
    have : i < n := by simpa [intsD] using hi
    exact this
  stops := fun F env ps po σ H r hq => by
    show n ≤ _
    simp [intsD]
  yields := fun i F env ps po σ H x H' hi r hq y => by
    obtain ⟨rfl, rfl⟩ := y
    have hi' : i < n := by simpa [intsD] using hi
    refine ⟨F, .int (lo + i), ?_, r.push (.int _)⟩
    simp [intsD, hi']
theorem tM_iter {Q : It → Hp → Prop} {Q' : VK} {f : PyData → SEnv → R (List PyData)} (r : Rel G F env ps po σ H) (q : ISat G W ((m env).bind f) ps po σ Q)
    (k : ∀ v d env' F' H', Rel G F' env' ((v, d) :: ps) po σ H' → ISat G W (f d env') ps po σ Q → m env = .ok d env' → Q' v H') : tM G W m σ H Q' := by
  refine ⟨env, F, ps, po, r, ?_⟩
  cases h : m env with
  | stuck => rw [h] at q; exact q.elim
  | exc x env' => rw [h] at q; exact q
  | ok d env' => rw [h] at q; exact fun v F' H' r' => k v d env' F' H' r' q h
theorem mi_iter (h : ME X G W e m) (hK : X.K = G.K := by rfl) : MI X G W tg e (mIter m) := by
  refine (PI.or (pi_list h) (PI.or (pi_tup h) (pi_str h))).imp fun σ H Q ⟨env, F, ps, po, r, q⟩ => ?_
  have q : ISat G W ((m env).bind fun d e => match d with
    | .list ds => .ok ds e
    | .tuple ds => .ok ds e
    | .str x => .ok (signs x) e
    | _ => .stuck) ps po σ Q := q
  rw [hK]
  cases hm : m env with
  | stuck => rw [hm] at q; exact q.elim
  | exc x env' =>
    refine .inl ⟨env, F, ps, po, r, ?_⟩
    rw [hm] at q ⊢
    exact q
  | ok d env' =>
    cases d with
    | list ds =>
      refine .inl (tM_iter r q fun v d2 env2 F' H' r' q' e => ?_)
      rw [hm] at e
      cases e
      obtain ⟨a, xs, rfl, s1, d1⟩ := dp_lst r'.top
      exact ⟨a, rfl, ⟨xs, SqL.mono r'.sub s1⟩, q' _ [(.ref a, .list ds)] F' H' r' iter_list⟩
    | tuple ds =>
      refine .inr (.inl (tM_iter r q fun v d2 env2 F' H' r' q' e => ?_))
      rw [hm] at e
      cases e
      obtain ⟨a, xs, rfl, s1, d1⟩ := dp_tup r'.top
      exact ⟨a, rfl, ⟨xs, SqT.mono r'.sub s1⟩, q' _ [(.ref a, .tuple ds)] F' H' r' iter_tup⟩
    | str x =>
      refine .inr (.inr (tM_iter r q fun v d2 env2 F' H' r' q' e => ?_))
      rw [hm] at e
      cases e
      exact ⟨x, dp_str r'.top, q' _ [] F' H' r'.drop1 iter_str⟩
    | _ => rw [hm] at q; exact q.elim
def small62 (i : Int) : Bool := decide (-(2 ^ 62) ≤ i) && decide (i < 2 ^ 62)
def mRange1 (m : SEnv → R PyData) : SEnv → R (List PyData) := fun env => (m env).bind fun d e => match d with
  | .int j => if small62 j then .ok (intsD 0 j.toNat) e else .stuck
  | _ => .stuck
def mRange2 (m n : SEnv → R PyData) : SEnv → R (List PyData) := fun env => (m env).bind fun d e => (n e).bind fun d2 e2 => match d, d2 with
  | .int i, .int j => if small62 i && small62 j then .ok (intsD i (j - i).toNat) e2 else .stuck
  | _, _ => .stuck
theorem tA_iter {Q : It → Hp → Prop} {Q' : List V → Hp → Prop} {f : List PyData → SEnv → R (List PyData)} (r : Rel G F env ps po σ H) (q : ISat G W ((mList ms env).bind f) ps po σ Q)
    (k : ∀ vs ds env' F' H', vs.length = ds.length → Rel G F' env' (vs.zip ds ++ ps) po σ H' → ISat G W (f ds env') ps po σ Q → Q' vs H') : tA G W ms σ H Q' := by
  refine ⟨env, F, ps, po, r, ?_⟩
  cases h : mList ms env with
  | stuck => rw [h] at q; exact q.elim
  | exc x env' => rw [h] at q; exact q
  | ok ds env' => rw [h] at q; exact fun vs F' H' hl r' => k vs ds env' F' H' hl r' q
theorem mi_range1 {a : Expr} {p pos : Pos} (hm : X.mg "range" = none) (ha : ME X G W a m) (hg : Gl X "range" := by rfl) (hs : starEach [a] X.env = [(false, eval a X.env)] := by rfl) (hs2 : starEach (a :: []) X.env = (false, eval a X.env) :: starEach [] X.env := by rfl) : MI X G W tg (.Call (.Name "range" p) [a] [] pos) (mRange1 m) := by
  refine (pi_range1 hg hm (ma_cons ha ma_nil hs2) hs).imp fun σ H Q ⟨env, F, ps, po, r, q⟩ => ?_
  have e : mRange1 m env = (mList [m] env).bind fun ds e => match ds with
      | [.int j] => if small62 j then .ok (intsD 0 j.toNat) e else .stuck
      | _ => .stuck := by
    show ((m env).bind _) = (((m env).bind fun d e => (mList [] e).bind fun ds e2 => .ok (d :: ds) e2).bind _)
    cases m env with
    | stuck => rfl
    | exc x e => rfl
    | ok d e => cases d <;> rfl
  rw [e] at q
  refine tA_iter r q fun vs ds env1 F1 H1 hl r1 q1 => ?_
  split at q1
  · rename_i j
    split at q1
    · rename_i hc
      simp only [small62, Bool.and_eq_true, decide_eq_true_eq] at hc
      have dd := r1.zip hl
      cases dd with
      | cons h1 h2 =>
        cases h2
        cases h1
        exact ⟨j, rfl, hc.1, hc.2, q1 _ [] F1 H1 r1.unzip iter_rng⟩
    · exact q1.elim
  · exact q1.elim
theorem mi_range2 {a b : Expr} {n : SEnv → R PyData} {p pos : Pos} (hm : X.mg "range" = none) (ha : ME X G W a m) (hb : ME X G W b n) (hg : Gl X "range" := by rfl) (hs : starEach [a, b] X.env = [(false, eval a X.env), (false, eval b X.env)] := by rfl) (hs2 : starEach [b] X.env = [(false, eval b X.env)] := by rfl)
    (hs3 : starEach (a :: [b]) X.env = (false, eval a X.env) :: starEach [b] X.env := by rfl) (hs4 : starEach (b :: []) X.env = (false, eval b X.env) :: starEach [] X.env := by rfl) : MI X G W tg (.Call (.Name "range" p) [a, b] [] pos) (mRange2 m n) := by
  refine (pi_range2 hg hm (ma_cons ha (ma_cons hb ma_nil hs4) hs3) hs hs2).imp fun σ H Q ⟨env, F, ps, po, r, q⟩ => ?_
  have e : mRange2 m n env = (mList [m, n] env).bind fun ds e => match ds with
      | [.int i, .int j] => if small62 i && small62 j then .ok (intsD i (j - i).toNat) e else .stuck
      | _ => .stuck := by
    show ((m env).bind _) = (((m env).bind fun d e => ((n e).bind fun d2 e2 => (mList [] e2).bind fun ds e3 => .ok (d2 :: ds) e3).bind fun ds e2 => .ok (d :: ds) e2).bind _)
    cases m env with
    | stuck => rfl
    | exc x e => rfl
    | ok d e =>
      show ((n e).bind _) = _
      rw [R.bind_ok]
      cases n e with
      | stuck => rfl
      | exc x e2 => rfl
      | ok d2 e2 => cases d <;> cases d2 <;> rfl
  rw [e] at q
  refine tA_iter r q fun vs ds env1 F1 H1 hl r1 q1 => ?_
  split at q1
  · rename_i i j
    split at q1
    · rename_i hc
      simp only [small62, Bool.and_eq_true, decide_eq_true_eq] at hc
      have dd := r1.zip hl
      cases dd with
      | cons h1 h2 =>
        cases h1
        cases h2 with
        | cons h1 h2 =>
          cases h1
          cases h2
          exact ⟨i, j, rfl, ⟨hc.1.1, hc.1.2, hc.2.1, hc.2.2⟩, q1 _ [] F1 H1 r1.unzip iter_rng⟩
    · exact q1.elim
  · exact q1.elim

/-! ### targets -/
/-- the slots but those of tv are as they were -/
def SameSl (tv : List Nat) (σ σ' : L2.St) : Prop := σ'.length = σ.length ∧ ∀ j, j ∉ tv → σ'[j]? = σ[j]?
def tG (G : Fm) (tv : List Nat) (f : PyData → SEnv → Option SEnv) : TG := fun v σ H Q => ∃ env F ps po d, Rel G F env ((v, d) :: ps) po σ H ∧ match f d env with
  | none => False
  | some env' => ∀ F' σ' H', SameSl tv σ σ' → Rel G F' env' ps po σ' H' → Q σ' H'
abbrev MG (X : Cx) (G : Fm) (e : Expr) (tv : List Nat) (f : PyData → SEnv → Option SEnv) : Prop := PG X e (tG G tv f)
theorem _root_.L2.PG.imp {X : Cx} {e : Expr} {t t' : TG} (h : PG X e t) (i : ∀ v σ H Q, t' v σ H Q → t v σ H Q) : PG X e t' := ⟨fun pins s σ H v u Q I r q => h.run pins s σ H v u Q I r (i v σ H Q q)⟩
theorem _root_.L2.PGs.imp {X : Cx} {e : List Expr} {t t' : TGs} (h : PGs X e t) (i : ∀ v σ H Q, t' v σ H Q → t v σ H Q) : PGs X e t' := ⟨fun pins s σ H v u Q I r q => h.run pins s σ H v u Q I r (i v σ H Q q)⟩
def fName (i : Nat) : PyData → SEnv → Option SEnv := fun d env => match env[i]? with
  | some l => if l.isIo then none else some (env.set i (.val d))
  | none => none
theorem fName_s {i : Nat} {v : V} {d : PyData} {env' : SEnv} (r : Rel G F env ((v, d) :: ps) po σ H) (h : fName i d env = some env') : Rel G F env' ps po (σ.set i (some v)) H := by
  unfold fName at h
  split at h
  · split at h
    · cases h
    · rename_i hl hio
      cases h
      exact r.setVal hl (by simpa using hio)
  · cases h
theorem mg_name (i : Nat) {x : Str} {pos : Pos} (hN : X.N.Nodup) (hi : X.N[i]? = some x := by rfl) (hx : Loc X.env.scope x := by first | exact Or.inl rfl | exact Or.inr rfl) (hf : X.fn x = true ∨ X.env.scope.names.lookup x = some .local := by first | exact .inl rfl | exact .inr rfl) : MG X G (.Name x pos) [i] (fName i) :=
  (pg_name hN hi hx hf).imp fun v σ H Q ⟨env, F, ps, po, d, r, q⟩ => by
    cases h : fName i d env with
    | none => rw [h] at q; exact q.elim
    | some env' =>
      rw [h] at q
      exact q F _ H ⟨by simp, fun j hj => List.getElem?_set_ne (by intro e; subst e; simp at hj)⟩ (fName_s r h)
/-- several targets -/
def gFold : List (PyData → SEnv → Option SEnv) → List PyData → SEnv → Option SEnv
  | [], [], env => some env
  | f :: fs, d :: ds, env => (f d env).bind fun e => gFold fs ds e
  | _, _, _ => none
def tGs (G : Fm) (tv : List Nat) (fs : List (PyData → SEnv → Option SEnv)) : TGs := fun vs σ H Q => ∃ env F ps po ds, vs.length = ds.length ∧ Rel G F env (vs.zip ds ++ ps) po σ H ∧ ds.length = fs.length ∧
  match gFold fs ds env with
  | none => False
  | some env' => ∀ F' σ' H', SameSl tv σ σ' → Rel G F' env' ps po σ' H' → Q σ' H'
theorem SameSl.trans {tv : List Nat} {σ σ' σ'' : L2.St} (a : SameSl tv σ σ') (b : SameSl tv σ' σ'') : SameSl tv σ σ'' := ⟨b.1.trans a.1, fun j hj => (b.2 j hj).trans (a.2 j hj)⟩
theorem SameSl.mono {tv tw : List Nat} {σ σ' : L2.St} (a : SameSl tv σ σ') (h : ∀ j ∈ tv, j ∈ tw) : SameSl tw σ σ' := ⟨a.1, fun j hj => a.2 j fun z => hj (h j z)⟩
theorem SameSl.refl {tv : List Nat} (σ : L2.St) : SameSl tv σ σ := ⟨rfl, fun _ _ => rfl⟩
theorem mgs_nil : PGs X [] (tGs G [] []) := pgs_nil.imp fun vs σ H Q ⟨env, F, ps, po, ds, hl, r, hf, q⟩ => by
  cases ds with
  | nil =>
    cases vs with
    | nil => exact ⟨rfl, q F σ H (.refl σ) r⟩
    | cons _ _ => simp at hl
  | cons _ _ => simp at hf
theorem mgs_cons {e : Expr} {es : List Expr} {tv tw : List Nat} {f : PyData → SEnv → Option SEnv} {fs : List (PyData → SEnv → Option SEnv)} (h1 : MG X G e tv f) (h2 : PGs X es (tGs G tw fs))
    (hs : (assignEach (e :: es) X.env).map (·.2) = assign e X.env :: (assignEach es X.env).map (·.2) := by rfl) : PGs X (e :: es) (tGs G (tv ++ tw) (f :: fs)) := by
  refine (pgs_cons h1 h2 hs).imp fun vs σ H Q ⟨env, F, ps, po, ds, hl, r, hf, q⟩ => ?_
  cases ds with
  | nil => simp at hf
  | cons d ds =>
    cases vs with
    | nil => simp at hl
    | cons v vs =>
      refine ⟨v, vs, rfl, env, F, vs.zip ds ++ ps, po, d, r, ?_⟩
      have q : match (f d env).bind fun e => gFold fs ds e with
        | none => False
        | some env' => ∀ F' σ' H', SameSl (tv ++ tw) σ σ' → Rel G F' env' ps po σ' H' → Q σ' H' := q
      cases h : f d env with
      | none => rw [h] at q; exact q.elim
      | some env1 =>
        rw [h] at q
        intro F1 σ1 H1 s1 r1
        refine ⟨env1, F1, ps, po, ds, by simpa using hl, r1, by simpa using hf, ?_⟩
        have q : match gFold fs ds env1 with
          | none => False
          | some env' => ∀ F' σ' H', SameSl (tv ++ tw) σ σ' → Rel G F' env' ps po σ' H' → Q σ' H' := q
        split at q
        · exact q.elim
        · rename_i env2 he
          exact fun F2 σ2 H2 s2 r2 => q F2 σ2 H2 ((s1.mono fun j hj => List.mem_append_left _ hj).trans (s2.mono fun j hj => List.mem_append_right _ hj)) r2
def fTup (fs : List (PyData → SEnv → Option SEnv)) : PyData → SEnv → Option SEnv := fun d env => match d with
  | .tuple ds => if ds.length = fs.length then gFold fs ds env else none
  | _ => none
theorem mg_tup {es : List Expr} {kk n : Nat} {tv : List Nat} {fs : List (PyData → SEnv → Option SEnv)} (hc : X.calm = true) (h : PGs X es (tGs G tv fs)) (hfs : fs.length = n := by rfl)
    (hn : (assignEach es X.env).length = n := by rfl) (hst : (assignEach es X.env).findIdx? (·.1) = none := by rfl) (hK : X.K = G.K := by rfl) : MG X G (.Tuple es kk pos) tv (fTup fs) := by
  refine (pg_tup hc h hn hst).imp fun v σ H Q ⟨env, F, ps, po, d, r, q⟩ => ?_
  unfold fTup at q
  split at q
  · exact q.elim
  · rename_i env2 hq
    split at hq
    · rename_i ds
      split at hq
      · rename_i hl
        obtain ⟨a, xs, rfl, s1, d1⟩ := dp_tup r.top
        refine ⟨a, xs, rfl, by rw [hK]; exact SqT.mono r.sub s1, by rw [dpAll_len d1, hl, hfs], env, F, ps, po, ds, dpAll_len d1, ?_, hl, by rw [hq]; exact q⟩
        -- the items are values at hand
        have : ∀ (vs : List V) (ds : List PyData), DpAll G.K F vs ds → ∀ p ∈ vs.zip ds, Dp G.K F p.1 p.2 := by
          intro vs
          induction vs with
          | nil => intro ds h p hp; simp at hp
          | cons v vs ih =>
            intro ds h p hp
            cases h with
            | cons h1 h2 =>
              rw [List.zip_cons_cons] at hp
              rcases List.mem_cons.mp hp with e | hp
              · rw [e]; exact h1
              · exact ih _ h2 p hp
        have r0 := r.drop1
        exact ⟨r0.len, r0.sub, r0.slot, r0.dist, r0.old, r0.new, r0.rest, r0.ios, fun p hp => (List.mem_append.mp hp).elim (this xs ds d1 p) (r0.pend p), r0.pobj, r0.pdist, r0.pslot⟩
      · cases hq
    · cases hq
end
end Bk

set_option linter.all false
set_option maxRecDepth 100000
set_option maxHeartbeats 2000000
namespace Bk
open PySem PySem.Spec PyProof.Rows L2

/-! ### [elt for target in iter if ..] -/
def wipeE (e : SEnv) : List Nat → SEnv
  | [] => e
  | v :: vs => (wipeE e vs).set v .un
def W0 : WX := fun _ _ _ _ => False
def lcLoop (ow : List Nat) (g : PyData → SEnv → Option SEnv) (mt : SEnv → R Bool) (me : SEnv → R PyData) : List PyData → SEnv → List PyData → R O
  | [], e, acc => .ok (.lst acc) (wipeE e ow)
  | d :: ds, e, acc => match g d (wipeE e ow) with
    | none => .stuck
    | some e1 => match mt e1 with
      | .ok true e2 => (match me e2 with
        | .ok y e3 => if acc.length < 16777216 then lcLoop ow g mt me ds e3 (acc ++ [y]) else .stuck
        | _ => .stuck)
      | .ok false e2 => lcLoop ow g mt me ds e2 acc
      | _ => .stuck
def isUn : Option Sl → Bool
  | some .un => true
  | _ => false
def mLcF (ow : List Nat) (mi : SEnv → R (List PyData)) (g : PyData → SEnv → Option SEnv) (mt : SEnv → R Bool) (me : SEnv → R PyData) : SEnv → R O := fun env =>
  (mi env).bind fun ds e => if ow.all (fun v => isUn e[v]?) then lcLoop ow g mt me ds e [] else .stuck
def mYes : SEnv → R Bool := fun env => .ok true env

section
variable {X : Cx} {G : Fm} {W : WX} {pos : Pos}
variable {F H : Hp} {env : SEnv} {ps ps0 : PS0} {po po0 : PO0} {σ σ' : L2.St}
/-- the slots seen otherwise where nothing is known of them -/
theorem Rel.reslot (r : Rel G F env ps po σ H) (hl : σ'.length = σ.length) (h : ∀ j : Nat, env[j]? = some .un ∨ σ'[j]? = σ[j]?) : Rel G F env ps po σ' H := by
  have same : ∀ (j : Nat) (l : Sl), env[j]? = some l → l.obj.isSome = true → σ'[j]? = σ[j]? := fun j l hj ho => by
    rcases h j with q | q
    · rw [hj] at q; obtain rfl := Option.some.inj q; cases ho
    · exact q
  refine ⟨r.len.trans hl.symm, r.sub, fun i l hi => ?_, fun i j l m a hij h1 h2 o1 o2 s1 => ?_, r.old, r.new, r.rest, fun i a hi => ?_, r.pend, r.pobj, r.pdist, fun p hp i l hi ho => ?_⟩
  · obtain ⟨ov, h1, h2⟩ := r.slot i l hi
    rcases h i with q | q
    · rw [hi] at q; obtain rfl := Option.some.inj q
      have : i < σ'.length := by rw [hl]; exact (List.getElem?_eq_some_iff.mp h1).1
      exact ⟨σ'[i], by simp [this], trivial⟩
    · exact ⟨ov, q.trans h1, h2⟩
  · rw [same i l h1 o1] at s1
    rw [same j m h2 o2]
    exact r.dist i j l m a hij h1 h2 o1 o2 s1
  · obtain ⟨o, h1, h2⟩ := r.ios i a hi
    exact ⟨o, h1, (same i _ h1 rfl).trans h2⟩
  · rw [same i l hi ho]
    exact r.pslot p hp i l hi ho
theorem wipeE_len (e : SEnv) : ∀ vs, (wipeE e vs).length = e.length
  | [] => rfl
  | v :: vs => by unfold wipeE; rw [List.length_set, wipeE_len e vs]
theorem wipeE_in {e : SEnv} : ∀ {vs : List Nat} {v : Nat}, v ∈ vs → v < e.length → (wipeE e vs)[v]? = some .un
  | u :: vs, v, h, hl => by
    unfold wipeE
    by_cases hv : v = u
    · subst hv
      rw [List.getElem?_set_self (by rw [wipeE_len]; exact hl)]
    · rw [List.getElem?_set_ne (Ne.symm hv)]
      exact wipeE_in ((List.mem_cons.mp h).resolve_left hv) hl
theorem wipeE_out {e : SEnv} {v : Nat} : ∀ {vs : List Nat}, v ∉ vs → (wipeE e vs)[v]? = e[v]?
  | [], _ => rfl
  | u :: vs, h => by
    unfold wipeE
    rw [List.getElem?_set_ne (fun z => h (by rw [z]; exact List.mem_cons_self))]
    exact wipeE_out fun z => h (List.mem_cons_of_mem _ z)
/-- no slot of vs is the caller's -/
def NoIo (G : Fm) (vs : List Nat) : Prop := ∀ v ∈ vs, ∀ a, ¬ G.io v a
theorem Rel.notIo (r : Rel G F env ps po σ H) {v : Nat} (h : ∀ a, ¬ G.io v a) {l : Sl} (hl : env[v]? = some l) : l.isIo = false := by
  cases l with
  | io o =>
    obtain ⟨ov, h1, a, x1, x2, x3, x4⟩ := r.slot v _ hl
    exact absurd x3 (h a)
  | _ => rfl
theorem Rel.wipeE (r : Rel G F env ps po σ H) : ∀ {vs : List Nat}, NoIo G vs → (∀ v ∈ vs, v < env.length) → Rel G F (wipeE env vs) ps po (wipe σ vs) H
  | [], _, _ => r
  | v :: vs, hn, hl => by
    have r1 := r.wipeE (vs := vs) (fun u hu => hn u (List.mem_cons_of_mem _ hu)) fun u hu => hl u (List.mem_cons_of_mem _ hu)
    have hv : v < (Bk.wipeE env vs).length := by rw [wipeE_len]; exact hl v List.mem_cons_self
    have hg : (Bk.wipeE env vs)[v]? = some (Bk.wipeE env vs)[v] := by simp [hv]
    exact r1.setUn hg (r1.notIo (hn v List.mem_cons_self) hg)
theorem wipe_inS {v : Nat} : ∀ {vs : List Nat}, v ∈ vs → v < σ.length → (wipe σ vs)[v]? = some none
  | u :: vs, h, hl => by
    unfold wipe
    by_cases hv : v = u
    · subst hv
      rw [List.getElem?_set_self (by rw [wipe_length]; exact hl)]
    · rw [List.getElem?_set_ne (Ne.symm hv)]
      exact wipe_inS ((List.mem_cons.mp h).resolve_left hv) hl
theorem wipe_same {ow tv : List Nat} {σ σ2 : L2.St} (s : SameSl tv (wipe σ ow) σ2) (h : ∀ j ∈ tv, j ∈ ow) : wipe σ2 ow = wipe σ ow := by
  have hl : σ2.length = σ.length := s.1.trans (wipe_length σ ow)
  refine List.ext_getElem? fun j => ?_
  by_cases hj : j ∈ ow
  · by_cases hlt : j < σ.length
    · rw [wipe_inS hj hlt, wipe_inS hj (by rw [hl]; exact hlt)]
    · rw [List.getElem?_eq_none (by rw [wipe_length, hl]; omega), List.getElem?_eq_none (by rw [wipe_length]; omega)]
  · have ho : ∀ {τ : L2.St}, (wipe τ ow)[j]? = τ[j]? := fun {τ} => by
      clear s h hl
      induction ow with
      | nil => rfl
      | cons u vs ih =>
        unfold wipe
        rw [List.getElem?_set_ne (fun z => hj (by rw [z]; exact List.mem_cons_self))]
        exact ih fun z => hj (List.mem_cons_of_mem _ z)
    rw [ho, s.2 j fun z => hj (h j z)]
theorem wipe_outS {j : Nat} : ∀ {ow : List Nat}, j ∉ ow → (wipe σ ow)[j]? = σ[j]?
  | [], _ => rfl
  | u :: vs, h => by
    unfold wipe
    rw [List.getElem?_set_ne (fun z => h (by rw [z]; exact List.mem_cons_self))]
    exact wipe_outS fun z => h (List.mem_cons_of_mem _ z)

variable {elt tg iter : Expr} {ifs : List Expr} {scope : Scope} {own : List (Str × Nat)} {ow tv : List Nat} {mi : SEnv → R (List PyData)} {g : PyData → SEnv → Option SEnv} {mt : SEnv → R Bool} {me : SEnv → R PyData}
abbrev tLcX (G : Fm) (W : WX) (mi : SEnv → R (List PyData)) (tv : List Nat) (g : PyData → SEnv → Option SEnv) (mt : SEnv → R Bool) (me : SEnv → R PyData) (ow : List Nat) : TE := tLc (tI G W mi) (tG G tv g) (tB' G W0 mt) (tM G W0 me) ow
theorem lc_imp (htv : ∀ j ∈ tv, j ∈ ow) : ∀ σ H Q, tF G W (mLcF ow mi g mt me) σ H Q → tLcX G W mi tv g mt me ow σ H Q := by
  rintro σ H Q ⟨env, F, ps, po, r, q⟩
  refine ⟨env, F, ps, po, r, ?_⟩
  have q : OSat G W ((mi env).bind fun ds e => if ow.all (fun v => isUn e[v]?) then lcLoop ow g mt me ds e [] else .stuck) ps po σ Q := q
  cases hm : mi env with
  | stuck => rw [hm] at q; exact q.elim
  | exc x env' => rw [hm] at q; exact q
  | ok ds e0 =>
    rw [hm, R.bind_ok] at q
    intro J qs F1 H1 r1 it
    split at q
    · rename_i hun
      have hun : ∀ v ∈ ow, e0[v]? = some .un := fun v hv => by
        have z := List.all_eq_true.mp hun v hv
        cases w : e0[v]? with
        | none => rw [w] at z; cases z
        | some l => rw [w] at z; cases l <;> first | rfl | cases z
      have hlen : ∀ v ∈ ow, v < σ.length := fun v hv => by rw [← r1.len]; exact (List.getElem?_eq_some_iff.mp (hun v hv)).1
      have hio : NoIo G ow := fun v hv a z => by
        obtain ⟨o, h1, _⟩ := r1.ios v a z
        rw [hun v hv] at h1; cases h1
      intro D hD
      let Inv : Nat → Hp → Prop := fun i H => ∃ e F acc, i ≤ ds.length ∧ Rel G F (wipeE e ow) (qs ++ ps) ((D, .lst acc) :: po) (wipe σ ow) H ∧ e.length = σ.length ∧ OSat G W (lcLoop ow g mt me (ds.drop i) e acc) ps po σ Q
      have start : Inv 0 (upd H1 D (.lst [])) := by
        refine ⟨e0, F1, [], Nat.zero_le _, ?_, r1.len, q⟩
        exact Rel.wipeE (r1.pushO (o := .lst []) (u := .lst []) hD ⟨[], upd_same, .nil⟩) hio fun v hv => by rw [r1.len]; exact hlen v hv
      refine ⟨fun i m H => m = ds.length - i ∧ Inv i H, ⟨_, rfl, start⟩, ?_⟩
      rintro i m H ⟨rfl, e, F, acc, hi, r2, hel, q2⟩
      have hqs : ∀ z ∈ qs, z ∈ qs ++ ps := fun z hz => List.mem_append_left _ hz
      by_cases hlt : i < ds.length
      · right
        refine ⟨it.goes i _ _ _ _ _ _ hlt r2 hqs, Inv (i + 1), fun H' p' => ⟨ds.length - (i + 1), by omega, rfl, p'⟩, fun x H' y => ?_⟩
        obtain ⟨F2, d, hd, r3⟩ := it.yields i _ _ _ _ _ _ x H' hlt r2 hqs y
        have hdrop : ds.drop i = d :: ds.drop (i + 1) := by
          have := List.getElem?_eq_some_iff.mp hd
          obtain ⟨h1, h2⟩ := this
          rw [List.drop_eq_getElem_cons h1, h2]
        rw [hdrop] at q2
        unfold lcLoop at q2
        refine ⟨_, F2, qs ++ ps, _, d, r3, ?_⟩
        split at q2
        · exact q2.elim
        · rename_i e1 he1
          try rw [he1]
          intro F3 σ3 H3 s3 r4
          refine ⟨wipe_same s3 htv, e1, F3, qs ++ ps, _, r4, ?_⟩
          split at q2
          · rename_i e2 he2
            rw [he2]
            intro F4 H4 r5
            rw [if_pos rfl]
            refine ⟨e2, F4, qs ++ ps, _, r5, ?_⟩
            split at q2
            · rename_i y e3 he3
              rw [he3]
              intro v F5 H5 r6
              split at q2
              · rename_i hz
                obtain ⟨y1, y2, xs, y3, y4⟩ := r6.pobj _ List.mem_cons_self
                have r7 : Rel G F5 e3 (qs ++ ps) ((D, .lst (acc ++ [y])) :: po) σ3 (upd H5 D (.lst (xs ++ [v]))) := r6.drop1.writeP ⟨xs ++ [v], upd_same, dpAll_app y4 (.cons r6.top .nil)⟩
                have l3 : e3.length = σ.length := by rw [r7.len, s3.1, wipe_length]
                refine ⟨xs, y3, by rw [dpAll_len y4, sizeLine_eq]; exact hz, e3, F5, acc ++ [y], hlt, ?_, l3, q2⟩
                have r8 := Rel.wipeE r7 hio fun v hv => by rw [l3]; exact hlen v hv
                rw [wipe_same s3 htv] at r8
                exact r8
              · exact q2.elim
            · exact q2.elim
          · rename_i e2 he2
            rw [he2]
            intro F4 H4 r5
            rw [if_neg Bool.false_ne_true]
            have l3 : e2.length = σ.length := by rw [r5.len, s3.1, wipe_length]
            refine ⟨e2, F4, acc, hlt, ?_, l3, q2⟩
            have r8 := Rel.wipeE r5 hio fun v hv => by rw [l3]; exact hlen v hv
            rw [wipe_same s3 htv] at r8
            exact r8
          · exact q2.elim
      · have e : i = ds.length := by omega
        subst e
        left
        refine ⟨it.stops _ _ _ _ _ _ r2 hqs, ?_⟩
        rw [List.drop_length] at q2
        have q2 : ∀ a F' H', Rel G F' (wipeE _ ow) ps ((a, .lst acc) :: po) σ H' → Q (.ref a) H' := q2
        refine q2 D F H ?_
        refine Rel.reslot (σ := wipe σ ow) (r2.less fun p hp => List.mem_append_right _ hp) (wipe_length σ ow).symm fun j => ?_
        by_cases hj : j ∈ ow
        · exact .inl (wipeE_in hj (by rw [hel]; exact hlen j hj))
        · exact .inr (wipe_outS hj).symm
    · exact q.elim
theorem mf_lc (hc : X.calm = true) (hN : X.N.Nodup) (hi : MI X G W tg iter mi) (ok : BlkOk X.N X.env.scope scope own)
    (hg : ∀ (s : Shared) (H : Hp) (C : Addr) (cl : List (Str × Addr)) (fp : List Addr), MG (X.blk s H scope (compEnvC scope cl C X.env) fp) G tg tv g)
    (ht : ∀ (s : Shared) (H : Hp) (C : Addr) (cl : List (Str × Addr)) (fp : List Addr), PTs (X.blk s H scope (compEnvC scope cl C X.env) fp) ifs (tB' G W0 mt))
    (he : ∀ (s : Shared) (H : Hp) (C : Addr) (cl : List (Str × Addr)) (fp : List Addr), ME (X.blk s H scope (compEnvC scope cl C X.env) fp) G W0 elt me)
    (htv : ∀ j ∈ tv, j ∈ own.map (·.2) := by decide) (hs : ∀ x, foldedSetIterable iter X.env x = pure x := by intro _; rfl) :
    MF X G W (.ListComp elt [⟨tg, iter, ifs, 0⟩] scope pos) (mLcF (own.map (·.2)) mi g mt me) := (pe_lc hc hN hi ok hg ht he hs).imp (lc_imp htv)
theorem mts_nil : PTs X [] (tB' G W mYes) := ⟨fun pins s σ H Q I ⟨env, F, ps, po, r, q⟩ => pts_nil.run pins s σ H Q I (q F H r)⟩
theorem mts_one {c : Expr} (h : MT X G W c mt) : PTs X [c] (tB' G W mt) := pts_one h

/-! ### built-ins -/
variable {e : Expr} {es : List Expr} {m : SEnv → R PyData} {ms : List (SEnv → R PyData)}
/-- what a rule of called values does -/
def OpL (G : Fm) (r : List V → Hp → VK → Prop) (f : List PyData → Option PyData) : Prop :=
  ∀ (F : Hp) (env : SEnv) (ps : PS0) (po : PO0) (σ : L2.St) (H : Hp) (vs : List V) (ds : List PyData) (d : PyData) (Q : VK), Rel G F env ps po σ H → DpAll G.K F vs ds → f ds = some d →
    (∀ v F' H', Rel G F' env ((v, d) :: ps) po σ H' → Q v H') → r vs H Q
def mB (f : List PyData → Option PyData) (ms : List (SEnv → R PyData)) : SEnv → R PyData := fun env => (mList ms env).bind fun ds e => match f ds with
  | some d => .ok d e
  | none => .stuck
theorem tCB_of {r : List V → Hp → VK → Prop} {f : List PyData → Option PyData} (s : OpL G r f) : ∀ σ H Q, tM G W (mB f ms) σ H Q → tCB r (tA G W ms) σ H Q := fun σ H Q ⟨env, F, ps, po, hr, q⟩ =>
  tA_bind hr .refl q fun vs ds env1 F1 H1 ⟨hl, _⟩ r1 q1 => by
    cases h : f ds with
    | none => rw [h] at q1; exact q1.elim
    | some d => rw [h] at q1; exact s F1 env1 ps po σ H1 vs ds d Q r1.unzip (r1.zip hl) h q1
variable {x : Str} {p : Pos} {id T : String} {r : List V → Hp → VK → Prop} {f : List PyData → Option PyData}
theorem me_callB (hc : CallR X (.builtin id) r) (s : OpL G r f) (hm : X.mg x = none) (hv : bootBuiltins x = some (.builtin id)) (ha : MA X G W (e :: es) ms) (hg : Gl X x := by rfl) (hn : x ≠ "__name__" := by decide) (hdb : (x == ("__debug__" : Str)) = false := by decide)
    (he : starEach (e :: es) X.env = (false, eval e X.env) :: starEach es X.env := by rfl) (hpl : (backTo pos (starEach es X.env)).any (·.1) = false := by rfl) : ME X G W (.Call (.Name x p) (e :: es) [] pos) (mB f ms) := (pe_callB hc hg hm hv ha hn hdb he hpl).imp (tCB_of s)
theorem me_callTy (hc : CallR X (.type T) r) (s : OpL G r f) (hm : X.mg x = none) (hv : bootBuiltins x = some (.type T)) (ha : MA X G W (e :: es) ms) (hg : Gl X x := by rfl) (hn : x ≠ "__name__" := by decide) (hdb : (x == ("__debug__" : Str)) = false := by decide)
    (he : starEach (e :: es) X.env = (false, eval e X.env) :: starEach es X.env := by rfl) (hpl : (backTo pos (starEach es X.env)).any (·.1) = false := by rfl) : ME X G W (.Call (.Name x p) (e :: es) [] pos) (mB f ms) := (pe_callTy hc hg hm hv ha hn hdb he hpl).imp (tCB_of s)
def lenD : List PyData → Option PyData
  | [.list ds] => some (.int ds.length)
  | [.tuple ds] => some (.int ds.length)
  | [.str x] => if x.length ≤ 16777216 then some (.int x.length) else none
  | _ => none
theorem dp1 {K : PySem.W.Frag} {H : Hp} {vs : List V} {d : PyData} (h : DpAll K H vs [d]) : ∃ v, vs = [v] ∧ Dp K H v d := by
  cases h with
  | cons h1 h2 => cases h2; exact ⟨_, rfl, h1⟩
theorem dp2 {K : PySem.W.Frag} {H : Hp} {vs : List V} {d e : PyData} (h : DpAll K H vs [d, e]) : ∃ v w, vs = [v, w] ∧ Dp K H v d ∧ Dp K H w e := by
  cases h with
  | cons h1 h2 =>
    obtain ⟨w, rfl, h3⟩ := dp1 h2
    exact ⟨_, w, rfl, h1, h3⟩
theorem len_s : OpL G (fun xs H Q => (∃ p ys, xs = [.ref p] ∧ (SqL G.K H p ys ∨ SqT G.K H p ys) ∧ Q (.int ys.length) H) ∨ ∃ z, xs = [.str z] ∧ z.length ≤ sizeLine ∧ Q (.int z.length) H) lenD := by
  intro F env ps po σ H vs ds d Q r hd hf q
  unfold lenD at hf
  split at hf
  · cases hf
    obtain ⟨v, rfl, h⟩ := dp1 hd
    obtain ⟨a, xs, rfl, s1, d1⟩ := dp_lst h
    exact .inl ⟨a, xs, rfl, .inl (SqL.mono r.sub s1), by rw [dpAll_len d1]; exact q _ F H (r.push (.int _))⟩
  · cases hf
    obtain ⟨v, rfl, h⟩ := dp1 hd
    obtain ⟨a, xs, rfl, s1, d1⟩ := dp_tup h
    exact .inl ⟨a, xs, rfl, .inr (SqT.mono r.sub s1), by rw [dpAll_len d1]; exact q _ F H (r.push (.int _))⟩
  · split at hf
    · rename_i hz
      cases hf
      obtain ⟨v, rfl, h⟩ := dp1 hd
      exact .inr ⟨_, by rw [dp_str h], line16 hz, q _ F H (r.push (.int _))⟩
    · cases hf
  · cases hf
theorem me_len (hm : X.mg "len" = none) (ha : MA X G W (e :: es) ms) (hK : X.K = G.K := by rfl) (hg : Gl X "len" := by rfl)
    (he : starEach (e :: es) X.env = (false, eval e X.env) :: starEach es X.env := by rfl) (hpl : (backTo pos (starEach es X.env)).any (·.1) = false := by rfl) : ME X G W (.Call (.Name "len" p) (e :: es) [] pos) (mB lenD ms) :=
  me_callB (CallR.or call_len_seq call_len_str) (by rw [hK]; exact len_s) hm PySem.boot_len ha hg (by decide) (by decide) he hpl
def intOf : List PyData → Option PyData
  | [.int i] => some (.int i)
  | [.bool k] => some (.int (if k then 1 else 0))
  | [.str x] => if x.length ≤ 640 then (PySem.intText? x).map .int else none
  | _ => none
theorem int_s' : OpL G (fun xs H Q => ((∃ i, xs = [.int i] ∧ Q (.int i) H) ∨ ∃ k, xs = [.bl k] ∧ Q (.int (if k then 1 else 0)) H) ∨ ∃ a n, xs = [.str a] ∧ PySem.intText? a = some n ∧ a.length ≤ 640 ∧ Q (.int n) H) intOf := by
  intro F env ps po σ H vs ds d Q r hd hf q
  unfold intOf at hf
  split at hf
  · cases hf
    obtain ⟨v, rfl, h⟩ := dp1 hd
    exact .inl (.inl ⟨_, by rw [dp_int h], q _ F H (r.push (.int _))⟩)
  · cases hf
    obtain ⟨v, rfl, h⟩ := dp1 hd
    exact .inl (.inr ⟨_, by rw [dp_bool h], q _ F H (r.push (.int _))⟩)
  · rename_i x
    split at hf
    · rename_i hz
      obtain ⟨v, rfl, h⟩ := dp1 hd
      cases hi : PySem.intText? x with
      | none => rw [hi] at hf; cases hf
      | some n =>
        rw [hi] at hf
        cases hf
        exact .inr ⟨_, n, by rw [dp_str h], hi, hz, q _ F H (r.push (.int _))⟩
    · cases hf
  · cases hf
theorem me_int1 (hm : X.mg "int" = none) (ha : MA X G W (e :: es) ms) (hg : Gl X "int" := by rfl)
    (he : starEach (e :: es) X.env = (false, eval e X.env) :: starEach es X.env := by rfl) (hpl : (backTo pos (starEach es X.env)).any (·.1) = false := by rfl) : ME X G W (.Call (.Name "int" p) (e :: es) [] pos) (mB intOf ms) :=
  me_callTy (CallR.or call_int1 call_int_str) int_s' hm (by decide +kernel) ha hg (by decide) (by decide) he hpl
def strOf : List PyData → Option PyData
  | [.int i] => if i.natAbs.log2 < 1920 then some (.str (toString i)) else none
  | _ => none
theorem me_str1 (hm : X.mg "str" = none) (ha : MA X G W (e :: es) ms) (hg : Gl X "str" := by rfl)
    (he : starEach (e :: es) X.env = (false, eval e X.env) :: starEach es X.env := by rfl) (hpl : (backTo pos (starEach es X.env)).any (·.1) = false := by rfl) : ME X G W (.Call (.Name "str" p) (e :: es) [] pos) (mB strOf ms) :=
  me_callTy call_str_int (fun F env ps po σ H vs ds d Q r hd hf q => by
    unfold strOf at hf
    split at hf
    · split at hf
      · rename_i hz
        cases hf
        obtain ⟨v, rfl, h⟩ := dp1 hd
        exact ⟨_, by rw [dp_int h], hz, q _ F H (r.push (.str _))⟩
      · cases hf
    · cases hf) hm (by decide +kernel) ha hg (by decide) (by decide) he hpl
def absOf : List PyData → Option PyData
  | [.int i] => some (.int (if i < 0 then -i else i))
  | _ => none
theorem me_abs (hm : X.mg "abs" = none) (ha : MA X G W (e :: es) ms) (hg : Gl X "abs" := by rfl)
    (he : starEach (e :: es) X.env = (false, eval e X.env) :: starEach es X.env := by rfl) (hpl : (backTo pos (starEach es X.env)).any (·.1) = false := by rfl) : ME X G W (.Call (.Name "abs" p) (e :: es) [] pos) (mB absOf ms) :=
  me_callB call_abs (fun F env ps po σ H vs ds d Q r hd hf q => by
    unfold absOf at hf
    split at hf
    · cases hf
      obtain ⟨v, rfl, h⟩ := dp1 hd
      exact ⟨_, by rw [dp_int h], q _ F H (r.push (.int _))⟩
    · cases hf) hm (by decide +kernel) ha hg (by decide) (by decide) he hpl
def tupOf : List PyData → Option PyData
  | [.list ds] => some (.tuple ds)
  | [.tuple ds] => some (.tuple ds)
  | _ => none
theorem me_tuple1 (hm : X.mg "tuple" = none) (ha : MA X G W (e :: es) ms) (hK : X.K = G.K := by rfl) (hg : Gl X "tuple" := by rfl)
    (he : starEach (e :: es) X.env = (false, eval e X.env) :: starEach es X.env := by rfl) (hpl : (backTo pos (starEach es X.env)).any (·.1) = false := by rfl) : ME X G W (.Call (.Name "tuple" p) (e :: es) [] pos) (mB tupOf ms) :=
  me_callTy call_tuple_of (fun F env ps po σ H vs ds d Q r hd hf q => by
    unfold tupOf at hf
    rw [hK]
    split at hf
    · cases hf
      obtain ⟨v, rfl, h⟩ := dp1 hd
      obtain ⟨a, xs, rfl, s1, d1⟩ := dp_lst h
      exact ⟨a, xs, rfl, .inl ⟨SqL.mono r.sub s1, fun l hl => q _ _ _ (r.newTup hl d1)⟩⟩
    · cases hf
      obtain ⟨v, rfl, h⟩ := dp1 hd
      obtain ⟨a, xs, rfl, s1, d1⟩ := dp_tup h
      exact ⟨a, xs, rfl, .inr ⟨SqT.mono r.sub s1, q _ F H (r.push (.tup s1 d1))⟩⟩
    · cases hf) hm (by decide +kernel) ha hg (by decide) (by decide) he hpl
def listOf : List PyData → Option PyData
  | [.list ds] => some (.list ds)
  | [.tuple ds] => some (.list ds)
  | _ => none
theorem me_list1 (hm : X.mg "list" = none) (ha : MA X G W (e :: es) ms) (hK : X.K = G.K := by rfl) (hg : Gl X "list" := by rfl)
    (he : starEach (e :: es) X.env = (false, eval e X.env) :: starEach es X.env := by rfl) (hpl : (backTo pos (starEach es X.env)).any (·.1) = false := by rfl) : ME X G W (.Call (.Name "list" p) (e :: es) [] pos) (mB listOf ms) :=
  me_callTy call_list_of (fun F env ps po σ H vs ds d Q r hd hf q => by
    unfold listOf at hf
    rw [hK]
    split at hf
    · cases hf
      obtain ⟨v, rfl, h⟩ := dp1 hd
      obtain ⟨a, xs, rfl, s1, d1⟩ := dp_lst h
      exact ⟨a, xs, rfl, .inl (SqL.mono r.sub s1), fun l hl => q _ _ _ (r.newLst hl d1)⟩
    · cases hf
      obtain ⟨v, rfl, h⟩ := dp1 hd
      obtain ⟨a, xs, rfl, s1, d1⟩ := dp_tup h
      exact ⟨a, xs, rfl, .inr (SqT.mono r.sub s1), fun l hl => q _ _ _ (r.newLst hl d1)⟩
    · cases hf) hm (by decide +kernel) ha hg (by decide) (by decide) he hpl
/-- the truth values of a list -/
def boolsOf : List PyData → Option (List Bool)
  | [] => some []
  | .bool b :: r => (boolsOf r).map (b :: ·)
  | _ => none
theorem bools_dp {K : PySem.W.Frag} {H : Hp} : ∀ {ds : List PyData} {vs : List V} {bs : List Bool}, DpAll K H vs ds → boolsOf ds = some bs → vs = bs.map V.bl
  | [], _, _, h, e => by cases h; cases e; rfl
  | d :: ds, _, bs, h, e => by
    cases h with
    | cons h1 h2 =>
      cases d with
      | bool b =>
        have e : (boolsOf ds).map (b :: ·) = some bs := e
        cases q : boolsOf ds with
        | none => rw [q] at e; cases e
        | some r =>
          rw [q] at e
          cases e
          rw [bools_dp h2 q, dp_bool h1]
          rfl
      | _ => cases e
def allOf : List PyData → Option PyData
  | [.list ds] => (boolsOf ds).map fun bs => .bool (bs.all _root_.id)
  | _ => none
def anyOf : List PyData → Option PyData
  | [.list ds] => (boolsOf ds).map fun bs => .bool (bs.any _root_.id)
  | _ => none
theorem me_all (hc : X.calm = true) (hm : X.mg "all" = none) (ha : MA X G W (e :: es) ms) (hK : X.K = G.K := by rfl) (hg : Gl X "all" := by rfl)
    (he : starEach (e :: es) X.env = (false, eval e X.env) :: starEach es X.env := by rfl) (hpl : (backTo pos (starEach es X.env)).any (·.1) = false := by rfl) : ME X G W (.Call (.Name "all" p) (e :: es) [] pos) (mB allOf ms) :=
  me_callB (cr_all hc) (fun F env ps po σ H vs ds d Q r hd hf q => by
    unfold allOf at hf
    rw [hK]
    split at hf
    · rename_i es
      cases hb : boolsOf es with
      | none => rw [hb] at hf; cases hf
      | some bs =>
        rw [hb] at hf
        cases hf
        obtain ⟨v, rfl, h⟩ := dp1 hd
        obtain ⟨a, xs, rfl, s1, d1⟩ := dp_lst h
        rw [bools_dp d1 hb] at s1
        exact ⟨a, bs, rfl, SqL.mono r.sub s1, q _ F H (r.push (.bl _))⟩
    · cases hf) hm (by decide +kernel) ha hg (by decide) (by decide) he hpl
theorem me_any (hc : X.calm = true) (hm : X.mg "any" = none) (ha : MA X G W (e :: es) ms) (hK : X.K = G.K := by rfl) (hg : Gl X "any" := by rfl)
    (he : starEach (e :: es) X.env = (false, eval e X.env) :: starEach es X.env := by rfl) (hpl : (backTo pos (starEach es X.env)).any (·.1) = false := by rfl) : ME X G W (.Call (.Name "any" p) (e :: es) [] pos) (mB anyOf ms) :=
  me_callB (cr_any hc) (fun F env ps po σ H vs ds d Q r hd hf q => by
    unfold anyOf at hf
    rw [hK]
    split at hf
    · rename_i es
      cases hb : boolsOf es with
      | none => rw [hb] at hf; cases hf
      | some bs =>
        rw [hb] at hf
        cases hf
        obtain ⟨v, rfl, h⟩ := dp1 hd
        obtain ⟨a, xs, rfl, s1, d1⟩ := dp_lst h
        rw [bools_dp d1 hb] at s1
        exact ⟨a, bs, rfl, SqL.mono r.sub s1, q _ F H (r.push (.bl _))⟩
    · cases hf) hm (by decide +kernel) ha hg (by decide) (by decide) he hpl
/-- isinstance(x, T) -/
def tyName : PyData → String
  | .none => "NoneType"
  | .bool _ => "bool"
  | .int _ => "int"
  | .str _ => "str"
  | .list _ => "list"
  | .tuple _ => "tuple"
  | .dict _ => "dict"
def isiB (a b : String) : Bool := a == b || (a == "bool" && b == "int")
def isiD (b : String) (d : PyData) : Option PyData := some (.bool (isiB (tyName d) b))
def isiOk (b : String) : Prop := ∀ a ∈ ["NoneType", "bool", "int", "str", "list", "tuple", "dict"], kitB a b = some (isiB a b)
theorem isi_int : isiOk "int" := by unfold isiOk; decide +kernel
theorem isi_str : isiOk "str" := by unfold isiOk; decide +kernel
theorem isi_bool : isiOk "bool" := by unfold isiOk; decide +kernel
theorem isi_tuple : isiOk "tuple" := by unfold isiOk; decide +kernel
theorem isi_list : isiOk "list" := by unfold isiOk; decide +kernel
theorem tyx_of {K : PySem.W.Frag} {H : Hp} {v : V} {d : PyData} (h : Dp K H v d) : TyX K H v (.type (tyName d)) := by
  cases h with
  | non => exact .base .non
  | bl b => exact .base (.bl b)
  | int i => exact .base (.int i)
  | str x => exact .base (.str x)
  | lst s _ =>
    rcases s with (s | ⟨o, s⟩) | ⟨o, its, n, s, c, _⟩
    · exact .base (.lst s)
    · exact .base (.frz s)
    · exact .kList s c
  | tup s _ =>
    rcases s with (s | ⟨o, s⟩) | ⟨o, its, n, s, c, _⟩
    · exact .base (.tup s)
    · exact .fTuple s
    · exact .kTuple s c
theorem me_isi (T : String) {y : Str} {p1 p2 : Pos} {a : Expr} (hT : isiOk T) (hm : X.mg "isinstance" = none) (hmT : X.mg y = none) (hvT : bootBuiltins y = some (.type T)) (ha : ME X G W a m) (hK : X.K = G.K := by rfl) (hg : Gl X "isinstance" := by rfl) (hgT : Gl X y := by rfl) (hnT : y ≠ "__name__" := by decide) (hdT : (y == ("__debug__" : Str)) = false := by decide)
    (h2 : starEach (.Name y p2 :: []) X.env = (false, eval (.Name y p2) X.env) :: starEach [] X.env := by rfl) (he : starEach (a :: [.Name y p2]) X.env = (false, eval a X.env) :: starEach [.Name y p2] X.env := by rfl) (hpl : (backTo pos (starEach [.Name y p2] X.env)).any (·.1) = false := by rfl) :
    ME X G W (.Call (.Name "isinstance" p1) [a, .Name y p2] [] pos) (mOp1 (isiD T) m) := by
  refine (pe_callB call_isi hg hm (by decide +kernel) (pa_cons ha (pa_cons (pe_bltn (v := .ty T) hgT hmT hvT rfl hnT hdT) pa_nil h2) he) (by decide) (by decide) he hpl).imp fun σ H Q ⟨env, F, ps, po, r, q⟩ => ?_
  refine tM_bind r .refl q fun v d env1 F1 H1 r1 q1 => ?_
  rw [hK]
  refine ⟨v, .ty T, _, _, _, rfl, .ty T, tyx_of (dp_mono r1.sub r1.top), kit_ty (hT _ ?_), q1 _ F1 H1 (r1.drop1.push (.bl _))⟩
  cases d <;> simp [tyName]

/-! ### the list of a slot is read -/
def OpS (G : Fm) (r : R2) (f : List PyData → PyData → Option PyData) : Prop :=
  ∀ (F : Hp) (env : SEnv) (ps : PS0) (po : PO0) (σ : L2.St) (H : Hp) (a : Addr) (xs : List V) (ds : List PyData) (y : V) (b d : PyData) (Q : VK), Rel G F env ((y, b) :: ps) po σ H → H a = some (.lst xs) → DpAll G.K F xs ds → f ds b = some d →
    (∀ v F' H', Rel G F' env ((v, d) :: ps) po σ H' → Q v H') → r (.ref a) y H Q
def mOpS (f : List PyData → PyData → Option PyData) (j : Nat) (mb : SEnv → R PyData) : SEnv → R PyData := fun env => if (objOf env j).isSome then (mb env).bind fun b e => match objOf e j with
  | some (.lst ds) => (match f ds b with
    | some d => .ok d e
    | none => .stuck)
  | _ => .stuck
  else .stuck
theorem tOpS_of {r : R2} {f : List PyData → PyData → Option PyData} {j : Nat} {mb : SEnv → R PyData} (s : OpS G r f) : ∀ σ H Q, tM G W (mOpS f j mb) σ H Q → tOp r (tVar j) (tM G W mb) σ H Q := fun σ H Q ⟨env, F, ps, po, hr, q⟩ => by
  unfold mOpS at q
  split at q
  · rename_i hs
    obtain ⟨o, ho⟩ := Option.isSome_iff_exists.mp hs
    obtain ⟨a, ha, _, _⟩ := hr.at ho
    refine ⟨_, ha, tM_bind hr .refl q fun y b env1 F1 H1 r1 q1 => ?_⟩
    split at q1
    · rename_i ds ho1
      obtain ⟨a', ha', _, xs, hH, hD⟩ := r1.at ho1
      rw [ha] at ha'
      obtain rfl : a = a' := by simpa using ha'
      split at q1
      · rename_i d hd
        exact s F1 env1 ps po σ H1 a xs ds y b d Q r1 hH hD hd q1
      · exact q1.elim
    · exact q1.elim
  · exact q.elim
section
variable {j : Nat} {y : Str} {p1 : Pos} {b : Expr} {mb : SEnv → R PyData}
theorem me_idxS (hb : ME X G W b mb) (hs : PlainIx b) (hN : X.N[j]? = some y := by rfl) (hv : Vis X.env.scope y := by first | exact Or.inl rfl | exact Or.inr (Or.inl rfl) | exact Or.inr (Or.inr rfl)) (hd : (y == ("__debug__" : Str)) = false := by decide)
    (hcd : (y == ("__classdict__" : Str)) = false := by decide) : ME X G W (.Subscript (.Name y p1) b pos) (mOpS (fun ds b => idxD (.list ds) b) j mb) := by
  refine (pe_ix ix_list (pe_var (i := j) hN hv hd hcd) hb hs).imp (tOpS_of ?_)
  intro F env ps po σ H a xs ds y b d Q r hH hD hf q
  unfold idxD at hf
  cases b with
  | int i =>
    obtain ⟨v, q1, q2⟩ := atI_dp hD hf
    exact ⟨a, xs, i, v, rfl, dp_int r.top, SqL.of hH, q1, q _ F H (r.drop1.push q2)⟩
  | _ => cases hf
theorem me_eqS (hu : X.A.units + 64 < cLine) (hb : ME X G W b mb) (hN : X.N[j]? = some y := by rfl) (hv : Vis X.env.scope y := by first | exact Or.inl rfl | exact Or.inr (Or.inl rfl) | exact Or.inr (Or.inr rfl)) (hd : (y == ("__debug__" : Str)) = false := by decide)
    (hcd : (y == ("__classdict__" : Str)) = false := by decide) (hK : X.K = G.K := by rfl) (hm : behindInMarks .Eq b = false := by exact nomark _) : ME X G W (.Compare (.Name y p1) [.Eq] [b] pos) (mOpS (fun ds b => eqD (.list ds) b) j mb) := by
  refine (pe_cmpR (op_eqU hu) (pe_var (i := j) hN hv hd hcd) hb hm).imp (tOpS_of ?_)
  intro F env ps po σ H a xs ds y b d Q r hH hD hf q
  have hf : eqD (.list ds) b = some d := hf
  unfold eqD at hf
  obtain ⟨k, hk, rfl⟩ := Option.map_eq_some_iff.mp hf
  rw [hK]
  exact ⟨_, _, _, .lst (SqL.of hH) (dpAll_mono r.sub hD), dp_mono r.sub r.top, hk, q _ F H (r.drop1.push (.bl _))⟩
theorem me_neS (hu : X.A.units + 64 < cLine) (hb : ME X G W b mb) (hN : X.N[j]? = some y := by rfl) (hv : Vis X.env.scope y := by first | exact Or.inl rfl | exact Or.inr (Or.inl rfl) | exact Or.inr (Or.inr rfl)) (hd : (y == ("__debug__" : Str)) = false := by decide)
    (hcd : (y == ("__classdict__" : Str)) = false := by decide) (hK : X.K = G.K := by rfl) (hm : behindInMarks .NotEq b = false := by exact nomark _) : ME X G W (.Compare (.Name y p1) [.NotEq] [b] pos) (mOpS (fun ds b => neD (.list ds) b) j mb) := by
  refine (pe_cmpR (op_neU hu) (pe_var (i := j) hN hv hd hcd) hb hm).imp (tOpS_of ?_)
  intro F env ps po σ H a xs ds y b d Q r hH hD hf q
  have hf : neD (.list ds) b = some d := hf
  unfold neD at hf
  obtain ⟨k, hk, rfl⟩ := Option.map_eq_some_iff.mp hf
  rw [hK]
  exact ⟨_, _, _, .lst (SqL.of hH) (dpAll_mono r.sub hD), dp_mono r.sub r.top, hk, q _ F H (r.drop1.push (.bl _))⟩
def mLenS (j : Nat) : SEnv → R PyData := fun env => match objOf env j with
  | some (.lst ds) => .ok (.int ds.length) env
  | _ => .stuck
theorem me_lenS (hm : X.mg "len" = none) (hN : X.N[j]? = some y := by rfl) (hv : Vis X.env.scope y := by first | exact Or.inl rfl | exact Or.inr (Or.inl rfl) | exact Or.inr (Or.inr rfl)) (hd : (y == ("__debug__" : Str)) = false := by decide)
    (hcd : (y == ("__classdict__" : Str)) = false := by decide) (hg : Gl X "len" := by rfl) (he : starEach (.Name y p1 :: []) X.env = (false, eval (.Name y p1) X.env) :: starEach [] X.env := by rfl) (hpl : (backTo pos (starEach [] X.env)).any (·.1) = false := by rfl) :
    ME X G W (.Call (.Name "len" p) [.Name y p1] [] pos) (mLenS j) := by
  refine (pe_callB call_len_seq hg hm PySem.boot_len (pa_cons (pe_var (i := j) hN hv hd hcd) pa_nil he) (by decide) (by decide) he hpl).imp fun σ H Q ⟨env, F, ps, po, r, q⟩ => ?_
  unfold mLenS at q
  split at q
  · rename_i ds ho
    obtain ⟨a, ha, hF, xs, hH, hD⟩ := r.at ho
    refine ⟨_, ha, a, xs, rfl, .inl (SqL.of hH), ?_⟩
    rw [dpAll_len hD]
    exact q _ F H (r.push (.int _))
  · exact q.elim
end
end
end Bk

set_option linter.all false
set_option maxRecDepth 100000
set_option maxHeartbeats 2000000
namespace Bk
open PySem PySem.Spec PyProof.Rows L2

/-! ### statements -/
def R.sbind {α : Type} (r : R α) (f : α → SEnv → SR) : SR :=
  match r with
  | .stuck => .stuck
  | .ok a e => f a e
  | .exc x e => .exc x e
def SXWant (G : Fm) (W : WX) (x : Ex) (env : SEnv) (ps : PS0) (po : PO0) : Prop :=
  ∀ F' σ' H' dx fvs, Rel G F' env ps po σ' H' → F' dx = none → H' dx = some (.xd fvs) → DpK G.K F' fvs x.fs → W (.ref (G.cad x.c)) (some dx) σ' H'
def SSat (G : Fm) (W : WX) (r : SR) (ps : PS0) (po : PO0) (D : Ends) : Prop :=
  match r with
  | .stuck => False
  | .nx env => ∀ F' σ' H', Rel G F' env ps po σ' H' → D.nx σ' H'
  | .bk env => ∀ F' σ' H', Rel G F' env ps po σ' H' → D.bk σ' H'
  | .ct env => ∀ F' σ' H', Rel G F' env ps po σ' H' → D.ct σ' H'
  | .rt d env => ∀ v F' σ' H', Rel G F' env ((v, d) :: ps) po σ' H' → D.rt v H'
  | .exc x env => SXWant G W x env ps po
def tS (G : Fm) (W : WX) (m : SEnv → SR) : TS := fun D σ H => ∃ env F ps po, Rel G F env ps po σ H ∧ SSat G W (m env) ps po D
abbrev MS (X : Cx) (G : Fm) (W : WX) (st : Stmt) (m : SEnv → SR) : Prop := PS X st (tS G W m)
abbrev MSs (X : Cx) (G : Fm) (W : WX) (st : List Stmt) (m : SEnv → SR) : Prop := PSs X st (tS G W m)

section
variable {X : Cx} {G : Fm} {W : WX} {pos : Pos} {e : Expr} {es : List Expr} {m : SEnv → R PyData} {ms : List (SEnv → R PyData)}
variable {F H : Hp} {env : SEnv} {ps ps0 : PS0} {po po0 : PO0} {σ σ' : L2.St} {D : Ends}
theorem SXWant.x {x : Ex} (h : SXWant G W x env ps po) : XWant G W x env ps po σ := fun F' H' dx fvs => h F' σ H' dx fvs
theorem tM_s {Q : VK} {f : PyData → SEnv → SR} (r : Rel G F env ps po σ H) (h : SSat G W ((m env).sbind f) ps po D)
    (k : ∀ v d env' F' H', Rel G F' env' ((v, d) :: ps) po σ H' → SSat G W (f d env') ps po D → Q v H') : tM G W m σ H Q := by
  refine ⟨env, F, ps, po, r, ?_⟩
  cases q : m env with
  | stuck => rw [q] at h; exact h.elim
  | ok d env' => rw [q] at h; exact fun v F' H' r' => k v d env' F' H' r' h
  | exc x env' => rw [q] at h; exact SXWant.x h
theorem tB_s {mt : SEnv → R Bool} {Q : Bool → Hp → Prop} {f : Bool → SEnv → SR} (r : Rel G F env ps po σ H) (h : SSat G W ((mt env).sbind f) ps po D)
    (k : ∀ b env' F' H', Rel G F' env' ps po σ H' → SSat G W (f b env') ps po D → Q b H') : tB' G W mt σ H Q := by
  refine ⟨env, F, ps, po, r, ?_⟩
  cases q : mt env with
  | stuck => rw [q] at h; exact h.elim
  | ok d env' => rw [q] at h; exact fun F' H' r' => k d env' F' H' r' h
  | exc x env' => rw [q] at h; exact SXWant.x h
theorem tF_s {mo : SEnv → R O} {Q : VK} {f : O → SEnv → SR} (r : Rel G F env ps po σ H) (h : SSat G W ((mo env).sbind f) ps po D)
    (k : ∀ a o env' F' H', Rel G F' env' ps ((a, o) :: po) σ H' → SSat G W (f o env') ps po D → Q (.ref a) H') : tF G W mo σ H Q := by
  refine ⟨env, F, ps, po, r, ?_⟩
  cases q : mo env with
  | stuck => rw [q] at h; exact h.elim
  | ok o env' => rw [q] at h; exact fun a F' H' r' => k a o env' F' H' r' h
  | exc x env' => rw [q] at h; exact SXWant.x h
theorem tA_s {Q : List V → Hp → Prop} {f : List PyData → SEnv → SR} (r : Rel G F env ps po σ H) (h : SSat G W ((mList ms env).sbind f) ps po D)
    (k : ∀ vs ds env' F' H', vs.length = ds.length ∧ ds.length = ms.length → Rel G F' env' (vs.zip ds ++ ps) po σ H' → SSat G W (f ds env') ps po D → Q vs H') : tA G W ms σ H Q := by
  refine ⟨env, F, ps, po, r, ?_⟩
  cases q : mList ms env with
  | stuck => rw [q] at h; exact h.elim
  | ok d env' => rw [q] at h; exact fun vs F' H' hl r' => k vs d env' F' H' ⟨hl, mList_len q⟩ r' h
  | exc x env' => rw [q] at h; exact SXWant.x h
theorem tI_s {mi : SEnv → R (List PyData)} {Q : It → Hp → Prop} {f : List PyData → SEnv → SR} (r : Rel G F env ps po σ H) (h : SSat G W ((mi env).sbind f) ps po D)
    (k : ∀ J qs ds env' F' H', Rel G F' env' (qs ++ ps) po σ H' → Iter G J qs ds → SSat G W (f ds env') ps po D → Q J H') : tI G W mi σ H Q := by
  refine ⟨env, F, ps, po, r, ?_⟩
  cases q : mi env with
  | stuck => rw [q] at h; exact h.elim
  | ok ds env' => rw [q] at h; exact fun J qs F' H' r' it => k J qs ds env' F' H' r' it h
  | exc x env' => rw [q] at h; exact SXWant.x h

def sPass : SEnv → SR := fun env => .nx env
def sSeq (m n : SEnv → SR) : SEnv → SR := fun env => match m env with
  | .nx e => n e
  | r => r
theorem ms_nil : MSs X G W [] sPass := pss_nil.imp fun D σ H ⟨env, F, ps, po, r, q⟩ => q F σ H r
theorem ms_cons {st : Stmt} {rest : List Stmt} {m n : SEnv → SR} (h1 : MS X G W st m) (h2 : MSs X G W rest n) : MSs X G W (st :: rest) (sSeq m n) := by
  refine (pss_cons h1 h2).imp fun D σ H ⟨env, F, ps, po, r, q⟩ => ⟨env, F, ps, po, r, ?_⟩
  unfold sSeq at q
  cases h : m env with
  | nx e =>
    rw [h] at q
    exact fun F' σ' H' r' => ⟨e, F', ps, po, r', q⟩
  | _ => rw [h] at q; exact q
theorem ms_one {st : Stmt} {m : SEnv → SR} (h1 : MS X G W st m) : MSs X G W [st] m := pss_one h1
theorem ms_pass : MS X G W (.Pass pos) sPass := ps_pass.imp fun D σ H ⟨env, F, ps, po, r, q⟩ => q F σ H r
def sBreak : SEnv → SR := fun env => .bk env
def sCont : SEnv → SR := fun env => .ct env
theorem ms_break : MS X G W (.Break pos) sBreak := ps_break.imp fun D σ H ⟨env, F, ps, po, r, q⟩ => q F σ H r
theorem ms_cont : MS X G W (.Continue pos) sCont := ps_continue.imp fun D σ H ⟨env, F, ps, po, r, q⟩ => q F σ H r
def sRet (m : SEnv → R PyData) : SEnv → SR := fun env => (m env).sbind fun d e => .rt d e
theorem ms_ret (h : ME X G W e m) : MS X G W (.Return (some e) pos) (sRet m) := (ps_ret h).imp fun D σ H ⟨env, F, ps, po, r, q⟩ => tM_s r q fun v d env1 F1 H1 r1 q1 => q1 v F1 σ H1 r1
def sRetN : SEnv → SR := fun env => .rt .none env
theorem ms_retN : MS X G W (.Return none pos) sRetN := ps_retN.imp fun D σ H ⟨env, F, ps, po, r, q⟩ => q _ F σ H (r.push .non)
def sExpr (m : SEnv → R PyData) : SEnv → SR := fun env => (m env).sbind fun _ e => .nx e
theorem ms_expr (h : ME X G W e m) (hs : swapsWith e none pos.line X.env = pure false := by rfl) : MS X G W (.Expr e pos) (sExpr m) := (ps_expr h hs).imp fun D σ H ⟨env, F, ps, po, r, q⟩ => tM_s r q fun v d env1 F1 H1 r1 q1 => q1 F1 σ H1 r1.drop1
def sIf (mt : SEnv → R Bool) (a b : SEnv → SR) : SEnv → SR := fun env => (mt env).sbind fun t e => if t then a e else b e
theorem ms_if {c : Expr} {A B : List Stmt} {mt : SEnv → R Bool} {a b : SEnv → SR} (hc : MT X G W c mt) (ha : MSs X G W A a) (hb : MSs X G W B b) : MS X G W (.If c A B pos) (sIf mt a b) :=
  (ps_if hc ha hb).imp fun D σ H ⟨env, F, ps, po, r, q⟩ => tB_s r q fun t env1 F1 H1 r1 q1 => by
    cases t with
    | true => exact ⟨env1, F1, ps, po, r1, q1⟩
    | false => exact ⟨env1, F1, ps, po, r1, q1⟩
/-- target = value -/
def sAsg (m : SEnv → R PyData) (g : PyData → SEnv → Option SEnv) : SEnv → SR := fun env => (m env).sbind fun d e => match g d e with
  | some e' => .nx e'
  | none => .stuck
theorem asg_imp {tv : List Nat} {g : PyData → SEnv → Option SEnv} : ∀ D σ H, tS G W (sAsg m g) D σ H → tAsg (tM G W m) (tG G tv g) D σ H := fun D σ H ⟨env, F, ps, po, r, q⟩ => tM_s r q fun v d env1 F1 H1 r1 q1 => by
  refine ⟨env1, F1, ps, po, d, r1, ?_⟩
  split at q1
  · rename_i e' h
    rw [h]
    exact fun F' σ' H' _ r' => q1 F' σ' H' r'
  · exact q1.elim
theorem ms_asg {tg : Expr} {tv : List Nat} {g : PyData → SEnv → Option SEnv} (h : ME X G W e m) (hg : MG X G tg tv g) (hs : swapsWithSole [tg] e pos.line X.env = pure false := by rfl) (hw : swappedStores [tg] e X.env = pure none := by rfl)
    (h1 : (assignEach [tg] X.env).map (·.2) = [assign tg X.env] := by rfl) : MS X G W (.Assign [tg] e pos) (sAsg m g) := (ps_asg h hg hs hw h1).imp asg_imp
/-- name = value -/
theorem asgN_imp {i : Nat} : ∀ D σ H, tS G W (sAsg m (fName i)) D σ H → tAsg (tM G W m) (gName i) D σ H := fun D σ H ⟨env, F, ps, po, r, q⟩ => tM_s r q fun v d env1 F1 H1 r1 q1 => by
  split at q1
  · rename_i e' h
    exact q1 F1 _ H1 (fName_s r1 h)
  · exact q1.elim
theorem ms_set (i : Nat) {x : Str} {pos' : Pos} (hN : X.N.Nodup) (h : ME X G W e m) (hi : X.N[i]? = some x := by rfl) (hx : Loc X.env.scope x := by first | exact Or.inl rfl | exact Or.inr rfl) (hs : swapsWith e (some (.Name x pos')) pos.line X.env = pure false := by rfl) (hf : X.fn x = true ∨ X.env.scope.names.lookup x = some .local := by first | exact .inl rfl | exact .inr rfl) :
    MS X G W (.Assign [.Name x pos'] e pos) (sAsg m (fName i)) := (ps_set hN hi hx h hs hf).imp asgN_imp
/-- name = a new object of the def's own -/
def sSetF (i : Nat) (mo : SEnv → R O) : SEnv → SR := fun env => (mo env).sbind fun o e => match e[i]? with
  | some l => if l.isIo then .stuck else .nx (e.set i (.own o))
  | none => .stuck
theorem setF_imp {i : Nat} {mo : SEnv → R O} : ∀ D σ H, tS G W (sSetF i mo) D σ H → tAsg (tF G W mo) (gName i) D σ H := fun D σ H ⟨env, F, ps, po, r, q⟩ => tF_s r q fun a o env1 F1 H1 r1 q1 => by
  split at q1
  · rename_i l h
    split at q1
    · exact q1.elim
    · rename_i hio
      exact q1 F1 _ H1 (r1.setOwn h (by simpa using hio))
  · exact q1.elim
theorem ms_setF (i : Nat) {x : Str} {pos' : Pos} {mo : SEnv → R O} (hN : X.N.Nodup) (h : MF X G W e mo) (hi : X.N[i]? = some x := by rfl) (hx : Loc X.env.scope x := by first | exact Or.inl rfl | exact Or.inr rfl) (hs : swapsWith e (some (.Name x pos')) pos.line X.env = pure false := by rfl) (hf : X.fn x = true ∨ X.env.scope.names.lookup x = some .local := by first | exact .inl rfl | exact .inr rfl) :
    MS X G W (.Assign [.Name x pos'] e pos) (sSetF i mo) := (ps_set hN hi hx h hs hf).imp setF_imp
theorem setFz_imp {i : Nat} {mo : SEnv → R O} : ∀ D σ H, tS G W (sAsg (mFz mo) (fName i)) D σ H → tAsg (tF G W mo) (gName i) D σ H := fun D σ H ⟨env, F, ps, po, r, q⟩ => by
  have q : SSat G W ((mo env).sbind fun o e => match o with
    | .lst ds => (match fName i (.list ds) e with
      | some e' => .nx e'
      | none => .stuck)
    | _ => .stuck) ps po D := by
    have e : sAsg (mFz mo) (fName i) env = ((mo env).sbind fun o e => match o with
    | .lst ds => (match fName i (.list ds) e with
      | some e' => .nx e'
      | none => .stuck)
    | _ => .stuck) := by
      unfold sAsg mFz
      cases mo env with
      | stuck => rfl
      | exc x e => rfl
      | ok o e => cases o <;> rfl
    rw [← e]; exact q
  refine tF_s r q fun a o env1 F1 H1 r1 q1 => ?_
  cases o with
  | lst ds =>
    obtain ⟨F2, r2⟩ := r1.freezeP
    have q1 : SSat G W (match fName i (.list ds) env1 with
      | some e' => .nx e'
      | none => .stuck) ps po D := q1
    split at q1
    · rename_i e' h
      exact q1 F2 _ H1 (fName_s r2 h)
    · exact q1.elim
  | _ => exact q1.elim
section
variable {tg iter elt : Expr} {ifs : List Expr} {scope : Scope} {own : List (Str × Nat)} {tv : List Nat} {mi : SEnv → R (List PyData)} {g : PyData → SEnv → Option SEnv} {mt : SEnv → R Bool} {me : SEnv → R PyData}
/-- name = [..]: a value, or an object of the def's own -/
theorem ps_setLcX (i : Nat) {y : Str} {py cpos : Pos} (hc : X.calm = true) (hN : X.N.Nodup) (hsw : swapsWith (.ListComp elt [⟨tg, iter, ifs, 0⟩] scope cpos) (some (.Name y py)) pos.line X.env = pure true) (hi : MI X G W tg iter mi) (ok : BlkOk X.N X.env.scope scope own)
    (hg : ∀ (s : Shared) (H : Hp) (C : Addr) (cl : List (Str × Addr)) (fp : List Addr), MG (X.blk s H scope (compEnvC scope cl C X.env) fp) G tg tv g)
    (ht : ∀ (s : Shared) (H : Hp) (C : Addr) (cl : List (Str × Addr)) (fp : List Addr), PTs (X.blk s H scope (compEnvC scope cl C X.env) fp) ifs (tB' G W0 mt))
    (he : ∀ (s : Shared) (H : Hp) (C : Addr) (cl : List (Str × Addr)) (fp : List Addr), ME (X.blk s H scope (compEnvC scope cl C X.env) fp) G W0 elt me)
    (htv : ∀ j ∈ tv, j ∈ own.map (·.2) := by decide) (hy : X.N[i]? = some y := by rfl) (hyl : X.env.scope.names.lookup y = some .local := by rfl) (hs : ∀ x, foldedSetIterable iter X.env x = pure x := by intro _; rfl) :
    PS X (.Assign [.Name y py] (.ListComp elt [⟨tg, iter, ifs, 0⟩] scope cpos) pos) (tAsg (tF G W (mLcF (own.map (·.2)) mi g mt me)) (gName i)) :=
  (ps_setLc hc hN hy hyl hsw hi ok hg ht he hs).imp fun D σ H q => lc_imp htv σ H _ q
theorem ms_setLc (i : Nat) {y : Str} {py cpos : Pos} (hc : X.calm = true) (hN : X.N.Nodup) (hsw : swapsWith (.ListComp elt [⟨tg, iter, ifs, 0⟩] scope cpos) (some (.Name y py)) pos.line X.env = pure true) (hi : MI X G W tg iter mi) (ok : BlkOk X.N X.env.scope scope own)
    (hg : ∀ (s : Shared) (H : Hp) (C : Addr) (cl : List (Str × Addr)) (fp : List Addr), MG (X.blk s H scope (compEnvC scope cl C X.env) fp) G tg tv g)
    (ht : ∀ (s : Shared) (H : Hp) (C : Addr) (cl : List (Str × Addr)) (fp : List Addr), PTs (X.blk s H scope (compEnvC scope cl C X.env) fp) ifs (tB' G W0 mt))
    (he : ∀ (s : Shared) (H : Hp) (C : Addr) (cl : List (Str × Addr)) (fp : List Addr), ME (X.blk s H scope (compEnvC scope cl C X.env) fp) G W0 elt me)
    (htv : ∀ j ∈ tv, j ∈ own.map (·.2) := by decide) (hy : X.N[i]? = some y := by rfl) (hyl : X.env.scope.names.lookup y = some .local := by rfl) (hs : ∀ x, foldedSetIterable iter X.env x = pure x := by intro _; rfl) :
    MS X G W (.Assign [.Name y py] (.ListComp elt [⟨tg, iter, ifs, 0⟩] scope cpos) pos) (sAsg (mFz (mLcF (own.map (·.2)) mi g mt me)) (fName i)) :=
  (ps_setLcX i hc hN hsw hi ok hg ht he htv hy hyl hs).imp setFz_imp
theorem ms_setLcO (i : Nat) {y : Str} {py cpos : Pos} (hc : X.calm = true) (hN : X.N.Nodup) (hsw : swapsWith (.ListComp elt [⟨tg, iter, ifs, 0⟩] scope cpos) (some (.Name y py)) pos.line X.env = pure true) (hi : MI X G W tg iter mi) (ok : BlkOk X.N X.env.scope scope own)
    (hg : ∀ (s : Shared) (H : Hp) (C : Addr) (cl : List (Str × Addr)) (fp : List Addr), MG (X.blk s H scope (compEnvC scope cl C X.env) fp) G tg tv g)
    (ht : ∀ (s : Shared) (H : Hp) (C : Addr) (cl : List (Str × Addr)) (fp : List Addr), PTs (X.blk s H scope (compEnvC scope cl C X.env) fp) ifs (tB' G W0 mt))
    (he : ∀ (s : Shared) (H : Hp) (C : Addr) (cl : List (Str × Addr)) (fp : List Addr), ME (X.blk s H scope (compEnvC scope cl C X.env) fp) G W0 elt me)
    (htv : ∀ j ∈ tv, j ∈ own.map (·.2) := by decide) (hy : X.N[i]? = some y := by rfl) (hyl : X.env.scope.names.lookup y = some .local := by rfl) (hs : ∀ x, foldedSetIterable iter X.env x = pure x := by intro _; rfl) :
    MS X G W (.Assign [.Name y py] (.ListComp elt [⟨tg, iter, ifs, 0⟩] scope cpos) pos) (sSetF i (mLcF (own.map (·.2)) mi g mt me)) :=
  (ps_setLcX i hc hN hsw hi ok hg ht he htv hy hyl hs).imp setF_imp
end

/-! ### loops -/
def fLoop (g : PyData → SEnv → Option SEnv) (b : SEnv → SR) : List PyData → SEnv → SR
  | [], env => .nx env
  | d :: ds, env => match g d env with
    | none => .stuck
    | some e => match b e with
      | .nx e2 => fLoop g b ds e2
      | .ct e2 => fLoop g b ds e2
      | .bk e2 => .nx e2
      | r => r
def sFor (mi : SEnv → R (List PyData)) (g : PyData → SEnv → Option SEnv) (b : SEnv → SR) : SEnv → SR := fun env => (mi env).sbind fun ds e => fLoop g b ds e
theorem SSat.lessP {r : SR} {qs : PS0} (h : SSat G W r ps po D) (hq : ∀ p ∈ ps, p ∈ qs) : SSat G W r qs po D := by
  cases r with
  | stuck => exact h
  | nx env => exact fun F' σ' H' r => h F' σ' H' (r.less hq)
  | bk env => exact fun F' σ' H' r => h F' σ' H' (r.less hq)
  | ct env => exact fun F' σ' H' r => h F' σ' H' (r.less hq)
  | rt d env => exact fun v F' σ' H' r => h v F' σ' H' (r.less fun p hp => by
      rcases List.mem_cons.mp hp with e | hp
      · rw [e]; exact List.mem_cons_self
      · exact List.mem_cons_of_mem _ (hq p hp))
  | exc x env => exact fun F' σ' H' dx fvs r => h F' σ' H' dx fvs (r.less hq)
theorem ms_for {tg iter : Expr} {body : List Stmt} {tv : List Nat} {mi : SEnv → R (List PyData)} {g : PyData → SEnv → Option SEnv} {b : SEnv → SR} (hp : PassesOwn (model X.prog X.w) X.A X.env X.xe) (hc : X.calm = true) (hi : MI X G W tg iter mi) (hg : MG X G tg tv g) (hb : MSs X G W body b)
    (hs : ∀ x, foldedSetIterable iter X.env x = pure x := by intro _; rfl) : MS X G W (.For tg iter body [] pos) (sFor mi g b) := by
  refine (ps_for hp hc hi hg hb hs).imp fun D σ H ⟨env, F, ps, po, r, q⟩ => tI_s r q fun J qs ds env1 F1 H1 r1 it q1 => ?_
  refine ⟨fun i m σ H => m = ds.length - i ∧ i ≤ ds.length ∧ ∃ env F, Rel G F env (qs ++ ps) po σ H ∧ SSat G W (fLoop g b (ds.drop i) env) ps po D, ⟨_, rfl, Nat.zero_le _, env1, F1, r1, q1⟩, ?_⟩
  rintro i m σ H ⟨rfl, hi, env, F, r, q⟩
  have hqs : ∀ z ∈ qs, z ∈ qs ++ ps := fun z hz => List.mem_append_left _ hz
  have hps : ∀ z ∈ ps, z ∈ qs ++ ps := fun z hz => List.mem_append_right _ hz
  by_cases hlt : i < ds.length
  · right
    refine ⟨it.goes i _ _ _ _ _ _ hlt r hqs, fun σ H => (i + 1 ≤ ds.length ∧ ∃ env F, Rel G F env (qs ++ ps) po σ H ∧ SSat G W (fLoop g b (ds.drop (i + 1)) env) ps po D), fun σ' H' n => ⟨ds.length - (i + 1), by omega, rfl, n⟩, fun x H' y => ?_⟩
    obtain ⟨F2, d, hd, r3⟩ := it.yields i _ _ _ _ _ _ x H' hlt r hqs y
    have hdrop : ds.drop i = d :: ds.drop (i + 1) := by
      obtain ⟨h1, h2⟩ := List.getElem?_eq_some_iff.mp hd
      rw [List.drop_eq_getElem_cons h1, h2]
    rw [hdrop] at q
    unfold fLoop at q
    refine ⟨_, F2, qs ++ ps, po, d, r3, ?_⟩
    split at q
    · exact q.elim
    · rename_i e1 he1
      try rw [he1]
      intro F3 σ3 H3 _ r4
      refine ⟨e1, F3, qs ++ ps, po, r4, ?_⟩
      split at q
      · rename_i e2 he2
        rw [he2]
        exact fun F' σ' H' r' => ⟨hlt, e2, F', r', q⟩
      · rename_i e2 he2
        rw [he2]
        exact fun F' σ' H' r' => ⟨hlt, e2, F', r', q⟩
      · rename_i e2 he2
        rw [he2]
        exact fun F' σ' H' r' => q F' σ' H' (r'.less hps)
      · rename_i h1 h2 h3
        cases hz : b e1 with
        | nx e => exact absurd hz (h1 e)
        | ct e => exact absurd hz (h2 e)
        | bk e => exact absurd hz (h3 e)
        | stuck => rw [hz] at q; exact q
        | rt d e =>
          rw [hz] at q
          have q' := SSat.lessP q hps
          exact q'
        | exc x e =>
          rw [hz] at q
          exact SSat.lessP q hps
  · have e : i = ds.length := by omega
    subst e
    left
    rw [List.drop_length] at q
    exact ⟨it.stops _ _ _ _ _ _ r hqs, q F σ H (r.less hps)⟩
def wLoop (c : SEnv → R Bool) (b : SEnv → SR) : Nat → SEnv → SR
  | 0, _ => .stuck
  | n + 1, env => (c env).sbind fun t e => if t then (match b e with
    | .nx e2 => wLoop c b n e2
    | .ct e2 => wLoop c b n e2
    | .bk e2 => .nx e2
    | r => r) else .nx e
open Classical in
noncomputable def sWhile (c : SEnv → R Bool) (b : SEnv → SR) : SEnv → SR := fun env => if h : ∃ n, wLoop c b n env ≠ .stuck then wLoop c b (choose h) env else .stuck
theorem wLoop_more {c : SEnv → R Bool} {b : SEnv → SR} : ∀ {n k : Nat} {env : SEnv}, wLoop c b n env ≠ .stuck → n ≤ k → wLoop c b k env = wLoop c b n env
  | 0, _, _, h, _ => absurd rfl h
  | n + 1, 0, _, _, h => absurd h (by omega)
  | n + 1, k + 1, env, h, hk => by
    unfold wLoop at h ⊢
    cases hc : c env with
    | stuck => rfl
    | exc x e => rfl
    | ok t e =>
      rw [hc] at h
      have h : (if t then (match b e with
        | .nx e2 => wLoop c b n e2
        | .ct e2 => wLoop c b n e2
        | .bk e2 => .nx e2
        | r => r) else SR.nx e) ≠ .stuck := h
      show (if t then (match b e with
        | .nx e2 => wLoop c b k e2
        | .ct e2 => wLoop c b k e2
        | .bk e2 => .nx e2
        | r => r) else SR.nx e) = (if t then (match b e with
        | .nx e2 => wLoop c b n e2
        | .ct e2 => wLoop c b n e2
        | .bk e2 => .nx e2
        | r => r) else SR.nx e)
      cases t with
      | false => rfl
      | true =>
        rw [if_pos rfl] at h ⊢
        rw [if_pos rfl]
        cases hb : b e with
        | nx e2 => rw [hb] at h; exact wLoop_more h (by omega)
        | ct e2 => rw [hb] at h; exact wLoop_more h (by omega)
        | _ => rfl
/-- as far as the loop goes at all -/
theorem sWhile_of {c : SEnv → R Bool} {b : SEnv → SR} {n : Nat} {env : SEnv} {r : SR} (h : wLoop c b n env = r) (hr : r ≠ .stuck) : sWhile c b env = r := by
  subst h
  have hx : ∃ n, wLoop c b n env ≠ .stuck := ⟨n, hr⟩
  unfold sWhile
  rw [dif_pos hx]
  have hc := Classical.choose_spec hx
  rcases Nat.le_total n (Classical.choose hx) with hle | hle
  · exact wLoop_more hr hle
  · exact (wLoop_more hc hle).symm
theorem ms_while {c : Expr} {body : List Stmt} {mt : SEnv → R Bool} {b : SEnv → SR} (hp : PassesOwn (model X.prog X.w) X.A X.env X.xe) (hc : MT X G W c mt) (hb : MSs X G W body b) : MS X G W (.While c body [] pos) (sWhile mt b) := by
  refine (ps_while hp hc hb).imp fun D σ H ⟨env, F, ps, po, r, q⟩ => ?_
  unfold sWhile at q
  split at q
  · rename_i hx
    refine ⟨fun m σ H => ∃ env F, Rel G F env ps po σ H ∧ SSat G W (wLoop mt b m env) ps po D, ⟨_, env, F, r, q⟩, ?_⟩
    rintro m σ H ⟨env, F, r, q⟩
    cases m with
    | zero => exact q.elim
    | succ n =>
      unfold wLoop at q
      refine tB_s r q fun t env1 F1 H1 r1 q1 => ?_
      cases t with
      | false => exact q1 F1 σ H1 r1
      | true =>
        rw [if_pos rfl] at q1 ⊢
        refine ⟨fun σ H => ∃ env F, Rel G F env ps po σ H ∧ SSat G W (wLoop mt b n env) ps po D, fun σ' H' z => ⟨n, Nat.lt_succ_self n, z⟩, env1, F1, ps, po, r1, ?_⟩
        cases hz : b env1 with
        | nx e2 => rw [hz] at q1; exact fun F' σ' H' r' => ⟨e2, F', r', q1⟩
        | ct e2 => rw [hz] at q1; exact fun F' σ' H' r' => ⟨e2, F', r', q1⟩
        | bk e2 => rw [hz] at q1; exact q1
        | stuck => rw [hz] at q1; exact q1
        | rt d e => rw [hz] at q1; exact q1
        | exc x e => rw [hz] at q1; exact q1
  · exact q.elim
end
end Bk

set_option linter.all false
set_option maxRecDepth 100000
set_option maxHeartbeats 2000000
namespace Bk
open PySem PySem.Spec PyProof.Rows L2

section
variable {X : Cx} {G : Fm} {W : WX} {pos : Pos} {e : Expr} {es : List Expr} {m : SEnv → R PyData} {ms : List (SEnv → R PyData)}
variable {F H : Hp} {env : SEnv} {ps ps0 : PS0} {po po0 : PO0} {σ σ' : L2.St} {D : Ends}
def putAt (env : SEnv) (j : Nat) (o : O) : SEnv := match env[j]? with
  | some l => env.set j (l.put o)
  | none => env
theorem Rel.writeAt {j : Nat} {o o' : O} {a : Addr} {u : HO} (r : Rel G F env ps po σ H) (h : objOf env j = some o) (ha : σ[j]? = some (some (.ref a))) (hx : OAt G.K G.cad F (upd H a u) a o') :
    Rel G F (putAt env j o') ps po σ (upd H a u) := by
  obtain ⟨l, h1, h2⟩ := objOf_some h
  unfold putAt
  rw [h1]
  exact r.write h1 h2 ha hx

/-! ### lists of a slot: append -/
def isLst : Option O → Bool
  | some (.lst _) => true
  | _ => false
def isDct : Option O → Bool
  | some (.dct _) => true
  | _ => false
def sAppend (j : Nat) (m : SEnv → R PyData) : SEnv → SR := fun env => if isLst (objOf env j) then (m env).sbind fun d e => match objOf e j with
  | some (.lst ds) => if ds.length < 16777216 then .nx (putAt e j (.lst (ds ++ [d]))) else .stuck
  | _ => .stuck
  else .stuck
theorem isLst_some {o : Option O} (h : isLst o = true) : ∃ ds, o = some (.lst ds) := by
  unfold isLst at h
  split at h
  · exact ⟨_, rfl⟩
  · cases h
theorem isDct_some {o : Option O} (h : isDct o = true) : ∃ ds, o = some (.dct ds) := by
  unfold isDct at h
  split at h
  · exact ⟨_, rfl⟩
  · cases h
/-- one value -/
theorem tA_s1 {Q : List V → Hp → Prop} {f : PyData → SEnv → SR} (r : Rel G F env ps po σ H) (h : SSat G W ((m env).sbind f) ps po D)
    (k : ∀ v d env' F' H', Rel G F' env' ((v, d) :: ps) po σ H' → SSat G W (f d env') ps po D → Q [v] H') : tA G W [m] σ H Q := by
  have h' : SSat G W ((mList [m] env).sbind fun ds e => match ds with
      | [d] => f d e
      | _ => .stuck) ps po D := by
    have e : ((mList [m] env).sbind fun ds e => match ds with
      | [d] => f d e
      | _ => .stuck) = (m env).sbind f := by
      show (((m env).bind fun d e => (mList [] e).bind fun ds e2 => .ok (d :: ds) e2).sbind _) = _
      cases m env with
      | stuck => rfl
      | exc x e => rfl
      | ok d e => rfl
    rw [e]; exact h
  refine tA_s r h' fun vs ds env1 F1 H1 hh r1 q1 => ?_
  cases ds with
  | nil => exact q1.elim
  | cons d ds =>
    cases ds with
    | nil =>
      obtain ⟨v, rfl, hdp⟩ := dp1 (r1.zip hh.1)
      exact k v d env1 F1 H1 (r1.unzip.push hdp) q1
    | cons _ _ => exact q1.elim
theorem ms_append (j : Nat) {y : Str} {p1 apos cpos : Pos} (h : ME X G W e m) (hN : X.N[j]? = some y := by rfl) (hv : Vis X.env.scope y := by first | exact Or.inl rfl | exact Or.inr (Or.inl rfl) | exact Or.inr (Or.inr rfl)) (hK : X.K = G.K := by rfl) (hd : (y == ("__debug__" : Str)) = false := by decide)
    (hcd : (y == ("__classdict__" : Str)) = false := by decide) (hbase : attributeBase (.Name y p1) "append" X.env (eval (.Name y p1) X.env) = eval (.Name y p1) X.env := by rfl)
    (hfew : ((backTo cpos (starEach (e :: []) X.env)).all (fun x => !x.1) && (backToKw cpos (keywordEach [] X.env)).all (fun x => x.1.isSome)
      && decide ((e :: ([] : List Expr)).length + ([] : List Keyword).length + (if ([] : List Keyword).isEmpty then 0 else 1) < 30)) = true := by rfl)
    (hline : (apos.endLine == cpos.line) = true := by rfl) (hst : starEach (e :: []) X.env = (false, eval e X.env) :: starEach [] X.env := by rfl) (hplain : (backTo cpos (starEach [] X.env)).any (·.1) = false := by rfl)
    (hs : swapsWith (.Call (.Attribute (.Name y p1) "append" apos) [e] [] cpos) none pos.line X.env = pure false := by rfl) :
    MS X G W (.Expr (.Call (.Attribute (.Name y p1) "append" apos) [e] [] cpos) pos) (sAppend j m) := by
  refine (ps_expr (pe_bm PySem.F.plainAttrs_list PySem.F.slot_list_append PySem.F.type_list_append mt_append (pe_var (i := j) hN hv hd hcd) (ma_cons h ma_nil hst) hbase hfew hline hst hplain) hs).imp fun D σ H ⟨env, F, ps, po, r, q⟩ => ?_
  unfold sAppend at q
  split at q
  · rename_i hs
    obtain ⟨ds0, ho⟩ := isLst_some hs
    obtain ⟨a, ha, hF, xs0, hH0, hD0⟩ := r.at ho
    refine ⟨_, ha, Or.inl ⟨rfl, xs0, SqL.of hH0⟩, ?_⟩
    refine tA_s1 r q fun v d env1 F1 H1 r1 q1 => ?_
    split at q1
    · rename_i ds ho1
      split at q1
      · rename_i hz
        obtain ⟨a', ha', _, xs, hH, hD⟩ := r1.at ho1
        rw [ha] at ha'
        obtain rfl : a = a' := by simpa using ha'
        refine ⟨a, xs, v, rfl, rfl, hH, by rw [dpAll_len hD, sizeLine_eq]; exact hz, ?_⟩
        exact q1 F1 σ _ (r1.drop1.writeAt ho1 ha ⟨_, upd_same, dpAll_app hD (.cons r1.top .nil)⟩)
      · exact q1.elim
    · exact q1.elim
  · exact q.elim

/-! ### fields and entries stored -/
def sFld (c j : Nat) (f : Str) (m : SEnv → R PyData) : SEnv → SR := fun env => (m env).sbind fun d e => match objOf e j with
  | some (.ins c' fs) => if c' = c ∧ fs.length < 1000 then .nx (putAt e j (.ins c (fput f d fs))) else .stuck
  | _ => .stuck
theorem ms_fld (j : Nat) {c : Nat} {y f : Str} {p1 p2 : Pos} (hc : Cls X.K (G.cad c)) (hn : NoAttr X.K (G.cad c) f) (h : ME X G W e m) (hN : X.N[j]? = some y := by rfl) (hv : Vis X.env.scope y := by first | exact Or.inl rfl | exact Or.inr (Or.inl rfl) | exact Or.inr (Or.inr rfl)) (hd : (y == ("__debug__" : Str)) = false := by decide)
    (hcd : (y == ("__classdict__" : Str)) = false := by decide) (hs : swapsWith e (some (.Attribute (.Name y p1) f p2)) pos.line X.env = pure false := by rfl) : MS X G W (.Assign [.Attribute (.Name y p1) f p2] e pos) (sFld c j f m) := by
  refine (ps_fld (pe_var (i := j) hN hv hd hcd) h hs).imp fun D σ H ⟨env, F, ps, po, r, q⟩ => tM_s r q fun v d env1 F1 H1 r1 q1 => ?_
  split at q1
  · rename_i c' fs ho
    split at q1
    · rename_i hcc
      obtain ⟨rfl, hl⟩ := hcc
      obtain ⟨a, ha, hF, dx, fvs, hH, hD⟩ := r1.at ho
      exact ⟨_, ha, a, _, dx, fvs, rfl, hH, hc, hn, by rw [dpk_len hD]; exact hl, q1 F1 σ _ (r1.drop1.writeAt ho ha ⟨dx, _, upd_same, fput_dp r1.top hD⟩)⟩
    · exact q1.elim
  · exact q1.elim
def sFldAug (c j : Nat) (f : Str) (op : PyData → PyData → Option PyData) (m : SEnv → R PyData) : SEnv → SR := fun env => match objOf env j with
  | some (.ins c' fs) => if c' = c then (match fs.lookup f with
    | some d0 => (m env).sbind fun d e => (match op d0 d with
      | some z => (match objOf e j with
        | some (.ins c2 fs2) => if c2 = c ∧ fs2.length < 1000 then .nx (putAt e j (.ins c (fput f z fs2))) else .stuck
        | _ => .stuck)
      | none => .stuck)
    | none => .stuck) else .stuck
  | _ => .stuck
/-- op= by values that lie in F -/
def OpA (G : Fm) (r : V → V → Hp → VK → Prop) (f : PyData → PyData → Option PyData) : Prop :=
  ∀ (F : Hp) (env : SEnv) (ps : PS0) (po : PO0) (σ : L2.St) (H : Hp) (x y : V) (a b d : PyData) (Q : VK), Rel G F env ((y, b) :: (x, a) :: ps) po σ H → f a b = some d →
    (∀ v F' H', Rel G F' env ((v, d) :: ps) po σ H' → Q v H') → r x y H Q
theorem addA : OpA G L2.rAdd (intD (fun _ _ => true) (fun i j => i + j)) := by
  intro F env ps po σ H x y a b d Q r hf q
  unfold intD at hf
  split at hf
  · rw [if_pos rfl] at hf
    cases hf
    exact ⟨_, _, dp_int r.top2, dp_int r.top, q _ F H (r.drop2.push (.int _))⟩
  · cases hf
theorem subA : OpA G L2.rSub (intD (fun _ _ => true) (fun i j => i - j)) := by
  intro F env ps po σ H x y a b d Q r hf q
  unfold intD at hf
  split at hf
  · rw [if_pos rfl] at hf
    cases hf
    exact ⟨_, _, dp_int r.top2, dp_int r.top, q _ F H (r.drop2.push (.int _))⟩
  · cases hf
abbrev iaddD := intD (fun _ _ => true) (fun i j => i + j)
theorem ms_fldAug (j : Nat) {c : Nat} {op : Operator} {rd : V → V → Hp → VK → Prop} {fo : PyData → PyData → Option PyData} {y f : Str} {p1 p2 : Pos} (hop : InOp X op rd) (so : OpA G rd fo) (hc : Cls X.K (G.cad c)) (hn : NoAttr X.K (G.cad c) f) (h : ME X G W e m) (hN : X.N[j]? = some y := by rfl) (hv : Vis X.env.scope y := by first | exact Or.inl rfl | exact Or.inr (Or.inl rfl) | exact Or.inr (Or.inr rfl)) (hd : (y == ("__debug__" : Str)) = false := by decide)
    (hcd : (y == ("__classdict__" : Str)) = false := by decide) : MS X G W (.AugAssign (.Attribute (.Name y p1) f p2) op e pos) (sFldAug c j f fo m) := by
  refine (ps_fldaug (pe_var (i := j) hN hv hd hcd) h hop).imp fun D σ H ⟨env, F, ps, po, r, q⟩ => ?_
  unfold sFldAug at q
  split at q
  · rename_i c' fs ho
    split at q
    · rename_i hcc
      subst hcc
      split at q
      · rename_i d0 hl
        obtain ⟨a, ha, hF, dx, fvs, hH, hD⟩ := r.at ho
        obtain ⟨v0, g1, g2⟩ := lookup_dp hD hl
        refine ⟨_, ha, a, _, dx, fvs, v0, rfl, hH, hc, hn, g1, ?_⟩
        have q := SSat.lessP (qs := (v0, d0) :: ps) q fun p hp => List.mem_cons_of_mem _ hp
        refine tM_s (r.push g2) q fun v d env1 F1 H1 r1 q1 => ?_
        split at q1
        · rename_i z hz
          split at q1
          · rename_i c2 fs2 ho2
            split at q1
            · rename_i hcc
              obtain ⟨rfl, hl2⟩ := hcc
              refine so F1 env1 ((v0, d0) :: ps) po σ H1 v0 v d0 d z _ (r1.less fun p hp => ?_) hz fun v2 F2 H2 r2 => ?_
              · rcases List.mem_cons.mp hp with e | hp
                · rw [e]; exact List.mem_cons_self
                · rcases List.mem_cons.mp hp with e | hp
                  · rw [e]; exact List.mem_cons_of_mem _ List.mem_cons_self
                  · exact List.mem_cons_of_mem _ hp
              · obtain ⟨a2, ha2, _, dx2, fvs2, hH2, hD2⟩ := r2.at ho2
                rw [ha] at ha2
                obtain rfl : a = a2 := by simpa using ha2
                exact ⟨dx2, fvs2, hH2, by rw [dpk_len hD2]; exact hl2, q1 F2 σ _ (r2.drop1.writeAt ho2 ha ⟨dx2, _, upd_same, fput_dp r2.top hD2⟩)⟩
            · exact q1.elim
          · exact q1.elim
        · exact q1.elim
      · exact q.elim
    · exact q.elim
  · exact q.elim
/-- d[k] = v, d the dict of slot j -/
def sDput (j : Nat) (mk mv : SEnv → R PyData) : SEnv → SR := fun env => if isDct (objOf env j) then (mv env).sbind fun d e => (mk e).sbind fun k e2 => match objOf e2 j with
  | some (.dct kvs) => (match keyOf k with
    | some k => if kvs.length < 16777216 then .nx (putAt e2 j (.dct (kput kvs k d))) else .stuck
    | none => .stuck)
  | _ => .stuck
  else .stuck
theorem ms_dput (j : Nat) {i : Expr} {mk : SEnv → R PyData} {y : Str} {p1 p2 : Pos} (hu : X.A.units + 1 < cLine) (hk : ME X G W i mk) (h : ME X G W e m) (hN : X.N[j]? = some y := by rfl) (hv : Vis X.env.scope y := by first | exact Or.inl rfl | exact Or.inr (Or.inl rfl) | exact Or.inr (Or.inr rfl)) (hd : (y == ("__debug__" : Str)) = false := by decide)
    (hcd : (y == ("__classdict__" : Str)) = false := by decide) (hs : swapsWith e (some (.Subscript (.Name y p1) i p2)) pos.line X.env = pure false := by rfl) : MS X G W (.Assign [.Subscript (.Name y p1) i p2] e pos) (sDput j mk m) := by
  refine (ps_dput hu (pe_var (i := j) hN hv hd hcd) hk h hs).imp fun D σ H ⟨env, F, ps, po, r, q⟩ => ?_
  unfold sDput at q
  split at q
  · rename_i hs
    obtain ⟨ds0, ho⟩ := isDct_some hs
    obtain ⟨a, ha, hF, xs0, hH0, hD0⟩ := r.at ho
    refine tM_s r q fun v d env1 F1 H1 r1 q1 => ⟨_, ha, ?_⟩
    have q1 := SSat.lessP (qs := (v, d) :: ps) q1 fun p hp => List.mem_cons_of_mem _ hp
    refine tM_s r1 q1 fun w k env2 F2 H2 r2 q2 => ?_
    split at q2
    · rename_i kvs ho2
      split at q2
      · rename_i k' hk'
        split at q2
        · rename_i hz
          obtain ⟨a2, ha2, _, xs, hH, hD⟩ := r2.at ho2
          rw [ha] at ha2
          obtain rfl : a = a2 := by simpa using ha2
          have ew : w = kV k' := key_dp r2.top hk'
          refine ⟨a, _, rfl, by rw [ew]; exact DPut.k hH (by rw [dpk_len hD, sizeLine_eq]; exact hz), ?_⟩
          exact q2 F2 σ _ (r2.drop1.writeAt ho2 ha ⟨_, upd_same, kput_dp r2.top2 hD⟩)
        · exact q2.elim
      · exact q2.elim
    · exact q2.elim
  · exact q.elim
/-- d[k] op= v -/
def sDaug (j : Nat) (op : PyData → PyData → Option PyData) (mk mv : SEnv → R PyData) : SEnv → SR := fun env => if isDct (objOf env j) then (mk env).sbind fun k e => match objOf e j with
  | some (.dct kvs) => (match keyOf k with
    | some k => (match klook kvs k with
      | some d0 => (mv e).sbind fun d e2 => (match op d0 d with
        | some z => (match objOf e2 j with
          | some (.dct kvs2) => if kvs2.length < 16777216 then .nx (putAt e2 j (.dct (kput kvs2 k z))) else .stuck
          | _ => .stuck)
        | none => .stuck)
      | none => .stuck)
    | none => .stuck)
  | _ => .stuck
  else .stuck
theorem ms_daug (j : Nat) {i : Expr} {op : Operator} {rd : V → V → Hp → VK → Prop} {fo : PyData → PyData → Option PyData} {mk : SEnv → R PyData} {y : Str} {p1 p2 : Pos} (hop : InOp X op rd) (so : OpA G rd fo) (hu : X.A.units + 1 < cLine) (hk : ME X G W i mk) (h : ME X G W e m)
    (has : ∀ ov iv new, augStore i ov iv new = (do holding [new, ov, iv] (setItem ov iv new); release [new, ov, iv] []; pure .next)) (hN : X.N[j]? = some y := by rfl) (hv : Vis X.env.scope y := by first | exact Or.inl rfl | exact Or.inr (Or.inl rfl) | exact Or.inr (Or.inr rfl)) (hd : (y == ("__debug__" : Str)) = false := by decide)
    (hcd : (y == ("__classdict__" : Str)) = false := by decide) : MS X G W (.AugAssign (.Subscript (.Name y p1) i p2) op e pos) (sDaug j fo mk m) := by
  refine (ps_daug hu (pe_var (i := j) hN hv hd hcd) hk h hop has).imp fun D σ H ⟨env, F, ps, po, r, q⟩ => ?_
  unfold sDaug at q
  split at q
  · rename_i hs
    obtain ⟨ds0, ho⟩ := isDct_some hs
    obtain ⟨a, ha, hF, xs0, hH0, hD0⟩ := r.at ho
    refine ⟨_, ha, tM_s r q fun w k env1 F1 H1 r1 q1 => ?_⟩
    split at q1
    · rename_i kvs ho1
      split at q1
      · rename_i k' hk'
        split at q1
        · rename_i d0 hd0
          obtain ⟨a1, ha1, _, xs, hH, hD⟩ := r1.at ho1
          rw [ha] at ha1
          obtain rfl : a = a1 := by simpa using ha1
          obtain ⟨v0, g1, g2⟩ := (klook_dp (k := k') hD).1 _ hd0
          have ew : w = kV k' := key_dp r1.top hk'
          refine ⟨a, v0, rfl, by rw [ew, ← g1]; exact DGet.k hH, ?_⟩
          have q1 := SSat.lessP (qs := (v0, d0) :: ps) q1 fun p hp => List.mem_cons_of_mem _ hp
          refine tM_s (r1.drop1.push g2) q1 fun v d env2 F2 H2 r2 q2 => ?_
          split at q2
          · rename_i z hz
            split at q2
            · rename_i kvs2 ho2
              split at q2
              · rename_i hl
                refine so F2 env2 ((v0, d0) :: ps) po σ H2 v0 v d0 d z _ (r2.less fun p hp => ?_) hz fun v3 F3 H3 r3 => ?_
                · rcases List.mem_cons.mp hp with e | hp
                  · rw [e]; exact List.mem_cons_self
                  · rcases List.mem_cons.mp hp with e | hp
                    · rw [e]; exact List.mem_cons_of_mem _ List.mem_cons_self
                    · exact List.mem_cons_of_mem _ hp
                · obtain ⟨a2, ha2, _, xs2, hH2, hD2⟩ := r3.at ho2
                  rw [ha] at ha2
                  obtain rfl : a = a2 := by simpa using ha2
                  refine ⟨_, by rw [ew]; exact DPut.k hH2 (by rw [dpk_len hD2, sizeLine_eq]; exact hl), ?_⟩
                  exact q2 F3 σ _ (r3.drop1.writeAt ho2 ha ⟨_, upd_same, kput_dp r3.top hD2⟩)
              · exact q2.elim
            · exact q2.elim
          · exact q2.elim
        · exact q1.elim
      · exact q1.elim
    · exact q1.elim
  · exact q.elim
/-- x op= e -/
def sAug (i : Nat) (op : PyData → PyData → Option PyData) (m : SEnv → R PyData) : SEnv → SR := fun env => match env[i]? with
  | some (.val d0) => (m env).sbind fun d e => (match op d0 d with
    | some z => (match fName i z e with
      | some e' => .nx e'
      | none => .stuck)
    | none => .stuck)
  | _ => .stuck
theorem ms_aug (i : Nat) {op : Operator} {ti : TIp} {fo : PyData → PyData → Option PyData} {y : Str} {p1 : Pos} (hN : X.N.Nodup) (hop : PIp X op ti) (so : OpA G ti fo) (h : ME X G W e m) (hi : X.N[i]? = some y := by rfl) (hx : Loc X.env.scope y := by first | exact Or.inl rfl | exact Or.inr rfl) (hf : X.fn y = true ∨ X.env.scope.names.lookup y = some .local := by first | exact .inl rfl | exact .inr rfl) :
    MS X G W (.AugAssign (.Name y p1) op e pos) (sAug i fo m) := by
  refine (ps_aug hN hi hx h hop hf).imp fun D σ H ⟨env, F, ps, po, r, q⟩ => ?_
  unfold sAug at q
  split at q
  · rename_i d0 h0
    obtain ⟨ov, h1, v0, rfl, g2⟩ := r.slot i _ h0
    have q := SSat.lessP (qs := (v0, d0) :: ps) q fun p hp => List.mem_cons_of_mem _ hp
    refine ⟨v0, h1, tM_s (r.push g2) q fun v d env1 F1 H1 r1 q1 => ?_⟩
    split at q1
    · rename_i z hz
      split at q1
      · rename_i e' he
        refine so F1 env1 ((v0, d0) :: ps) po σ H1 v0 v d0 d z _ (r1.less fun p hp => ?_) hz fun v2 F2 H2 r2 => q1 F2 _ H2 (fName_s r2 he)
        rcases List.mem_cons.mp hp with e | hp
        · rw [e]; exact List.mem_cons_self
        · rcases List.mem_cons.mp hp with e | hp
          · rw [e]; exact List.mem_cons_of_mem _ List.mem_cons_self
          · exact List.mem_cons_of_mem _ hp
      · exact q1.elim
    · exact q1.elim
  · exact q.elim
theorem ipaddA : OpA G (ipI fun i j => i + j) iaddD := by
  intro F env ps po σ H x y a b d Q r hf q
  unfold iaddD intD at hf
  split at hf
  · rw [if_pos rfl] at hf
    cases hf
    exact ⟨_, _, dp_int r.top2, dp_int r.top, q _ F H (r.drop2.push (.int _))⟩
  · cases hf
/-- {'a': .., ..}: a dict of the def's own, with written keys -/
def mPairs : List ((SEnv → R PyData) × (SEnv → R PyData)) → SEnv → R (List (PyData × PyData))
  | [], env => .ok [] env
  | (k, v) :: r, env => (k env).bind fun a e => (v e).bind fun b e2 => (mPairs r e2).bind fun l e3 => .ok ((a, b) :: l) e3
def keysOf : List (PyData × PyData) → Option (List (Key × PyData))
  | [] => some []
  | (a, b) :: r => (keyOf a).bind fun k => (keysOf r).map fun l => (k, b) :: l
def mDct (ps : List ((SEnv → R PyData) × (SEnv → R PyData))) : SEnv → R O := fun env => (mPairs ps env).bind fun l e => match keysOf l with
  | some kvs => if kvs.length ≤ 15 then .ok (.dct (kvs.foldl (fun acc kv => kput acc kv.1 kv.2) [])) e else .stuck
  | none => .stuck
theorem foldk_dp {K : PySem.W.Frag} {H : Hp} : ∀ {vs : List (Key × V)} {ds : List (Key × PyData)} {as : List (Key × V)} {bs : List (Key × PyData)}, DpK K H vs ds → DpK K H as bs →
    DpK K H (vs.foldl (fun acc kv => putK acc kv.1 kv.2) as) (ds.foldl (fun acc kv => kput acc kv.1 kv.2) bs)
  | _, _, _, _, .nil, h => h
  | (g, x) :: vs, (g', y) :: ds, _, _, .cons q t, h => by
    obtain ⟨q1, q2⟩ := q
    simp only at q1 q2
    subst q1
    exact foldk_dp (vs := vs) (ds := ds) t (kput_dp q2 h)
def tPr (G : Fm) (W : WX) (mp : List ((SEnv → R PyData) × (SEnv → R PyData))) : List (TE × TE) := mp.map fun p => (tM G W p.1, tM G W p.2)
theorem mpps_nil {p : Pos} : PPs X p [] [] (tPr G W []) := pps_nil
theorem mpps_cons {p : Pos} {k v : Expr} {ks : List (Option Expr)} {vs : List Expr} {mk mv : SEnv → R PyData} {r : List ((SEnv → R PyData) × (SEnv → R PyData))} (hk : ME X G W k mk) (hv : ME X G W v mv) (hr : PPs X p ks vs (tPr G W r)) : PPs X p (some k :: ks) (v :: vs) (tPr G W ((mk, mv) :: r)) := pps_cons hk hv hr
theorem pairs_imp : ∀ {mp : List ((SEnv → R PyData) × (SEnv → R PyData))} {F H : Hp} {env : SEnv} {ps ps0 : PS0} {po po0 : PO0} {f : List (PyData × PyData) → SEnv → R O} {Q : VK} {Q' : List (V × V) → Hp → Prop}, Rel G F env ps po σ H → Ends2 ps0 ps po0 po → OSat G W ((mPairs mp env).bind f) ps0 po0 σ Q →
    (∀ (vs : List (V × V)) l env' F' H', (∃ qs, Rel G F' env' (qs ++ ps) po σ H') → Paired (fun (p : V × V) (q : PyData × PyData) => Dp G.K F' p.1 q.1 ∧ Dp G.K F' p.2 q.2) vs l → OSat G W (f l env') ps0 po0 σ Q → Q' vs H') → tPairs (tPr G W mp) σ H Q'
  | [], F, H, env, ps, _, po, _, f, Q, Q', r, en, q, k => k [] [] env F H ⟨[], r⟩ .nil q
  | (mk, mv) :: mp, F, H, env, ps, ps0, po, po0, f, Q, Q', r, en, q, k => by
    show tM G W mk σ H fun x H1 => tM G W mv σ H1 fun y H2 => tPairs (tPr G W mp) σ H2 fun ps H3 => Q' ((x, y) :: ps) H3
    have q : OSat G W (((mk env).bind fun a e => (mv e).bind fun b e2 => (mPairs mp e2).bind fun l e3 => .ok ((a, b) :: l) e3).bind f) ps0 po0 σ Q := q
    refine ⟨env, F, ps, po, r, ?_⟩
    cases h1 : mk env with
    | stuck => rw [h1] at q; exact q.elim
    | exc x e => rw [h1] at q; exact XWant.more en q
    | ok a e1 =>
      rw [h1] at q
      intro x F1 H1 r1
      have q : OSat G W (((mv e1).bind fun b e2 => (mPairs mp e2).bind fun l e3 => .ok ((a, b) :: l) e3).bind f) ps0 po0 σ Q := q
      refine ⟨e1, F1, (x, a) :: ps, po, r1, ?_⟩
      cases h2 : mv e1 with
      | stuck => rw [h2] at q; exact q.elim
      | exc x e => rw [h2] at q; exact XWant.more en.val q
      | ok b e2 =>
        rw [h2] at q
        intro y F2 H2 r2
        have q : OSat G W (((mPairs mp e2).bind fun l e3 => .ok ((a, b) :: l) e3).bind f) ps0 po0 σ Q := q
        have q : OSat G W ((mPairs mp e2).bind fun l e3 => f ((a, b) :: l) e3) ps0 po0 σ Q := by
          have e : (((mPairs mp e2).bind fun l e3 => .ok ((a, b) :: l) e3).bind f) = ((mPairs mp e2).bind fun l e3 => f ((a, b) :: l) e3) := by cases mPairs mp e2 <;> rfl
          rw [← e]; exact q
        refine pairs_imp r2 en.val.val q fun vs l env' F' H' ⟨qs, r'⟩ hp q' => k ((x, y) :: vs) ((a, b) :: l) env' F' H' ⟨qs ++ [(y, b), (x, a)], by simpa using r'⟩ (.cons ⟨?_, ?_⟩ hp) q'
        · exact r'.pend (x, a) (by simp)
        · exact r'.pend (y, b) (by simp)
theorem keys_dp {K : PySem.W.Frag} {H : Hp} : ∀ {vs : List (V × V)} {l : List (PyData × PyData)} {kvs : List (Key × PyData)}, Paired (fun (p : V × V) (q : PyData × PyData) => Dp K H p.1 q.1 ∧ Dp K H p.2 q.2) vs l → keysOf l = some kvs →
    ∃ ks : List (Key × V), vs = ks.map (fun kv => (kV kv.1, kv.2)) ∧ DpK K H ks kvs
  | _, _, _, .nil, e => by cases e; exact ⟨[], rfl, .nil⟩
  | (x, y) :: vs, (a, b) :: l, kvs, .cons q t, e => by
    have e : ((keyOf a).bind fun k => (keysOf l).map fun l => (k, b) :: l) = some kvs := e
    cases hk : keyOf a with
    | none => rw [hk] at e; cases e
    | some k =>
      rw [hk] at e
      have e : ((keysOf l).map fun l => (k, b) :: l) = some kvs := e
      cases hl : keysOf l with
      | none => rw [hl] at e; cases e
      | some r =>
        rw [hl] at e
        cases e
        obtain ⟨ks, h1, h2⟩ := keys_dp t hl
        exact ⟨(k, y) :: ks, by rw [List.map_cons, ← h1, ← key_dp q.1 hk], .cons ⟨rfl, q.2⟩ h2⟩
theorem mf_dct {keys : List (Option Expr)} {values : List Expr} {mp : List ((SEnv → R PyData) × (SEnv → R PyData))} (h : PPs X pos keys values (tPr G W mp)) (hall : keys.all (·.isSome) = true := by rfl) (hl : keys.length = values.length := by rfl) (h0 : keys ≠ [] := by exact fun z => by cases z)
    (h15 : keys.length ≤ 15 := by decide) : MF X G W (.Dict keys values pos) (mDct mp) := by
  refine (pe_disp h hall hl h0 h15).imp fun σ H Q ⟨env, F, ps, po, r, q⟩ => ?_
  intro p hp
  have g : Rel G F env ps ((p, .dct []) :: po) σ (upd H p (.dK [])) := r.pushO hp ⟨[], upd_same, .nil⟩
  refine pairs_imp g Ends2.refl.obj q fun vs l env' F' H' ⟨qs, r'⟩ hpr q' => ?_
  obtain ⟨y1, y2, xs, y3, y4⟩ := r'.pobj _ List.mem_cons_self
  cases y4
  split at q'
  · rename_i kvs hk
    split at q'
    · rename_i hz
      obtain ⟨ks, rfl, hd⟩ := keys_dp hpr hk
      refine ⟨y3, ks, rfl, by rw [dpk_len hd]; exact hz, ?_⟩
      exact q' p F' _ ((r'.less fun z hz => List.mem_append_right _ hz).writeP ⟨_, upd_same, foldk_dp hd .nil⟩)
    · exact q'.elim
  · exact q'.elim
end
end Bk

set_option linter.all false
set_option maxRecDepth 100000
set_option maxHeartbeats 4000000
namespace PySem.W
open PySem PySem.Spec PyProof.Rows
section
variable {prog : Program} {w : World} {A : Around} {E : Value → Shared → Prop} {s : Shared} {K : Frag} {x D : Addr} {ox : Obj} {od : Option Obj}
theorem bk_findData {C : Addr} {name : Str} {a g : Value} (hc : (clsIn K C).isSome = true) (ha : findIn K (.ref C) name = some (some a)) (hg : specialIn K a "__get__" = some (some g)) (ht : takesIn K a = some true) : findObj K C od name = some (.bind g a) := by
  obtain ⟨cd, hc⟩ := Option.isSome_iff_exists.mp hc
  unfold findObj
  rw [hc, Option.bind_some, ha, Option.bind_some]
  simp [hg, ht]
theorem bk_classE {Q : Option Value → Shared → Prop} (hga : findIn K (.ref D) "__getattribute__" = some (some (.builtin "BaseException.__getattribute__"))) (hgt : findIn K (.ref D) "__getattr__" = some none) (hsub : subIn K (.ref D) (.type "BaseException") = some true)
    (hdct : hasDictIn K D = true) (ha : findIn K (.ref D) "__class__" = some (some (.builtin "object.__class__")))
    (hn : specialIn K (.builtin "object.__class__") "__get__" = some (some (.builtin "getset_descriptor.__get__"))) (htk : takesIn K (.builtin "object.__class__") = some true) (hm : mroIn K D (.type "object") = some true)
    (X : K.In s.heap) (I : InstAt s.heap x ox D od) (h : Q (some (.ref D)) { s with toks := s.toks + 1 }) : wpAny (model prog w) A (getAttr? (.ref x) "__class__") Q E s := by
  have hf : findObj K D od "__class__" = some (.bind (.builtin "getset_descriptor.__get__") (.builtin "object.__class__")) := bk_findData (by obtain ⟨cd, hc, _⟩ := any_some hdct; rw [hc]; rfl) ha hn htk
  obtain ⟨hp, g, d, t, os⟩ := s
  have L0 := I.type (M := model prog w)
  have L1 := looks_findIn (M := model prog w) X hga
  have L2 := looks_findIn (M := model prog w) X hgt
  have L3 := looks_find (M := model prog w) X I hf
  have sub : Looks (model prog w) hp (isInstance (.ref x) (.type "BaseException")) true := L0.andThen (looks_subIn X hsub)
  have hx0 : (false && onTheHeap (Value.builtin "BaseException.__getattribute__")) = false := rfl
  have hx2 : (Value.builtin "BaseException.__getattribute__" == Value.builtin "object.__getattribute__") = false := by decide +kernel
  have hx1 : (onTheHeap (Value.ref D) && Value.builtin "BaseException.__getattribute__" == Value.builtin "object.__getattribute__") = false := by rw [hx2]; rfl
  unfold getAttr? getAttrBy? getAttrBy
  refine wpAny_bind (wpAny_mkText (wpAny_bind (wpAny_attempt (wpAny_holding (wpAny_bind (L0.at (wpAny_bind (L1.at ?_))))))))
  show wpAny _ _ (if (onTheHeap (Value.ref D) && Value.builtin "BaseException.__getattribute__" == Value.builtin "object.__getattribute__") = true then _ else _) _ _ _
  rw [hx1, if_neg Bool.false_ne_true]
  unfold getAttrByItsOwn hookBefore
  refine wpAny_bind ?_
  rw [if_pos (show onTheHeap (Value.ref D) = true from rfl)]
  refine L2.at ?_
  refine wpAny_bind (wpAny_attempt (wpAny_holding ?_))
  unfold callGetattribute
  rw [hx0, if_neg Bool.false_ne_true]
  unfold boundAndCalled
  rw [PySem.F.excAttr_ValueError.ga.bind (.ref x)]
  refine wpAny_bind (wpAny_pure ?_)
  show wpAny _ _ (call (.builtin "BaseException.__getattribute__") [.ref x, .str "__class__" t]) _ _ _
  refine wpAny_call (codeAny_call_builtin PySem.F.excAttr_ValueError.ga.plain PySem.F.entry_bexc_ga ?_)
  refine @check_slot (model prog w) _ _ ⟨hp, g, d, t + 1, os⟩ "BaseException.__getattribute__" "BaseException" "__getattribute__" (.ref x) [.str "__class__" t] [] _ (by decide +kernel) (by decide +kernel) sub (PySem.F.args_bexc_ga (.ref x) (.str "__class__" t)) ?_
  unfold Builtin.«object.__getattribute__»
  refine wpAny_bind (wpAny_of_eq (a := ((Value.ref x : Value), [Value.str "__class__" t])) (by first | rfl | (simp only [slotArgs]; rfl)) ?_)
  refine wpAny_bind (wpAny_pure (wpAny_bind (L0.at (wpAny_bind (L3.at ?_)))))
  show wpAny _ _ (holding [Value.builtin "object.__class__"] (call (.builtin "getset_descriptor.__get__") [.builtin "object.__class__", .ref x, .ref D]) >>= ret) _ _ _
  refine wpAny_bind (wpAny_holding (wpAny_call (class_get (s := ⟨hp, g, d, t + 1, os⟩) (ox := ox) (od := od) X I hm ?_)))
  refine wpAny_pure ?_
  show wpAny _ _ (handedOut (.ref D)) _ _ _
  rw [handedOut_of (v := .ref D) rfl]
  first
    | exact wpAny_pure (wpAny_pure h)
    | exact wpAny_pure h
    | exact wpAny_pure (wpAny_bind (wpAny_pure (wpAny_pure h)))
theorem bk_kitx (hga : findIn K (.ref D) "__getattribute__" = some (some (.builtin "BaseException.__getattribute__"))) (hgt : findIn K (.ref D) "__getattr__" = some none) (hsub : subIn K (.ref D) (.type "BaseException") = some true) (hdct : hasDictIn K D = true) (ha : findIn K (.ref D) "__class__" = some (some (.builtin "object.__class__")))
    (hn : specialIn K (.builtin "object.__class__") "__get__" = some (some (.builtin "getset_descriptor.__get__"))) (htk : takesIn K (.builtin "object.__class__") = some true) (hm : mroIn K D (.type "object") = some true) :
    KitX K (.ref x) (.ref D) (fun h => InstAt h x ox D od) where
  ty := fun _ _ _ I => I.type
  it := fun _ _ X _ => by
    obtain ⟨cdD, hcD, _⟩ := any_some hdct
    unfold clsIn at hcD
    split at hcD
    · rename_i c' d' cd' sl' ho
      intro A' Q' E' s' k q
      unfold isType loadHead
      exact wpAny_bind (wpAny_loadPart (k _ _ (X _ _ ho)) (wpAny_pure q))
    · cases hcD
  ne := fun h tp dd its n sl X htp => by
    obtain ⟨cdD, hcD, _⟩ := any_some hdct
    refine Bool.eq_false_iff.mpr fun q => ?_
    have e : D = tp := Value.ref.inj (beq_iff_eq.mp q)
    subst e
    unfold clsIn at hcD
    split at hcD
    · rename_i c' d' cd' sl' ho
      have z := (X _ _ ho).symm.trans htp
      cases z
    · cases hcD
  ca := fun X I k => bk_classE hga hgt hsub hdct ha hn htk hm X I k
end
end PySem.W
namespace Bk
open PySem PySem.Spec PyProof.Rows L2

/-! ### within an except suite -/
/-- e's value there: a field of the exception, or what is reckoned of such -/
def xOk (d : PyData) : Prop := True
/-- the exception x is in hand: at a, its dict at dx -/
structure XAt (G : Fm) (cs : List Nat) (i : Nat) (a dx : Addr) (x : Ex) (F : Hp) (σ : L2.St) (H : Hp) : Prop where
  mem : x.c ∈ cs
  slot : σ[i]? = some (some (.ref a))
  same : Same F H
  at_ : ∃ fvs, H dx = some (.xd fvs) ∧ DpK G.K F fvs x.fs
def tX (G : Fm) (cs : List Nat) (i : Nat) (a : Addr) (cls : Value) (d : Option Addr) (f : Ex → Option PyData) : TE := fun σ H Q => ∃ x F dx, cls = .ref (G.cad x.c) ∧ d = some dx ∧ XAt G cs i a dx x F σ H ∧ match f x with
  | none => False
  | some z => ∀ v, Dp G.K F v z → Q v H
structure XCls (K : PySem.W.Frag) (C : Addr) : Prop where
  hg : PySem.W.findIn K (.ref C) "__getattribute__" = some (some (.builtin "BaseException.__getattribute__"))
  hk : PySem.W.findIn K (.ref C) "__getattr__" = some none
  hs : PySem.W.subIn K (.ref C) (.type "BaseException") = some true
  hd : PySem.W.hasDictIn K C = true
  ha : PySem.W.findIn K (.ref C) "__class__" = some (some (.builtin "object.__class__"))
  hn : PySem.W.specialIn K (.builtin "object.__class__") "__get__" = some (some (.builtin "getset_descriptor.__get__"))
  ht : PySem.W.takesIn K (.builtin "object.__class__") = some true
  hm : PySem.W.mroIn K C (.type "object") = some true
section
variable {X : Cx} {G : Fm} {W : WX} {pos : Pos} {a : Addr} {oe : Obj} {pn : List (Addr × Obj)} {cls : Value} {d : Option Addr} {cs : List Nat} {i : Nat} {e : Expr} {es : List Expr}
abbrev MX (X : Cx) (G : Fm) (a : Addr) (oe : Obj) (pn : List (Addr × Obj)) (cls : Value) (d : Option Addr) (cs : List Nat) (i : Nat) (e : Expr) (f : Ex → Option PyData) : Prop := PE (X.suite a ((a, oe) :: pn)) e (tX G cs i a cls d f)
def xC (d : PyData) : Ex → Option PyData := fun _ => some d
theorem mx_c {v : V} {z : PyData} (h : PE (X.suite a ((a, oe) :: pn)) e (tC v)) (hd : ∀ H, Dp G.K H v z) : MX X G a oe pn cls d cs i e (xC z) := h.imp fun σ H Q ⟨x, F, dx, _, _, _, q⟩ => q v (hd F)
theorem mx_neg {f : Int} (h : MX X G a oe pn cls d cs i e (xC (.int f))) : MX X G a oe pn cls d cs i (.UnaryOp .USub e pos) (xC (.int (-f))) :=
  (pe_un (X := X.suite a ((a, oe) :: pn)) un_neg h).imp fun σ H Q ⟨x, F, dx, h1, h2, h3, q⟩ => ⟨x, F, dx, h1, h2, h3, fun v hv => ⟨f, dp_int hv, q _ (.int _)⟩⟩
def xFld (f : Str) : Ex → Option PyData := fun x => x.fs.lookup f
theorem mx_fld {y f : Str} {p1 : Pos} (hz : Zc cls d oe) (hf : ∃ vs, oe.data = .fields vs) (T : ∀ c ∈ cs, XCls X.K (G.cad c) ∧ PySem.W.findIn X.K (.ref (G.cad c)) f = some none) (hN : X.N[i]? = some y := by rfl) (hv : Vis X.env.scope y := by first | exact Or.inl rfl | exact Or.inr (Or.inl rfl) | exact Or.inr (Or.inr rfl)) (hd : (y == ("__debug__" : Str)) = false := by decide)
    (hcd : (y == ("__classdict__" : Str)) = false := by decide) (hb : attributeBase (.Name y p1) f X.env (eval (.Name y p1) X.env) = eval (.Name y p1) X.env := by rfl) : MX X G a oe pn cls d cs i (.Attribute (.Name y p1) f pos) (xFld f) := by
  refine ⟨fun pins s σ H Q I ⟨x, F, dx, hc, hdx, xa, q⟩ => ?_⟩
  obtain ⟨T1, T2⟩ := T x.c xa.mem
  have TX : XfC X.K (G.cad x.c) := ⟨T1.hg, T1.hk, T1.hs, T1.hd⟩
  refine (pe_xf (pos := pos) TX T2 hz hf (pe_var (X := X.suite a ((a, oe) :: pn)) (i := i) hN hv hd hcd) hb).run pins s σ H Q I ?_
  obtain ⟨fvs, h1, h2⟩ := xa.at_
  unfold xFld at q
  split at q
  · exact q.elim
  · rename_i z hz
    obtain ⟨v, g1, g2⟩ := lookup_dp h2 hz
    exact ⟨_, xa.slot, rfl, hc, dx, fvs, v, hdx, h1, g1, q v g2⟩
def xIsi (g : Nat → Bool) : Ex → Option PyData := fun x => some (.bool (g x.c))
theorem mx_isi {y cn : Str} {p1 p2 p3 : Pos} {C : Addr} {g : Nat → Bool} (hz : Zc cls d oe) (hf : ∃ vs, oe.data = .fields vs) (T : ∀ c ∈ cs, XCls X.K (G.cad c) ∧ PySem.W.kitOne X.K (.ref (G.cad c)) (.ref C) = some (g c)) (hm : X.mg "isinstance" = none) (hmC : X.mg cn = some (.ref C)) (hN : X.N[i]? = some y := by rfl) (hv : Vis X.env.scope y := by first | exact Or.inl rfl | exact Or.inr (Or.inl rfl) | exact Or.inr (Or.inr rfl)) (hd : (y == ("__debug__" : Str)) = false := by decide)
    (hcd : (y == ("__classdict__" : Str)) = false := by decide) (hg : Gl X "isinstance" := by rfl) (hgC : Gl X cn := by rfl) (hdC : (cn == ("__debug__" : Str)) = false := by decide)
    (h2 : starEach (.Name cn p3 :: []) X.env = (false, eval (.Name cn p3) X.env) :: starEach [] X.env := by rfl) (he : starEach (.Name y p2 :: [.Name cn p3]) X.env = (false, eval (.Name y p2) X.env) :: starEach [.Name cn p3] X.env := by rfl) (hpl : (backTo pos (starEach [.Name cn p3] X.env)).any (·.1) = false := by rfl) :
    MX X G a oe pn cls d cs i (.Call (.Name "isinstance" p1) [.Name y p2, .Name cn p3] [] pos) (xIsi g) := by
  refine ⟨fun pins s σ H Q I ⟨x, F, dx, hc, hdx, xa, q⟩ => ?_⟩
  obtain ⟨T1, T2⟩ := T x.c xa.mem
  subst hc
  subst hdx
  have hcall : CallR (X.suite a ((a, oe) :: pn)) (.builtin "isinstance") (fun xs H Q => xs = [.ref a, .ref C] ∧ (∃ fvs, H dx = some (.xd fvs)) ∧ Q (.bl (g x.c)) H) := by
    intro pins s σ H xs us Q I r h
    obtain ⟨rfl, ⟨fvs, hx⟩, q⟩ := h
    cases r with
    | cons rx rr =>
      cases rr with
      | cons rt rr =>
        cases rr
        cases rx
        cases rt
        obtain ⟨hget, _⟩ := I.pin (a, oe) (List.mem_append.mpr (.inl List.mem_cons_self))
        obtain ⟨vs, hv⟩ := hf
        have ho : ObjOk X.prog X.w H s.heap dx (.xd fvs) := I.hok dx _ hx
        obtain ⟨mA, hns, hr⟩ := ho
        obtain ⟨od, hod, _⟩ := lookIn_ns hns
        have J : PySem.W.InstAt s.heap a oe (G.cad x.c) (some od) := ⟨hget, hz.1, by unfold PySem.W.notCls; rw [hv] <;> rfl, by rw [hz.2]; exact hod⟩
        exact PySem.W.kia_one (PySem.W.bk_kitx T1.hg T1.hk T1.hs T1.hd T1.ha T1.hn T1.ht T1.hm) I.kIn J T2 (fun z => nomatch z) fun tk => ⟨.bl _, H, I.kept (t' := tk) fun _ _ z => z, rfl, q⟩
  refine (pe_callB (X := X.suite a ((a, oe) :: pn)) (pos := pos) hcall hg hm (by decide +kernel) (pa_cons (pe_var (X := X.suite a ((a, oe) :: pn)) (i := i) hN hv hd hcd) (pa_cons (pe_glob (v := .ref C) hgC hmC rfl hdC) pa_nil h2) he) (by decide) (by decide) he hpl).run pins s σ H Q I ?_
  obtain ⟨fvs, h1, h2⟩ := xa.at_
  exact ⟨_, xa.slot, rfl, ⟨fvs, h1⟩, q _ (.bl _)⟩
def xIf (t f g : Ex → Option PyData) : Ex → Option PyData := fun x => match t x with
  | some (.bool true) => f x
  | some (.bool false) => g x
  | _ => none
theorem mx_if {c b e : Expr} {t f g : Ex → Option PyData} (hc : MX X G a oe pn cls d cs i c t) (hf : MX X G a oe pn cls d cs i b f) (hg : MX X G a oe pn cls d cs i e g) (he : ∀ whole, isTrue c X.env whole = (do let v ← whole; standAt c.pos; holding [v] (truthy v)) := by intro _; rfl) : MX X G a oe pn cls d cs i (.IfExp c b e pos) (xIf t f g) := by
  refine (pe_ifExp (pt_val hc he) hf hg).imp fun σ H Q ⟨x, F, dx, h1, h2, h3, q⟩ => ?_
  refine ⟨x, F, dx, h1, h2, h3, ?_⟩
  unfold xIf at q
  cases ht : t x with
  | none => rw [ht] at q; exact q.elim
  | some z =>
    rw [ht] at q
    cases z with
    | bool k =>
      intro v hv
      refine ⟨k, dp_bool hv, ?_⟩
      cases k with
      | true => exact ⟨x, F, dx, h1, h2, h3, q⟩
      | false => exact ⟨x, F, dx, h1, h2, h3, q⟩
    | _ => exact q.elim
def xAnd (f g : Ex → Option PyData) : Ex → Option PyData := fun x => match f x with
  | some (.bool true) => g x
  | some (.bool false) => some (.bool false)
  | _ => none
theorem mx_one {op} {b : Expr} {f : Ex → Option PyData} (h : MX X G a oe pn cls d cs i b f) : MX X G a oe pn cls d cs i (.BoolOp op [b] pos) f := pe_one h
theorem mx_and {b c : Expr} {rest : List Expr} {f g : Ex → Option PyData} (hf : MX X G a oe pn cls d cs i b f) (hg : MX X G a oe pn cls d cs i (.BoolOp .And (c :: rest) pos) g) : MX X G a oe pn cls d cs i (.BoolOp .And (b :: c :: rest) pos) (xAnd f g) := by
  refine (pe_and hf hg).imp fun σ H Q ⟨x, F, dx, h1, h2, h3, q⟩ => ?_
  refine ⟨x, F, dx, h1, h2, h3, ?_⟩
  unfold xAnd at q
  cases ht : f x with
  | none => rw [ht] at q; exact q.elim
  | some z =>
    rw [ht] at q
    cases z with
    | bool k =>
      intro v hv
      refine ⟨k, dp_bool hv, ?_⟩
      cases k with
      | true => exact ⟨x, F, dx, h1, h2, h3, q⟩
      | false => exact q _ (.bl false)
    | _ => exact q.elim
def xEq (f g : Ex → Option PyData) : Ex → Option PyData := fun x => match f x, g x with
  | some p, some q => eqD p q
  | _, _ => none
theorem mx_eq {b c : Expr} {f g : Ex → Option PyData} (hu : X.A.units + 64 < cLine) (hf : MX X G a oe pn cls d cs i b f) (hg : MX X G a oe pn cls d cs i c g) (hK : X.K = G.K := by rfl) (hm : behindInMarks .Eq c = false := by exact nomark _) : MX X G a oe pn cls d cs i (.Compare b [.Eq] [c] pos) (xEq f g) := by
  have hu' : (X.suite a ((a, oe) :: pn)).A.units + 64 < cLine := hu
  refine (pe_cmpR (op_eqU hu') hf hg hm).imp fun σ H Q ⟨x, F, dx, h1, h2, h3, q⟩ => ?_
  refine ⟨x, F, dx, h1, h2, h3, ?_⟩
  unfold xEq at q
  cases hf : f x with
  | none => rw [hf] at q; exact q.elim
  | some p =>
    intro v hv
    refine ⟨x, F, dx, h1, h2, h3, ?_⟩
    cases hg : g x with
    | none => rw [hf, hg] at q; exact q.elim
    | some z =>
      rw [hf, hg] at q
      intro w hw
      have q : match eqD p z with
        | none => False
        | some z => ∀ v, Dp G.K F v z → Q v H := q
      unfold eqD at q
      cases hk : eqB p z with
      | none => rw [hk] at q; exact q.elim
      | some k =>
        rw [hk] at q
        have hv' : Dp G.K H v p := dp_mono h3.same hv
        have hw' : Dp G.K H w z := dp_mono h3.same hw
        rw [← hK] at hv' hw'
        exact ⟨_, _, _, hv', hw', hk, q _ (.bl _)⟩

/-! ### try: .. except C as e: return .. -/
def sTryRet (i : Nat) (cs : List Nat) (b : SEnv → SR) (f : Ex → Option PyData) : SEnv → SR := fun env => match b env with
  | .exc x e => if x.c ∈ cs ∧ i < e.length then (match f x with
    | some d => .rt d e
    | none => .stuck) else .stuck
  | r => r
theorem ms_tryRet {x n : Str} {c : Value} {body : List Stmt} {np rp pos' : Pos} {e : Expr} {b : SEnv → SR} {f : Ex → Option PyData} (hs : X.stack = X.env :: X.outer) (hf : X.env.frame = some X.env.locals) (hN : X.N.Nodup) (hc : Names X x c)
    (hx : ∀ k ∈ cs, PySem.W.exmOne X.K (.ref (G.cad k)) c = some true)
    (hb : ∀ (W : WX) (pn : List (Addr × Obj)) (xe : Value → Shared → Prop), Takes (X.tr pn xe) W → PassesOwn (model X.prog X.w) X.A X.env xe → MSs (X.tr pn xe) G W body b)
    (he : ∀ (a : Addr) (oe : Obj) (cls : Value) (d : Option Addr) (pn : List (Addr × Obj)), Zc cls d oe → (∃ vs, oe.data = .fields vs) → MX X G a oe pn cls d cs i e f) (hi : X.N[i]? = some n := by rfl) (hln : X.env.kindOf n = some .local := by rfl) :
    MS X G W (.Try body [.ExceptHandler (some (.Name x np)) (some n) [.Return (some e) rp] pos'] [] [] pos) (sTryRet i cs b f) := by
  refine (ps_try_as (i := i) (tb := fun W => tS G W b) (ts := fun a cls d => tRet (tX G cs i a cls d f)) (Wout := fun _ _ _ _ => False) hs hf hN hi hln hc takes0 hb (fun a oe cls d pn hz hf => pss_one (ps_ret (he a oe cls d pn hz hf)))).imp fun D σ H ⟨env, F, ps, po, r, q⟩ => ⟨env, F, ps, po, r, ?_⟩
  unfold sTryRet at q
  cases h : b env with
  | exc y e1 =>
    rw [h] at q
    have q : SSat G W (if y.c ∈ cs ∧ i < e1.length then (match f y with
      | some d => .rt d e1
      | none => .stuck) else .stuck) ps po D := q
    intro F' σ' H' dx fvs r' h1 h2 h3
    split at q
    · rename_i hcs
      refine ⟨true, hx _ hcs.1, fun _ a ha => ?_, fun z => (by cases z)⟩
      have hil : i < σ'.length := by rw [← r'.len]; exact hcs.2
      refine ⟨y, F', dx, rfl, rfl, ⟨hcs.1, List.getElem?_set_self hil, r'.sub, fvs, h2, h3⟩, ?_⟩
      cases hfy : f y with
      | none => rw [hfy] at q; exact q.elim
      | some d =>
        rw [hfy] at q
        exact fun v hv => q v F' σ' H' (r'.push hv)
    · exact q.elim
  | _ => rw [h] at q; exact q
end
end Bk

set_option linter.all false
set_option maxRecDepth 100000
set_option maxHeartbeats 4000000
namespace Bk
open PySem PySem.Spec PyProof.Rows L2

section
variable {X : Cx} {G : Fm} {W : WX} {pos : Pos} {e o : Expr} {es : List Expr} {m : SEnv → R PyData} {ms : List (SEnv → R PyData)} {ma mb mc : SEnv → R PyData}
variable {F H : Hp} {env : SEnv} {ps ps0 : PS0} {po po0 : PO0} {σ σ' : L2.St} {D : Ends}

/-! ### a < b < c -/
theorem tChain_of {r r' : R2} {f g : PyData → PyData → Option PyData} (s : Op2 G r f) (s' : Op2 G r' g) : ∀ σ H Q, tM G W (mChain f g ma mb mc) σ H Q → tChain r r' (tM G W ma) (tM G W mb) (tM G W mc) σ H Q := fun σ H Q ⟨env, F, ps, po, r, q⟩ => by
  refine tM_bind r .refl q fun x a env1 F1 H1 r1 q1 => ?_
  refine tM_bind r1 (.val .refl) q1 fun y b env2 F2 H2 r2 q2 => ?_
  split at q2
  · rename_i hf
    have r2' : Rel G F2 env2 ((y, b) :: (x, a) :: (y, b) :: ps) po σ H2 := r2.less fun p hp => by
      rcases List.mem_cons.mp hp with e | hp
      · rw [e]; exact List.mem_cons_self
      · rcases List.mem_cons.mp hp with e | hp
        · rw [e]; exact List.mem_cons_of_mem _ List.mem_cons_self
        · rcases List.mem_cons.mp hp with e | hp
          · rw [e]; exact List.mem_cons_self
          · exact List.mem_cons_of_mem _ (List.mem_cons_of_mem _ hp)
    refine s F2 env2 ((y, b) :: ps) po σ H2 x y a b _ _ r2' hf fun v F3 H3 r3 => ?_
    refine ⟨true, dp_bool r3.top, ?_⟩
    rw [if_pos rfl]
    refine tM_bind r3.drop1 (.val .refl) q2 fun w c env4 F4 H4 r4 q4 => ?_
    split at q4
    · rename_i d hg
      exact s' F4 env4 ps po σ H4 y w b c d Q r4 hg fun v F5 H5 r5 => q4 v F5 H5 r5
    · exact q4.elim
  · rename_i hf
    refine s F2 env2 _ po σ H2 x y a b _ _ r2 hf fun v F3 H3 r3 => ?_
    refine ⟨false, dp_bool r3.top, ?_⟩
    rw [if_neg Bool.false_ne_true]
    exact q2 _ F3 H3 (r3.drop1.push (.bl false))
  · exact q2.elim

theorem me_chain {op op' : CmpOp} {r r' : R2} {f g : PyData → PyData → Option PyData} {a b c : Expr} (ho : OpR X (compareOp op) r) (ho' : OpR X (compareOp op') r') (s : Op2 G r f) (s' : Op2 G r' g) (ha : ME X G W a ma) (hb : ME X G W b mb) (hc : ME X G W c mc)
    (hm : lastMarks [op, op'] [b, c] = false := by with_unfolding_all rfl) : ME X G W (.Compare a [op, op'] [b, c] pos) (mChain f g ma mb mc) := (pe_chain ho ho' ha hb hc hm).imp (tChain_of s s')
theorem tTest_of {m : SEnv → R PyData} {σ : L2.St} {H : Hp} {Q : Bool → Hp → Prop} (q : tB' G W (mTest m) σ H Q) : tM G W m σ H fun x H' => ∃ k, x = .bl k ∧ Q k H' := by
  obtain ⟨env, F, ps, po, hr, q⟩ := q
  refine tM_bindB hr .refl q fun v d env1 F1 H1 r1 q1 => ?_
  cases d with
  | bool b => exact ⟨b, dp_bool r1.top, q1 F1 H1 r1.drop1⟩
  | _ => exact q1.elim
theorem mt_chain {op op' : CmpOp} {r r' : R2} {f g : PyData → PyData → Option PyData} {a b c : Expr} (ho : OpR X (compareOp op) r) (ho' : OpR X (compareOp op') r') (s : Op2 G r f) (s' : Op2 G r' g) (ha : ME X G W a ma) (hb : ME X G W b mb) (hc : ME X G W c mc)
    (hm : lastMarks [op, op'] [b, c] = false := by with_unfolding_all rfl) : MT X G W (.Compare a [op, op'] [b, c] pos) (mTest (mChain f g ma mb mc)) := (pt_chain ho ho' ha hb hc hm).imp fun σ H Q q => tChain_of s s' σ H _ (tTest_of q)
theorem mt_cmpV {r : R2} {f : PyData → PyData → Option PyData} {a b : Expr} {op : CmpOp} (ho : OpR X (compareOp op) r) (s : Op2 G r f) (ha : ME X G W a ma) (hb : ME X G W b mb) (hm : behindInMarks op b = false) : MT X G W (.Compare a [op] [b] pos) (mTest (mOp2 f ma mb)) :=
  (pt_cmpR ho ha hb hm).imp fun σ H Q q => tOp_of s σ H _ (tTest_of q)

section
variable {a b : Expr}
theorem mt_eq (hu : X.A.units + 64 < cLine) (ha : ME X G W a ma) (hb : ME X G W b mb) (hK : X.K = G.K := by rfl) (hm : behindInMarks .Eq b = false := by exact nomark _) : MT X G W (.Compare a [.Eq] [b] pos) (mTest (mOp2 eqD ma mb)) :=
  mt_cmpV (op_eqU hu) (eqU_s hK) ha hb hm
theorem mt_ne (hu : X.A.units + 64 < cLine) (ha : ME X G W a ma) (hb : ME X G W b mb) (hK : X.K = G.K := by rfl) (hm : behindInMarks .NotEq b = false := by exact nomark _) : MT X G W (.Compare a [.NotEq] [b] pos) (mTest (mOp2 neD ma mb)) :=
  mt_cmpV (op_neU hu) (neU_s hK) ha hb hm
theorem mt_lt (ha : ME X G W a ma) (hb : ME X G W b mb) (hm : behindInMarks .Lt b = false := by exact nomark _) : MT X G W (.Compare a [.Lt] [b] pos) (mTest (mOp2 ltD ma mb)) := mt_cmpV (OpR.or op_lt op_lt_str) ord_s ha hb hm
theorem mt_le (ha : ME X G W a ma) (hb : ME X G W b mb) (hm : behindInMarks .LtE b = false := by exact nomark _) : MT X G W (.Compare a [.LtE] [b] pos) (mTest (mOp2 leD ma mb)) := mt_cmpV (OpR.or op_le op_le_str) ord_s ha hb hm
theorem mt_gt (ha : ME X G W a ma) (hb : ME X G W b mb) (hm : behindInMarks .Gt b = false := by exact nomark _) : MT X G W (.Compare a [.Gt] [b] pos) (mTest (mOp2 gtD ma mb)) := mt_cmpV (OpR.or op_gt op_gt_str) ord_s ha hb hm
theorem mt_ge (ha : ME X G W a ma) (hb : ME X G W b mb) (hm : behindInMarks .GtE b = false := by exact nomark _) : MT X G W (.Compare a [.GtE] [b] pos) (mTest (mOp2 geD ma mb)) := mt_cmpV (OpR.or op_ge op_ge_str) ord_s ha hb hm
theorem mt_in (ha : ME X G W a ma) (hb : ME X G W b mb) (hK : X.K = G.K := by rfl) (hm : behindInMarks .In b = false := by rfl) : MT X G W (.Compare a [.In] [b] pos) (mTest (mOp2 inD ma mb)) := by
  refine mt_cmpV (r := fun x y H Q => (∃ (c : Nat) (z : Str), x = .str ⟨#[c]⟩ ∧ y = .str z ∧ Q (.bl (decide (c ∈ z.cps.toList))) H) ∨ rIn X.K false x y H Q) (OpR.or op_in_sign op_in_seq) ?_ ha hb hm
  have := in_s (G := G) (neg := false)
  rw [hK]; exact this
theorem mt_notIn (ha : ME X G W a ma) (hb : ME X G W b mb) (hK : X.K = G.K := by rfl) (hm : behindInMarks .NotIn b = false := by rfl) : MT X G W (.Compare a [.NotIn] [b] pos) (mTest (mOp2 notInD ma mb)) := by
  refine mt_cmpV (r := fun x y H Q => (∃ (c : Nat) (z : Str), x = .str ⟨#[c]⟩ ∧ y = .str z ∧ Q (.bl (!decide (c ∈ z.cps.toList))) H) ∨ rIn X.K true x y H Q) (OpR.or op_notIn_sign op_notIn_seq) ?_ ha hb hm
  have := in_s (G := G) (neg := true)
  rw [hK]; exact this
theorem mt_isN (ha : ME X G W a ma) (hb : ME X G W b mb) (hm : behindInMarks .Is b = false := by exact nomark _) : MT X G W (.Compare a [.Is] [b] pos) (mTest (mOp2 isNoneD ma mb)) :=
  mt_cmpV op_isN (fun F env ps po σ H x y a b d Q r hf q => by
    unfold isNoneD at hf
    split at hf
    · obtain rfl := Option.some.inj hf
      refine ⟨dp_none r.top, q _ F H (r.drop2.push ?_)⟩
      rw [dp_isN r.top2]; exact .bl _
    · cases hf) ha hb hm
theorem mt_notN (ha : ME X G W a ma) (hb : ME X G W b mb) (hm : behindInMarks .IsNot b = false := by exact nomark _) : MT X G W (.Compare a [.IsNot] [b] pos) (mTest (mOp2 notNoneD ma mb)) :=
  mt_cmpV op_notN (fun F env ps po σ H x y a b d Q r hf q => by
    unfold notNoneD at hf
    split at hf
    · obtain rfl := Option.some.inj hf
      refine ⟨dp_none r.top, q _ F H (r.drop2.push ?_)⟩
      rw [dp_isN r.top2]; exact .bl _
    · cases hf) ha hb hm
end
section
variable {j : Nat} {y : Str} {p1 : Pos} {b : Expr}
theorem mt_eqS (hu : X.A.units + 64 < cLine) (hb : ME X G W b mb) (hN : X.N[j]? = some y := by rfl) (hv : Vis X.env.scope y := by first | exact Or.inl rfl | exact Or.inr (Or.inl rfl) | exact Or.inr (Or.inr rfl)) (hd : (y == ("__debug__" : Str)) = false := by decide)
    (hcd : (y == ("__classdict__" : Str)) = false := by decide) (hK : X.K = G.K := by rfl) (hm : behindInMarks .Eq b = false := by exact nomark _) : MT X G W (.Compare (.Name y p1) [.Eq] [b] pos) (mTest (mOpS (fun ds b => eqD (.list ds) b) j mb)) := by
  refine (pt_cmpR (op_eqU hu) (pe_var (i := j) hN hv hd hcd) hb hm).imp (fun σ H Q q => tOpS_of ?_ σ H _ (tTest_of q))
  intro F env ps po σ H a xs ds y b d Q r hH hD hf q
  have hf : eqD (.list ds) b = some d := hf
  unfold eqD at hf
  obtain ⟨k, hk, rfl⟩ := Option.map_eq_some_iff.mp hf
  rw [hK]
  exact ⟨_, _, _, .lst (SqL.of hH) (dpAll_mono r.sub hD), dp_mono r.sub r.top, hk, q _ F H (r.drop1.push (.bl _))⟩
theorem mt_neS (hu : X.A.units + 64 < cLine) (hb : ME X G W b mb) (hN : X.N[j]? = some y := by rfl) (hv : Vis X.env.scope y := by first | exact Or.inl rfl | exact Or.inr (Or.inl rfl) | exact Or.inr (Or.inr rfl)) (hd : (y == ("__debug__" : Str)) = false := by decide)
    (hcd : (y == ("__classdict__" : Str)) = false := by decide) (hK : X.K = G.K := by rfl) (hm : behindInMarks .NotEq b = false := by exact nomark _) : MT X G W (.Compare (.Name y p1) [.NotEq] [b] pos) (mTest (mOpS (fun ds b => neD (.list ds) b) j mb)) := by
  refine (pt_cmpR (op_neU hu) (pe_var (i := j) hN hv hd hcd) hb hm).imp (fun σ H Q q => tOpS_of ?_ σ H _ (tTest_of q))
  intro F env ps po σ H a xs ds y b d Q r hH hD hf q
  have hf : neD (.list ds) b = some d := hf
  unfold neD at hf
  obtain ⟨k, hk, rfl⟩ := Option.map_eq_some_iff.mp hf
  rw [hK]
  exact ⟨_, _, _, .lst (SqL.of hH) (dpAll_mono r.sub hD), dp_mono r.sub r.top, hk, q _ F H (r.drop1.push (.bl _))⟩
end

/-! ### methods of texts -/
def mStr1 (f : Str → PyData → Option PyData) (ma mb : SEnv → R PyData) : SEnv → R PyData := fun env => (ma env).bind fun a e => match a with
  | .str a => (mb e).bind fun b e2 => match f a b with
    | some d => .ok d e2
    | none => .stuck
  | _ => .stuck
def OpM (G : Fm) (r : V → List V → Hp → VK → Prop) (f : Str → PyData → Option PyData) : Prop :=
  ∀ F env ps po σ H (a : Str) y b d (Q : VK), Rel G F env ((y, b) :: ps) po σ H → f a b = some d → (∀ v F' H', Rel G F' env ((v, d) :: ps) po σ H' → Q v H') → r (.str a) [y] H Q
theorem tM1_of {r : V → List V → Hp → VK → Prop} {f : Str → PyData → Option PyData} (s : OpM G r f) : ∀ σ H Q, tM G W (mStr1 f ma mb) σ H Q → tM1 r (tM G W ma) (tM G W mb) σ H Q := fun σ H Q ⟨env, F, ps, po, hr, q⟩ => by
  refine tM_bind hr .refl q fun x a env1 F1 H1 r1 q1 => ?_
  cases a with
  | str a =>
    obtain rfl := dp_str r1.top
    refine ⟨⟨a, rfl⟩, tM_bind r1.drop1 .refl q1 fun y b env2 F2 H2 r2 q2 => ?_⟩
    split at q2
    · rename_i d hf
      exact s F2 env2 ps po σ H2 a y b d Q r2 hf q2
    · exact q2.elim
  | _ => exact q1.elim
/-- the texts of a list -/
def strsOf : List PyData → Option (List Str)
  | [] => some []
  | .str x :: r => (strsOf r).map (x :: ·)
  | _ => none
theorem strs_dp {K : PySem.W.Frag} {H : Hp} : ∀ {ds : List PyData} {vs : List V} {xs : List Str}, DpAll K H vs ds → strsOf ds = some xs → vs = xs.map V.str
  | [], _, _, h, e => by cases h; cases e; rfl
  | d :: ds, _, xs, h, e => by
    cases h with
    | cons h1 h2 =>
      cases d with
      | str x =>
        simp only [strsOf, Option.map_eq_some_iff] at e
        obtain ⟨ys, e1, rfl⟩ := e
        rw [dp_str h1, strs_dp h2 e1]; rfl
      | _ => simp [strsOf] at e
def joinD (a : Str) : PyData → Option PyData
  | .list ds => match strsOf ds with
    | some ys => if (ys.map (·.length)).sum + ys.length * a.length ≤ 16777216 then some (.str (Txt.join a ys)) else none
    | none => none
  | .tuple ds => match strsOf ds with
    | some ys => if (ys.map (·.length)).sum + ys.length * a.length ≤ 16777216 then some (.str (Txt.join a ys)) else none
    | none => none
  | _ => none
theorem me_join {apos pos : Pos} (ha : ME X G W o ma) (hb : ME X G W e mb) (hK : X.K = G.K := by rfl) (hs : starEach [e] X.env = [(false, eval e X.env)] := by rfl) (hbase : attributeBase o "join" X.env (eval o X.env) = eval o X.env := by rfl) (hline : (apos.endLine == pos.line) = true := by rfl) :
    ME X G W (.Call (.Attribute o "join" apos) [e] [] pos) (mStr1 joinD ma mb) :=
  (pe_join ha hb hs hbase hline).imp (tM1_of fun F env ps po σ H a y b d Q r hf q => by
    rw [hK]
    unfold joinD at hf
    split at hf
    · split at hf
      · rename_i ys hy
        split at hf
        · rename_i hz
          cases hf
          obtain ⟨p, xs, rfl, s1, d1⟩ := dp_lst r.top
          have ex := strs_dp d1 hy
          subst ex
          exact ⟨a, p, ys, rfl, rfl, .inl (SqL.mono r.sub s1), hz, q _ _ _ (r.drop1.push (.str _))⟩
        · cases hf
      · cases hf
    · split at hf
      · rename_i ys hy
        split at hf
        · rename_i hz
          cases hf
          obtain ⟨p, xs, rfl, s1, d1⟩ := dp_tup r.top
          have ex := strs_dp d1 hy
          subst ex
          exact ⟨a, p, ys, rfl, rfl, .inr (SqT.mono r.sub s1), hz, q _ _ _ (r.drop1.push (.str _))⟩
        · cases hf
      · cases hf
    · cases hf)

/-! ### d['k'], .. = .. -/
def fSub (j : Nat) (k : Key) : PyData → SEnv → Option SEnv := fun d env => match objOf env j with
  | some (.dct kvs) => if kvs.length < 16777216 then some (putAt env j (.dct (kput kvs k d))) else none
  | _ => none
theorem mg_sub (j : Nat) {y k : Str} {p1 p3 : Pos} {h : Nat} (hu : X.A.units + 1 < cLine) (hN : X.N[j]? = some y := by rfl) (hv : Vis X.env.scope y := by first | exact Or.inl rfl | exact Or.inr (Or.inl rfl) | exact Or.inr (Or.inr rfl)) (hd : (y == ("__debug__" : Str)) = false := by decide)
    (hcd : (y == ("__classdict__" : Str)) = false := by decide) : MG X G (.Subscript (.Name y p1) (.Constant (.str k) h p3) pos) [] (fSub j (.inr k)) := by
  refine (pg_sub (pe_var (i := j) hN hv hd hcd) pe_str (set_dict hu)).imp fun v σ H Q ⟨env, F, ps, po, d, r, q⟩ => ?_
  unfold fSub at q
  split at q
  · rename_i hf
    exact q.elim
  · rename_i env' hf
    split at hf
    · rename_i kvs ho
      split at hf
      · rename_i hz
        cases hf
        obtain ⟨a, ha, _, xs, hH, hD⟩ := r.at ho
        refine ⟨_, ha, a, _, rfl, DPut.k (k := .inr k) hH (by rw [dpk_len hD, sizeLine_eq]; exact hz), ?_⟩
        exact q F σ _ (.refl _) (r.drop1.writeAt ho ha ⟨_, upd_same, kput_dp r.top hD⟩)
      · cases hf
    · cases hf

/-! ### an exception class of the text, with an __init__ that stores its argument -/
/-- the promise of such an __init__ -/
def spEx (C : Addr) (f : Str) : Sp := fun vs H Q _ => ∃ (a : Addr) (y : V), vs = [.ref a, y] ∧ H a = some (exo a C none) ∧ ∀ dx, H dx = none → dx ≠ a → Q .non (upd (upd H dx (exd dx [(f, y)])) a (exo a C (some dx)))
/-- L.__init__(self, ..), L a class of the text over ValueError -/
theorem pe_ceinit {L : Addr} {x : Str} {p1 p2 : Pos} {ta : TA} {pl : Sem Bool} (hg : Gl X x) (hm : X.mg x = some (.ref L)) (hsp : PySem.W.specialIn X.K (.ref L) "__getattribute__" = some (some (.builtin "type.__getattribute__"))) (hrd : PySem.W.readsIn X.K L (.type "type") = true)
    (vV : PySem.W.findCls X.K (.ref L) (.type "type") "__init__" = some (.val (.builtin "ValueError.__init__"))) (ha : PA X (e :: es) ta) (hdb : (x == ("__debug__" : Str)) = false := by decide)
    (hc : eval (.Call (.Attribute (.Name x p1) "__init__" p2) (e :: es) [] pos) X.env = (do
      let ov ← eval (.Name x p1) X.env
      standAt p2.atName
      let (f, first) ← holding [ov] (getMethod ov "__init__" pl)
      callWith pos f first (backTo pos (starEach (e :: es) X.env)) (backToKw pos (keywordEach [] X.env))) := by rfl)
    (he : starEach (e :: es) X.env = (false, eval e X.env) :: starEach es X.env := by rfl) (hpl : (backTo pos (starEach es X.env)).any (·.1) = false := by rfl) :
    PE X (.Call (.Attribute (.Name x p1) "__init__" p2) (e :: es) [] pos) (tVeI X.K ta) := by
  refine ⟨fun pins s σ H Q I h => ?_⟩
  refine PySem.W.methodCall_KW (ld_glob I hg hm ?_ hdb) hc
  refine PySem.W.method_cls I.kIn hsp (PySem.W.cls_value I.kIn hrd vV (by decide +kernel) ?_)
  show wpAny _ _ (callWith pos (Value.builtin "ValueError.__init__") [] (backTo pos (starEach (e :: es) X.env)) []) _ _ _
  refine PyProof.Rows.callWith_method1 (thn (ha.run pos pins _ σ H _ (I.tok _) h) fun us s1 ⟨vs, H1, I1, r1, a, C, ws, ev, hl, T, ea, q⟩ => ?_) he hpl
  subst ev
  cases r1 with
  | @cons _ u0 _ ur ra rw' =>
    obtain rfl : u0 = Value.ref a := ra
    have hlen : ur.length ≤ sizeLine := by
      rw [← Paired.length rw', sizeLine_eq]
      omega
    exact oinit_ok T I1 ea hlen fun s' J => ⟨.non, H1, J, rfl, q⟩

/-! ### raise C(..) -/
def sRaise (c : Nat) (f : Str) (m : SEnv → R PyData) : SEnv → SR := fun env => (m env).sbind fun d e => .exc ⟨c, [(f, d)]⟩ e
theorem ms_raise {c k : Nat} {x f : Str} {fI : Addr} {fd : FuncData} {pn : List Str} {p rp : Pos} (hc : X.calm = true) (tk : Takes X W) (T : OexC X.K (G.cad c)) (iC : PySem.W.findIn X.K (.ref (G.cad c)) "__init__" = some (some (.ref fI))) (tI : PySem.W.typeIn X.K (.ref fI) = some (.type "function"))
    (F1 : FnOk X.prog X.w X.K X.mg X.base (L2.CX X.prog X.w) k fI fd pn (spEx (G.cad c) f)) (hr : Room (k + 1) X.A) (hb : Binds X.K fd pn []) (hm : X.mg x = some (.ref (G.cad c))) (h : ME X G W e m) (hg : Gl X x := by rfl)
    (hdb : (x == ("__debug__" : Str)) = false := by decide) (he : starEach (e :: []) X.env = (false, eval e X.env) :: starEach [] X.env := by rfl) (hpl : (backTo pos (starEach [] X.env)).any (·.1) = false := by rfl) :
    MS X G W (.Raise (some (.Call (.Name x p) [e] [] pos)) none rp) (sRaise c f m) := by
  refine (ps_raise hc tk (pmk_oex (dvs := []) T iC tI F1 hr hb .nil passL hg hm (ma_cons h ma_nil he) hdb he hpl)).imp fun D σ H ⟨env, F, ps, po, r, q⟩ => ?_
  refine tA_s1 r q fun v d env1 F1 H1 r1 q1 => ?_
  have q1 : SSat G W (.exc ⟨c, [(f, d)]⟩ env1) ps po D := q1
  refine ⟨by simp, fun a na => ⟨a, v, rfl, upd_same, fun dx nx ne => ⟨rfl, dx, [(f, v)], upd_same, ?_, ?_, ?_⟩⟩⟩
  · rw [upd_ne ne, upd_same]
  · rw [upd_ne ne] at nx; exact nx
  · have nx : H1 dx = none := by rw [upd_ne ne] at nx; exact nx
    have e : upd (del (upd (upd (upd H1 a (exo a (G.cad c) none)) dx (exd dx [(f, v)])) a (exo a (G.cad c) (some dx))) a) dx (.xd [(f, v)]) = upd H1 dx (.xd [(f, v)]) := by
      funext b
      by_cases hb : b = dx
      · subst hb; rw [upd_same, upd_same]
      · rw [upd_ne hb, upd_ne hb]
        by_cases hba : b = a
        · subst hba; rw [del_same, na]
        · rw [del_ne hba, upd_ne hba, upd_ne hb, upd_ne hba]
    rw [e]
    exact q1 F1 σ _ dx [(f, v)] (r1.drop1.grow (Same.upd_new nx)) (r1.sub.free nx) upd_same (.cons ⟨rfl, r1.top⟩ .nil)
end
end Bk

set_option linter.all false
set_option maxRecDepth 100000
set_option maxHeartbeats 4000000
namespace Bk
open PySem PySem.Spec PyProof.Rows L2

/-! ### defs -/
def ioOf : SEnv → Option O
  | [] => none
  | .io o :: _ => some o
  | _ :: r => ioOf r
def runDef (nu : Nat) (b : SEnv → SR) : SEnv → RC := fun as => match b (as ++ List.replicate nu .un) with
  | .nx e => .ok .none (ioOf e)
  | .rt d e => .ok d (ioOf e)
  | .exc x e => .exc x (ioOf e)
  | _ => .stuck
theorem ioOf_some : ∀ {e : SEnv} {i : Nat} {o : O}, e[i]? = some (.io o) → (∀ (j : Nat) o', e[j]? = some (.io o') → j = i) → ioOf e = some o
  | [], i, o, h, _ => by simp at h
  | s :: e, i, o, h, u => by
    cases i with
    | zero => simp at h; subst h; rfl
    | succ i =>
      have ne : ∀ o', s ≠ .io o' := fun o' z => by subst z; have := u 0 o' rfl; omega
      have ih := ioOf_some (e := e) (i := i) (o := o) (by simpa using h) fun j o' hj => by have := u (j + 1) o' (by simpa using hj); omega
      cases s with
      | io o' => exact absurd rfl (ne o')
      | _ => exact ih
theorem _root_.L2.Room.units64 {k : Nat} {A : Around} (r : Room k A) : A.units + 64 < cLine := by have := r.un; omega
theorem _root_.L2.Room.units1 {k : Nat} {A : Around} (r : Room k A) : A.units + 1 < cLine := by have := r.un; omega
section
variable {P : Program} {w : World} {K : PySem.W.Frag} {mg : Str → Option Value} {base : Heap} {cad : Nat → Addr}
/-- what a def leaves, by its body's state -/
theorem back_of {F F' H H' : Hp} {io : Option (Nat × Addr)} {env : SEnv} {ps : PS0} {po : PO0} {σ : L2.St} (r : Rel ⟨K, cad, H, F, fun i a => io = some (i, a)⟩ F' env ps po σ H') : Back K cad F H io F' H' (ioOf env) where
  ext := r.old
  sub := r.sub
  new := r.new
  rest := fun b u h n => r.rest b u h fun i => n i
  io := fun i a e => by
    obtain ⟨o, h1, h2⟩ := r.ios i a e
    obtain ⟨ov, g1, b, x1, x2, x3, x4⟩ := r.slot i _ h1
    rw [h2] at g1
    obtain rfl := Option.some.inj g1
    obtain rfl : a = b := by simpa using x1
    refine ⟨o, ioOf_some h1 fun j o' hj => ?_, x2, x4⟩
    obtain ⟨ov, g1, b, y1, y2, y3, y4⟩ := r.slot j _ hj
    have z : io = some (j, b) := y3
    rw [e] at z; cases z; rfl
theorem start_rel {F H : Hp} {io : Option (Nat × Addr)} {as : SEnv} {vs : List V} {N : List Str} {n nu : Nat} (r : Rel ⟨K, cad, H, F, fun i a => io = some (i, a)⟩ F as [] [] (vs.map some) H) (hv : vs.length = n) (hN : N.length = n + nu) :
    Rel ⟨K, cad, H, F, fun i a => io = some (i, a)⟩ F (as ++ List.replicate nu .un) [] [] (L2.start N vs) H := by
  have hl : as.length = vs.length := by have := r.len; simpa using this
  have e : L2.start N vs = vs.map some ++ List.replicate nu none := by unfold L2.start; rw [hN, hv]; congr 2; omega
  have low : ∀ {i : Nat} {l : Sl}, (as ++ List.replicate nu Sl.un)[i]? = some l → (as[i]? = some l ∧ i < vs.length) ∨ (l = .un ∧ ∃ ov, (L2.start N vs)[i]? = some ov) := fun {i l} h => by
    by_cases hi : i < as.length
    · rw [List.getElem?_append_left hi] at h
      exact .inl ⟨h, by omega⟩
    · rw [List.getElem?_append_right (by omega)] at h
      have hb := (List.getElem?_eq_some_iff.mp h).1
      rw [List.length_replicate] at hb
      rw [List.getElem?_replicate, if_pos hb] at h
      refine .inr ⟨(Option.some.inj h).symm, none, ?_⟩
      rw [e, List.getElem?_append_right (by simp; omega), List.getElem?_replicate, if_pos (by simp; omega)]
  have up : ∀ {i : Nat}, i < vs.length → (L2.start N vs)[i]? = (vs.map some)[i]? := fun {i} hi => by rw [e, List.getElem?_append_left (by simpa using hi)]
  refine ⟨?_, r.sub, fun i l h => ?_, fun i j l m a hij h1 h2 o1 o2 s1 => ?_, r.old, r.new, r.rest, fun i a hi => ?_, (fun p hp => nomatch hp), (fun p hp => nomatch hp), r.pdist, (fun p hp => nomatch hp)⟩
  · rw [e]; simp [hl]
  · rcases low h with ⟨h, hi⟩ | ⟨rfl, ov, h⟩
    · obtain ⟨ov, g1, g2⟩ := r.slot i l h
      exact ⟨ov, by rw [up hi]; exact g1, g2⟩
    · exact ⟨ov, h, trivial⟩
  · rcases low h1 with ⟨h1, hi⟩ | ⟨rfl, _⟩
    · rcases low h2 with ⟨h2, hj⟩ | ⟨rfl, _⟩
      · rw [up hi] at s1; rw [up hj]
        exact r.dist i j l m a hij h1 h2 o1 o2 s1
      · cases o2
    · cases o1
  · obtain ⟨o, h1, h2⟩ := r.ios i a hi
    have hi' : i < as.length := (List.getElem?_eq_some_iff.mp h1).1
    exact ⟨o, by rw [List.getElem?_append_left hi']; exact h1, by rw [up (by omega)]; exact h2⟩
theorem def_ok {x qual : Str} {st : Stmt} {f : Addr} {fd : FuncData} {N pn : List Str} {k n nu : Nat} {b : SEnv → SR} (Fn : Fun K x qual st f fd) (S : FnScope N pn (defScope st)) (hp : pn.length = n) (hN : N.length = n + nu)
    (hb : ∀ (cdv : Value) (A : Around) (outer : List Env) (s : Shared) (H F : Hp) (E : XK) (io : Nat → Addr → Prop), Room k (A.deeper (envOfC qual (defScope st) s.heap.objs.size f cdv)) →
      MSs (cxOf (L2.CX P w) P w K mg base N qual (defScope st) f cdv A outer s H E) ⟨K, cad, H, F, io⟩ (fun cls d _ H => E cls d H) (defBody st) b) :
    FnOk P w K mg base (L2.CX P w) (k + 1) f fd pn (spOf K cad n (runDef nu b)) := by
  refine Fn.okX S (spOf_len hp) fun cdv A outer s H vs Q E hr ⟨hv, F, io, as, r, q⟩ => ⟨_, hb cdv A outer s H F E (fun i a => io = some (i, a)) hr, _, F, [], [], start_rel r hv hN, ?_⟩
  unfold runDef at q
  cases h : b (as ++ List.replicate nu .un) with
  | stuck => rw [h] at q; exact q.elim
  | nx e => rw [h] at q; exact fun F' σ' H' r' => q _ F' H' (back_of r') .non
  | rt d e => rw [h] at q; exact fun v F' σ' H' r' => q v F' H' (back_of r') r'.top
  | bk e => rw [h] at q; exact q.elim
  | ct e => rw [h] at q; exact q.elim
  | exc x e => rw [h] at q; exact fun F' σ' H' dx fvs r' h1 h2 h3 => q F' H' dx fvs (back_of r') h1 h2 h3
theorem fn_stuck {f : Addr} {fd : FuncData} {pn : List Str} {k n : Nat} (hp : pn.length = n) : FnOk P w K mg base (L2.CX P w) k f fd pn (spOf K cad n fun _ => .stuck) :=
  ⟨spOf_len hp, fun A outer s H args us vs Q E hr he hb hv ⟨_, F, io, as, r, q⟩ => q.elim⟩

/-! ### the law's own entry -/
theorem ints_dp {K : PySem.W.Frag} {H : Hp} : ∀ ns : List Int, DpAll K H (ns.map V.int) (ns.map PyData.int)
  | [] => .nil
  | i :: ns => .cons (.int i) (ints_dp ns)
theorem law_sp {sem : SEnv → RC} {H : Hp} {a : Addr} {ns : List Int} {o : Option O} (hS : SqL K H a (ns.map V.int)) (h : sem [.val (.list (ns.map .int))] = .ok (.bool true) o) : spOf K cad 1 sem [.ref a] H (fun v _ => v = .bl true) fun _ _ _ => False := by
  refine ⟨rfl, H, none, [.val (.list (ns.map .int))], ⟨rfl, Same.refl _, fun i l hl => ?_, fun i j l m c hij h1 h2 o1 o2 s1 => ?_, Same.refl _, fun b o e => .inl e, fun b o e _ => e, (fun i c e => nomatch e), (fun p hp => nomatch hp), (fun p hp => nomatch hp), List.Pairwise.nil, (fun p hp => nomatch hp)⟩, ?_⟩
  · match i, hl with
    | 0, hl =>
      simp at hl
      subst hl
      exact ⟨some (.ref a), rfl, .ref a, rfl, .lst hS (ints_dp ns)⟩
    | i + 1, hl => simp at hl
  · match i, h1 with
    | 0, h1 => simp at h1; subst h1; cases o1
    | i + 1, h1 => simp at h1
  · rw [h]
    exact fun v F' H' b hd => dp_bool hd
end
/-! ### words for what is printed -/
theorem le_rec {a b n : Nat} (h : a ≤ b) : a ≤ b + n := Nat.le_add_right_of_le h
abbrev tx (l : List Nat) : Str := ⟨l.toArray⟩
theorem me_gstr {X : Cx} {G : Fm} {W : WX} {x z : Str} {pos : Pos} (h : ∃ tk, X.mg x = some (.str z tk)) (hg : Gl X x := by rfl) (hdb : (x == ("__debug__" : Str)) = false := by decide) : ME X G W (.Name x pos) (mC (.str z)) := by
  obtain ⟨tk, h⟩ := h
  exact me_glob (v := .str z) hg h ⟨tk, rfl⟩ (fun _ => .str _) hdb
theorem exm_of {K : PySem.W.Frag} {S L : Addr} (h1 : PySem.W.subIn K (.ref L) (.type "BaseException") = some true) (h2 : PySem.W.isClsIn K L = true) (h3 : PySem.W.typeIn K (.ref L) = some (.type "type")) (h4 : PySem.W.subIn K (.ref S) (.ref L) = some true) :
    PySem.W.exmOne K (.ref S) (.ref L) = some true := by
  have e1 : (PySem.W.subIn K (.ref L) (.type "BaseException") == some true) = true := by rw [h1] <;> rfl
  have e2 : ((PySem.W.clsIn K L).isSome && PySem.W.typeIn K (.ref L) == some (.type "type")) = true := by
    have h2' : (PySem.W.clsIn K L).isSome = true := h2
    rw [h2', h3] <;> rfl
  unfold PySem.W.exmOne PySem.W.kitCls
  rw [if_pos e1]
  dsimp only
  rw [if_pos e2]
  exact h4
theorem kit_of {K : PySem.W.Frag} {S L : Addr} {b : Bool} (h2 : PySem.W.isClsIn K L = true) (h3 : PySem.W.typeIn K (.ref L) = some (.type "type")) (h4 : PySem.W.subIn K (.ref S) (.ref L) = some b) (hs : PySem.W.subIn K (.ref S) (.ref S) = some true) :
    PySem.W.kitOne K (.ref S) (.ref L) = some b := by
  have e2 : ((PySem.W.clsIn K L).isSome && PySem.W.typeIn K (.ref L) == some (.type "type")) = true := by
    have h2' : (PySem.W.clsIn K L).isSome = true := h2
    rw [h2', h3] <;> rfl
  unfold PySem.W.kitOne
  split
  · rename_i q
    have e : S = L := Value.ref.inj (beq_iff_eq.mp q)
    subst e
    rw [← h4, hs]
  · unfold PySem.W.kitCls
    dsimp only
    rw [if_pos e2]
    exact h4
theorem law_walk {l : PySem.W.OpenLaw} {q : Program} {loose : List Str} {XP : (Str → Option Value) → Heap → Prop} {YP : World → Heap → Prop} {d : DefRec} {K : Params → PySem.W.Frag} {k : Nat} {sem : SEnv → RC} (hn : l.most = some 63) (hr : Room k callerA) (hdf : d.params.defaults = [])
    (hY : ∀ (w : World) (h : Heap), YP w h → (K w.params).In h)
    (F : ∀ (w : World) (mg : Str → Option Value) (fa : Addr) (h : Heap), (K w.params).In h → h.Ns mainGlobals mg → mg d.name = some (.ref fa) →
      ∃ (cad : Nat → Addr) (fd : FuncData), (∀ (s : Shared) (u : Value), BindsTo s fd ⟨[u], []⟩ [("script", u)]) ∧ ∀ base : Heap, (K w.params).In base → base.Ns mainGlobals mg → FnOk l.prog w (K w.params) mg base (L2.CX l.prog w) k fa fd ["script"] (spOf (K w.params) cad 1 sem))
    (hs : ∀ ns : List Int, ns.length ≤ 63 → ∃ o, sem [.val (.list (ns.map .int))] = .ok (.bool true) o) :
    PySem.W.WalkO q loose XP YP l.row.toRowW d [] (fun f vs => PySem.call f vs) :=
  L2.walk_of (n := 63) (k := k) (x := "script") (CX := fun w => L2.CX l.prog w) (sp := fun w vs H Q E => ∃ (a : Addr) (ns : List Int), vs = [.ref a] ∧ ns.length ≤ 63 ∧ SqL (K w.params) H a (ns.map V.int) ∧ Q = (fun v _ => v = .bl true) ∧ E = fun _ _ _ => False) hn (by decide) hdf hr hY
    (fun w mg fa h KX G hmg => by
      obtain ⟨cad, fd, hb, hF⟩ := F w mg fa h KX G hmg
      refine ⟨fd, hb, fun base k1 k2 => (hF base k1 k2).imp fun vs H Q E ⟨a, ns, e1, hl, hS, e2, e3⟩ => ?_⟩
      subst e1; subst e2; subst e3
      obtain ⟨o, ho⟩ := hs ns hl
      exact law_sp hS ho)
    (fun w H a ns hl _ hS => ⟨a, ns, rfl, hl, hS, rfl, rfl⟩) fun w H s e s' z => by
      obtain ⟨_, _, _, _, _, _, _, _, _, _, _, _, z⟩ := z
      exact z.elim
end Bk

set_option linter.all false
set_option maxRecDepth 100000
set_option maxHeartbeats 2000000
/-! The mirrors run: each combinator, applied to a state, one step (no state under a binder). -/
namespace Bk
open PySem PySem.Spec PyProof.Rows L2

def ofO (o : Option PyData) (e : SEnv) : R PyData := match o with
  | some d => .ok d e
  | none => .stuck
@[simp] theorem ofO_some (d : PyData) (e : SEnv) : ofO (some d) e = .ok d e := id rfl
@[simp] theorem ofO_none (e : SEnv) : ofO none e = .stuck := id rfl
@[simp] theorem rbind_ok {α β : Type} (a : α) (e : SEnv) (f : α → SEnv → R β) : (R.ok a e).bind f = f a e := id rfl
@[simp] theorem rbind_exc {α β : Type} (x : Ex) (e : SEnv) (f : α → SEnv → R β) : (R.exc (α := α) x e).bind f = .exc x e := id rfl
@[simp] theorem rbind_stuck {α β : Type} (f : α → SEnv → R β) : (R.stuck (α := α)).bind f = .stuck := id rfl
@[simp] theorem sbind_ok {α : Type} (a : α) (e : SEnv) (f : α → SEnv → SR) : (R.ok a e).sbind f = f a e := id rfl
@[simp] theorem sbind_exc {α : Type} (x : Ex) (e : SEnv) (f : α → SEnv → SR) : (R.exc (α := α) x e).sbind f = .exc x e := id rfl
@[simp] theorem sbind_stuck {α : Type} (f : α → SEnv → SR) : (R.stuck (α := α)).sbind f = .stuck := id rfl
section
variable {env : SEnv} {ma mb mc : SEnv → R PyData} {mt mu : SEnv → R Bool} {ms : List (SEnv → R PyData)} {f : PyData → PyData → Option PyData}
@[simp] theorem mC_ap (d : PyData) : mC d env = .ok d env := id rfl
@[simp] theorem mVar_val (i : Nat) : mVar i env = (match env[i]? with
  | some (.val d) => .ok d env
  | some (.own (.lst ds)) => .ok (.list ds) (env.set i (.val (.list ds)))
  | _ => .stuck) := id rfl
def kOp2' (f : PyData → PyData → Option PyData) (a b : PyData) (e : SEnv) : R PyData := ofO (f a b) e
def kOp2 (f : PyData → PyData → Option PyData) (mb : SEnv → R PyData) (a : PyData) (e : SEnv) : R PyData := (mb e).bind (kOp2' f a)
@[simp] theorem kOp2'_ap (a b e) : kOp2' f a b e = ofO (f a b) e := id rfl
@[simp] theorem kOp2_ap (a e) : kOp2 f mb a e = (mb e).bind (kOp2' f a) := id rfl
@[simp] theorem mOp2_ap : mOp2 f ma mb env = (ma env).bind (kOp2 f mb) := id rfl
def kOp1 (f : PyData → Option PyData) (a : PyData) (e : SEnv) : R PyData := ofO (f a) e
@[simp] theorem kOp1_ap (f : PyData → Option PyData) (a e) : kOp1 f a e = ofO (f a) e := id rfl
@[simp] theorem mOp1_ap (f : PyData → Option PyData) : mOp1 f ma env = (ma env).bind (kOp1 f) := id rfl
/-- tests -/
def kTest (d : PyData) (e : SEnv) : R Bool := match d with
  | .bool b => .ok b e
  | _ => .stuck
@[simp] theorem kTest_ap (b e) : kTest (.bool b) e = .ok b e := id rfl
@[simp] theorem mTest_ap : mTest ma env = (ma env).bind kTest := id rfl
def kNotT (b : Bool) (e : SEnv) : R Bool := .ok (!b) e
@[simp] theorem kNotT_ap (b e) : kNotT b e = .ok (!b) e := id rfl
@[simp] theorem mNotT_ap : mNotT mt env = (mt env).bind kNotT := id rfl
def kAndT (n : SEnv → R Bool) (b : Bool) (e : SEnv) : R Bool := if b then n e else .ok false e
@[simp] theorem kAndT_t (e) : kAndT mu true e = mu e := id rfl
@[simp] theorem kAndT_f (e) : kAndT mu false e = .ok false e := id rfl
@[simp] theorem mAndT_ap : mAndT mt mu env = (mt env).bind (kAndT mu) := id rfl
def kOrT (n : SEnv → R Bool) (b : Bool) (e : SEnv) : R Bool := if b then .ok true e else n e
@[simp] theorem kOrT_t (e) : kOrT mu true e = .ok true e := id rfl
@[simp] theorem kOrT_f (e) : kOrT mu false e = mu e := id rfl
@[simp] theorem mOrT_ap : mOrT mt mu env = (mt env).bind (kOrT mu) := id rfl
def kAnd (mb : SEnv → R PyData) (d : PyData) (e : SEnv) : R PyData := match d with
  | .bool true => mb e
  | .bool false => .ok (.bool false) e
  | _ => .stuck
@[simp] theorem kAnd_t (e) : kAnd mb (.bool true) e = mb e := id rfl
@[simp] theorem kAnd_f (e) : kAnd mb (.bool false) e = .ok (.bool false) e := id rfl
@[simp] theorem mAnd_ap : mAnd ma mb env = (ma env).bind (kAnd mb) := id rfl
def kOr (mb : SEnv → R PyData) (d : PyData) (e : SEnv) : R PyData := match d with
  | .bool true => .ok (.bool true) e
  | .bool false => mb e
  | _ => .stuck
@[simp] theorem kOr_t (e) : kOr mb (.bool true) e = .ok (.bool true) e := id rfl
@[simp] theorem kOr_f (e) : kOr mb (.bool false) e = mb e := id rfl
@[simp] theorem mOr_ap : mOr ma mb env = (ma env).bind (kOr mb) := id rfl
def kNot (d : PyData) (e : SEnv) : R PyData := match d with
  | .bool b => .ok (.bool (!b)) e
  | _ => .stuck
@[simp] theorem kNot_ap (b e) : kNot (.bool b) e = .ok (.bool (!b)) e := id rfl
@[simp] theorem mNot_ap : mNot ma env = (ma env).bind kNot := id rfl
def kIf (ma mb : SEnv → R PyData) (b : Bool) (e : SEnv) : R PyData := if b then ma e else mb e
@[simp] theorem kIf_t (e) : kIf ma mb true e = ma e := id rfl
@[simp] theorem kIf_f (e) : kIf ma mb false e = mb e := id rfl
@[simp] theorem mIf_ap : mIf mt ma mb env = (mt env).bind (kIf ma mb) := id rfl
/-- a < b < c -/
def kChain3 (g : PyData → PyData → Option PyData) (b c : PyData) (e : SEnv) : R PyData := ofO (g b c) e
def kChain2 (g : PyData → PyData → Option PyData) (mc : SEnv → R PyData) (o : Option PyData) (b : PyData) (e : SEnv) : R PyData := match o with
  | some (.bool true) => (mc e).bind (kChain3 g b)
  | some (.bool false) => .ok (.bool false) e
  | _ => .stuck
def kChain1 (f g : PyData → PyData → Option PyData) (mc : SEnv → R PyData) (a b : PyData) (e : SEnv) : R PyData := kChain2 g mc (f a b) b e
def kChain (f g : PyData → PyData → Option PyData) (mb mc : SEnv → R PyData) (a : PyData) (e : SEnv) : R PyData := (mb e).bind (kChain1 f g mc a)
@[simp] theorem kChain3_ap (g : PyData → PyData → Option PyData) (b c e) : kChain3 g b c e = ofO (g b c) e := id rfl
@[simp] theorem kChain2_t (g : PyData → PyData → Option PyData) (b e) : kChain2 g mc (some (.bool true)) b e = (mc e).bind (kChain3 g b) := id rfl
@[simp] theorem kChain2_f (g : PyData → PyData → Option PyData) (b e) : kChain2 g mc (some (.bool false)) b e = .ok (.bool false) e := id rfl
@[simp] theorem kChain1_ap (g : PyData → PyData → Option PyData) (a b e) : kChain1 f g mc a b e = kChain2 g mc (f a b) b e := id rfl
@[simp] theorem kChain_ap (g : PyData → PyData → Option PyData) (a e) : kChain f g mb mc a e = (mb e).bind (kChain1 f g mc a) := id rfl
@[simp] theorem mChain_ap (g : PyData → PyData → Option PyData) : mChain f g ma mb mc env = (ma env).bind (kChain f g mb mc) := id rfl
/-- several -/
def kList2 (d : PyData) (ds : List PyData) (e : SEnv) : R (List PyData) := .ok (d :: ds) e
def kList (ms : List (SEnv → R PyData)) (d : PyData) (e : SEnv) : R (List PyData) := (mList ms e).bind (kList2 d)
@[simp] theorem kList2_ap (d ds e) : kList2 d ds e = .ok (d :: ds) e := id rfl
@[simp] theorem kList_ap (d e) : kList ms d e = (mList ms e).bind (kList2 d) := id rfl
@[simp] theorem mList_nil : mList [] env = .ok [] env := id rfl
@[simp] theorem mList_cons : mList (ma :: ms) env = (ma env).bind (kList ms) := id rfl
def kTup (ds : List PyData) (e : SEnv) : R PyData := if ds.length ≤ 16777216 then .ok (.tuple ds) e else .stuck
@[simp] theorem kTup_ap (ds e) : kTup ds e = if ds.length ≤ 16777216 then .ok (.tuple ds) e else .stuck := id rfl
@[simp] theorem mTup_ap : mTup ms env = (mList ms env).bind kTup := id rfl
def kLst (ds : List PyData) (e : SEnv) : R PyData := if ds.length ≤ 16777216 then .ok (.list ds) e else .stuck
@[simp] theorem kLst_ap (ds e) : kLst ds e = if ds.length ≤ 16777216 then .ok (.list ds) e else .stuck := id rfl
@[simp] theorem mLst_ap : mLst ms env = (mList ms env).bind kLst := id rfl
def kLstF (ds : List PyData) (e : SEnv) : R O := if ds.length ≤ 16777216 then .ok (.lst ds) e else .stuck
@[simp] theorem kLstF_ap (ds e) : kLstF ds e = if ds.length ≤ 16777216 then .ok (.lst ds) e else .stuck := id rfl
@[simp] theorem mLstF_ap : mLstF ms env = (mList ms env).bind kLstF := id rfl
def kFz (o : O) (e : SEnv) : R PyData := match o with
  | .lst ds => .ok (.list ds) e
  | _ => .stuck
@[simp] theorem kFz_ap (ds e) : kFz (.lst ds) e = .ok (.list ds) e := id rfl
@[simp] theorem mFz_ap (mo : SEnv → R O) : mFz mo env = (mo env).bind kFz := id rfl
def kB (f : List PyData → Option PyData) (ds : List PyData) (e : SEnv) : R PyData := ofO (f ds) e
@[simp] theorem kB_ap (f : List PyData → Option PyData) (ds e) : kB f ds e = ofO (f ds) e := id rfl
@[simp] theorem mB_ap (f : List PyData → Option PyData) : mB f ms env = (mList ms env).bind (kB f) := id rfl
/-- calls -/
def ofRC (r : RC) (e : SEnv) : R PyData := match r with
  | .stuck => .stuck
  | .ok d _ => .ok d e
  | .exc x _ => .exc x e
@[simp] theorem ofRC_ok (d o e) : ofRC (.ok d o) e = .ok d e := id rfl
@[simp] theorem ofRC_exc (d o e) : ofRC (.exc d o) e = .exc d e := id rfl
def kCall (sem : SEnv → RC) (ds : List PyData) (e : SEnv) : R PyData := ofRC (sem (ds.map .val)) e
@[simp] theorem kCall_ap (sem ds e) : kCall sem ds e = ofRC (sem (ds.map .val)) e := id rfl
@[simp] theorem mCall_ap (sem : SEnv → RC) : mCall sem ms env = (mList ms env).bind (kCall sem) := id rfl
def ofRCio (r : RC) (j : Nat) (l : Sl) (e : SEnv) : R PyData := match r with
  | .stuck => .stuck
  | .ok d (some o') => .ok d (e.set j (l.put o'))
  | .ok _ none => .stuck
  | .exc x (some o') => .exc x (e.set j (l.put o'))
  | .exc _ none => .stuck
@[simp] theorem ofRCio_ok (d o j l e) : ofRCio (.ok d (some o)) j l e = .ok d (e.set j (l.put o)) := id rfl
@[simp] theorem ofRCio_exc (d o j l e) : ofRCio (.exc d (some o)) j l e = .exc d (e.set j (l.put o)) := id rfl
def kCallS2 (sem : SEnv → RC) (j : Nat) (ds : List PyData) (e : SEnv) (ol : Option Sl) : R PyData := match ol with
  | none => .stuck
  | some l => match l.obj with
    | none => .stuck
    | some o => ofRCio (sem (.io o :: ds.map .val)) j l e
@[simp] theorem kCallS2_io (sem j ds e o) : kCallS2 sem j ds e (some (.io o)) = ofRCio (sem (.io o :: ds.map .val)) j (.io o) e := id rfl
@[simp] theorem kCallS2_own (sem j ds e o) : kCallS2 sem j ds e (some (.own o)) = ofRCio (sem (.io o :: ds.map .val)) j (.own o) e := id rfl
def kCallS (sem : SEnv → RC) (j : Nat) (ds : List PyData) (e : SEnv) : R PyData := kCallS2 sem j ds e e[j]?
@[simp] theorem kCallS_ap (sem j ds e) : kCallS sem j ds e = kCallS2 sem j ds e e[j]? := id rfl
theorem mCallIo_ap (sem : SEnv → RC) (j : Nat) : mCallIo sem j ms env = (mList ms env).bind (kCallS sem j) := by
  unfold mCallIo
  congr 1
def ifObj {α : Type} (o : Option O) (r : R α) : R α := if o.isSome then r else .stuck
@[simp] theorem ifObj_some {α : Type} (o : O) (r : R α) : ifObj (some o) r = r := id rfl
@[simp] theorem mCallS_ap (sem : SEnv → RC) (j : Nat) : mCallS sem j ms env = ifObj (objOf env j) ((mList ms env).bind (kCallS sem j)) := by
  unfold mCallS; rw [mCallIo_ap]; rfl
@[simp] theorem objOf_ap (j : Nat) : objOf env j = (env[j]?).bind Sl.obj := by unfold objOf; cases env[j]? <;> rfl
@[simp] theorem obj_io (o : O) : (Sl.io o).obj = some o := id rfl
@[simp] theorem obj_own (o : O) : (Sl.own o).obj = some o := id rfl
@[simp] theorem put_io (o o' : O) : (Sl.io o).put o' = .io o' := id rfl
@[simp] theorem put_own (o o' : O) : (Sl.own o).put o' = .own o' := id rfl
@[simp] theorem put_val (d : PyData) (o' : O) : (Sl.val d).put o' = .own o' := id rfl
@[simp] theorem isIo_io (o : O) : (Sl.io o).isIo = true := id rfl
@[simp] theorem isIo_own (o : O) : (Sl.own o).isIo = false := id rfl
@[simp] theorem isIo_val (d : PyData) : (Sl.val d).isIo = false := id rfl
@[simp] theorem isIo_un : Sl.un.isIo = false := id rfl
/-- fields, entries -/
def gFld (c : Nat) (f : Str) (o : Option O) (e : SEnv) : R PyData := match o with
  | some (.ins c' fs) => if c' = c then ofO (fs.lookup f) e else .stuck
  | _ => .stuck
@[simp] theorem gFld_ap (c f fs e) : gFld c f (some (.ins c fs)) e = ofO (fs.lookup f) e := by unfold gFld; simp
@[simp] theorem mFld_ap (c j : Nat) (f : Str) : mFld c j f env = gFld c f (objOf env j) env := by
  unfold mFld gFld
  cases objOf env j with
  | none => rfl
  | some o => cases o <;> first | rfl | (dsimp only; split <;> first | rfl | (cases List.lookup f _ <;> rfl))
def gDget (o : Option O) (k : Option Key) (e : SEnv) : R PyData := match o, k with
  | some (.dct kvs), some k => ofO (klook kvs k) e
  | _, _ => .stuck
@[simp] theorem gDget_ap (kvs k e) : gDget (some (.dct kvs)) (some k) e = ofO (klook kvs k) e := id rfl
def kDget (j : Nat) (k : PyData) (e : SEnv) : R PyData := gDget (objOf e j) (keyOf k) e
@[simp] theorem kDget_ap (j k e) : kDget j k e = gDget (objOf e j) (keyOf k) e := id rfl
@[simp] theorem mDget_ap (j : Nat) : mDget j ma env = ifObj (objOf env j) ((ma env).bind (kDget j)) := by
  unfold mDget ifObj
  split
  · congr 1
    funext k e
    unfold kDget gDget
    cases objOf e j with
    | none => rfl
    | some o =>
      cases o with
      | dct kvs =>
        dsimp only
        cases keyOf k with
        | none => rfl
        | some k => dsimp only; cases klook kvs k <;> rfl
      | _ => rfl
  · rfl
@[simp] theorem keyOf_str (x : Str) : keyOf (.str x) = some (.inr x) := id rfl
@[simp] theorem keyOf_int (i : Int) : keyOf (.int i) = some (.inl i) := id rfl
/-- the list of a slot -/
def gOpS (f : List PyData → PyData → Option PyData) (o : Option O) (b : PyData) (e : SEnv) : R PyData := match o with
  | some (.lst ds) => ofO (f ds b) e
  | _ => .stuck
@[simp] theorem gOpS_ap (f : List PyData → PyData → Option PyData) (ds b e) : gOpS f (some (.lst ds)) b e = ofO (f ds b) e := id rfl
def kOpS (f : List PyData → PyData → Option PyData) (j : Nat) (b : PyData) (e : SEnv) : R PyData := gOpS f (objOf e j) b e
@[simp] theorem kOpS_ap (f : List PyData → PyData → Option PyData) (j b e) : kOpS f j b e = gOpS f (objOf e j) b e := id rfl
@[simp] theorem mOpS_ap (f : List PyData → PyData → Option PyData) (j : Nat) : mOpS f j mb env = ifObj (objOf env j) ((mb env).bind (kOpS f j)) := by
  unfold mOpS ifObj
  split
  · congr 1
  · rfl
def gLenS (o : Option O) (e : SEnv) : R PyData := match o with
  | some (.lst ds) => .ok (.int ds.length) e
  | _ => .stuck
@[simp] theorem gLenS_ap (ds e) : gLenS (some (.lst ds)) e = .ok (.int ds.length) e := id rfl
@[simp] theorem mLenS_ap (j : Nat) : mLenS j env = gLenS (objOf env j) env := by
  unfold mLenS gLenS
  cases objOf env j with
  | none => rfl
  | some o => cases o <;> rfl
/-- slices -/
def kPart (d : PyData) (e : SEnv) : R (Option Int) := match d with
  | .int i => .ok (some i) e
  | _ => .stuck
@[simp] theorem kPart_ap (i e) : kPart (.int i) e = .ok (some i) e := id rfl
@[simp] theorem mPart_none : mPart none env = .ok none env := id rfl
@[simp] theorem mPart_some : mPart (some ma) env = (ma env).bind kPart := id rfl
def kSlice3 (a : PyData) (l h : Option Int) (e : SEnv) : R PyData := ofO (sliceD a l h) e
def kSlice2 (hi : Option (SEnv → R PyData)) (a : PyData) (l : Option Int) (e : SEnv) : R PyData := (mPart hi e).bind (kSlice3 a l)
def kSlice (lo hi : Option (SEnv → R PyData)) (a : PyData) (e : SEnv) : R PyData := (mPart lo e).bind (kSlice2 hi a)
@[simp] theorem kSlice3_ap (a l h e) : kSlice3 a l h e = ofO (sliceD a l h) e := id rfl
@[simp] theorem kSlice2_ap (hi a l e) : kSlice2 hi a l e = (mPart hi e).bind (kSlice3 a l) := id rfl
@[simp] theorem kSlice_ap (lo hi a e) : kSlice lo hi a e = (mPart lo e).bind (kSlice2 hi a) := id rfl
@[simp] theorem mSlice_ap (lo hi : Option (SEnv → R PyData)) : mSlice ma lo hi env = (ma env).bind (kSlice lo hi) := id rfl
/-- methods -/
def gMeth (sem : SEnv → RC) (c : Nat) (m : Str) (j : Nat) (ms : List (SEnv → R PyData)) (env : SEnv) (o : Option O) : R PyData := match o with
  | some (.ins c' fs) => if c' = c ∧ fs.lookup m = none then (mList ms env).bind (kCallS sem j) else .stuck
  | _ => .stuck
@[simp] theorem gMeth_ap (sem c m j fs) : gMeth sem c m j ms env (some (.ins c fs)) = if fs.lookup m = none then (mList ms env).bind (kCallS sem j) else .stuck := by unfold gMeth; simp only [true_and]
@[simp] theorem mMeth_ap (sem : SEnv → RC) (c : Nat) (m : Str) (j : Nat) : mMeth sem c m j ms env = gMeth sem c m j ms env (objOf env j) := by
  unfold mMeth gMeth
  simp only [mCallIo_ap] <;> rfl
def gMake : RC → SEnv → R O
  | .ok .none (some o), e => .ok o e
  | _, _ => .stuck
@[simp] theorem gMake_ok (o e) : gMake (.ok .none (some o)) e = .ok o e := id rfl
def kMake (c : Nat) (sem : SEnv → RC) (ds : List PyData) (e : SEnv) : R O := gMake (sem (.io (.ins c []) :: ds.map .val)) e
@[simp] theorem kMake_ap (c sem ds e) : kMake c sem ds e = gMake (sem (.io (.ins c []) :: ds.map .val)) e := id rfl
@[simp] theorem mMake_ap (c : Nat) (sem : SEnv → RC) : mMake c sem ms env = (mList ms env).bind (kMake c sem) := by
  unfold mMake
  congr 1
  funext ds e
  unfold kMake gMake
  cases sem (.io (.ins c []) :: ds.map .val) with
  | ok d o => cases d <;> cases o <;> rfl
  | _ => rfl
def kStr1' (f : Str → PyData → Option PyData) (a : Str) (b : PyData) (e : SEnv) : R PyData := ofO (f a b) e
def kStr1 (f : Str → PyData → Option PyData) (mb : SEnv → R PyData) (a : PyData) (e : SEnv) : R PyData := match a with
  | .str a => (mb e).bind (kStr1' f a)
  | _ => .stuck
@[simp] theorem kStr1'_ap (f : Str → PyData → Option PyData) (a b e) : kStr1' f a b e = ofO (f a b) e := id rfl
@[simp] theorem kStr1_ap (f : Str → PyData → Option PyData) (a e) : kStr1 f mb (.str a) e = (mb e).bind (kStr1' f a) := id rfl
@[simp] theorem mStr1_ap (f : Str → PyData → Option PyData) : mStr1 f ma mb env = (ma env).bind (kStr1 f mb) := by
  unfold mStr1
  congr 1
/-- walked -/
def kIter (d : PyData) (e : SEnv) : R (List PyData) := match d with
  | .list ds => .ok ds e
  | .tuple ds => .ok ds e
  | .str x => .ok (signs x) e
  | _ => .stuck
@[simp] theorem kIter_list (ds e) : kIter (.list ds) e = .ok ds e := id rfl
@[simp] theorem kIter_tuple (ds e) : kIter (.tuple ds) e = .ok ds e := id rfl
@[simp] theorem mIter_ap : mIter ma env = (ma env).bind kIter := by
  unfold mIter
  congr 1
def kRange1 (d : PyData) (e : SEnv) : R (List PyData) := match d with
  | .int j => if small62 j then .ok (intsD 0 j.toNat) e else .stuck
  | _ => .stuck
@[simp] theorem kRange1_ap (j e) : kRange1 (.int j) e = if small62 j then .ok (intsD 0 j.toNat) e else .stuck := id rfl
@[simp] theorem mRange1_ap : mRange1 ma env = (ma env).bind kRange1 := id rfl

/-! ### statements -/
variable {s1 s2 : SEnv → SR}
def SR.seq (r : SR) (n : SEnv → SR) : SR := match r with
  | .nx e => n e
  | r => r
@[simp] theorem seq_nx (e n) : SR.seq (.nx e) n = n e := id rfl
@[simp] theorem seq_rt (d e n) : SR.seq (.rt d e) n = .rt d e := id rfl
@[simp] theorem seq_exc (d e n) : SR.seq (.exc d e) n = .exc d e := id rfl
@[simp] theorem seq_bk (e n) : SR.seq (.bk e) n = .bk e := id rfl
@[simp] theorem seq_ct (e n) : SR.seq (.ct e) n = .ct e := id rfl
@[simp] theorem sSeq_ap : sSeq s1 s2 env = SR.seq (s1 env) s2 := id rfl
@[simp] theorem sPass_ap : sPass env = .nx env := id rfl
@[simp] theorem sBreak_ap : sBreak env = .bk env := id rfl
@[simp] theorem sCont_ap : sCont env = .ct env := id rfl
@[simp] theorem sRetN_ap : sRetN env = .rt .none env := id rfl
def kRet (d : PyData) (e : SEnv) : SR := .rt d e
@[simp] theorem kRet_ap (d e) : kRet d e = .rt d e := id rfl
@[simp] theorem sRet_ap : sRet ma env = (ma env).sbind kRet := id rfl
def kExpr (_ : PyData) (e : SEnv) : SR := .nx e
@[simp] theorem kExpr_ap (d e) : kExpr d e = .nx e := id rfl
@[simp] theorem sExpr_ap : sExpr ma env = (ma env).sbind kExpr := id rfl
def kSIf (a b : SEnv → SR) (t : Bool) (e : SEnv) : SR := if t then a e else b e
@[simp] theorem kSIf_t (e) : kSIf s1 s2 true e = s1 e := id rfl
@[simp] theorem kSIf_f (e) : kSIf s1 s2 false e = s2 e := id rfl
@[simp] theorem sIf_ap : sIf mt s1 s2 env = (mt env).sbind (kSIf s1 s2) := id rfl
def ofE (o : Option SEnv) : SR := match o with
  | some e => .nx e
  | none => .stuck
@[simp] theorem ofE_some (e) : ofE (some e) = .nx e := id rfl
def kAsg (g : PyData → SEnv → Option SEnv) (d : PyData) (e : SEnv) : SR := ofE (g d e)
@[simp] theorem kAsg_ap (g d e) : kAsg g d e = ofE (g d e) := id rfl
@[simp] theorem sAsg_ap (g : PyData → SEnv → Option SEnv) : sAsg ma g env = (ma env).sbind (kAsg g) := by
  unfold sAsg kAsg ofE
  congr 1
def gSetS (i : Nat) (s : Sl) (e : SEnv) (ol : Option Sl) : Option SEnv := match ol with
  | some l => if l.isIo then none else some (e.set i s)
  | none => none
@[simp] theorem gSetS_val (i s e d) : gSetS i s e (some (.val d)) = some (e.set i s) := id rfl
@[simp] theorem gSetS_un (i s e) : gSetS i s e (some .un) = some (e.set i s) := id rfl
@[simp] theorem gSetS_own (i s e o) : gSetS i s e (some (.own o)) = some (e.set i s) := id rfl
@[simp] theorem fName_ap (i : Nat) (d : PyData) : fName i d env = gSetS i (.val d) env env[i]? := by unfold fName gSetS; rfl
def kSetF (i : Nat) (o : O) (e : SEnv) : SR := ofE (gSetS i (.own o) e e[i]?)
@[simp] theorem kSetF_ap (i o e) : kSetF i o e = ofE (gSetS i (.own o) e e[i]?) := id rfl
@[simp] theorem sSetF_ap (i : Nat) (mo : SEnv → R O) : sSetF i mo env = (mo env).sbind (kSetF i) := by
  unfold sSetF kSetF gSetS ofE
  congr 1
  funext d e
  cases h : e[i]? with
  | none => rfl
  | some l => dsimp only; cases l.isIo <;> rfl
@[simp] theorem fTup_ap (fs : List (PyData → SEnv → Option SEnv)) (ds : List PyData) : fTup fs (.tuple ds) env = if ds.length = fs.length then gFold fs ds env else none := id rfl
@[simp] theorem gFold_nil : gFold [] [] env = some env := id rfl
@[simp] theorem gFold_cons (g : PyData → SEnv → Option SEnv) (fs d ds) : gFold (g :: fs) (d :: ds) env = (g d env).bind (gFold fs ds) := id rfl
@[simp] theorem fSub_ap (j : Nat) (k : Key) (d : PyData) : fSub j k d env = (match objOf env j with
  | some (.dct kvs) => if kvs.length < 16777216 then some (putAt env j (.dct (kput kvs k d))) else none
  | _ => none) := id rfl
@[simp] theorem putAt_ap (j : Nat) (o : O) : putAt env j o = (match env[j]? with
  | some l => env.set j (l.put o)
  | none => env) := id rfl

/-- append, stores -/
def gAppend (j : Nat) (o : Option O) (d : PyData) (e : SEnv) : SR := match o with
  | some (.lst ds) => if ds.length < 16777216 then .nx (putAt e j (.lst (ds ++ [d]))) else .stuck
  | _ => .stuck
@[simp] theorem gAppend_ap (j ds d e) : gAppend j (some (.lst ds)) d e = if ds.length < 16777216 then .nx (putAt e j (.lst (ds ++ [d]))) else .stuck := id rfl
def kAppend (j : Nat) (d : PyData) (e : SEnv) : SR := gAppend j (objOf e j) d e
@[simp] theorem kAppend_ap (j d e) : kAppend j d e = gAppend j (objOf e j) d e := id rfl
def ifLst (o : Option O) (r : SR) : SR := if isLst o then r else .stuck
@[simp] theorem ifLst_ap (ds r) : ifLst (some (.lst ds)) r = r := id rfl
@[simp] theorem sAppend_ap (j : Nat) : sAppend j ma env = ifLst (objOf env j) ((ma env).sbind (kAppend j)) := id rfl
def ifDct (o : Option O) (r : SR) : SR := if isDct o then r else .stuck
@[simp] theorem ifDct_ap (ds r) : ifDct (some (.dct ds)) r = r := id rfl
def gFldP (c j : Nat) (f : Str) (o : Option O) (d : PyData) (e : SEnv) : SR := match o with
  | some (.ins c' fs) => if c' = c ∧ fs.length < 1000 then .nx (putAt e j (.ins c (fput f d fs))) else .stuck
  | _ => .stuck
@[simp] theorem gFldP_ap (c j f fs d e) : gFldP c j f (some (.ins c fs)) d e = if fs.length < 1000 then .nx (putAt e j (.ins c (fput f d fs))) else .stuck := by unfold gFldP; simp
def kFldP (c j : Nat) (f : Str) (d : PyData) (e : SEnv) : SR := gFldP c j f (objOf e j) d e
@[simp] theorem kFldP_ap (c j f d e) : kFldP c j f d e = gFldP c j f (objOf e j) d e := id rfl
@[simp] theorem sFld_ap (c j : Nat) (f : Str) : sFld c j f ma env = (ma env).sbind (kFldP c j f) := id rfl
def ofP (o : Option PyData) (k : PyData → SR) : SR := match o with
  | some z => k z
  | none => .stuck
@[simp] theorem ofP_some (z k) : ofP (some z) k = k z := id rfl
def kP (k : SEnv → PyData → SR) (e : SEnv) (z : PyData) : SR := k e z
def kFldA2 (c j : Nat) (f : Str) (e : SEnv) (z : PyData) : SR := gFldP c j f (objOf e j) z e
@[simp] theorem kFldA2_ap (c j f e z) : kFldA2 c j f e z = gFldP c j f (objOf e j) z e := id rfl
def kFldA (c j : Nat) (f : Str) (op : PyData → PyData → Option PyData) (d0 d : PyData) (e : SEnv) : SR := ofP (op d0 d) (kFldA2 c j f e)
@[simp] theorem kFldA_ap (c j f op d0 d e) : kFldA c j f op d0 d e = ofP (op d0 d) (kFldA2 c j f e) := id rfl
def gFldA (c j : Nat) (f : Str) (op : PyData → PyData → Option PyData) (m : SEnv → R PyData) (env : SEnv) (d0 : PyData) : SR := (m env).sbind (kFldA c j f op d0)
@[simp] theorem gFldA_ap (c j f op m d0) : gFldA c j f op m env d0 = (m env).sbind (kFldA c j f op d0) := id rfl
def gFldO (c j : Nat) (f : Str) (op : PyData → PyData → Option PyData) (m : SEnv → R PyData) (env : SEnv) (o : Option O) : SR := match o with
  | some (.ins c' fs) => if c' = c then ofP (fs.lookup f) (gFldA c j f op m env) else .stuck
  | _ => .stuck
@[simp] theorem gFldO_ap (c j f op m fs) : gFldO c j f op m env (some (.ins c fs)) = ofP (fs.lookup f) (gFldA c j f op m env) := by unfold gFldO; simp
@[simp] theorem sFldAug_ap (c j : Nat) (f : Str) (op : PyData → PyData → Option PyData) : sFldAug c j f op ma env = gFldO c j f op ma env (objOf env j) := id rfl
def gDput (j : Nat) (o : Option O) (k : Option Key) (d : PyData) (e : SEnv) : SR := match o, k with
  | some (.dct kvs), some k => if kvs.length < 16777216 then .nx (putAt e j (.dct (kput kvs k d))) else .stuck
  | _, _ => .stuck
@[simp] theorem gDput_ap (j kvs k d e) : gDput j (some (.dct kvs)) (some k) d e = if kvs.length < 16777216 then .nx (putAt e j (.dct (kput kvs k d))) else .stuck := id rfl
def kDput2 (j : Nat) (d k : PyData) (e : SEnv) : SR := gDput j (objOf e j) (keyOf k) d e
@[simp] theorem kDput2_ap (j d k e) : kDput2 j d k e = gDput j (objOf e j) (keyOf k) d e := id rfl
def kDput (j : Nat) (mk : SEnv → R PyData) (d : PyData) (e : SEnv) : SR := (mk e).sbind (kDput2 j d)
@[simp] theorem kDput_ap (j mk d e) : kDput j mk d e = (mk e).sbind (kDput2 j d) := id rfl
@[simp] theorem sDput_ap (j : Nat) : sDput j ma mb env = ifDct (objOf env j) ((mb env).sbind (kDput j ma)) := by
  unfold sDput ifDct
  split
  · congr 1
    funext d e
    unfold kDput
    congr 1
    funext k e2
    unfold kDput2 gDput
    cases objOf e2 j with
    | none => rfl
    | some o => cases o <;> first | rfl | (dsimp only; cases keyOf k <;> rfl)
  · rfl
def kDaug2 (j : Nat) (k : Key) (e : SEnv) (z : PyData) : SR := gDput j (objOf e j) (some k) z e
@[simp] theorem kDaug2_ap (j k e z) : kDaug2 j k e z = gDput j (objOf e j) (some k) z e := id rfl
def kDaug1 (j : Nat) (op : PyData → PyData → Option PyData) (k : Key) (d0 d : PyData) (e : SEnv) : SR := ofP (op d0 d) (kDaug2 j k e)
@[simp] theorem kDaug1_ap (j op k d0 d e) : kDaug1 j op k d0 d e = ofP (op d0 d) (kDaug2 j k e) := id rfl
def gDaug1 (j : Nat) (op : PyData → PyData → Option PyData) (mv : SEnv → R PyData) (k : Key) (e : SEnv) (d0 : PyData) : SR := (mv e).sbind (kDaug1 j op k d0)
@[simp] theorem gDaug1_ap (j op mv k e d0) : gDaug1 j op mv k e d0 = (mv e).sbind (kDaug1 j op k d0) := id rfl
def gDaug (j : Nat) (op : PyData → PyData → Option PyData) (mv : SEnv → R PyData) (o : Option O) (k : Option Key) (e : SEnv) : SR := match o, k with
  | some (.dct kvs), some k => ofP (klook kvs k) (gDaug1 j op mv k e)
  | _, _ => .stuck
@[simp] theorem gDaug_ap (j op mv kvs k e) : gDaug j op mv (some (.dct kvs)) (some k) e = ofP (klook kvs k) (gDaug1 j op mv k e) := id rfl
def kDaug (j : Nat) (op : PyData → PyData → Option PyData) (mv : SEnv → R PyData) (k : PyData) (e : SEnv) : SR := gDaug j op mv (objOf e j) (keyOf k) e
@[simp] theorem kDaug_ap (j op mv k e) : kDaug j op mv k e = gDaug j op mv (objOf e j) (keyOf k) e := id rfl
@[simp] theorem sDaug_ap (j : Nat) (op : PyData → PyData → Option PyData) : sDaug j op ma mb env = ifDct (objOf env j) ((ma env).sbind (kDaug j op mb)) := by
  unfold sDaug ifDct
  split
  · congr 1
    funext k e
    unfold kDaug gDaug
    cases objOf e j with
    | none => rfl
    | some o =>
      cases o with
      | dct kvs =>
        dsimp only
        cases keyOf k with
        | none => rfl
        | some k =>
          dsimp only
          cases klook kvs k with
          | none => rfl
          | some d0 =>
            dsimp only
            show _ = (mb e).sbind (kDaug1 j op k d0)
            congr 1
            funext d e2
            unfold kDaug1 ofP kDaug2 gDput
            cases op d0 d with
            | none => rfl
            | some z => dsimp only; cases objOf e2 j with
              | none => rfl
              | some o => cases o <;> rfl
      | _ => rfl
  · rfl
def kAug (i : Nat) (op : PyData → PyData → Option PyData) (d0 d : PyData) (e : SEnv) : SR := ofP (op d0 d) fun z => ofE (fName i z e)
@[simp] theorem kAug_ap (i op d0 d e) : kAug i op d0 d e = ofP (op d0 d) fun z => ofE (fName i z e) := id rfl
def gAug (i : Nat) (op : PyData → PyData → Option PyData) (m : SEnv → R PyData) (env : SEnv) (ol : Option Sl) : SR := match ol with
  | some (.val d0) => (m env).sbind (kAug i op d0)
  | _ => .stuck
@[simp] theorem gAug_ap (i op d0) : gAug i op ma env (some (.val d0)) = (ma env).sbind (kAug i op d0) := id rfl
@[simp] theorem sAug_ap (i : Nat) (op : PyData → PyData → Option PyData) : sAug i op ma env = gAug i op ma env env[i]? := by
  unfold sAug gAug
  cases h : env[i]? with
  | none => rfl
  | some l =>
    cases l with
    | val d0 =>
      dsimp only
      congr 1
    | _ => rfl
def kRaise (c : Nat) (f : Str) (d : PyData) (e : SEnv) : SR := .exc ⟨c, [(f, d)]⟩ e
@[simp] theorem kRaise_ap (c f d e) : kRaise c f d e = .exc ⟨c, [(f, d)]⟩ e := id rfl
@[simp] theorem sRaise_ap (c : Nat) (f : Str) : sRaise c f ma env = (ma env).sbind (kRaise c f) := id rfl
/-- dict displays -/
def kPairs3 (a b : PyData) (l : List (PyData × PyData)) (e : SEnv) : R (List (PyData × PyData)) := .ok ((a, b) :: l) e
def kPairs2 (r : List ((SEnv → R PyData) × (SEnv → R PyData))) (a b : PyData) (e : SEnv) : R (List (PyData × PyData)) := (mPairs r e).bind (kPairs3 a b)
def kPairs (mv : SEnv → R PyData) (r : List ((SEnv → R PyData) × (SEnv → R PyData))) (a : PyData) (e : SEnv) : R (List (PyData × PyData)) := (mv e).bind (kPairs2 r a)
@[simp] theorem kPairs3_ap (a b l e) : kPairs3 a b l e = .ok ((a, b) :: l) e := id rfl
@[simp] theorem kPairs2_ap (r a b e) : kPairs2 r a b e = (mPairs r e).bind (kPairs3 a b) := id rfl
@[simp] theorem kPairs_ap (r a e) : kPairs mb r a e = (mb e).bind (kPairs2 r a) := id rfl
@[simp] theorem mPairs_nil : mPairs [] env = .ok [] env := id rfl
@[simp] theorem mPairs_cons (r) : mPairs ((ma, mb) :: r) env = (ma env).bind (kPairs mb r) := id rfl
def gDct (o : Option (List (Key × PyData))) (e : SEnv) : R O := match o with
  | some kvs => if kvs.length ≤ 15 then .ok (.dct (kvs.foldl (fun acc kv => kput acc kv.1 kv.2) [])) e else .stuck
  | none => .stuck
@[simp] theorem gDct_ap (kvs e) : gDct (some kvs) e = if kvs.length ≤ 15 then .ok (.dct (kvs.foldl (fun acc kv => kput acc kv.1 kv.2) [])) e else .stuck := id rfl
def kDct (l : List (PyData × PyData)) (e : SEnv) : R O := gDct (keysOf l) e
@[simp] theorem kDct_ap (l e) : kDct l e = gDct (keysOf l) e := id rfl
@[simp] theorem mDct_ap (ps : List ((SEnv → R PyData) × (SEnv → R PyData))) : mDct ps env = (mPairs ps env).bind kDct := id rfl
@[simp] theorem keysOf_nil : keysOf [] = some [] := id rfl
@[simp] theorem keysOf_cons (a b r) : keysOf ((a, b) :: r) = (keyOf a).bind fun k => (keysOf r).map fun l => (k, b) :: l := id rfl
end
end Bk

set_option linter.all false
set_option maxRecDepth 100000
set_option maxHeartbeats 2000000
/-! Data as lists, loops by what stays. -/
namespace Bk
open PySem PySem.Spec PyProof.Rows L2

/-! ### a def runs -/
def ofSR (r : SR) : RC := match r with
  | .nx e => .ok .none (ioOf e)
  | .rt d e => .ok d (ioOf e)
  | .exc x e => .exc x (ioOf e)
  | _ => .stuck
@[simp] theorem ofSR_nx (e) : ofSR (.nx e) = .ok .none (ioOf e) := id rfl
@[simp] theorem ofSR_rt (d e) : ofSR (.rt d e) = .ok d (ioOf e) := id rfl
@[simp] theorem ofSR_exc (x e) : ofSR (.exc x e) = .exc x (ioOf e) := id rfl
theorem run_ap (nu : Nat) (b : SEnv → SR) (as : SEnv) : runDef nu b as = ofSR (b (as ++ List.replicate nu .un)) := rfl
@[simp] theorem ioOf_nil : ioOf [] = none := id rfl
@[simp] theorem ioOf_io (o r) : ioOf (.io o :: r) = some o := id rfl
@[simp] theorem ioOf_val (d r) : ioOf (.val d :: r) = ioOf r := id rfl
@[simp] theorem ioOf_un (r) : ioOf (.un :: r) = ioOf r := id rfl
@[simp] theorem ioOf_own (o r) : ioOf (.own o :: r) = ioOf r := id rfl

@[simp] theorem ioOf_any {l : Sl} {r : SEnv} (h : l.isIo = false) : ioOf (l :: r) = ioOf r := by cases l <;> first | rfl | cases h
@[simp] theorem gSetS_any {i : Nat} {s l : Sl} {e : SEnv} (h : l.isIo = false) : gSetS i s e (some l) = some (e.set i s) := by
  unfold gSetS; simp [h]

/-! ### texts as lists of signs -/
@[simp] theorem tx_inj {a b : List Nat} : tx a = tx b ↔ a = b := by
  constructor
  · intro h
    have : (tx a).cps.toList = (tx b).cps.toList := by rw [h]
    simpa using this
  · rintro rfl; rfl
@[simp] theorem tx_len (a : List Nat) : (tx a).length = a.length := by simp [Str.length]
theorem tx_app (a b : List Nat) : (tx a ++ tx b) = tx (a ++ b) := by
  show Str.append _ _ = _
  simp [Str.append]
@[simp] theorem add_tx {a b : List Nat} : addD (.str (tx a)) (.str (tx b)) = if a.length + b.length ≤ 16777216 then some (.str (tx (a ++ b))) else none := by
  rw [← tx_app, ← tx_len a, ← tx_len b]; rfl
@[simp] theorem add_int {a b : Int} : addD (.int a) (.int b) = some (.int (a + b)) := id rfl
@[simp] theorem add_list {a b : List PyData} : addD (.list a) (.list b) = if a.length + b.length ≤ 16777216 then some (.list (a ++ b)) else none := id rfl
@[simp] theorem add_tuple {a b : List PyData} : addD (.tuple a) (.tuple b) = if a.length + b.length ≤ 16777216 then some (.tuple (a ++ b)) else none := id rfl
@[simp] theorem int_int (C : Int → Int → Bool) (g : Int → Int → Int) (i j : Int) : intD C g (.int i) (.int j) = if C i j then some (.int (g i j)) else none := id rfl
@[simp] theorem ord_int (f g) (i j : Int) : ordD f g (.int i) (.int j) = some (.bool (f i j)) := id rfl
@[simp] theorem ord_tx (f g) (a b : List Nat) : ordD f g (.str (tx a)) (.str (tx b)) = some (.bool (g a b)) := id rfl
@[simp] theorem eq_int (i j : Int) : eqD (.int i) (.int j) = some (.bool (decide (i = j))) := id rfl
@[simp] theorem ne_int (i j : Int) : neD (.int i) (.int j) = some (.bool (!decide (i = j))) := id rfl
@[simp] theorem eq_tx (a b : List Nat) : eqD (.str (tx a)) (.str (tx b)) = some (.bool (decide (a = b))) := by
  show some (PyData.bool (decide (tx a = tx b))) = _
  simp only [tx_inj]
@[simp] theorem ne_tx (a b : List Nat) : neD (.str (tx a)) (.str (tx b)) = some (.bool (!decide (a = b))) := by
  show some (PyData.bool (!decide (tx a = tx b))) = _
  simp only [tx_inj]
theorem eqB_nil (ds : List PyData) : eqB (.list ds) (.list []) = some ds.isEmpty := by
  cases ds <;> rfl
@[simp] theorem eq_nil (ds : List PyData) : eqD (.list ds) (.list []) = some (.bool ds.isEmpty) := by unfold eqD; rw [eqB_nil]; rfl
@[simp] theorem ne_nil (ds : List PyData) : neD (.list ds) (.list []) = some (.bool (!ds.isEmpty)) := by unfold neD; rw [eqB_nil]; rfl
@[simp] theorem len_tx (a : List Nat) : lenD [.str (tx a)] = if a.length ≤ 16777216 then some (.int a.length) else none := by
  unfold lenD; simp
@[simp] theorem len_list (ds : List PyData) : lenD [.list ds] = some (.int ds.length) := id rfl
@[simp] theorem len_tuple (ds : List PyData) : lenD [.tuple ds] = some (.int ds.length) := id rfl
@[simp] theorem intOf_int (i : Int) : intOf [.int i] = some (.int i) := id rfl
@[simp] theorem absOf_int (i : Int) : absOf [.int i] = some (.int (if i < 0 then -i else i)) := id rfl
@[simp] theorem tupOf_list (ds : List PyData) : tupOf [.list ds] = some (.tuple ds) := id rfl
@[simp] theorem tupOf_tuple (ds : List PyData) : tupOf [.tuple ds] = some (.tuple ds) := id rfl
@[simp] theorem neg_int (i : Int) : negD (.int i) = some (.int (-i)) := id rfl
@[simp] theorem in_tx (c : Nat) (b : List Nat) : inD (.str (tx [c])) (.str (tx b)) = some (.bool (decide (c ∈ b))) := id rfl
@[simp] theorem notIn_tx (c : Nat) (b : List Nat) : notInD (.str (tx [c])) (.str (tx b)) = some (.bool (!decide (c ∈ b))) := id rfl
@[simp] theorem isN_ap (a : PyData) : isNoneD a .none = some (.bool (isNb a)) := id rfl
@[simp] theorem notN_ap (a : PyData) : notNoneD a .none = some (.bool (!isNb a)) := id rfl
/-- the k-th -/
theorem atI_nat {α : Type} (xs : List α) (k : Nat) : atI xs (k : Int) = xs[k]? := by
  unfold atI ixN
  rw [if_pos (by omega)]
  by_cases h : k < xs.length
  · rw [if_pos (by omega)]; simp
  · rw [if_neg (by omega)]; simp; omega
theorem atI_last {α : Type} (xs : List α) (x : α) : atI (xs ++ [x]) (-1) = some x := by
  unfold atI ixN
  rw [if_neg (by omega), if_pos (by simp; omega)]
  have : (-1 + ((xs ++ [x]).length : Int)).toNat = xs.length := by simp; omega
  rw [Option.bind_some, this]
  simp
@[simp] theorem atI_zero {α : Type} (x : α) (l : List α) : atI (x :: l) 0 = some x := by
  have := atI_nat (x :: l) 0
  simpa using this
@[simp] theorem atI_one {α : Type} (x y : α) (l : List α) : atI (x :: y :: l) 1 = some y := by
  have := atI_nat (x :: y :: l) 1
  simpa using this
@[simp] theorem idx_list (ds : List PyData) (i : Int) : idxD (.list ds) (.int i) = atI ds i := id rfl
@[simp] theorem idx_tuple (ds : List PyData) (i : Int) : idxD (.tuple ds) (.int i) = atI ds i := id rfl
@[simp] theorem idx_tx (a : List Nat) (i : Int) : idxD (.str (tx a)) (.int i) = if a.length ≤ 16777216 then (atI a i).map fun c => .str (tx [c]) else none := by
  unfold idxD; simp
/-- slices -/
def sx (n : Nat) (d : Nat) (o : Option Int) : Nat := HT.sIx n d o
def cutL {α : Type} (l : List α) (lo hi : Option Int) : List α := (l.drop (sx l.length 0 lo)).take (sx l.length l.length hi - sx l.length 0 lo)
@[simp] theorem slice_tx (a : List Nat) (lo hi : Option Int) : sliceD (.str (tx a)) lo hi = if a.length ≤ 16777216 then some (.str (tx (cutL a lo hi))) else none := by
  unfold sliceD cutS cutL sx; simp
@[simp] theorem slice_list (a : List PyData) (lo hi : Option Int) : sliceD (.list a) lo hi = some (.list (cutL a lo hi)) := id rfl
@[simp] theorem slice_tuple (a : List PyData) (lo hi : Option Int) : sliceD (.tuple a) lo hi = some (.tuple (cutL a lo hi)) := id rfl
theorem sx_nat (n d k : Nat) : sx n d (some (k : Int)) = min k n := HT.sIx_nat n d k
theorem cut_to {α : Type} (l : List α) (k : Nat) : cutL l none (some (k : Int)) = l.take k := by
  unfold cutL
  rw [sx_nat, show sx l.length 0 none = 0 from rfl]
  simp
theorem cut_from {α : Type} (l : List α) (k : Nat) : cutL l (some (k : Int)) none = l.drop k := by
  unfold cutL
  rw [sx_nat, show sx l.length l.length none = l.length from rfl]
  by_cases h : k ≤ l.length
  · rw [Nat.min_eq_left h, List.take_of_length_le (by simp)]
  · rw [Nat.min_eq_right (by omega)]; simp; omega
theorem cut_mid {α : Type} (l : List α) (i j : Nat) (h : i ≤ j) : cutL l (some (i : Int)) (some (j : Int)) = (l.drop i).take (j - i) := by
  unfold cutL
  rw [sx_nat, sx_nat]
  by_cases h1 : i ≤ l.length
  · rw [Nat.min_eq_left h1]
    by_cases h2 : j ≤ l.length
    · rw [Nat.min_eq_left h2]
    · rw [Nat.min_eq_right (by omega)]
      rw [List.take_of_length_le (by simp), List.take_of_length_le (by simp; omega)]
  · rw [Nat.min_eq_right (show l.length ≤ i by omega), List.drop_of_length_le (Nat.le_refl _), List.drop_of_length_le (by omega)]
    simp
/-- joined -/
def joinL (s : List Nat) : List (List Nat) → List Nat
  | [] => []
  | [x] => x
  | x :: y :: r => x ++ s ++ joinL s (y :: r)
theorem join_tx (s : List Nat) : ∀ xs : List (List Nat), Txt.join (tx s) (xs.map tx) = tx (joinL s xs) := fun xs => by
  rw [show Txt.join (tx s) (xs.map tx) = Str.join (tx s) (xs.map tx) from PySem.StrLaws.glued_eq_join _ _]
  induction xs with
  | nil => rfl
  | cons x r ih =>
    cases r with
    | nil => rfl
    | cons y r =>
      show tx x ++ tx s ++ Str.join (tx s) ((y :: r).map tx) = _
      rw [ih, tx_app, tx_app]; rfl
theorem strs_tx : ∀ xs : List (List Nat), strsOf (xs.map fun x => .str (tx x)) = some (xs.map tx)
  | [] => rfl
  | x :: r => by
    show (strsOf (r.map fun x => PyData.str (tx x))).map _ = _
    rw [strs_tx r]; rfl
theorem joinD_tx (s : List Nat) (xs : List (List Nat)) : joinD (tx s) (.list (xs.map fun x => .str (tx x))) = if (xs.map (·.length)).sum + xs.length * s.length ≤ 16777216 then some (.str (tx (joinL s xs))) else none := by
  unfold joinD
  simp only [strs_tx, join_tx]
  simp [Function.comp_def]
theorem small62_of {n : Nat} (h : n ≤ 16777216) : small62 (n : Int) = true := by
  unfold small62
  simp
  omega
/-- type tests -/
theorem isi_ap (T : String) (d : PyData) : isiD T d = some (.bool (isiB (tyName d) T)) := rfl

/-! ### loops -/
def kFor (g : PyData → SEnv → Option SEnv) (b : SEnv → SR) (ds : List PyData) (e : SEnv) : SR := fLoop g b ds e
@[simp] theorem kFor_ap (g b ds e) : kFor g b ds e = fLoop g b ds e := id rfl
@[simp] theorem sFor_ap (mi : SEnv → R (List PyData)) (g : PyData → SEnv → Option SEnv) (b : SEnv → SR) (env : SEnv) : sFor mi g b env = (mi env).sbind (kFor g b) := id rfl
@[simp] theorem fLoop_nil (g : PyData → SEnv → Option SEnv) (b : SEnv → SR) (env : SEnv) : fLoop g b [] env = .nx env := id rfl
theorem fLoop_inv {g : PyData → SEnv → Option SEnv} {b : SEnv → SR} (I : Nat → SEnv → Prop) : ∀ (ds : List PyData) (i0 : Nat) (e : SEnv), I i0 e →
    (∀ (i : Nat) (d : PyData) (e : SEnv), ds[i]? = some d → I (i0 + i) e → ∃ e1 e2, g d e = some e1 ∧ b e1 = .nx e2 ∧ I (i0 + i + 1) e2) → ∃ e', fLoop g b ds e = .nx e' ∧ I (i0 + ds.length) e'
  | [], i0, e, h, _ => ⟨e, rfl, h⟩
  | d :: ds, i0, e, h, k => by
    obtain ⟨e1, e2, h1, h2, h3⟩ := k 0 d e rfl h
    obtain ⟨e', h4, h5⟩ := fLoop_inv I ds (i0 + 1) e2 h3 fun i d e hi he => by
      have := k (i + 1) d e (by simpa using hi) (by rw [show i0 + (i + 1) = i0 + 1 + i by omega]; exact he)
      obtain ⟨a1, a2, b1, b2, b3⟩ := this
      exact ⟨a1, a2, b1, b2, by rw [show i0 + 1 + i + 1 = i0 + (i + 1) + 1 by omega]; exact b3⟩
    refine ⟨e', ?_, by rw [show i0 + (d :: ds).length = i0 + 1 + ds.length by simp; omega]; exact h5⟩
    show (match g d e with
      | none => SR.stuck
      | some e => match b e with
        | .nx e2 => fLoop g b ds e2
        | .ct e2 => fLoop g b ds e2
        | .bk e2 => .nx e2
        | r => r) = _
    rw [h1]
    dsimp only
    rw [h2]
    exact h4
@[simp] theorem intsD_get (lo : Int) (n i : Nat) : (intsD lo n)[i]? = if i < n then some (.int (lo + i)) else none := by
  unfold intsD
  simp [List.getElem?_map, List.getElem?_range]
  by_cases h : i < n
  · simp [h]
  · simp [h]
@[simp] theorem intsD_len (lo : Int) (n : Nat) : (intsD lo n).length = n := by simp [intsD]
noncomputable def wNext (c : SEnv → R Bool) (b : SEnv → SR) (r : SR) : SR := match r with
  | .nx e2 => sWhile c b e2
  | .ct e2 => sWhile c b e2
  | .bk e2 => .nx e2
  | r => r
@[simp] theorem wNext_nx (c b e) : wNext c b (.nx e) = sWhile c b e := id rfl
@[simp] theorem wNext_rt (c b d e) : wNext c b (.rt d e) = .rt d e := id rfl
@[simp] theorem wNext_bk (c b e) : wNext c b (.bk e) = .nx e := id rfl
@[simp] theorem wNext_ct (c b e) : wNext c b (.ct e) = sWhile c b e := id rfl
@[simp] theorem wNext_exc (c b x e) : wNext c b (.exc x e) = .exc x e := id rfl
noncomputable def kWhile (c : SEnv → R Bool) (b : SEnv → SR) (t : Bool) (e : SEnv) : SR := if t then wNext c b (b e) else .nx e
@[simp] theorem kWhile_t (c b e) : kWhile c b true e = wNext c b (b e) := id rfl
@[simp] theorem kWhile_f (c b e) : kWhile c b false e = .nx e := id rfl
theorem wLoop_stuck {c : SEnv → R Bool} {b : SEnv → SR} {e : SEnv} (h : sWhile c b e = .stuck) (n : Nat) : wLoop c b n e = .stuck := by
  refine Classical.byContradiction fun hn => ?_
  rw [sWhile_of rfl hn] at h
  exact hn h
theorem sWhile_eq (c : SEnv → R Bool) (b : SEnv → SR) (env : SEnv) : sWhile c b env = (c env).sbind (kWhile c b) := by
  have step : ∀ n, wLoop c b (n + 1) env = (c env).sbind fun t e => if t then (match b e with
    | .nx e2 => wLoop c b n e2
    | .ct e2 => wLoop c b n e2
    | .bk e2 => .nx e2
    | r => r) else .nx e := fun n => rfl
  have fin : ∀ {n r}, wLoop c b (n + 1) env = r → r ≠ .stuck → sWhile c b env = r := fun h hr => sWhile_of h hr
  have none : (∀ n, wLoop c b n env = .stuck) → sWhile c b env = .stuck := fun h => by
    refine Classical.byContradiction fun hn => ?_
    unfold sWhile at hn
    split at hn
    · rename_i hx
      exact hn (h _)
    · exact hn rfl
  cases hc : c env with
  | stuck =>
    refine none fun n => ?_
    cases n with
    | zero => rfl
    | succ n => rw [step, hc]; rfl
  | exc x e => exact fin (n := 0) (by rw [step, hc]; rfl) (by simp)
  | ok t e =>
    rw [sbind_ok]
    cases t with
    | false => exact fin (n := 0) (by rw [step, hc]; rfl) (by simp)
    | true =>
      rw [kWhile_t]
      cases hb : b e with
      | nx e2 =>
        rw [wNext_nx]
        by_cases hs : sWhile c b e2 = .stuck
        · rw [hs]
          refine none fun n => ?_
          cases n with
          | zero => rfl
          | succ n =>
            rw [step, hc, sbind_ok, if_pos rfl, hb]
            exact wLoop_stuck hs n
        · have hs' := hs
          unfold sWhile at hs'
          split at hs'
          · rename_i hx
            have e1 := sWhile_of (c := c) (b := b) rfl (Classical.choose_spec hx)
            rw [e1]
            exact fin (n := Classical.choose hx) (by rw [step, hc, sbind_ok, if_pos rfl, hb]) (Classical.choose_spec hx)
          · exact absurd rfl hs'
      | ct e2 =>
        rw [wNext_ct]
        by_cases hs : sWhile c b e2 = .stuck
        · rw [hs]
          refine none fun n => ?_
          cases n with
          | zero => rfl
          | succ n =>
            rw [step, hc, sbind_ok, if_pos rfl, hb]
            exact wLoop_stuck hs n
        · have hs' := hs
          unfold sWhile at hs'
          split at hs'
          · rename_i hx
            have e1 := sWhile_of (c := c) (b := b) rfl (Classical.choose_spec hx)
            rw [e1]
            exact fin (n := Classical.choose hx) (by rw [step, hc, sbind_ok, if_pos rfl, hb]) (Classical.choose_spec hx)
          · exact absurd rfl hs'
      | stuck =>
        refine none fun n => ?_
        cases n with
        | zero => rfl
        | succ n => rw [step, hc, sbind_ok, if_pos rfl, hb]
      | bk e2 => exact fin (n := 0) (by rw [step, hc, sbind_ok, if_pos rfl, hb]; rfl) (by simp)
      | rt d e2 => exact fin (n := 0) (by rw [step, hc, sbind_ok, if_pos rfl, hb]; rfl) (by simp)
      | exc x e2 => exact fin (n := 0) (by rw [step, hc, sbind_ok, if_pos rfl, hb]; rfl) (by simp)

/-! ### comprehensions -/
def kLcF (ow : List Nat) (g : PyData → SEnv → Option SEnv) (mt : SEnv → R Bool) (me : SEnv → R PyData) (ds : List PyData) (e : SEnv) : R O := if ow.all (fun v => isUn e[v]?) then lcLoop ow g mt me ds e [] else .stuck
theorem kLcF_ap (ow g mt me ds e) : kLcF ow g mt me ds e = if ow.all (fun v => isUn e[v]?) then lcLoop ow g mt me ds e [] else .stuck := rfl
@[simp] theorem mLcF_ap (ow : List Nat) (mi : SEnv → R (List PyData)) (g mt me) (env : SEnv) : mLcF ow mi g mt me env = (mi env).bind (kLcF ow g mt me) := id rfl
@[simp] theorem mYes_ap (env : SEnv) : mYes env = .ok true env := id rfl
@[simp] theorem isUn_un : isUn (some .un) = true := id rfl
/-- the loop of a comprehension, its results by Rl -/
theorem lc_all {ow : List Nat} {g : PyData → SEnv → Option SEnv} {mt : SEnv → R Bool} {me : SEnv → R PyData} (I : SEnv → Prop) (Rl : PyData → Option PyData → Prop) : ∀ (ds : List PyData) (e : SEnv) (acc : List PyData), I e → acc.length + ds.length ≤ 16777216 →
    (∀ d ∈ ds, ∀ e, I e → ∃ e1, g d (wipeE e ow) = some e1 ∧ ((∃ e2, mt e1 = .ok false e2 ∧ I e2 ∧ Rl d none) ∨ ∃ e2 e3 y, mt e1 = .ok true e2 ∧ me e2 = .ok y e3 ∧ I e3 ∧ Rl d (some y))) →
    ∃ e' zs, lcLoop ow g mt me ds e acc = .ok (.lst (acc ++ zs.filterMap _root_.id)) (wipeE e' ow) ∧ I e' ∧ Paired Rl ds zs
  | [], e, acc, h, _, _ => ⟨e, [], by simp [lcLoop], h, .nil⟩
  | d :: ds, e, acc, h, hl, k => by
    obtain ⟨e1, h1, h2⟩ := k d List.mem_cons_self e h
    have k' := fun d hd => k d (List.mem_cons_of_mem _ hd)
    simp only [List.length_cons] at hl
    rcases h2 with ⟨e2, h2, h3, h4⟩ | ⟨e2, e3, y, h2, h3, h4, h5⟩
    · obtain ⟨e', zs, q1, q2, q3⟩ := lc_all I Rl ds e2 acc h3 (by omega) k'
      refine ⟨e', none :: zs, ?_, q2, .cons h4 q3⟩
      unfold lcLoop
      rw [h1]; dsimp only; rw [h2]; dsimp only
      rw [q1]; simp
    · obtain ⟨e', zs, q1, q2, q3⟩ := lc_all I Rl ds e3 (acc ++ [y]) h4 (by simp; omega) k'
      refine ⟨e', some y :: zs, ?_, q2, .cons h5 q3⟩
      unfold lcLoop
      rw [h1]; dsimp only; rw [h2]; dsimp only; rw [h3]; dsimp only
      rw [if_pos (by omega), q1]; simp
/-- .. where each item gives a value by itself -/
theorem lc_map {ow : List Nat} {g : PyData → SEnv → Option SEnv} {me : SEnv → R PyData} {α : Type} (I : SEnv → Prop) (i f : α → PyData) (xs : List α) (e : SEnv) (h : I e) (hl : xs.length ≤ 16777216)
    (k : ∀ x ∈ xs, ∀ e, I e → ∃ e1 e3, g (i x) (wipeE e ow) = some e1 ∧ me e1 = .ok (f x) e3 ∧ I e3) : ∃ e', lcLoop ow g mYes me (xs.map i) e [] = .ok (.lst (xs.map f)) (wipeE e' ow) ∧ I e' := by
  have key : ∀ (xs : List α) (e : SEnv) (acc : List PyData), I e → acc.length + xs.length ≤ 16777216 → (∀ x ∈ xs, ∀ e, I e → ∃ e1 e3, g (i x) (wipeE e ow) = some e1 ∧ me e1 = .ok (f x) e3 ∧ I e3) →
      ∃ e', lcLoop ow g mYes me (xs.map i) e acc = .ok (.lst (acc ++ xs.map f)) (wipeE e' ow) ∧ I e' := by
    intro xs
    induction xs with
    | nil => intro e acc h _ _; exact ⟨e, by simp [lcLoop], h⟩
    | cons x xs ih =>
      intro e acc h hl k
      obtain ⟨e1, e3, h1, h2, h3⟩ := k x List.mem_cons_self e h
      simp only [List.length_cons] at hl
      obtain ⟨e', q1, q2⟩ := ih e3 (acc ++ [f x]) h3 (by simp; omega) fun y hy => k y (List.mem_cons_of_mem _ hy)
      refine ⟨e', ?_, q2⟩
      rw [List.map_cons]
      unfold lcLoop
      rw [h1]; dsimp only [mYes]; rw [h2]; dsimp only
      rw [if_pos (by omega), q1]; simp
  have := key xs e [] h (by simpa using hl) k
  simpa using this
end Bk

set_option linter.all false
set_option maxRecDepth 100000
set_option maxHeartbeats 4000000
namespace K08
open PySem PySem.Spec PyProof.Rows L2 Bk
noncomputable section
def top (i : Nat) : Stmt := PySem.Challenge.pw_backlook_k08_texts_of_trees.main.body.getD i (.Pass ⟨0, 0, 0, 0⟩)
def k_at : Str := "at"
def k_bad : Str := "bad"
def k_draws : Str := "draws"
def k_name : Str := "name"
def k_need : Str := "need"
def k_place : Str := "place"
def k_text : Str := "text"
def k_tree : Str := "tree"
def gl_DIGITS : Str := tx [48, 49, 50, 51, 52, 53, 54, 55, 56, 57]
def gl_LETTERS : Str := tx [97, 98, 99, 100, 101, 102, 103, 104, 105, 106, 107, 108, 109, 110, 111, 112, 113, 114, 115, 116, 117, 118, 119, 120, 121, 122]
def x_is_BadText (c : Nat) : Bool := [1].contains c

/-! ### the mirrors -/
/-! TreeReader.__init__(self, text): 0 self (TreeReader) 1 text -/
def B_TreeReader_init : SEnv → SR := (sSeq (sFld 2 0 k_text (mVar 1)) (sFld 2 0 k_at (mC (.int 0))))
def S_TreeReader_init : SEnv → RC := runDef 0 B_TreeReader_init
/-! _law_draws(script, many): 0 script 1 many 2 draws (lst) 3 mixed 4 k 5 cell 6 rest 7 turn -/
def B_law_draws : SEnv → SR := (sSeq (sSetF 2 (mLstF [])) (sSeq (sAsg (mC (.int 7)) (fName 3)) (sSeq (sFor (mRange1 (mB lenD [(mVar 0)])) (fName 4) (sSeq (sAsg (mB absOf [(mB intOf [(mOp2 idxD (mVar 0) (mVar 4))])]) (fName 5)) (sSeq (sAsg (mOp2 modD (mB intOf [(mOp2 addD (mOp2 addD (mOp2 mulD (mVar 3) (mC (.int 48271))) (mOp2 modD (mVar 5) (mC (.int 1000003)))) (mVar 4))]) (mC (.int 65537))) (fName 3)) (sSeq (sAsg (mC (.int 0)) (fName 6)) (sSeq (sIf (mTest (mOp2 geD (mVar 5) (mOp2 powD (mC (.int 10)) (mC (.int 18))))) (sAsg (mVar 5) (fName 6)) (sSeq (sAppend 2 (mOp2 modD (mB intOf [(mVar 5)]) (mC (.int 997)))) (sAppend 2 (mOp2 modD (mOp2 modD (mB intOf [(mOp2 addD (mOp2 mulD (mVar 3) (mC (.int 69621))) (mC (.int 5)))]) (mC (.int 65521))) (mC (.int 997)))))) (sFor (mRange1 (mC (.int 60))) (fName 7) (sIf (mTest (mOp2 gtD (mVar 6) (mC (.int 0)))) (sSeq (sAppend 2 (mOp2 modD (mB intOf [(mVar 6)]) (mC (.int 997)))) (sAsg (mOp2 fdivD (mVar 6) (mC (.int 997))) (fName 6))) sPass))))))) (sSeq (sFor (mRange1 (mVar 1)) (fName 4) (sSeq (sAsg (mOp2 modD (mB intOf [(mOp2 addD (mOp2 addD (mOp2 mulD (mVar 3) (mC (.int 16807))) (mVar 4)) (mC (.int 1)))]) (mC (.int 65537))) (fName 3)) (sAppend 2 (mOp2 modD (mB intOf [(mVar 3)]) (mC (.int 997)))))) (sRet (mSlice (mVar 2) none (some (mVar 1))))))))
def S_law_draws : SEnv → RC := runDef 6 B_law_draws
/-! _law_next(w, many): 0 w (dct) 1 many -/
def B_law_next : SEnv → SR := (sSeq (sDaug 0 iaddD (mC (.str (tx [97, 116]))) (mC (.int 1))) (sSeq (sIf (mTest (mOp2 gtD (mDget 0 (mC (.str (tx [97, 116])))) (mB lenD [(mDget 0 (mC (.str (tx [100, 114, 97, 119, 115]))))]))) (sRet (mC (.int 0))) sPass) (sRet (mOp2 modD (mB intOf [(mOp2 idxD (mDget 0 (mC (.str (tx [100, 114, 97, 119, 115])))) (mOp2 subD (mDget 0 (mC (.str (tx [97, 116])))) (mC (.int 1))))]) (mVar 1)))))
def S_law_next : SEnv → RC := runDef 0 B_law_next
/-! _law_go(p, sign): 0 p (dct) 1 sign -/
def B_law_go : SEnv → SR := (sSeq (sIf (mTest (mOp2 neD (mSlice (mDget 0 (mC (.str (tx [116, 101, 120, 116])))) (some (mDget 0 (mC (.str (tx [97, 116]))))) (some (mOp2 addD (mDget 0 (mC (.str (tx [97, 116])))) (mC (.int 1))))) (mVar 1))) (sSeq (sDput 0 (mC (.str (tx [98, 97, 100]))) (mC (.bool true))) (sRet (mC (.bool false)))) sPass) (sSeq (sDaug 0 iaddD (mC (.str (tx [97, 116]))) (mC (.int 1))) (sRet (mC (.bool true)))))
def S_law_go : SEnv → RC := runDef 0 B_law_go
/-! _law_is_colon(text, due): 0 text 1 due -/
def B_law_is_colon : SEnv → SR := (sRet (mAnd (mOp1 (isiD "int") (mVar 1)) (mAnd (mOp2 gtD (mVar 1) (mC (.int 0))) (mOp2 eqD (mOp2 idxD (mVar 0) (mOp2 subD (mVar 1) (mC (.int 1)))) (mC (.str (tx [58])))))))
def S_law_is_colon : SEnv → RC := runDef 0 B_law_is_colon
/-! _law_pick(w, rows): 0 w (dct) 1 rows -/
def B_law_pick : SEnv → SR := (sRet (mOp2 idxD (mVar 1) (mCallS S_law_next 0 [(mB lenD [(mVar 1)])])))
def S_law_pick : SEnv → RC := runDef 0 B_law_pick
/-! TreeReader.need(self, part): 0 self (TreeReader) 1 part -/
def B_TreeReader_need : SEnv → SR := (sSeq (sIf (mTest (mOp2 neD (mSlice (mFld 2 0 k_text) (some (mFld 2 0 k_at)) (some (mOp2 addD (mFld 2 0 k_at) (mB lenD [(mVar 1)])))) (mVar 1))) (sRaise 1 k_place (mFld 2 0 k_at)) sPass) (sFldAug 2 0 k_at iaddD (mB lenD [(mVar 1)])))
def S_TreeReader_need : SEnv → RC := runDef 0 B_TreeReader_need
/-! TreeReader.name(self): 0 self (TreeReader) 1 begin 2 sign -/
def C1_TreeReader_name : SEnv → R Bool := (mAndT (mTest (mOp2 neD (mSlice (mFld 2 0 k_text) (some (mFld 2 0 k_at)) (some (mOp2 addD (mFld 2 0 k_at) (mC (.int 1))))) (mC (.str (tx []))))) (mTest (mOp2 inD (mOp2 idxD (mFld 2 0 k_text) (mFld 2 0 k_at)) (mOp2 addD (mC (.str gl_LETTERS)) (mC (.str gl_DIGITS))))))
def D1_TreeReader_name : SEnv → SR := (sFldAug 2 0 k_at iaddD (mC (.int 1)))
def B_TreeReader_name : SEnv → SR := (sSeq (sAsg (mFld 2 0 k_at) (fName 1)) (sSeq (sAsg (mSlice (mFld 2 0 k_text) (some (mFld 2 0 k_at)) (some (mOp2 addD (mFld 2 0 k_at) (mC (.int 1))))) (fName 2)) (sSeq (sIf (mOrT (mTest (mOp2 eqD (mVar 2) (mC (.str (tx []))))) (mTest (mOp2 notInD (mVar 2) (mC (.str gl_LETTERS))))) (sRaise 1 k_place (mFld 2 0 k_at)) sPass) (sSeq (sWhile (C1_TreeReader_name) (D1_TreeReader_name)) (sRet (mSlice (mFld 2 0 k_text) (some (mVar 1)) (some (mFld 2 0 k_at))))))))
def S_TreeReader_name : SEnv → RC := runDef 2 B_TreeReader_name
/-! _law_bent(w, text): 0 w (dct) 1 text 2 at 3 way -/
def B_law_bent : SEnv → SR := (sSeq (sAsg (mCallS S_law_next 0 [(mOp2 addD (mB lenD [(mVar 1)]) (mC (.int 1)))]) (fName 2)) (sSeq (sAsg (mCallS S_law_next 0 [(mC (.int 5))]) (fName 3)) (sSeq (sIf (mTest (mOp2 eqD (mVar 3) (mC (.int 0)))) (sRet (mOp2 addD (mSlice (mVar 1) none (some (mVar 2))) (mSlice (mVar 1) (some (mOp2 addD (mVar 2) (mC (.int 1)))) none))) sPass) (sSeq (sIf (mTest (mOp2 ltD (mVar 3) (mC (.int 3)))) (sRet (mOp2 addD (mOp2 addD (mSlice (mVar 1) none (some (mVar 2))) (mCallS S_law_pick 0 [(mLst [(mC (.str (tx [32]))), (mC (.str (tx [123]))), (mC (.str (tx [125]))), (mC (.str (tx [97]))), (mC (.str (tx [65]))), (mC (.str (tx [58]))), (mC (.str (tx [49]))), (mC (.str (tx [97, 58, 32, 123, 125]))), (mC (.str (tx [123, 125]))), (mC (.str (tx [122])))])])) (mSlice (mVar 1) (some (mOp2 addD (mVar 2) (mCallS S_law_next 0 [(mC (.int 2))]))) none))) sPass) (sRet (mIf (mTest (mOp2 eqD (mVar 3) (mC (.int 3)))) (mSlice (mVar 1) none (some (mVar 2))) (mOp2 addD (mSlice (mVar 1) (some (mVar 2)) none) (mSlice (mVar 1) none (some (mVar 2))))))))))
def S_law_bent : SEnv → RC := runDef 2 B_law_bent
/-! print_tree(tree): 0 tree 1 name 2 below -/
def B_print_tree (S : SEnv → RC) : SEnv → SR := (sRet (mOp2 addD (mOp2 addD (mC (.str (tx [123]))) (mStr1 joinD (mC (.str (tx [32]))) (mFz (mLcF [1, 2] (mIter (mVar 0)) (fTup [(fName 1), (fName 2)]) mYes (mOp2 addD (mOp2 addD (mVar 1) (mC (.str (tx [58, 32])))) (mCall S [(mVar 2)])))))) (mC (.str (tx [125])))))
def S_print_tree : Nat → SEnv → RC
  | 0 => fun _ => .stuck
  | n + 1 => runDef 2 (B_print_tree (S_print_tree n))
/-! _law_tree(w, depth): 0 w (dct) 1 depth 2 names 3 name -/
def B_law_tree (S : SEnv → RC) : SEnv → SR := (sSeq (sAsg (mFz (mLcF [3] (mIter (mTup [(mC (.str (tx [97]))), (mC (.str (tx [98]))), (mC (.str (tx [99, 49]))), (mC (.str (tx [120])))])) (fName 3) (mTest (mOp2 eqD (mCallS S_law_next 0 [(mC (.int 3))]) (mC (.int 0)))) (mVar 3))) (fName 2)) (sRet (mB tupOf [(mFz (mLcF [3] (mIter (mVar 2)) (fName 3) mYes (mTup [(mVar 3), (mIf (mTest (mOp2 gtD (mVar 1) (mC (.int 0)))) (mCallS S 0 [(mOp2 subD (mVar 1) (mC (.int 1)))]) (mTup []))])))])))
def S_law_tree : Nat → SEnv → RC
  | 0 => fun _ => .stuck
  | n + 1 => runDef 2 (B_law_tree (S_law_tree n))
/-! _law_text(tree): 0 tree 1 name 2 below -/
def B_law_text (S : SEnv → RC) : SEnv → SR := (sRet (mOp2 addD (mOp2 addD (mC (.str (tx [123]))) (mStr1 joinD (mC (.str (tx [32]))) (mFz (mLcF [1, 2] (mIter (mVar 0)) (fTup [(fName 1), (fName 2)]) mYes (mOp2 addD (mOp2 addD (mVar 1) (mC (.str (tx [58, 32])))) (mCall S [(mVar 2)])))))) (mC (.str (tx [125])))))
def S_law_text : Nat → SEnv → RC
  | 0 => fun _ => .stuck
  | n + 1 => runDef 2 (B_law_text (S_law_text n))
/-! _law_read(p): 0 p (dct) 1 found (lst) 2 begin 3 name 4 letters -/
def C1_law_read (S : SEnv → RC) : SEnv → R Bool := (mAndT (mTest (mOp2 neD (mSlice (mDget 0 (mC (.str (tx [116, 101, 120, 116])))) (some (mDget 0 (mC (.str (tx [97, 116]))))) (some (mOp2 addD (mDget 0 (mC (.str (tx [97, 116])))) (mC (.int 1))))) (mC (.str (tx []))))) (mTest (mOp2 inD (mOp2 idxD (mDget 0 (mC (.str (tx [116, 101, 120, 116])))) (mDget 0 (mC (.str (tx [97, 116]))))) (mOp2 addD (mVar 4) (mIf (mTest (mOp2 neD (mVar 3) (mC (.str (tx []))))) (mC (.str (tx [48, 49, 50, 51, 52, 53, 54, 55, 56, 57]))) (mC (.str (tx []))))))))
def D1_law_read (S : SEnv → RC) : SEnv → SR := (sSeq (sAsg (mOp2 addD (mVar 3) (mOp2 idxD (mDget 0 (mC (.str (tx [116, 101, 120, 116])))) (mDget 0 (mC (.str (tx [97, 116])))))) (fName 3)) (sDaug 0 iaddD (mC (.str (tx [97, 116]))) (mC (.int 1))))
def C2_law_read (S : SEnv → RC) : SEnv → R Bool := (mAndT (mNotT (mTest (mDget 0 (mC (.str (tx [98, 97, 100])))))) (mTest (mOp2 neD (mSlice (mDget 0 (mC (.str (tx [116, 101, 120, 116])))) (some (mDget 0 (mC (.str (tx [97, 116]))))) (some (mOp2 addD (mDget 0 (mC (.str (tx [97, 116])))) (mC (.int 1))))) (mC (.str (tx [125]))))))
def D2_law_read (S : SEnv → RC) : SEnv → SR := (sSeq (sIf (mAndT (mTest (mOpS (fun ds d => neD (.list ds) d) 1 (mLst []))) (mNotT (mTest (mCallS S_law_go 0 [(mC (.str (tx [32])))])))) (sRet (mTup [])) sPass) (sSeq (sAsg (mDget 0 (mC (.str (tx [97, 116])))) (fName 2)) (sSeq (sAsg (mC (.str (tx []))) (fName 3)) (sSeq (sAsg (mC (.str (tx [97, 98, 99, 100, 101, 102, 103, 104, 105, 106, 107, 108, 109, 110, 111, 112, 113, 114, 115, 116, 117, 118, 119, 120, 121, 122]))) (fName 4)) (sSeq (sWhile (C1_law_read S) (D1_law_read S)) (sSeq (sIf (mOrT (mTest (mOp2 eqD (mVar 3) (mC (.str (tx []))))) (mAndT (mTest (mOpS (fun ds d => neD (.list ds) d) 1 (mLst []))) (mTest (mOp2 leD (mVar 3) (mOp2 idxD (mOpS (fun ds d => idxD (.list ds) d) 1 (mOp2 subD (mLenS 1) (mC (.int 1)))) (mC (.int 0))))))) (sSeq (sAsg (mTup [(mC (.bool true)), (mVar 2)]) (fTup [(fSub 0 (.inr k_bad)), (fSub 0 (.inr k_at))])) (sRet (mTup []))) sPass) (sSeq (sIf (mOrT (mNotT (mTest (mCallS S_law_go 0 [(mC (.str (tx [58])))]))) (mNotT (mTest (mCallS S_law_go 0 [(mC (.str (tx [32])))])))) (sRet (mTup [])) sPass) (sAppend 1 (mTup [(mVar 3), (mCallS S 0 [])])))))))))
def B_law_read (S : SEnv → RC) : SEnv → SR := (sSeq (sSetF 1 (mLstF [])) (sSeq (sIf (mNotT (mTest (mCallS S_law_go 0 [(mC (.str (tx [123])))]))) (sRet (mTup [])) sPass) (sSeq (sWhile (C2_law_read S) (D2_law_read S)) (sSeq (sIf (mNotT (mTest (mDget 0 (mC (.str (tx [98, 97, 100])))))) (sDaug 0 iaddD (mC (.str (tx [97, 116]))) (mC (.int 1))) sPass) (sRet (mB tupOf [(mVar 1)]))))))
def S_law_read : Nat → SEnv → RC
  | 0 => fun _ => .stuck
  | n + 1 => runDef 4 (B_law_read (S_law_read n))
/-! _law_due(text): 0 text 1 p (dct) 2 tree -/
def B_law_due : SEnv → SR := (sSeq (sSetF 1 (mDct [((mC (.str (tx [116, 101, 120, 116]))), (mVar 0)), ((mC (.str (tx [97, 116]))), (mC (.int 0))), ((mC (.str (tx [98, 97, 100]))), (mC (.bool false)))])) (sSeq (sAsg (mCallS (S_law_read 40) 1 []) (fName 2)) (sRet (mIf (mAndT (mNotT (mTest (mDget 1 (mC (.str (tx [98, 97, 100])))))) (mTest (mOp2 eqD (mDget 1 (mC (.str (tx [97, 116])))) (mB lenD [(mVar 0)])))) (mVar 2) (mDget 1 (mC (.str (tx [97, 116]))))))))
def S_law_due : SEnv → RC := runDef 2 B_law_due
/-! TreeReader.tree(self): 0 self (TreeReader) 1 found (lst) 2 begin 3 name -/
def C1_TreeReader_tree (S : SEnv → RC) : SEnv → R Bool := (mTest (mOp2 neD (mSlice (mFld 2 0 k_text) (some (mFld 2 0 k_at)) (some (mOp2 addD (mFld 2 0 k_at) (mC (.int 1))))) (mC (.str (tx [125])))))
def D1_TreeReader_tree (S : SEnv → RC) : SEnv → SR := (sSeq (sIf (mTest (mOpS (fun ds d => neD (.list ds) d) 1 (mLst []))) (sExpr (mMeth S_TreeReader_need 2 k_need 0 [(mC (.str (tx [32])))])) sPass) (sSeq (sAsg (mFld 2 0 k_at) (fName 2)) (sSeq (sAsg (mMeth S_TreeReader_name 2 k_name 0 []) (fName 3)) (sSeq (sIf (mAndT (mTest (mOpS (fun ds d => neD (.list ds) d) 1 (mLst []))) (mTest (mOp2 leD (mVar 3) (mOp2 idxD (mOpS (fun ds d => idxD (.list ds) d) 1 (mOp1 negD (mC (.int 1)))) (mC (.int 0)))))) (sRaise 1 k_place (mVar 2)) sPass) (sSeq (sExpr (mMeth S_TreeReader_need 2 k_need 0 [(mC (.str (tx [58, 32])))])) (sAppend 1 (mTup [(mVar 3), (mMeth S 2 k_tree 0 [])])))))))
def B_TreeReader_tree (S : SEnv → RC) : SEnv → SR := (sSeq (sExpr (mMeth S_TreeReader_need 2 k_need 0 [(mC (.str (tx [123])))])) (sSeq (sSetF 1 (mLstF [])) (sSeq (sWhile (C1_TreeReader_tree S) (D1_TreeReader_tree S)) (sSeq (sFldAug 2 0 k_at iaddD (mC (.int 1))) (sRet (mB tupOf [(mVar 1)]))))))
def S_TreeReader_tree : Nat → SEnv → RC
  | 0 => fun _ => .stuck
  | n + 1 => runDef 3 (B_TreeReader_tree (S_TreeReader_tree n))
/-! parse_tree(text): 0 text 1 reader (TreeReader) 2 tree -/
def B_parse_tree : SEnv → SR := (sSeq (sSetF 1 (mMake 2 S_TreeReader_init [(mVar 0)])) (sSeq (sAsg (mMeth (S_TreeReader_tree 40) 2 k_tree 1 []) (fName 2)) (sSeq (sIf (mTest (mOp2 neD (mFld 2 1 k_at) (mB lenD [(mVar 0)]))) (sRaise 1 k_place (mFld 2 1 k_at)) sPass) (sRet (mVar 2)))))
def S_parse_tree : SEnv → RC := runDef 2 B_parse_tree
/-! _law_told(text): 0 text 1 e -/
def B_law_told : SEnv → SR := (sTryRet 1 [1] (sRet (mCall S_parse_tree [(mVar 0)])) (xIf (xIsi x_is_BadText) (xFld k_place) (xC (.int (-1)))))
def S_law_told : SEnv → RC := runDef 1 B_law_told
/-! _law_alike(told, due): 0 told 1 due 2 k -/
def B_law_alike (S : SEnv → RC) : SEnv → SR := (sSeq (sIf (mTest (mOp1 (isiD "tuple") (mVar 1))) (sSeq (sIf (mOrT (mNotT (mTest (mOp1 (isiD "tuple") (mVar 0)))) (mTest (mOp2 neD (mB lenD [(mVar 0)]) (mB lenD [(mVar 1)])))) (sRet (mC (.bool false))) sPass) (sRet (mOp2 eqD (mFz (mLcF [2] (mRange1 (mB lenD [(mVar 1)])) (fName 2) (mNotT (mTest (mCall S [(mOp2 idxD (mVar 0) (mVar 2)), (mOp2 idxD (mVar 1) (mVar 2))]))) (mVar 2))) (mLst [])))) sPass) (sSeq (sIf (mTest (mOp2 isNoneD (mVar 1) (mC .none))) (sRet (mOp2 isNoneD (mVar 0) (mC .none))) sPass) (sSeq (sIf (mTest (mOp1 (isiD "bool") (mVar 1))) (sRet (mAnd (mOp1 (isiD "bool") (mVar 0)) (mOp2 eqD (mVar 0) (mVar 1)))) sPass) (sSeq (sIf (mTest (mOp1 (isiD "int") (mVar 1))) (sRet (mAnd (mOp1 (isiD "int") (mVar 0)) (mAnd (mNot (mOp1 (isiD "bool") (mVar 0))) (mOp2 eqD (mVar 0) (mVar 1))))) sPass) (sRet (mAnd (mOp1 (isiD "str") (mVar 0)) (mOp2 eqD (mVar 0) (mVar 1))))))))
def S_law_alike : Nat → SEnv → RC
  | 0 => fun _ => .stuck
  | n + 1 => runDef 1 (B_law_alike (S_law_alike n))
/-! law(script): 0 script 1 w (dct) 2 turn 3 tree 4 text 5 k 6 bent 7 due 8 told -/
def B_law : SEnv → SR := (sSeq (sSetF 1 (mDct [((mC (.str (tx [100, 114, 97, 119, 115]))), (mCall S_law_draws [(mVar 0), (mC (.int 700))])), ((mC (.str (tx [97, 116]))), (mC (.int 0)))])) (sSeq (sFor (mRange1 (mC (.int 6))) (fName 2) (sSeq (sAsg (mCallS (S_law_tree 4) 1 [(mC (.int 3))]) (fName 3)) (sSeq (sAsg (mCall (S_law_text 5) [(mVar 3)]) (fName 4)) (sSeq (sIf (mOrT (mNotT (mTest (mCall (S_law_alike 90) [(mCall (S_print_tree 5) [(mVar 3)]), (mVar 4)]))) (mNotT (mTest (mCall (S_law_alike 90) [(mCall S_law_told [(mVar 4)]), (mVar 3)])))) (sRet (mC (.bool false))) sPass) (sFor (mRange1 (mC (.int 5))) (fName 5) (sSeq (sAsg (mCallS S_law_bent 1 [(mVar 4)]) (fName 6)) (sSeq (sIf (mTest (mOp2 eqD (mCallS S_law_next 1 [(mC (.int 3))]) (mC (.int 0)))) (sAsg (mCallS S_law_bent 1 [(mVar 6)]) (fName 6)) sPass) (sSeq (sAsg (mCall S_law_due [(mVar 6)]) (fName 7)) (sSeq (sAsg (mCall S_law_told [(mVar 6)]) (fName 8)) (sIf (mTest (mCall S_law_is_colon [(mVar 6), (mVar 7)])) (sIf (mOrT (mNotT (mTest (mOp1 (isiD "int") (mVar 8)))) (mTest (mOp2 notInD (mVar 8) (mTup [(mVar 7), (mOp2 subD (mVar 7) (mC (.int 1)))])))) (sRet (mC (.bool false))) sPass) (sIf (mNotT (mTest (mCall (S_law_alike 90) [(mVar 8), (mVar 7)]))) (sRet (mC (.bool false))) sPass))))))))))) (sRet (mAnd (mCall (S_law_alike 90) [(mCall S_law_told [(mC (.str (tx [])))]), (mC (.int 0))]) (mAnd (mCall (S_law_alike 90) [(mCall S_law_told [(mC (.str (tx [123, 98, 58, 32, 123, 125, 32, 97, 58, 32, 123, 125, 125])))]), (mC (.int 7))]) (mCall (S_law_alike 90) [(mCall S_law_told [(mC (.str (tx [123, 125])))]), (mTup [])]))))))
def S_law : SEnv → RC := runDef 8 B_law
/-! ### what the top has written -/
structure T (K : PySem.W.Frag) (mg : Str → Option Value) (cad fa : Nat → Addr) (fd : Nat → FuncData) : Prop where
  mc_LookError : mg "LookError" = some (.ref (cad 0))
  mc_BadText : mg "BadText" = some (.ref (cad 1))
  mc_TreeReader : mg "TreeReader" = some (.ref (cad 2))
  b_abs : mg "abs" = none
  b_bool : mg "bool" = none
  b_int : mg "int" = none
  b_isinstance : mg "isinstance" = none
  b_len : mg "len" = none
  b_range : mg "range" = none
  b_str : mg "str" = none
  b_tuple : mg "tuple" = none
  g_DIGITS : ∃ tk, mg "DIGITS" = some (.str gl_DIGITS tk)
  g_LETTERS : ∃ tk, mg "LETTERS" = some (.str gl_LETTERS tk)
  o_BadText : OexC K (cad 1)
  i_BadText : PySem.W.findIn K (.ref (cad 1)) "__init__" = some (some (.ref (fa 0)))
  ty_BadText : PySem.W.typeIn K (.ref (fa 0)) = some (.type "function")
  no_BadText : PySem.W.findIn K (.ref (cad 1)) k_place = some none
  sp_LookError : PySem.W.specialIn K (.ref (cad 0)) "__getattribute__" = some (some (.builtin "type.__getattribute__"))
  rd_LookError : PySem.W.readsIn K (cad 0) (.type "type") = true
  vi_LookError : PySem.W.findCls K (.ref (cad 0)) (.type "type") "__init__" = some (.val (.builtin "ValueError.__init__"))
  xc_BadText : XCls K (cad 1)
  tx_LookError : ∀ k ∈ [1], PySem.W.exmOne K (.ref (cad k)) (.ref (cad 0)) = some true
  x_LookError_place : ∀ c ∈ [1], XCls K (cad c) ∧ PySem.W.findIn K (.ref (cad c)) k_place = some none
  xi_BadText : ∀ c ∈ [1], XCls K (cad c) ∧ PySem.W.kitOne K (.ref (cad c)) (.ref (cad 1)) = some (x_is_BadText c)
  c_TreeReader : Cls K (cad 2)
  na_TreeReader_at : NoAttr K (cad 2) k_at
  na_TreeReader_text : NoAttr K (cad 2) k_text
  f_BadText_init : Fun K "__init__" "BadText.__init__" (inClass (top 2) 0) (fa 0) (fd 0)
  f_print_tree : Fun K "print_tree" "print_tree" (top 6) (fa 1) (fd 1)
  m_print_tree : mg "print_tree" = some (.ref (fa 1))
  f_TreeReader_init : Fun K "__init__" "TreeReader.__init__" (inClass (top 7) 0) (fa 2) (fd 2)
  mk_TreeReader : Mk K (cad 2) (fa 2)
  f_TreeReader_need : Fun K "need" "TreeReader.need" (inClass (top 7) 1) (fa 3) (fd 3)
  h_TreeReader_need : Meth K (cad 2) k_need (fa 3)
  f_TreeReader_name : Fun K "name" "TreeReader.name" (inClass (top 7) 2) (fa 4) (fd 4)
  h_TreeReader_name : Meth K (cad 2) k_name (fa 4)
  f_TreeReader_tree : Fun K "tree" "TreeReader.tree" (inClass (top 7) 3) (fa 5) (fd 5)
  h_TreeReader_tree : Meth K (cad 2) k_tree (fa 5)
  f_parse_tree : Fun K "parse_tree" "parse_tree" (top 8) (fa 6) (fd 6)
  m_parse_tree : mg "parse_tree" = some (.ref (fa 6))
  f_law_draws : Fun K "_law_draws" "_law_draws" (top 10) (fa 7) (fd 7)
  m_law_draws : mg "_law_draws" = some (.ref (fa 7))
  f_law_next : Fun K "_law_next" "_law_next" (top 11) (fa 8) (fd 8)
  m_law_next : mg "_law_next" = some (.ref (fa 8))
  f_law_pick : Fun K "_law_pick" "_law_pick" (top 12) (fa 9) (fd 9)
  m_law_pick : mg "_law_pick" = some (.ref (fa 9))
  f_law_alike : Fun K "_law_alike" "_law_alike" (top 13) (fa 10) (fd 10)
  m_law_alike : mg "_law_alike" = some (.ref (fa 10))
  f_law_tree : Fun K "_law_tree" "_law_tree" (top 14) (fa 11) (fd 11)
  m_law_tree : mg "_law_tree" = some (.ref (fa 11))
  f_law_text : Fun K "_law_text" "_law_text" (top 15) (fa 12) (fd 12)
  m_law_text : mg "_law_text" = some (.ref (fa 12))
  f_law_read : Fun K "_law_read" "_law_read" (top 16) (fa 13) (fd 13)
  m_law_read : mg "_law_read" = some (.ref (fa 13))
  f_law_go : Fun K "_law_go" "_law_go" (top 17) (fa 14) (fd 14)
  m_law_go : mg "_law_go" = some (.ref (fa 14))
  f_law_due : Fun K "_law_due" "_law_due" (top 18) (fa 15) (fd 15)
  m_law_due : mg "_law_due" = some (.ref (fa 15))
  f_law_bent : Fun K "_law_bent" "_law_bent" (top 19) (fa 16) (fd 16)
  m_law_bent : mg "_law_bent" = some (.ref (fa 16))
  f_law_told : Fun K "_law_told" "_law_told" (top 20) (fa 17) (fd 17)
  m_law_told : mg "_law_told" = some (.ref (fa 17))
  f_law_is_colon : Fun K "_law_is_colon" "_law_is_colon" (top 21) (fa 18) (fd 18)
  m_law_is_colon : mg "_law_is_colon" = some (.ref (fa 18))
  f_law : Fun K "law" "law" (top 22) (fa 19) (fd 19)
  m_law : mg "law" = some (.ref (fa 19))
section
variable {P : Program} {w : World} {K : PySem.W.Frag} {mg : Str → Option Value} {base : Heap} {cad fa : Nat → Addr} {fd : Nat → FuncData}
theorem sc_BadText_init : FnScope ["self", "place"] ["self", "place"] (defScope (inClass (top 2) 0)) := ⟨rfl, rfl, rfl, by decide +kernel, rfl, by decide +kernel, by decide +kernel⟩
theorem bd_BadText_init (t : T K mg cad fa fd) : Binds K (fd 0) ["self", "place"] [] := t.f_BadText_init.binds fun _ _ _ _ _ _ us hl => match us, hl with | [_, _], _ => rfl
theorem ok_BadText_init (t : T K mg cad fa fd) : FnOk P w K mg base (L2.CX P w) 2 (fa 0) (fd 0) ["self", "place"] (spEx (cad 1) k_place) := by
  refine t.f_BadText_init.okX sc_BadText_init (fun vs H Q E h => by obtain ⟨a, y, rfl, _⟩ := h; rfl) (fun cdv A outer s H vs Q E hr h => ⟨_, by exact pss_cons (ps_expr (pe_ceinit rfl t.mc_LookError t.sp_LookError t.rd_LookError t.vi_LookError (pa_cons (pv 0) (pa_cons pe_str pa_nil)))) (pss_one (ps_ost (pv 0) (pv 1))), ?_⟩)
  obtain ⟨a, y, rfl, ha, k⟩ := h
  exact ⟨_, rfl, a, cad 1, [.str _], rfl, by decide, t.o_BadText, ha, _, rfl, _, rfl, a, cad 1, rfl, t.o_BadText, t.no_BadText, .inl ⟨ha, fun dx n ne => k dx n ne⟩⟩
theorem sc_TreeReader_init : FnScope ["self", "text"] ["self", "text"] (defScope (inClass (top 7) 0)) := ⟨rfl, rfl, rfl, by decide +kernel, rfl, by decide +kernel, by decide +kernel⟩
theorem bd_TreeReader_init (t : T K mg cad fa fd) : Binds K (fd 2) ["self", "text"] [] := t.f_TreeReader_init.binds fun _ _ _ _ _ _ us hl => match us, hl with | [_, _], _ => rfl
theorem ok_TreeReader_init (t : T K mg cad fa fd) : FnOk P w K mg base (L2.CX P w) 2 (fa 2) (fd 2) ["self", "text"] (spOf K cad 2 S_TreeReader_init) := def_ok t.f_TreeReader_init sc_TreeReader_init rfl rfl fun cdv A outer s H F E io hr => by exact (ms_cons (ms_fld 0 (c := 2) t.c_TreeReader t.na_TreeReader_text (me_var 1)) (ms_one (ms_fld 0 (c := 2) t.c_TreeReader t.na_TreeReader_at me_int)))
theorem sc_law_draws : FnScope ["script", "many", "draws", "mixed", "k", "cell", "rest", "turn"] ["script", "many"] (defScope (top 10)) := ⟨rfl, rfl, rfl, by decide +kernel, rfl, by decide +kernel, by decide +kernel⟩
theorem bd_law_draws (t : T K mg cad fa fd) : Binds K (fd 7) ["script", "many"] [] := t.f_law_draws.binds fun _ _ _ _ _ _ us hl => match us, hl with | [_, _], _ => rfl
theorem ok_law_draws (t : T K mg cad fa fd) : FnOk P w K mg base (L2.CX P w) 2 (fa 7) (fd 7) ["script", "many"] (spOf K cad 2 S_law_draws) := def_ok t.f_law_draws sc_law_draws rfl rfl fun cdv A outer s H F E io hr => by exact (ms_cons (ms_setF 2 sc_law_draws.nd (mf_lst ma_nil)) (ms_cons (ms_set 3 sc_law_draws.nd me_int) (ms_cons (ms_for (passes_of rfl) rfl (mi_range1 t.b_range (me_len t.b_len (ma_cons (me_var 0) ma_nil))) (mg_name 4 sc_law_draws.nd) (ms_cons (ms_set 5 sc_law_draws.nd (me_abs t.b_abs (ma_cons (me_int1 t.b_int (ma_cons (me_idx (me_var 0) (me_var 4) (by intro _ _; rfl)) ma_nil)) ma_nil))) (ms_cons (ms_set 3 sc_law_draws.nd (me_mod (me_int1 t.b_int (ma_cons (me_add rfl (me_add rfl (me_mul (me_var 3) me_int) (me_mod (me_var 5) me_int)) (me_var 4)) ma_nil)) me_int)) (ms_cons (ms_set 6 sc_law_draws.nd me_int) (ms_cons (ms_if (mt_ge (me_var 5) (me_pow me_int me_int)) (ms_one (ms_set 6 sc_law_draws.nd (me_var 5))) (ms_cons (ms_append 2 (me_mod (me_int1 t.b_int (ma_cons (me_var 5) ma_nil)) me_int)) (ms_one (ms_append 2 (me_mod (me_mod (me_int1 t.b_int (ma_cons (me_add rfl (me_mul (me_var 3) me_int) me_int) ma_nil)) me_int) me_int))))) (ms_one (ms_for (passes_of rfl) rfl (mi_range1 t.b_range me_int) (mg_name 7 sc_law_draws.nd) (ms_one (ms_if (mt_gt (me_var 6) me_int) (ms_cons (ms_append 2 (me_mod (me_int1 t.b_int (ma_cons (me_var 6) ma_nil)) me_int)) (ms_one (ms_set 6 sc_law_draws.nd (me_fdiv (me_var 6) me_int)))) ms_nil))))))))) (ms_cons (ms_for (passes_of rfl) rfl (mi_range1 t.b_range (me_var 1)) (mg_name 4 sc_law_draws.nd) (ms_cons (ms_set 3 sc_law_draws.nd (me_mod (me_int1 t.b_int (ma_cons (me_add rfl (me_add rfl (me_mul (me_var 3) me_int) (me_var 4)) me_int) ma_nil)) me_int)) (ms_one (ms_append 2 (me_mod (me_int1 t.b_int (ma_cons (me_var 3) ma_nil)) me_int))))) (ms_one (ms_ret (me_slice (me_var 2) mpo_none (mpo_some (me_var 1)))))))))
theorem sc_law_next : FnScope ["w", "many"] ["w", "many"] (defScope (top 11)) := ⟨rfl, rfl, rfl, by decide +kernel, rfl, by decide +kernel, by decide +kernel⟩
theorem bd_law_next (t : T K mg cad fa fd) : Binds K (fd 8) ["w", "many"] [] := t.f_law_next.binds fun _ _ _ _ _ _ us hl => match us, hl with | [_, _], _ => rfl
theorem ok_law_next (t : T K mg cad fa fd) : FnOk P w K mg base (L2.CX P w) 2 (fa 8) (fd 8) ["w", "many"] (spOf K cad 2 S_law_next) := def_ok t.f_law_next sc_law_next rfl rfl fun cdv A outer s H F E io hr => by exact (ms_cons (ms_daug 0 in_add addA hr.units1 me_str me_int (by intros; rfl)) (ms_cons (ms_if (mt_gt (me_dget (j := 0) hr.units1 me_str (by intro _ _; rfl)) (me_len t.b_len (ma_cons (me_dget (j := 0) hr.units1 me_str (by intro _ _; rfl)) ma_nil))) (ms_one (ms_ret me_int)) ms_nil) (ms_one (ms_ret (me_mod (me_int1 t.b_int (ma_cons (me_idx (me_dget (j := 0) hr.units1 me_str (by intro _ _; rfl)) (me_sub (me_dget (j := 0) hr.units1 me_str (by intro _ _; rfl)) me_int) (by intro _ _; rfl)) ma_nil)) (me_var 1))))))
theorem sc_law_go : FnScope ["p", "sign"] ["p", "sign"] (defScope (top 17)) := ⟨rfl, rfl, rfl, by decide +kernel, rfl, by decide +kernel, by decide +kernel⟩
theorem bd_law_go (t : T K mg cad fa fd) : Binds K (fd 14) ["p", "sign"] [] := t.f_law_go.binds fun _ _ _ _ _ _ us hl => match us, hl with | [_, _], _ => rfl
theorem ok_law_go (t : T K mg cad fa fd) : FnOk P w K mg base (L2.CX P w) 2 (fa 14) (fd 14) ["p", "sign"] (spOf K cad 2 S_law_go) := def_ok t.f_law_go sc_law_go rfl rfl fun cdv A outer s H F E io hr => by exact (ms_cons (ms_if (mt_ne hr.units64 (me_slice (me_dget (j := 0) hr.units1 me_str (by intro _ _; rfl)) (mpo_some (me_dget (j := 0) hr.units1 me_str (by intro _ _; rfl))) (mpo_some (me_add rfl (me_dget (j := 0) hr.units1 me_str (by intro _ _; rfl)) me_int))) (me_var 1)) (ms_cons (ms_dput 0 hr.units1 me_str me_bl) (ms_one (ms_ret me_bl))) ms_nil) (ms_cons (ms_daug 0 in_add addA hr.units1 me_str me_int (by intros; rfl)) (ms_one (ms_ret me_bl))))
theorem sc_law_is_colon : FnScope ["text", "due"] ["text", "due"] (defScope (top 21)) := ⟨rfl, rfl, rfl, by decide +kernel, rfl, by decide +kernel, by decide +kernel⟩
theorem bd_law_is_colon (t : T K mg cad fa fd) : Binds K (fd 18) ["text", "due"] [] := t.f_law_is_colon.binds fun _ _ _ _ _ _ us hl => match us, hl with | [_, _], _ => rfl
theorem ok_law_is_colon (t : T K mg cad fa fd) : FnOk P w K mg base (L2.CX P w) 2 (fa 18) (fd 18) ["text", "due"] (spOf K cad 2 S_law_is_colon) := def_ok t.f_law_is_colon sc_law_is_colon rfl rfl fun cdv A outer s H F E io hr => by exact (ms_one (ms_ret (me_and (me_isi "int" isi_int t.b_isinstance t.b_int (by rfl) (me_var 1)) (me_and (me_gt (me_var 1) me_int) (me_one (me_eq hr.units64 (me_idx (me_var 0) (me_sub (me_var 1) me_int) (by intro _ _; rfl)) me_str))))))
theorem sc_law_pick : FnScope ["w", "rows"] ["w", "rows"] (defScope (top 12)) := ⟨rfl, rfl, rfl, by decide +kernel, rfl, by decide +kernel, by decide +kernel⟩
theorem bd_law_pick (t : T K mg cad fa fd) : Binds K (fd 9) ["w", "rows"] [] := t.f_law_pick.binds fun _ _ _ _ _ _ us hl => match us, hl with | [_, _], _ => rfl
theorem ok_law_pick (t : T K mg cad fa fd) : FnOk P w K mg base (L2.CX P w) 3 (fa 9) (fd 9) ["w", "rows"] (spOf K cad 2 S_law_pick) := def_ok t.f_law_pick sc_law_pick rfl rfl fun cdv A outer s H F E io hr => by exact (ms_one (ms_ret (me_idx (me_var 1) (me_callIo (j := 0) (ok_law_next t) (hr.mono (by decide)) (takes_of rfl rfl rfl rfl) t.m_law_next t.f_law_next.kp (bd_law_next t) (ma_cons (me_len t.b_len (ma_cons (me_var 1) ma_nil)) ma_nil)) (by intro _ _; rfl))))
theorem sc_TreeReader_need : FnScope ["self", "part"] ["self", "part"] (defScope (inClass (top 7) 1)) := ⟨rfl, rfl, rfl, by decide +kernel, rfl, by decide +kernel, by decide +kernel⟩
theorem bd_TreeReader_need (t : T K mg cad fa fd) : Binds K (fd 3) ["self", "part"] [] := t.f_TreeReader_need.binds fun _ _ _ _ _ _ us hl => match us, hl with | [_, _], _ => rfl
theorem ok_TreeReader_need (t : T K mg cad fa fd) : FnOk P w K mg base (L2.CX P w) 4 (fa 3) (fd 3) ["self", "part"] (spOf K cad 2 S_TreeReader_need) := def_ok t.f_TreeReader_need sc_TreeReader_need rfl rfl fun cdv A outer s H F E io hr => by exact (ms_cons (ms_if (mt_ne hr.units64 (me_slice (me_fld (c := 2) (j := 0) t.c_TreeReader t.na_TreeReader_text) (mpo_some (me_fld (c := 2) (j := 0) t.c_TreeReader t.na_TreeReader_at)) (mpo_some (me_add rfl (me_fld (c := 2) (j := 0) t.c_TreeReader t.na_TreeReader_at) (me_len t.b_len (ma_cons (me_var 1) ma_nil))))) (me_var 1)) (ms_one (ms_raise (c := 1) rfl (takes_of rfl rfl rfl rfl) t.o_BadText t.i_BadText t.ty_BadText (ok_BadText_init t) (hr.mono (by decide)) (bd_BadText_init t) t.mc_BadText (me_fld (c := 2) (j := 0) t.c_TreeReader t.na_TreeReader_at))) ms_nil) (ms_one (ms_fldAug 0 (c := 2) in_add addA t.c_TreeReader t.na_TreeReader_at (me_len t.b_len (ma_cons (me_var 1) ma_nil)))))
theorem sc_TreeReader_name : FnScope ["self", "begin", "sign"] ["self"] (defScope (inClass (top 7) 2)) := ⟨rfl, rfl, rfl, by decide +kernel, rfl, by decide +kernel, by decide +kernel⟩
theorem bd_TreeReader_name (t : T K mg cad fa fd) : Binds K (fd 4) ["self"] [] := t.f_TreeReader_name.binds fun _ _ _ _ _ _ us hl => match us, hl with | [_], _ => rfl
theorem ok_TreeReader_name (t : T K mg cad fa fd) : FnOk P w K mg base (L2.CX P w) 4 (fa 4) (fd 4) ["self"] (spOf K cad 1 S_TreeReader_name) := def_ok t.f_TreeReader_name sc_TreeReader_name rfl rfl fun cdv A outer s H F E io hr => by exact (ms_cons (ms_set 1 sc_TreeReader_name.nd (me_fld (c := 2) (j := 0) t.c_TreeReader t.na_TreeReader_at)) (ms_cons (ms_set 2 sc_TreeReader_name.nd (me_slice (me_fld (c := 2) (j := 0) t.c_TreeReader t.na_TreeReader_text) (mpo_some (me_fld (c := 2) (j := 0) t.c_TreeReader t.na_TreeReader_at)) (mpo_some (me_add rfl (me_fld (c := 2) (j := 0) t.c_TreeReader t.na_TreeReader_at) me_int)))) (ms_cons (ms_if (mt_w (mw_or (mt_eq hr.units64 (me_var 2) me_str) (mw_or1 (mt_notIn (me_var 2) (me_gstr t.g_LETTERS))))) (ms_one (ms_raise (c := 1) rfl (takes_of rfl rfl rfl rfl) t.o_BadText t.i_BadText t.ty_BadText (ok_BadText_init t) (hr.mono (by decide)) (bd_BadText_init t) t.mc_BadText (me_fld (c := 2) (j := 0) t.c_TreeReader t.na_TreeReader_at))) ms_nil) (ms_cons (ms_while (passes_of rfl) (mt_w (mw_and (mt_ne hr.units64 (me_slice (me_fld (c := 2) (j := 0) t.c_TreeReader t.na_TreeReader_text) (mpo_some (me_fld (c := 2) (j := 0) t.c_TreeReader t.na_TreeReader_at)) (mpo_some (me_add rfl (me_fld (c := 2) (j := 0) t.c_TreeReader t.na_TreeReader_at) me_int))) me_str) (mw_and1 (mt_in (me_idx (me_fld (c := 2) (j := 0) t.c_TreeReader t.na_TreeReader_text) (me_fld (c := 2) (j := 0) t.c_TreeReader t.na_TreeReader_at) (by intro _ _; rfl)) (me_add rfl (me_gstr t.g_LETTERS) (me_gstr t.g_DIGITS)))))) (ms_one (ms_fldAug 0 (c := 2) in_add addA t.c_TreeReader t.na_TreeReader_at me_int))) (ms_one (ms_ret (me_slice (me_fld (c := 2) (j := 0) t.c_TreeReader t.na_TreeReader_text) (mpo_some (me_var 1)) (mpo_some (me_fld (c := 2) (j := 0) t.c_TreeReader t.na_TreeReader_at)))))))))
theorem sc_law_bent : FnScope ["w", "text", "at", "way"] ["w", "text"] (defScope (top 19)) := ⟨rfl, rfl, rfl, by decide +kernel, rfl, by decide +kernel, by decide +kernel⟩
theorem bd_law_bent (t : T K mg cad fa fd) : Binds K (fd 16) ["w", "text"] [] := t.f_law_bent.binds fun _ _ _ _ _ _ us hl => match us, hl with | [_, _], _ => rfl
theorem ok_law_bent (t : T K mg cad fa fd) : FnOk P w K mg base (L2.CX P w) 4 (fa 16) (fd 16) ["w", "text"] (spOf K cad 2 S_law_bent) := def_ok t.f_law_bent sc_law_bent rfl rfl fun cdv A outer s H F E io hr => by exact (ms_cons (ms_set 2 sc_law_bent.nd (me_callIo (j := 0) (ok_law_next t) (hr.mono (by decide)) (takes_of rfl rfl rfl rfl) t.m_law_next t.f_law_next.kp (bd_law_next t) (ma_cons (me_add rfl (me_len t.b_len (ma_cons (me_var 1) ma_nil)) me_int) ma_nil))) (ms_cons (ms_set 3 sc_law_bent.nd (me_callIo (j := 0) (ok_law_next t) (hr.mono (by decide)) (takes_of rfl rfl rfl rfl) t.m_law_next t.f_law_next.kp (bd_law_next t) (ma_cons me_int ma_nil))) (ms_cons (ms_if (mt_eq hr.units64 (me_var 3) me_int) (ms_one (ms_ret (me_add rfl (me_slice (me_var 1) mpo_none (mpo_some (me_var 2))) (me_slice (me_var 1) (mpo_some (me_add rfl (me_var 2) me_int)) mpo_none)))) ms_nil) (ms_cons (ms_if (mt_lt (me_var 3) me_int) (ms_one (ms_ret (me_add rfl (me_add rfl (me_slice (me_var 1) mpo_none (mpo_some (me_var 2))) (me_callIo (j := 0) (ok_law_pick t) (hr.mono (by decide)) (takes_of rfl rfl rfl rfl) t.m_law_pick t.f_law_pick.kp (bd_law_pick t) (ma_cons (me_lst (ma_cons me_str (ma_cons me_str (ma_cons me_str (ma_cons me_str (ma_cons me_str (ma_cons me_str (ma_cons me_str (ma_cons me_str (ma_cons me_str (ma_cons me_str ma_nil))))))))))) ma_nil))) (me_slice (me_var 1) (mpo_some (me_add rfl (me_var 2) (me_callIo (j := 0) (ok_law_next t) (hr.mono (by decide)) (takes_of rfl rfl rfl rfl) t.m_law_next t.f_law_next.kp (bd_law_next t) (ma_cons me_int ma_nil)))) mpo_none)))) ms_nil) (ms_one (ms_ret (me_if (mt_eq hr.units64 (me_var 3) me_int) (me_slice (me_var 1) mpo_none (mpo_some (me_var 2))) (me_add rfl (me_slice (me_var 1) (mpo_some (me_var 2)) mpo_none) (me_slice (me_var 1) mpo_none (mpo_some (me_var 2)))))))))))
theorem sc_print_tree : FnScope ["tree", "name", "below"] ["tree"] (defScope (top 6)) := ⟨rfl, rfl, rfl, by decide +kernel, rfl, by decide +kernel, by decide +kernel⟩
theorem bd_print_tree (t : T K mg cad fa fd) : Binds K (fd 1) ["tree"] [] := t.f_print_tree.binds fun _ _ _ _ _ _ us hl => match us, hl with | [_], _ => rfl
theorem ok_print_tree (t : T K mg cad fa fd) : ∀ n, FnOk P w K mg base (L2.CX P w) (1 + n) (fa 1) (fd 1) ["tree"] (spOf K cad 1 (S_print_tree n))
  | 0 => fn_stuck rfl
  | n + 1 => def_ok t.f_print_tree sc_print_tree rfl rfl fun cdv A outer s H F E io hr => by exact (ms_one (ms_ret (me_add rfl (me_add rfl me_str (me_join me_str (me_fz (mf_lc (own := [("name", 1), ("below", 2)]) rfl sc_print_tree.nd (mi_iter (me_var 0)) (blkOk_by (by rfl)) (fun s H C cl fp => (mg_tup rfl (mgs_cons (mg_name 1 sc_print_tree.nd) (mgs_cons (mg_name 2 sc_print_tree.nd) mgs_nil)))) (fun s H C cl fp => mts_nil) (fun s H C cl fp => (me_add rfl (me_add rfl (me_var 1) me_str) (me_call (ok_print_tree t n) hr takes0 t.m_print_tree t.f_print_tree.kp (bd_print_tree t) (ma_cons (me_var 2) ma_nil)))))))) me_str)))
theorem sc_law_tree : FnScope ["w", "depth", "names", "name"] ["w", "depth"] (defScope (top 14)) := ⟨rfl, rfl, rfl, by decide +kernel, rfl, by decide +kernel, by decide +kernel⟩
theorem bd_law_tree (t : T K mg cad fa fd) : Binds K (fd 11) ["w", "depth"] [] := t.f_law_tree.binds fun _ _ _ _ _ _ us hl => match us, hl with | [_, _], _ => rfl
theorem ok_law_tree (t : T K mg cad fa fd) : ∀ n, FnOk P w K mg base (L2.CX P w) (2 + n) (fa 11) (fd 11) ["w", "depth"] (spOf K cad 2 (S_law_tree n))
  | 0 => fn_stuck rfl
  | n + 1 => def_ok t.f_law_tree sc_law_tree rfl rfl fun cdv A outer s H F E io hr => by exact (ms_cons (ms_setLc 2 (own := [("name", 3)]) rfl sc_law_tree.nd (sw_true rfl rfl rfl (by decide +kernel)) (mi_iter (me_tup (ma_cons me_str (ma_cons me_str (ma_cons me_str (ma_cons me_str ma_nil)))))) (blkOk_by (by rfl)) (fun s H C cl fp => (mg_name 3 sc_law_tree.nd)) (fun s H C cl fp => (mts_one (mt_eq hr.units64 (me_callIo (j := 0) (ok_law_next t) (hr.mono (le_rec (by decide))) takes0 t.m_law_next t.f_law_next.kp (bd_law_next t) (ma_cons me_int ma_nil)) me_int))) (fun s H C cl fp => (me_var 3))) (ms_one (ms_ret (me_tuple1 t.b_tuple (ma_cons (me_fz (mf_lc (own := [("name", 3)]) rfl sc_law_tree.nd (mi_iter (me_var 2)) (blkOk_by (by rfl)) (fun s H C cl fp => (mg_name 3 sc_law_tree.nd)) (fun s H C cl fp => mts_nil) (fun s H C cl fp => (me_tup (ma_cons (me_var 3) (ma_cons (me_if (mt_gt (me_var 1) me_int) (me_callIo (j := 0) (ok_law_tree t n) hr takes0 t.m_law_tree t.f_law_tree.kp (bd_law_tree t) (ma_cons (me_sub (me_var 1) me_int) ma_nil)) (me_tup ma_nil)) ma_nil)))))) ma_nil)))))
theorem sc_law_text : FnScope ["tree", "name", "below"] ["tree"] (defScope (top 15)) := ⟨rfl, rfl, rfl, by decide +kernel, rfl, by decide +kernel, by decide +kernel⟩
theorem bd_law_text (t : T K mg cad fa fd) : Binds K (fd 12) ["tree"] [] := t.f_law_text.binds fun _ _ _ _ _ _ us hl => match us, hl with | [_], _ => rfl
theorem ok_law_text (t : T K mg cad fa fd) : ∀ n, FnOk P w K mg base (L2.CX P w) (1 + n) (fa 12) (fd 12) ["tree"] (spOf K cad 1 (S_law_text n))
  | 0 => fn_stuck rfl
  | n + 1 => def_ok t.f_law_text sc_law_text rfl rfl fun cdv A outer s H F E io hr => by exact (ms_one (ms_ret (me_add rfl (me_add rfl me_str (me_join me_str (me_fz (mf_lc (own := [("name", 1), ("below", 2)]) rfl sc_law_text.nd (mi_iter (me_var 0)) (blkOk_by (by rfl)) (fun s H C cl fp => (mg_tup rfl (mgs_cons (mg_name 1 sc_law_text.nd) (mgs_cons (mg_name 2 sc_law_text.nd) mgs_nil)))) (fun s H C cl fp => mts_nil) (fun s H C cl fp => (me_add rfl (me_add rfl (me_var 1) me_str) (me_call (ok_law_text t n) hr takes0 t.m_law_text t.f_law_text.kp (bd_law_text t) (ma_cons (me_var 2) ma_nil)))))))) me_str)))
theorem sc_law_read : FnScope ["p", "found", "begin", "name", "letters"] ["p"] (defScope (top 16)) := ⟨rfl, rfl, rfl, by decide +kernel, rfl, by decide +kernel, by decide +kernel⟩
theorem bd_law_read (t : T K mg cad fa fd) : Binds K (fd 13) ["p"] [] := t.f_law_read.binds fun _ _ _ _ _ _ us hl => match us, hl with | [_], _ => rfl
theorem ok_law_read (t : T K mg cad fa fd) : ∀ n, FnOk P w K mg base (L2.CX P w) (2 + n) (fa 13) (fd 13) ["p"] (spOf K cad 1 (S_law_read n))
  | 0 => fn_stuck rfl
  | n + 1 => def_ok t.f_law_read sc_law_read rfl rfl fun cdv A outer s H F E io hr => by exact (ms_cons (ms_setF 1 sc_law_read.nd (mf_lst ma_nil)) (ms_cons (ms_if (mt_not (mt_val (me_callIo (j := 0) (ok_law_go t) (hr.mono (le_rec (by decide))) (takes_of rfl rfl rfl rfl) t.m_law_go t.f_law_go.kp (bd_law_go t) (ma_cons me_str ma_nil)))) (ms_one (ms_ret (me_tup ma_nil))) ms_nil) (ms_cons (ms_while (passes_of rfl) (mt_w (mw_and (mt_not (mt_val (me_dget (j := 0) hr.units1 me_str (by intro _ _; rfl)))) (mw_and1 (mt_ne hr.units64 (me_slice (me_dget (j := 0) hr.units1 me_str (by intro _ _; rfl)) (mpo_some (me_dget (j := 0) hr.units1 me_str (by intro _ _; rfl))) (mpo_some (me_add rfl (me_dget (j := 0) hr.units1 me_str (by intro _ _; rfl)) me_int))) me_str)))) (ms_cons (ms_if (mt_w (mw_and (mt_neS (j := 1) hr.units64 (me_lst ma_nil)) (mw_and1 (mt_not (mt_val (me_callIo (j := 0) (ok_law_go t) (hr.mono (le_rec (by decide))) (takes_of rfl rfl rfl rfl) t.m_law_go t.f_law_go.kp (bd_law_go t) (ma_cons me_str ma_nil))))))) (ms_one (ms_ret (me_tup ma_nil))) ms_nil) (ms_cons (ms_set 2 sc_law_read.nd (me_dget (j := 0) hr.units1 me_str (by intro _ _; rfl))) (ms_cons (ms_set 3 sc_law_read.nd me_str) (ms_cons (ms_set 4 sc_law_read.nd me_str) (ms_cons (ms_while (passes_of rfl) (mt_w (mw_and (mt_ne hr.units64 (me_slice (me_dget (j := 0) hr.units1 me_str (by intro _ _; rfl)) (mpo_some (me_dget (j := 0) hr.units1 me_str (by intro _ _; rfl))) (mpo_some (me_add rfl (me_dget (j := 0) hr.units1 me_str (by intro _ _; rfl)) me_int))) me_str) (mw_and1 (mt_in (me_idx (me_dget (j := 0) hr.units1 me_str (by intro _ _; rfl)) (me_dget (j := 0) hr.units1 me_str (by intro _ _; rfl)) (by intro _ _; rfl)) (me_add rfl (me_var 4) (me_if (mt_ne hr.units64 (me_var 3) me_str) me_str me_str)))))) (ms_cons (ms_set 3 sc_law_read.nd (me_add rfl (me_var 3) (me_idx (me_dget (j := 0) hr.units1 me_str (by intro _ _; rfl)) (me_dget (j := 0) hr.units1 me_str (by intro _ _; rfl)) (by intro _ _; rfl)))) (ms_one (ms_daug 0 in_add addA hr.units1 me_str me_int (by intros; rfl))))) (ms_cons (ms_if (mt_w (mw_or (mt_eq hr.units64 (me_var 3) me_str) (mw_or1 (mt_w (mw_and (mt_neS (j := 1) hr.units64 (me_lst ma_nil)) (mw_and1 (mt_le (me_var 3) (me_idx (me_idxS (j := 1) (me_sub (me_lenS (j := 1) t.b_len) me_int) (by intro _ _; rfl)) me_int (by intro _ _; rfl))))))))) (ms_cons (ms_asg (me_tup (ma_cons me_bl (ma_cons (me_var 2) ma_nil))) (mg_tup rfl (mgs_cons (mg_sub 0 hr.units1) (mgs_cons (mg_sub 0 hr.units1) mgs_nil)))) (ms_one (ms_ret (me_tup ma_nil)))) ms_nil) (ms_cons (ms_if (mt_w (mw_or (mt_not (mt_val (me_callIo (j := 0) (ok_law_go t) (hr.mono (le_rec (by decide))) (takes_of rfl rfl rfl rfl) t.m_law_go t.f_law_go.kp (bd_law_go t) (ma_cons me_str ma_nil)))) (mw_or1 (mt_not (mt_val (me_callIo (j := 0) (ok_law_go t) (hr.mono (le_rec (by decide))) (takes_of rfl rfl rfl rfl) t.m_law_go t.f_law_go.kp (bd_law_go t) (ma_cons me_str ma_nil))))))) (ms_one (ms_ret (me_tup ma_nil))) ms_nil) (ms_one (ms_append 1 (me_tup (ma_cons (me_var 3) (ma_cons (me_callIo (j := 0) (ok_law_read t n) hr (takes_of rfl rfl rfl rfl) t.m_law_read t.f_law_read.kp (bd_law_read t) ma_nil) ma_nil))))))))))))) (ms_cons (ms_if (mt_not (mt_val (me_dget (j := 0) hr.units1 me_str (by intro _ _; rfl)))) (ms_one (ms_daug 0 in_add addA hr.units1 me_str me_int (by intros; rfl))) ms_nil) (ms_one (ms_ret (me_tuple1 t.b_tuple (ma_cons (me_var 1) ma_nil))))))))
theorem sc_law_due : FnScope ["text", "p", "tree"] ["text"] (defScope (top 18)) := ⟨rfl, rfl, rfl, by decide +kernel, rfl, by decide +kernel, by decide +kernel⟩
theorem bd_law_due (t : T K mg cad fa fd) : Binds K (fd 15) ["text"] [] := t.f_law_due.binds fun _ _ _ _ _ _ us hl => match us, hl with | [_], _ => rfl
theorem ok_law_due (t : T K mg cad fa fd) : FnOk P w K mg base (L2.CX P w) 43 (fa 15) (fd 15) ["text"] (spOf K cad 1 S_law_due) := def_ok t.f_law_due sc_law_due rfl rfl fun cdv A outer s H F E io hr => by exact (ms_cons (ms_setF 1 sc_law_due.nd (mf_dct (mpps_cons me_str (me_var 0) (mpps_cons me_str me_int (mpps_cons me_str me_bl mpps_nil))))) (ms_cons (ms_set 2 sc_law_due.nd (me_callIo (j := 1) (ok_law_read t 40) (hr.mono (by decide)) (takes_of rfl rfl rfl rfl) t.m_law_read t.f_law_read.kp (bd_law_read t) ma_nil)) (ms_one (ms_ret (me_if (mt_w (mw_and (mt_not (mt_val (me_dget (j := 1) hr.units1 me_str (by intro _ _; rfl)))) (mw_and1 (mt_eq hr.units64 (me_dget (j := 1) hr.units1 me_str (by intro _ _; rfl)) (me_len t.b_len (ma_cons (me_var 0) ma_nil)))))) (me_var 2) (me_dget (j := 1) hr.units1 me_str (by intro _ _; rfl)))))))
theorem sc_TreeReader_tree : FnScope ["self", "found", "begin", "name"] ["self"] (defScope (inClass (top 7) 3)) := ⟨rfl, rfl, rfl, by decide +kernel, rfl, by decide +kernel, by decide +kernel⟩
theorem bd_TreeReader_tree (t : T K mg cad fa fd) : Binds K (fd 5) ["self"] [] := t.f_TreeReader_tree.binds fun _ _ _ _ _ _ us hl => match us, hl with | [_], _ => rfl
theorem ok_TreeReader_tree (t : T K mg cad fa fd) : ∀ n, FnOk P w K mg base (L2.CX P w) (4 + n) (fa 5) (fd 5) ["self"] (spOf K cad 1 (S_TreeReader_tree n))
  | 0 => fn_stuck rfl
  | n + 1 => def_ok t.f_TreeReader_tree sc_TreeReader_tree rfl rfl fun cdv A outer s H F E io hr => by exact (ms_cons (ms_expr (me_meth (c := 2) (j := 0) (ok_TreeReader_need t) t.c_TreeReader t.h_TreeReader_need (hr.mono (le_rec (by decide))) (takes_of rfl rfl rfl rfl) (bd_TreeReader_need t) (ma_cons me_str ma_nil))) (ms_cons (ms_setF 1 sc_TreeReader_tree.nd (mf_lst ma_nil)) (ms_cons (ms_while (passes_of rfl) (mt_ne hr.units64 (me_slice (me_fld (c := 2) (j := 0) t.c_TreeReader t.na_TreeReader_text) (mpo_some (me_fld (c := 2) (j := 0) t.c_TreeReader t.na_TreeReader_at)) (mpo_some (me_add rfl (me_fld (c := 2) (j := 0) t.c_TreeReader t.na_TreeReader_at) me_int))) me_str) (ms_cons (ms_if (mt_neS (j := 1) hr.units64 (me_lst ma_nil)) (ms_one (ms_expr (me_meth (c := 2) (j := 0) (ok_TreeReader_need t) t.c_TreeReader t.h_TreeReader_need (hr.mono (le_rec (by decide))) (takes_of rfl rfl rfl rfl) (bd_TreeReader_need t) (ma_cons me_str ma_nil)))) ms_nil) (ms_cons (ms_set 2 sc_TreeReader_tree.nd (me_fld (c := 2) (j := 0) t.c_TreeReader t.na_TreeReader_at)) (ms_cons (ms_set 3 sc_TreeReader_tree.nd (me_meth0 (c := 2) (j := 0) (ok_TreeReader_name t) t.c_TreeReader t.h_TreeReader_name (hr.mono (le_rec (by decide))) (takes_of rfl rfl rfl rfl) (bd_TreeReader_name t))) (ms_cons (ms_if (mt_w (mw_and (mt_neS (j := 1) hr.units64 (me_lst ma_nil)) (mw_and1 (mt_le (me_var 3) (me_idx (me_idxS (j := 1) (me_neg me_int) (by intro _ _; rfl)) me_int (by intro _ _; rfl)))))) (ms_one (ms_raise (c := 1) rfl (takes_of rfl rfl rfl rfl) t.o_BadText t.i_BadText t.ty_BadText (ok_BadText_init t) (hr.mono (le_rec (by decide))) (bd_BadText_init t) t.mc_BadText (me_var 2))) ms_nil) (ms_cons (ms_expr (me_meth (c := 2) (j := 0) (ok_TreeReader_need t) t.c_TreeReader t.h_TreeReader_need (hr.mono (le_rec (by decide))) (takes_of rfl rfl rfl rfl) (bd_TreeReader_need t) (ma_cons me_str ma_nil))) (ms_one (ms_append 1 (me_tup (ma_cons (me_var 3) (ma_cons (me_meth0 (c := 2) (j := 0) (ok_TreeReader_tree t n) t.c_TreeReader t.h_TreeReader_tree hr (takes_of rfl rfl rfl rfl) (bd_TreeReader_tree t)) ma_nil))))))))))) (ms_cons (ms_fldAug 0 (c := 2) in_add addA t.c_TreeReader t.na_TreeReader_at me_int) (ms_one (ms_ret (me_tuple1 t.b_tuple (ma_cons (me_var 1) ma_nil))))))))
theorem sc_parse_tree : FnScope ["text", "reader", "tree"] ["text"] (defScope (top 8)) := ⟨rfl, rfl, rfl, by decide +kernel, rfl, by decide +kernel, by decide +kernel⟩
theorem bd_parse_tree (t : T K mg cad fa fd) : Binds K (fd 6) ["text"] [] := t.f_parse_tree.binds fun _ _ _ _ _ _ us hl => match us, hl with | [_], _ => rfl
theorem ok_parse_tree (t : T K mg cad fa fd) : FnOk P w K mg base (L2.CX P w) 45 (fa 6) (fd 6) ["text"] (spOf K cad 1 S_parse_tree) := def_ok t.f_parse_tree sc_parse_tree rfl rfl fun cdv A outer s H F E io hr => by exact (ms_cons (ms_setF 1 sc_parse_tree.nd (mf_make (c := 2) t.mk_TreeReader (ok_TreeReader_init t) (hr.mono (by decide)) t.mc_TreeReader (bd_TreeReader_init t) (ma_cons (me_var 0) ma_nil))) (ms_cons (ms_set 2 sc_parse_tree.nd (me_meth0 (c := 2) (j := 1) (ok_TreeReader_tree t 40) t.c_TreeReader t.h_TreeReader_tree (hr.mono (by decide)) (takes_of rfl rfl rfl rfl) (bd_TreeReader_tree t))) (ms_cons (ms_if (mt_ne hr.units64 (me_fld (c := 2) (j := 1) t.c_TreeReader t.na_TreeReader_at) (me_len t.b_len (ma_cons (me_var 0) ma_nil))) (ms_one (ms_raise (c := 1) rfl (takes_of rfl rfl rfl rfl) t.o_BadText t.i_BadText t.ty_BadText (ok_BadText_init t) (hr.mono (by decide)) (bd_BadText_init t) t.mc_BadText (me_fld (c := 2) (j := 1) t.c_TreeReader t.na_TreeReader_at))) ms_nil) (ms_one (ms_ret (me_var 2))))))
theorem sc_law_told : FnScope ["text", "e"] ["text"] (defScope (top 20)) := ⟨rfl, rfl, rfl, by decide +kernel, rfl, by decide +kernel, by decide +kernel⟩
theorem bd_law_told (t : T K mg cad fa fd) : Binds K (fd 17) ["text"] [] := t.f_law_told.binds fun _ _ _ _ _ _ us hl => match us, hl with | [_], _ => rfl
theorem ok_law_told (t : T K mg cad fa fd) : FnOk P w K mg base (L2.CX P w) 46 (fa 17) (fd 17) ["text"] (spOf K cad 1 S_law_told) := def_ok t.f_law_told sc_law_told rfl rfl fun cdv A outer s H F E io hr => by exact (ms_one (ms_tryRet (i := 1) (cs := [1]) rfl rfl sc_law_told.nd ⟨rfl, by decide, Or.inl t.mc_LookError⟩ t.tx_LookError (fun W pn xe tk1 hp1 => (ms_one (ms_ret (me_call (ok_parse_tree t) (hr.mono (by decide)) tk1 t.m_parse_tree t.f_parse_tree.kp (bd_parse_tree t) (ma_cons (me_var 0) ma_nil))))) (fun a oe cls d pn hz hf => (mx_if (mx_isi hz hf (fun c hc => t.xi_BadText c hc) t.b_isinstance t.mc_BadText) (mx_fld hz hf (fun c hc => t.x_LookError_place c hc)) (mx_neg (mx_c pe_int fun _ => .int _))))))
theorem sc_law_alike : FnScope ["told", "due", "k"] ["told", "due"] (defScope (top 13)) := ⟨rfl, rfl, rfl, by decide +kernel, rfl, by decide +kernel, by decide +kernel⟩
theorem bd_law_alike (t : T K mg cad fa fd) : Binds K (fd 10) ["told", "due"] [] := t.f_law_alike.binds fun _ _ _ _ _ _ us hl => match us, hl with | [_, _], _ => rfl
theorem ok_law_alike (t : T K mg cad fa fd) : ∀ n, FnOk P w K mg base (L2.CX P w) (1 + n) (fa 10) (fd 10) ["told", "due"] (spOf K cad 2 (S_law_alike n))
  | 0 => fn_stuck rfl
  | n + 1 => def_ok t.f_law_alike sc_law_alike rfl rfl fun cdv A outer s H F E io hr => by exact (ms_cons (ms_if (mt_val (me_isi "tuple" isi_tuple t.b_isinstance t.b_tuple (by rfl) (me_var 1))) (ms_cons (ms_if (mt_w (mw_or (mt_not (mt_val (me_isi "tuple" isi_tuple t.b_isinstance t.b_tuple (by rfl) (me_var 0)))) (mw_or1 (mt_ne hr.units64 (me_len t.b_len (ma_cons (me_var 0) ma_nil)) (me_len t.b_len (ma_cons (me_var 1) ma_nil)))))) (ms_one (ms_ret me_bl)) ms_nil) (ms_one (ms_ret (me_eq hr.units64 (me_fz (mf_lc (own := [("k", 2)]) rfl sc_law_alike.nd (mi_range1 t.b_range (me_len t.b_len (ma_cons (me_var 1) ma_nil))) (blkOk_by (by rfl)) (fun s H C cl fp => (mg_name 2 sc_law_alike.nd)) (fun s H C cl fp => (mts_one (mt_not (mt_val (me_call (ok_law_alike t n) hr takes0 t.m_law_alike t.f_law_alike.kp (bd_law_alike t) (ma_cons (me_idx (me_var 0) (me_var 2) (by intro _ _; rfl)) (ma_cons (me_idx (me_var 1) (me_var 2) (by intro _ _; rfl)) ma_nil))))))) (fun s H C cl fp => (me_var 2)))) (me_lst ma_nil))))) ms_nil) (ms_cons (ms_if (mt_isN (me_var 1) me_non) (ms_one (ms_ret (me_isN (me_var 0) me_non))) ms_nil) (ms_cons (ms_if (mt_val (me_isi "bool" isi_bool t.b_isinstance t.b_bool (by rfl) (me_var 1))) (ms_one (ms_ret (me_and (me_isi "bool" isi_bool t.b_isinstance t.b_bool (by rfl) (me_var 0)) (me_one (me_eq hr.units64 (me_var 0) (me_var 1)))))) ms_nil) (ms_cons (ms_if (mt_val (me_isi "int" isi_int t.b_isinstance t.b_int (by rfl) (me_var 1))) (ms_one (ms_ret (me_and (me_isi "int" isi_int t.b_isinstance t.b_int (by rfl) (me_var 0)) (me_and (me_not (me_isi "bool" isi_bool t.b_isinstance t.b_bool (by rfl) (me_var 0))) (me_one (me_eq hr.units64 (me_var 0) (me_var 1))))))) ms_nil) (ms_one (ms_ret (me_and (me_isi "str" isi_str t.b_isinstance t.b_str (by rfl) (me_var 0)) (me_one (me_eq hr.units64 (me_var 0) (me_var 1))))))))))
theorem sc_law : FnScope ["script", "w", "turn", "tree", "text", "k", "bent", "due", "told"] ["script"] (defScope (top 22)) := ⟨rfl, rfl, rfl, by decide +kernel, rfl, by decide +kernel, by decide +kernel⟩
theorem bd_law (t : T K mg cad fa fd) : Binds K (fd 19) ["script"] [] := t.f_law.binds fun _ _ _ _ _ _ us hl => match us, hl with | [_], _ => rfl
theorem ok_law (t : T K mg cad fa fd) : FnOk P w K mg base (L2.CX P w) 92 (fa 19) (fd 19) ["script"] (spOf K cad 1 S_law) := def_ok t.f_law sc_law rfl rfl fun cdv A outer s H F E io hr => by exact (ms_cons (ms_setF 1 sc_law.nd (mf_dct (mpps_cons me_str (me_call (ok_law_draws t) (hr.mono (by decide)) (takes_of rfl rfl rfl rfl) t.m_law_draws t.f_law_draws.kp (bd_law_draws t) (ma_cons (me_var 0) (ma_cons me_int ma_nil))) (mpps_cons me_str me_int mpps_nil)))) (ms_cons (ms_for (passes_of rfl) rfl (mi_range1 t.b_range me_int) (mg_name 2 sc_law.nd) (ms_cons (ms_set 3 sc_law.nd (me_callIo (j := 1) (ok_law_tree t 4) (hr.mono (by decide)) (takes_of rfl rfl rfl rfl) t.m_law_tree t.f_law_tree.kp (bd_law_tree t) (ma_cons me_int ma_nil))) (ms_cons (ms_set 4 sc_law.nd (me_call (ok_law_text t 5) (hr.mono (by decide)) (takes_of rfl rfl rfl rfl) t.m_law_text t.f_law_text.kp (bd_law_text t) (ma_cons (me_var 3) ma_nil))) (ms_cons (ms_if (mt_w (mw_or (mt_not (mt_val (me_call (ok_law_alike t 90) (hr.mono (by decide)) (takes_of rfl rfl rfl rfl) t.m_law_alike t.f_law_alike.kp (bd_law_alike t) (ma_cons (me_call (ok_print_tree t 5) (hr.mono (by decide)) (takes_of rfl rfl rfl rfl) t.m_print_tree t.f_print_tree.kp (bd_print_tree t) (ma_cons (me_var 3) ma_nil)) (ma_cons (me_var 4) ma_nil))))) (mw_or1 (mt_not (mt_val (me_call (ok_law_alike t 90) (hr.mono (by decide)) (takes_of rfl rfl rfl rfl) t.m_law_alike t.f_law_alike.kp (bd_law_alike t) (ma_cons (me_call (ok_law_told t) (hr.mono (by decide)) (takes_of rfl rfl rfl rfl) t.m_law_told t.f_law_told.kp (bd_law_told t) (ma_cons (me_var 4) ma_nil)) (ma_cons (me_var 3) ma_nil)))))))) (ms_one (ms_ret me_bl)) ms_nil) (ms_one (ms_for (passes_of rfl) rfl (mi_range1 t.b_range me_int) (mg_name 5 sc_law.nd) (ms_cons (ms_set 6 sc_law.nd (me_callIo (j := 1) (ok_law_bent t) (hr.mono (by decide)) (takes_of rfl rfl rfl rfl) t.m_law_bent t.f_law_bent.kp (bd_law_bent t) (ma_cons (me_var 4) ma_nil))) (ms_cons (ms_if (mt_eq hr.units64 (me_callIo (j := 1) (ok_law_next t) (hr.mono (by decide)) (takes_of rfl rfl rfl rfl) t.m_law_next t.f_law_next.kp (bd_law_next t) (ma_cons me_int ma_nil)) me_int) (ms_one (ms_set 6 sc_law.nd (me_callIo (j := 1) (ok_law_bent t) (hr.mono (by decide)) (takes_of rfl rfl rfl rfl) t.m_law_bent t.f_law_bent.kp (bd_law_bent t) (ma_cons (me_var 6) ma_nil)))) ms_nil) (ms_cons (ms_set 7 sc_law.nd (me_call (ok_law_due t) (hr.mono (by decide)) (takes_of rfl rfl rfl rfl) t.m_law_due t.f_law_due.kp (bd_law_due t) (ma_cons (me_var 6) ma_nil))) (ms_cons (ms_set 8 sc_law.nd (me_call (ok_law_told t) (hr.mono (by decide)) (takes_of rfl rfl rfl rfl) t.m_law_told t.f_law_told.kp (bd_law_told t) (ma_cons (me_var 6) ma_nil))) (ms_one (ms_if (mt_val (me_call (ok_law_is_colon t) (hr.mono (by decide)) (takes_of rfl rfl rfl rfl) t.m_law_is_colon t.f_law_is_colon.kp (bd_law_is_colon t) (ma_cons (me_var 6) (ma_cons (me_var 7) ma_nil)))) (ms_one (ms_if (mt_w (mw_or (mt_not (mt_val (me_isi "int" isi_int t.b_isinstance t.b_int (by rfl) (me_var 8)))) (mw_or1 (mt_notIn (me_var 8) (me_tup (ma_cons (me_var 7) (ma_cons (me_sub (me_var 7) me_int) ma_nil))))))) (ms_one (ms_ret me_bl)) ms_nil)) (ms_one (ms_if (mt_not (mt_val (me_call (ok_law_alike t 90) (hr.mono (by decide)) (takes_of rfl rfl rfl rfl) t.m_law_alike t.f_law_alike.kp (bd_law_alike t) (ma_cons (me_var 8) (ma_cons (me_var 7) ma_nil))))) (ms_one (ms_ret me_bl)) ms_nil)))))))))))))) (ms_one (ms_ret (me_and (me_call (ok_law_alike t 90) (hr.mono (by decide)) (takes_of rfl rfl rfl rfl) t.m_law_alike t.f_law_alike.kp (bd_law_alike t) (ma_cons (me_call (ok_law_told t) (hr.mono (by decide)) (takes_of rfl rfl rfl rfl) t.m_law_told t.f_law_told.kp (bd_law_told t) (ma_cons me_str ma_nil)) (ma_cons me_int ma_nil))) (me_and (me_call (ok_law_alike t 90) (hr.mono (by decide)) (takes_of rfl rfl rfl rfl) t.m_law_alike t.f_law_alike.kp (bd_law_alike t) (ma_cons (me_call (ok_law_told t) (hr.mono (by decide)) (takes_of rfl rfl rfl rfl) t.m_law_told t.f_law_told.kp (bd_law_told t) (ma_cons me_str ma_nil)) (ma_cons me_int ma_nil))) (me_one (me_call (ok_law_alike t 90) (hr.mono (by decide)) (takes_of rfl rfl rfl rfl) t.m_law_alike t.f_law_alike.kp (bd_law_alike t) (ma_cons (me_call (ok_law_told t) (hr.mono (by decide)) (takes_of rfl rfl rfl rfl) t.m_law_told t.f_law_told.kp (bd_law_told t) (ma_cons me_str ma_nil)) (ma_cons (me_tup ma_nil) ma_nil))))))))))
end
theorem all_mk {l : PySem.W.OpenLaw} {w : World} {K : PySem.W.Frag} {h : Heap} {mg : Str → Option Value} {fa0 : Addr} (X : K.In h) (G : h.Ns mainGlobals mg) (hfa : mg "law" = some (.ref fa0))
    {f0 f1 f2 f3 f4 f5 f6 f7 f8 f9 f10 f11 f12 f13 f14 f15 f16 f17 f18 f19 : Addr} {C0 C1 C2 : Addr}
    {tk_DIGITS : Tok}
    {tk_LETTERS : Tok}
    {nmq1 qq1 : Str} {Nq1 : Addr} {bsq1 : List Value} {snq1 : List Str} {subq1 : List Value} {abq1 : Bool} {colq1 : Option Bool} {ddq1 : Option Addr} {m0q1 m1q1 m2q1 m3q1 m5q1 : Option Value}
    {od0 an0 : Option Addr} {sl0 : Array (Option Value)} {oc0 kV0 dc0 pm0 cd0 ct0 : Value}
    {od1 an1 : Option Addr} {sl1 : Array (Option Value)} {oc1 kV1 dc1 pm1 cd1 ct1 : Value}
    {od2 an2 : Option Addr} {sl2 : Array (Option Value)} {oc2 kV2 dc2 pm2 cd2 ct2 : Value}
    {od3 an3 : Option Addr} {sl3 : Array (Option Value)} {oc3 kV3 dc3 pm3 cd3 ct3 : Value}
    {od4 an4 : Option Addr} {sl4 : Array (Option Value)} {oc4 kV4 dc4 pm4 cd4 ct4 : Value}
    {od5 an5 : Option Addr} {sl5 : Array (Option Value)} {oc5 kV5 dc5 pm5 cd5 ct5 : Value}
    {od6 an6 : Option Addr} {sl6 : Array (Option Value)} {oc6 kV6 dc6 pm6 cd6 ct6 : Value}
    {od7 an7 : Option Addr} {sl7 : Array (Option Value)} {oc7 kV7 dc7 pm7 cd7 ct7 : Value}
    {od8 an8 : Option Addr} {sl8 : Array (Option Value)} {oc8 kV8 dc8 pm8 cd8 ct8 : Value}
    {od9 an9 : Option Addr} {sl9 : Array (Option Value)} {oc9 kV9 dc9 pm9 cd9 ct9 : Value}
    {od10 an10 : Option Addr} {sl10 : Array (Option Value)} {oc10 kV10 dc10 pm10 cd10 ct10 : Value}
    {od11 an11 : Option Addr} {sl11 : Array (Option Value)} {oc11 kV11 dc11 pm11 cd11 ct11 : Value}
    {od12 an12 : Option Addr} {sl12 : Array (Option Value)} {oc12 kV12 dc12 pm12 cd12 ct12 : Value}
    {od13 an13 : Option Addr} {sl13 : Array (Option Value)} {oc13 kV13 dc13 pm13 cd13 ct13 : Value}
    {od14 an14 : Option Addr} {sl14 : Array (Option Value)} {oc14 kV14 dc14 pm14 cd14 ct14 : Value}
    {od15 an15 : Option Addr} {sl15 : Array (Option Value)} {oc15 kV15 dc15 pm15 cd15 ct15 : Value}
    {od16 an16 : Option Addr} {sl16 : Array (Option Value)} {oc16 kV16 dc16 pm16 cd16 ct16 : Value}
    {od17 an17 : Option Addr} {sl17 : Array (Option Value)} {oc17 kV17 dc17 pm17 cd17 ct17 : Value}
    {od18 an18 : Option Addr} {sl18 : Array (Option Value)} {oc18 kV18 dc18 pm18 cd18 ct18 : Value}
    {od19 an19 : Option Addr} {sl19 : Array (Option Value)} {oc19 kV19 dc19 pm19 cd19 ct19 : Value}
    (aC_LookError : PySem.W.nsIn K mainGlobals "LookError" = some (some (.ref C0)))
    (aC_BadText : PySem.W.nsIn K mainGlobals "BadText" = some (some (.ref C1)))
    (aC_TreeReader : PySem.W.nsIn K mainGlobals "TreeReader" = some (some (.ref C2)))
    (z_abs : PySem.W.nsIn K mainGlobals "abs" = some none)
    (z_bool : PySem.W.nsIn K mainGlobals "bool" = some none)
    (z_int : PySem.W.nsIn K mainGlobals "int" = some none)
    (z_isinstance : PySem.W.nsIn K mainGlobals "isinstance" = some none)
    (z_len : PySem.W.nsIn K mainGlobals "len" = some none)
    (z_range : PySem.W.nsIn K mainGlobals "range" = some none)
    (z_str : PySem.W.nsIn K mainGlobals "str" = some none)
    (z_tuple : PySem.W.nsIn K mainGlobals "tuple" = some none)
    (g_DIGITS : PySem.W.nsIn K mainGlobals "DIGITS" = some (some (.str gl_DIGITS tk_DIGITS)))
    (g_LETTERS : PySem.W.nsIn K mainGlobals "LETTERS" = some (some (.str gl_LETTERS tk_LETTERS)))
    (xL_BadText : K.lookup C1 = some (excClassObj nmq1 qq1 C1 Nq1 bsq1 [.ref C0, .type "ValueError", .type "Exception", .type "BaseException", .type "object"] true snq1 subq1 abq1 colq1 ddq1 m0q1 m1q1 m2q1 m3q1 m5q1 "ValueError.__new__"))
    (sa_BadText : PySem.W.findIn K (.ref C1) "__setattr__" = some (some (.builtin "object.__setattr__")))
    (eC_BadText : PySem.W.subIn K (.ref C1) (.type "BaseException") = some true)
    (tC_BadText : PySem.W.typeIn K (.ref C1) = some (.type "type"))
    (kC_BadText : PySem.W.keepIn K (.ref C1) = true)
    (ai_BadText : PySem.W.findIn K (.ref C1) "__init__" = some (some (.ref f0)))
    (ty_BadText : PySem.W.typeIn K (.ref f0) = some (.type "function"))
    (no_BadText : PySem.W.findIn K (.ref C1) k_place = some none)
    (sp_LookError : PySem.W.specialIn K (.ref C0) "__getattribute__" = some (some (.builtin "type.__getattribute__")))
    (rd_LookError : PySem.W.readsIn K C0 (.type "type") = true)
    (vi_LookError : PySem.W.findCls K (.ref C0) (.type "type") "__init__" = some (.val (.builtin "ValueError.__init__")))
    (ga_BadText : PySem.W.findIn K (.ref C1) "__getattribute__" = some (some (.builtin "BaseException.__getattribute__")))
    (gg_BadText : PySem.W.findIn K (.ref C1) "__getattr__" = some none)
    (hD_BadText : PySem.W.hasDictIn K C1 = true)
    (cc_BadText : PySem.W.findIn K (.ref C1) "__class__" = some (some (.builtin "object.__class__")))
    (mo_BadText : PySem.W.mroIn K C1 (.type "object") = some true)
    (ss_BadText : PySem.W.subIn K (.ref C1) (.ref C1) = some true)
    (zGet : PySem.W.specialIn K (.builtin "object.__class__") "__get__" = some (some (.builtin "getset_descriptor.__get__")))
    (zTak : PySem.W.takesIn K (.builtin "object.__class__") = some true)
    (iL_LookError : PySem.W.isClsIn K C0 = true)
    (tL_LookError : PySem.W.typeIn K (.ref C0) = some (.type "type"))
    (eL_LookError : PySem.W.subIn K (.ref C0) (.type "BaseException") = some true)
    (su_BadText_LookError : PySem.W.subIn K (.ref C1) (.ref C0) = some true)
    (iD_BadText : PySem.W.isClsIn K C1 = true)
    (tD_BadText : PySem.W.typeIn K (.ref C1) = some (.type "type"))
    (si_BadText_BadText : PySem.W.subIn K (.ref C1) (.ref C1) = some true)
    (pg_TreeReader : PySem.W.plainGet K C2 Str.empty = true)
    (hd_TreeReader : PySem.W.hasDictIn K C2 = true)
    (po_TreeReader : PySem.W.plainOver K C2 = true)
    (sa_TreeReader : PySem.W.findIn K (.ref C2) "__setattr__" = some (some (.builtin "object.__setattr__")))
    (mk_TreeReader : PySem.W.makesIn K C2 = true)
    (kc_TreeReader : PySem.W.keepIn K (.ref C2) = true)
    (am_TreeReader_init : PySem.W.findIn K (.ref C2) "__init__" = some (some (.ref f2)))
    (im_TreeReader_init : PySem.W.isFn K (.ref f2) = true)
    (am_TreeReader_need : PySem.W.findIn K (.ref C2) "need" = some (some (.ref f3)))
    (im_TreeReader_need : PySem.W.isFn K (.ref f3) = true)
    (am_TreeReader_name : PySem.W.findIn K (.ref C2) "name" = some (some (.ref f4)))
    (im_TreeReader_name : PySem.W.isFn K (.ref f4) = true)
    (am_TreeReader_tree : PySem.W.findIn K (.ref C2) "tree" = some (some (.ref f5)))
    (im_TreeReader_tree : PySem.W.isFn K (.ref f5) = true)
    (na_TreeReader_at : PySem.W.findIn K (.ref C2) k_at = some none)
    (na_TreeReader_text : PySem.W.findIn K (.ref C2) k_text = some none)
    (l0 : K.lookup f0 = some ⟨oc0, od0, .func (PySem.W.fnOf "__init__" "BadText.__init__" (defArgs (inClass (top 2) 0)) (defBody (inClass (top 2) 0)) (defScope (inClass (top 2) 0)) .none kV0 dc0 pm0 an0 cd0 ct0), sl0⟩)
    (c0 : PySem.W.codeIn K cd0 "BadText.__init__" = true)
    (k0 : PySem.W.keepIn K (.ref f0) = true)
    (a1 : PySem.W.nsIn K mainGlobals "print_tree" = some (some (.ref f1)))
    (l1 : K.lookup f1 = some ⟨oc1, od1, .func (PySem.W.fnOf "print_tree" "print_tree" (defArgs (top 6)) (defBody (top 6)) (defScope (top 6)) .none kV1 dc1 pm1 an1 cd1 ct1), sl1⟩)
    (c1 : PySem.W.codeIn K cd1 "print_tree" = true)
    (k1 : PySem.W.keepIn K (.ref f1) = true)
    (l2 : K.lookup f2 = some ⟨oc2, od2, .func (PySem.W.fnOf "__init__" "TreeReader.__init__" (defArgs (inClass (top 7) 0)) (defBody (inClass (top 7) 0)) (defScope (inClass (top 7) 0)) .none kV2 dc2 pm2 an2 cd2 ct2), sl2⟩)
    (c2 : PySem.W.codeIn K cd2 "TreeReader.__init__" = true)
    (k2 : PySem.W.keepIn K (.ref f2) = true)
    (l3 : K.lookup f3 = some ⟨oc3, od3, .func (PySem.W.fnOf "need" "TreeReader.need" (defArgs (inClass (top 7) 1)) (defBody (inClass (top 7) 1)) (defScope (inClass (top 7) 1)) .none kV3 dc3 pm3 an3 cd3 ct3), sl3⟩)
    (c3 : PySem.W.codeIn K cd3 "TreeReader.need" = true)
    (k3 : PySem.W.keepIn K (.ref f3) = true)
    (l4 : K.lookup f4 = some ⟨oc4, od4, .func (PySem.W.fnOf "name" "TreeReader.name" (defArgs (inClass (top 7) 2)) (defBody (inClass (top 7) 2)) (defScope (inClass (top 7) 2)) .none kV4 dc4 pm4 an4 cd4 ct4), sl4⟩)
    (c4 : PySem.W.codeIn K cd4 "TreeReader.name" = true)
    (k4 : PySem.W.keepIn K (.ref f4) = true)
    (l5 : K.lookup f5 = some ⟨oc5, od5, .func (PySem.W.fnOf "tree" "TreeReader.tree" (defArgs (inClass (top 7) 3)) (defBody (inClass (top 7) 3)) (defScope (inClass (top 7) 3)) .none kV5 dc5 pm5 an5 cd5 ct5), sl5⟩)
    (c5 : PySem.W.codeIn K cd5 "TreeReader.tree" = true)
    (k5 : PySem.W.keepIn K (.ref f5) = true)
    (a6 : PySem.W.nsIn K mainGlobals "parse_tree" = some (some (.ref f6)))
    (l6 : K.lookup f6 = some ⟨oc6, od6, .func (PySem.W.fnOf "parse_tree" "parse_tree" (defArgs (top 8)) (defBody (top 8)) (defScope (top 8)) .none kV6 dc6 pm6 an6 cd6 ct6), sl6⟩)
    (c6 : PySem.W.codeIn K cd6 "parse_tree" = true)
    (k6 : PySem.W.keepIn K (.ref f6) = true)
    (a7 : PySem.W.nsIn K mainGlobals "_law_draws" = some (some (.ref f7)))
    (l7 : K.lookup f7 = some ⟨oc7, od7, .func (PySem.W.fnOf "_law_draws" "_law_draws" (defArgs (top 10)) (defBody (top 10)) (defScope (top 10)) .none kV7 dc7 pm7 an7 cd7 ct7), sl7⟩)
    (c7 : PySem.W.codeIn K cd7 "_law_draws" = true)
    (k7 : PySem.W.keepIn K (.ref f7) = true)
    (a8 : PySem.W.nsIn K mainGlobals "_law_next" = some (some (.ref f8)))
    (l8 : K.lookup f8 = some ⟨oc8, od8, .func (PySem.W.fnOf "_law_next" "_law_next" (defArgs (top 11)) (defBody (top 11)) (defScope (top 11)) .none kV8 dc8 pm8 an8 cd8 ct8), sl8⟩)
    (c8 : PySem.W.codeIn K cd8 "_law_next" = true)
    (k8 : PySem.W.keepIn K (.ref f8) = true)
    (a9 : PySem.W.nsIn K mainGlobals "_law_pick" = some (some (.ref f9)))
    (l9 : K.lookup f9 = some ⟨oc9, od9, .func (PySem.W.fnOf "_law_pick" "_law_pick" (defArgs (top 12)) (defBody (top 12)) (defScope (top 12)) .none kV9 dc9 pm9 an9 cd9 ct9), sl9⟩)
    (c9 : PySem.W.codeIn K cd9 "_law_pick" = true)
    (k9 : PySem.W.keepIn K (.ref f9) = true)
    (a10 : PySem.W.nsIn K mainGlobals "_law_alike" = some (some (.ref f10)))
    (l10 : K.lookup f10 = some ⟨oc10, od10, .func (PySem.W.fnOf "_law_alike" "_law_alike" (defArgs (top 13)) (defBody (top 13)) (defScope (top 13)) .none kV10 dc10 pm10 an10 cd10 ct10), sl10⟩)
    (c10 : PySem.W.codeIn K cd10 "_law_alike" = true)
    (k10 : PySem.W.keepIn K (.ref f10) = true)
    (a11 : PySem.W.nsIn K mainGlobals "_law_tree" = some (some (.ref f11)))
    (l11 : K.lookup f11 = some ⟨oc11, od11, .func (PySem.W.fnOf "_law_tree" "_law_tree" (defArgs (top 14)) (defBody (top 14)) (defScope (top 14)) .none kV11 dc11 pm11 an11 cd11 ct11), sl11⟩)
    (c11 : PySem.W.codeIn K cd11 "_law_tree" = true)
    (k11 : PySem.W.keepIn K (.ref f11) = true)
    (a12 : PySem.W.nsIn K mainGlobals "_law_text" = some (some (.ref f12)))
    (l12 : K.lookup f12 = some ⟨oc12, od12, .func (PySem.W.fnOf "_law_text" "_law_text" (defArgs (top 15)) (defBody (top 15)) (defScope (top 15)) .none kV12 dc12 pm12 an12 cd12 ct12), sl12⟩)
    (c12 : PySem.W.codeIn K cd12 "_law_text" = true)
    (k12 : PySem.W.keepIn K (.ref f12) = true)
    (a13 : PySem.W.nsIn K mainGlobals "_law_read" = some (some (.ref f13)))
    (l13 : K.lookup f13 = some ⟨oc13, od13, .func (PySem.W.fnOf "_law_read" "_law_read" (defArgs (top 16)) (defBody (top 16)) (defScope (top 16)) .none kV13 dc13 pm13 an13 cd13 ct13), sl13⟩)
    (c13 : PySem.W.codeIn K cd13 "_law_read" = true)
    (k13 : PySem.W.keepIn K (.ref f13) = true)
    (a14 : PySem.W.nsIn K mainGlobals "_law_go" = some (some (.ref f14)))
    (l14 : K.lookup f14 = some ⟨oc14, od14, .func (PySem.W.fnOf "_law_go" "_law_go" (defArgs (top 17)) (defBody (top 17)) (defScope (top 17)) .none kV14 dc14 pm14 an14 cd14 ct14), sl14⟩)
    (c14 : PySem.W.codeIn K cd14 "_law_go" = true)
    (k14 : PySem.W.keepIn K (.ref f14) = true)
    (a15 : PySem.W.nsIn K mainGlobals "_law_due" = some (some (.ref f15)))
    (l15 : K.lookup f15 = some ⟨oc15, od15, .func (PySem.W.fnOf "_law_due" "_law_due" (defArgs (top 18)) (defBody (top 18)) (defScope (top 18)) .none kV15 dc15 pm15 an15 cd15 ct15), sl15⟩)
    (c15 : PySem.W.codeIn K cd15 "_law_due" = true)
    (k15 : PySem.W.keepIn K (.ref f15) = true)
    (a16 : PySem.W.nsIn K mainGlobals "_law_bent" = some (some (.ref f16)))
    (l16 : K.lookup f16 = some ⟨oc16, od16, .func (PySem.W.fnOf "_law_bent" "_law_bent" (defArgs (top 19)) (defBody (top 19)) (defScope (top 19)) .none kV16 dc16 pm16 an16 cd16 ct16), sl16⟩)
    (c16 : PySem.W.codeIn K cd16 "_law_bent" = true)
    (k16 : PySem.W.keepIn K (.ref f16) = true)
    (a17 : PySem.W.nsIn K mainGlobals "_law_told" = some (some (.ref f17)))
    (l17 : K.lookup f17 = some ⟨oc17, od17, .func (PySem.W.fnOf "_law_told" "_law_told" (defArgs (top 20)) (defBody (top 20)) (defScope (top 20)) .none kV17 dc17 pm17 an17 cd17 ct17), sl17⟩)
    (c17 : PySem.W.codeIn K cd17 "_law_told" = true)
    (k17 : PySem.W.keepIn K (.ref f17) = true)
    (a18 : PySem.W.nsIn K mainGlobals "_law_is_colon" = some (some (.ref f18)))
    (l18 : K.lookup f18 = some ⟨oc18, od18, .func (PySem.W.fnOf "_law_is_colon" "_law_is_colon" (defArgs (top 21)) (defBody (top 21)) (defScope (top 21)) .none kV18 dc18 pm18 an18 cd18 ct18), sl18⟩)
    (c18 : PySem.W.codeIn K cd18 "_law_is_colon" = true)
    (k18 : PySem.W.keepIn K (.ref f18) = true)
    (a19 : PySem.W.nsIn K mainGlobals "law" = some (some (.ref f19)))
    (l19 : K.lookup f19 = some ⟨oc19, od19, .func (PySem.W.fnOf "law" "law" (defArgs (top 22)) (defBody (top 22)) (defScope (top 22)) .none kV19 dc19 pm19 an19 cd19 ct19), sl19⟩)
    (c19 : PySem.W.codeIn K cd19 "law" = true)
    (k19 : PySem.W.keepIn K (.ref f19) = true)
    : ∃ (cad : Nat → Addr) (fd : FuncData), (∀ (s : Shared) (u : Value), BindsTo s fd ⟨[u], []⟩ [("script", u)]) ∧ ∀ base : Heap, K.In base → base.Ns mainGlobals mg → FnOk l.prog w K mg base (L2.CX l.prog w) 92 fa0 fd ["script"] (spOf K cad 1 S_law) := by
  have e := hfa.symm.trans (PySem.W.mg_of X G a19)
  cases e
  have t : T K mg (fun n => [C0, C1, C2].getD n 0) (fun n => [f0, f1, f2, f3, f4, f5, f6, f7, f8, f9, f10, f11, f12, f13, f14, f15, f16, f17, f18, fa0].getD n 0) (fun n => [PySem.W.fnOf "__init__" "BadText.__init__" (defArgs (inClass (top 2) 0)) (defBody (inClass (top 2) 0)) (defScope (inClass (top 2) 0)) .none kV0 dc0 pm0 an0 cd0 ct0, PySem.W.fnOf "print_tree" "print_tree" (defArgs (top 6)) (defBody (top 6)) (defScope (top 6)) .none kV1 dc1 pm1 an1 cd1 ct1, PySem.W.fnOf "__init__" "TreeReader.__init__" (defArgs (inClass (top 7) 0)) (defBody (inClass (top 7) 0)) (defScope (inClass (top 7) 0)) .none kV2 dc2 pm2 an2 cd2 ct2, PySem.W.fnOf "need" "TreeReader.need" (defArgs (inClass (top 7) 1)) (defBody (inClass (top 7) 1)) (defScope (inClass (top 7) 1)) .none kV3 dc3 pm3 an3 cd3 ct3, PySem.W.fnOf "name" "TreeReader.name" (defArgs (inClass (top 7) 2)) (defBody (inClass (top 7) 2)) (defScope (inClass (top 7) 2)) .none kV4 dc4 pm4 an4 cd4 ct4, PySem.W.fnOf "tree" "TreeReader.tree" (defArgs (inClass (top 7) 3)) (defBody (inClass (top 7) 3)) (defScope (inClass (top 7) 3)) .none kV5 dc5 pm5 an5 cd5 ct5, PySem.W.fnOf "parse_tree" "parse_tree" (defArgs (top 8)) (defBody (top 8)) (defScope (top 8)) .none kV6 dc6 pm6 an6 cd6 ct6, PySem.W.fnOf "_law_draws" "_law_draws" (defArgs (top 10)) (defBody (top 10)) (defScope (top 10)) .none kV7 dc7 pm7 an7 cd7 ct7, PySem.W.fnOf "_law_next" "_law_next" (defArgs (top 11)) (defBody (top 11)) (defScope (top 11)) .none kV8 dc8 pm8 an8 cd8 ct8, PySem.W.fnOf "_law_pick" "_law_pick" (defArgs (top 12)) (defBody (top 12)) (defScope (top 12)) .none kV9 dc9 pm9 an9 cd9 ct9, PySem.W.fnOf "_law_alike" "_law_alike" (defArgs (top 13)) (defBody (top 13)) (defScope (top 13)) .none kV10 dc10 pm10 an10 cd10 ct10, PySem.W.fnOf "_law_tree" "_law_tree" (defArgs (top 14)) (defBody (top 14)) (defScope (top 14)) .none kV11 dc11 pm11 an11 cd11 ct11, PySem.W.fnOf "_law_text" "_law_text" (defArgs (top 15)) (defBody (top 15)) (defScope (top 15)) .none kV12 dc12 pm12 an12 cd12 ct12, PySem.W.fnOf "_law_read" "_law_read" (defArgs (top 16)) (defBody (top 16)) (defScope (top 16)) .none kV13 dc13 pm13 an13 cd13 ct13, PySem.W.fnOf "_law_go" "_law_go" (defArgs (top 17)) (defBody (top 17)) (defScope (top 17)) .none kV14 dc14 pm14 an14 cd14 ct14, PySem.W.fnOf "_law_due" "_law_due" (defArgs (top 18)) (defBody (top 18)) (defScope (top 18)) .none kV15 dc15 pm15 an15 cd15 ct15, PySem.W.fnOf "_law_bent" "_law_bent" (defArgs (top 19)) (defBody (top 19)) (defScope (top 19)) .none kV16 dc16 pm16 an16 cd16 ct16, PySem.W.fnOf "_law_told" "_law_told" (defArgs (top 20)) (defBody (top 20)) (defScope (top 20)) .none kV17 dc17 pm17 an17 cd17 ct17, PySem.W.fnOf "_law_is_colon" "_law_is_colon" (defArgs (top 21)) (defBody (top 21)) (defScope (top 21)) .none kV18 dc18 pm18 an18 cd18 ct18, PySem.W.fnOf "law" "law" (defArgs (top 22)) (defBody (top 22)) (defScope (top 22)) .none kV19 dc19 pm19 an19 cd19 ct19].getD n (PySem.W.fnOf "" "" (defArgs (top 0)) [] (defScope (top 0)) .none .none .none .none none .none .none)) :=
    { mc_LookError := PySem.W.mg_of X G aC_LookError,
      mc_BadText := PySem.W.mg_of X G aC_BadText,
      mc_TreeReader := PySem.W.mg_of X G aC_TreeReader,
      b_abs := PySem.W.mg_none_of X G z_abs,
      b_bool := PySem.W.mg_none_of X G z_bool,
      b_int := PySem.W.mg_none_of X G z_int,
      b_isinstance := PySem.W.mg_none_of X G z_isinstance,
      b_len := PySem.W.mg_none_of X G z_len,
      b_range := PySem.W.mg_none_of X G z_range,
      b_str := PySem.W.mg_none_of X G z_str,
      b_tuple := PySem.W.mg_none_of X G z_tuple,
      g_DIGITS := ⟨_, PySem.W.mg_of X G g_DIGITS⟩,
      g_LETTERS := ⟨_, PySem.W.mg_of X G g_LETTERS⟩,
      o_BadText := ⟨⟨nmq1, qq1, Nq1, bsq1, _, snq1, subq1, abq1, colq1, ddq1, m0q1, m1q1, m2q1, m3q1, m5q1, xL_BadText, by rfl⟩, sa_BadText, eC_BadText, tC_BadText, kC_BadText⟩,
      i_BadText := ai_BadText,
      ty_BadText := ty_BadText,
      no_BadText := no_BadText,
      sp_LookError := sp_LookError,
      rd_LookError := rd_LookError,
      vi_LookError := vi_LookError,
      xc_BadText := ⟨ga_BadText, gg_BadText, eC_BadText, hD_BadText, cc_BadText, zGet, zTak, mo_BadText⟩,
      tx_LookError := (List.forall_mem_cons.mpr ⟨exm_of eL_LookError iL_LookError tL_LookError su_BadText_LookError, (fun _ h => nomatch h)⟩),
      x_LookError_place := (List.forall_mem_cons.mpr ⟨⟨⟨ga_BadText, gg_BadText, eC_BadText, hD_BadText, cc_BadText, zGet, zTak, mo_BadText⟩, no_BadText⟩, (fun _ h => nomatch h)⟩),
      xi_BadText := (List.forall_mem_cons.mpr ⟨⟨⟨ga_BadText, gg_BadText, eC_BadText, hD_BadText, cc_BadText, zGet, zTak, mo_BadText⟩, kit_of iD_BadText tD_BadText si_BadText_BadText ss_BadText⟩, (fun _ h => nomatch h)⟩),
      c_TreeReader := ⟨pg_TreeReader, hd_TreeReader, po_TreeReader, sa_TreeReader⟩,
      na_TreeReader_at := na_TreeReader_at,
      na_TreeReader_text := na_TreeReader_text,
      f_BadText_init := fun_mk (st := inClass (top 2) 0) l0 c0 k0,
      f_print_tree := fun_mk (st := top 6) l1 c1 k1,
      m_print_tree := PySem.W.mg_of X G a1,
      f_TreeReader_init := fun_mk (st := inClass (top 7) 0) l2 c2 k2,
      mk_TreeReader := ⟨mk_TreeReader, am_TreeReader_init, im_TreeReader_init, kc_TreeReader⟩,
      f_TreeReader_need := fun_mk (st := inClass (top 7) 1) l3 c3 k3,
      h_TreeReader_need := ⟨am_TreeReader_need, im_TreeReader_need, k3⟩,
      f_TreeReader_name := fun_mk (st := inClass (top 7) 2) l4 c4 k4,
      h_TreeReader_name := ⟨am_TreeReader_name, im_TreeReader_name, k4⟩,
      f_TreeReader_tree := fun_mk (st := inClass (top 7) 3) l5 c5 k5,
      h_TreeReader_tree := ⟨am_TreeReader_tree, im_TreeReader_tree, k5⟩,
      f_parse_tree := fun_mk (st := top 8) l6 c6 k6,
      m_parse_tree := PySem.W.mg_of X G a6,
      f_law_draws := fun_mk (st := top 10) l7 c7 k7,
      m_law_draws := PySem.W.mg_of X G a7,
      f_law_next := fun_mk (st := top 11) l8 c8 k8,
      m_law_next := PySem.W.mg_of X G a8,
      f_law_pick := fun_mk (st := top 12) l9 c9 k9,
      m_law_pick := PySem.W.mg_of X G a9,
      f_law_alike := fun_mk (st := top 13) l10 c10 k10,
      m_law_alike := PySem.W.mg_of X G a10,
      f_law_tree := fun_mk (st := top 14) l11 c11 k11,
      m_law_tree := PySem.W.mg_of X G a11,
      f_law_text := fun_mk (st := top 15) l12 c12 k12,
      m_law_text := PySem.W.mg_of X G a12,
      f_law_read := fun_mk (st := top 16) l13 c13 k13,
      m_law_read := PySem.W.mg_of X G a13,
      f_law_go := fun_mk (st := top 17) l14 c14 k14,
      m_law_go := PySem.W.mg_of X G a14,
      f_law_due := fun_mk (st := top 18) l15 c15 k15,
      m_law_due := PySem.W.mg_of X G a15,
      f_law_bent := fun_mk (st := top 19) l16 c16 k16,
      m_law_bent := PySem.W.mg_of X G a16,
      f_law_told := fun_mk (st := top 20) l17 c17 k17,
      m_law_told := PySem.W.mg_of X G a17,
      f_law_is_colon := fun_mk (st := top 21) l18 c18 k18,
      m_law_is_colon := PySem.W.mg_of X G a18,
      f_law := fun_mk (st := top 22) l19 c19 k19,
      m_law := PySem.W.mg_of X G a19 }
  exact ⟨_, _, fun s v => .of_eq rfl, fun base _ _ => ok_law t⟩
end
end K08
/-! ### the end: PLAIN is the plain law -/

set_option linter.all false
set_option maxRecDepth 100000
set_option maxHeartbeats 2000000
namespace K08
open PySem Bk
/-! ### the draws' walk -/
@[simp] theorem c_at : tx [97, 116] = k_at := by decide +kernel
@[simp] theorem c_draws : tx [100, 114, 97, 119, 115] = k_draws := by decide +kernel
@[simp] theorem c_text : tx [116, 101, 120, 116] = k_text := by decide +kernel
@[simp] theorem c_bad : tx [98, 97, 100] = k_bad := by decide +kernel
theorem n1 : k_at ≠ k_draws := by decide +kernel
theorem n2 : k_draws ≠ k_at := by decide +kernel
/-- w with the draws ds, at the at-th -/
def wO (ds : List Int) (at_ : Nat) : O := .dct [(.inr k_draws, .list (ds.map .int)), (.inr k_at, .int at_)]
@[simp] theorem w_at (d a : PyData) : klook [(.inr k_draws, d), (.inr k_at, a)] (.inr k_at) = some a := by simp [klook, n1, n2]
@[simp] theorem w_draws (d a : PyData) : klook [(.inr k_draws, d), (.inr k_at, a)] (.inr k_draws) = some d := by simp [klook, n1, n2]
@[simp] theorem w_put (d a b : PyData) : kput [(.inr k_draws, d), (.inr k_at, a)] (.inr k_at) b = [(.inr k_draws, d), (.inr k_at, b)] := by simp [kput, n1, n2]
theorem next_ok (ds : List Int) (a : Nat) (m : Nat) (hm : 0 < m) : ∃ r : Nat, r < m ∧ S_law_next [.io (wO ds a), .val (.int m)] = .ok (.int r) (some (wO ds (a + 1))) := by
  unfold S_law_next B_law_next wO
  rw [run_ap]
  by_cases h : a < ds.length
  · refine ⟨((ds[a]) % (m : Int)).toNat, ?_, ?_⟩
    · have := Int.emod_nonneg (ds[a]) (show (m : Int) ≠ 0 by omega)
      have := Int.emod_lt_of_pos (ds[a]) (show (0 : Int) < m by omega)
      omega
    · have h1 : ¬ ((ds.length : Int) < (a : Int) + 1) := by omega
      have h2 : ((a : Int) + 1 - 1) = (a : Int) := by omega
      have h3 : (ds.map PyData.int)[a]? = some (.int ds[a]) := by simp [h]
      have h4 := Int.emod_nonneg (ds[a]) (show (m : Int) ≠ 0 by omega)
      have h5 : max (ds[a] % (m : Int)) 0 = ds[a] % (m : Int) := by omega
      simp [h1, h2, atI_nat, h3, h5, hm]
  · refine ⟨0, hm, ?_⟩
    have h1 : ((ds.length : Int) < (a : Int) + 1) := by omega
    simp [h1]
/-- one of a row of texts -/
theorem pick_ok (ds : List Int) (a : Nat) (rows : List (List Nat)) (hr : rows ≠ []) (hl : rows.length ≤ 100) : ∃ x ∈ rows, S_law_pick [.io (wO ds a), .val (.list (rows.map fun x => .str (tx x)))] = .ok (.str (tx x)) (some (wO ds (a + 1))) := by
  have hp : 0 < rows.length := by cases rows with | nil => exact absurd rfl hr | cons => simp
  obtain ⟨r, hlt, e⟩ := next_ok ds a rows.length hp
  refine ⟨rows[r], List.getElem_mem _, ?_⟩
  unfold S_law_pick B_law_pick
  rw [run_ap]
  simp [e, atI_nat, hlt]
end K08

set_option linter.all false
set_option maxRecDepth 100000
set_option maxHeartbeats 2000000
namespace K08
open PySem Bk
/-- the state within _law_draws -/
def dE (sc : List Int) (many : Int) (dr : List Int) (mx : Int) (k c r t : Sl) : SEnv := [.val (.list (sc.map .int)), .val (.int many), .own (.lst (dr.map .int)), .val (.int mx), k, c, r, t]
def dI (sc : List Int) (many : Int) (f : Nat → Nat) (i : Nat) (e : SEnv) : Prop := ∃ dr mx k c r t, e = dE sc many dr mx k c r t ∧ dr.length ≤ f i ∧ k.isIo = false ∧ c.isIo = false ∧ r.isIo = false ∧ t.isIo = false
theorem map_snoc (dr : List Int) (x : Int) : dr.map PyData.int ++ [.int x] = (dr ++ [x]).map PyData.int := by simp
theorem draws_inner (sc : List Int) (many : Int) (dr : List Int) (mx c rest : Int) (k t : Sl) (hk : k.isIo = false) (ht : t.isIo = false) (n : Nat) (hn : dr.length ≤ n) (hn2 : n ≤ 100000) :
    ∃ e', fLoop (fName 7) (sIf (mTest (mOp2 gtD (mVar 6) (mC (.int 0)))) (sSeq (sAppend 2 (mOp2 modD (mB intOf [(mVar 6)]) (mC (.int 997)))) (sAsg (mOp2 fdivD (mVar 6) (mC (.int 997))) (fName 6))) sPass) (intsD 0 60) (dE sc many dr mx k (.val (.int c)) (.val (.int rest)) t) = .nx e' ∧
      ∃ dr mx r t, e' = dE sc many dr mx k (.val (.int c)) (.val (.int r)) t ∧ dr.length ≤ n + 60 ∧ t.isIo = false := by
  have := fLoop_inv (g := fName 7) (b := sIf (mTest (mOp2 gtD (mVar 6) (mC (.int 0)))) (sSeq (sAppend 2 (mOp2 modD (mB intOf [(mVar 6)]) (mC (.int 997)))) (sAsg (mOp2 fdivD (mVar 6) (mC (.int 997))) (fName 6))) sPass)
    (fun i e => ∃ dr mx r t, e = dE sc many dr mx k (.val (.int c)) (.val (.int r)) t ∧ dr.length ≤ n + i ∧ t.isIo = false) (intsD 0 60) 0 (dE sc many dr mx k (.val (.int c)) (.val (.int rest)) t) ⟨dr, mx, rest, t, rfl, by omega, ht⟩ ?_
  · simpa using this
  · rintro i d e hi ⟨dr, mx, r, t, rfl, hl, ht⟩
    have hi60 : i < 60 := by
      have := (List.getElem?_eq_some_iff.mp hi).1
      simpa using this
    rw [intsD_get, if_pos hi60] at hi
    cases hi
    by_cases hr : 0 < r
    · refine ⟨dE sc many dr mx k (.val (.int c)) (.val (.int r)) (.val (.int (0 + i))), dE sc many (dr ++ [r % 997]) mx k (.val (.int c)) (.val (.int (r / 997))) (.val (.int (0 + i))), ?_, ?_, dr ++ [r % 997], mx, r / 997, _, rfl, ?_, rfl⟩
      · simp [dE, ht]
      · have : dr.length < 16777216 := by omega
        simp [dE, hr, this]
      · simp; omega
    · refine ⟨dE sc many dr mx k (.val (.int c)) (.val (.int r)) (.val (.int (0 + i))), dE sc many dr mx k (.val (.int c)) (.val (.int r)) (.val (.int (0 + i))), ?_, ?_, dr, mx, r, _, rfl, by omega, rfl⟩
      · simp [dE, ht]
      · simp [dE, hr]
def d1 : SEnv → SR := (sSeq (sAsg (mB absOf [(mB intOf [(mOp2 idxD (mVar 0) (mVar 4))])]) (fName 5)) (sSeq (sAsg (mOp2 modD (mB intOf [(mOp2 addD (mOp2 addD (mOp2 mulD (mVar 3) (mC (.int 48271))) (mOp2 modD (mVar 5) (mC (.int 1000003)))) (mVar 4))]) (mC (.int 65537))) (fName 3)) (sSeq (sAsg (mC (.int 0)) (fName 6)) (sSeq (sIf (mTest (mOp2 geD (mVar 5) (mOp2 powD (mC (.int 10)) (mC (.int 18))))) (sAsg (mVar 5) (fName 6)) (sSeq (sAppend 2 (mOp2 modD (mB intOf [(mVar 5)]) (mC (.int 997)))) (sAppend 2 (mOp2 modD (mOp2 modD (mB intOf [(mOp2 addD (mOp2 mulD (mVar 3) (mC (.int 69621))) (mC (.int 5)))]) (mC (.int 65521))) (mC (.int 997)))))) (sFor (mRange1 (mC (.int 60))) (fName 7) (sIf (mTest (mOp2 gtD (mVar 6) (mC (.int 0)))) (sSeq (sAppend 2 (mOp2 modD (mB intOf [(mVar 6)]) (mC (.int 997)))) (sAsg (mOp2 fdivD (mVar 6) (mC (.int 997))) (fName 6))) sPass))))))
def d2 : SEnv → SR := (sSeq (sAsg (mOp2 modD (mB intOf [(mOp2 addD (mOp2 addD (mOp2 mulD (mVar 3) (mC (.int 16807))) (mVar 4)) (mC (.int 1)))]) (mC (.int 65537))) (fName 3)) (sAppend 2 (mOp2 modD (mB intOf [(mVar 3)]) (mC (.int 997)))))
theorem draws_1 (ns : List Int) (h : ns.length ≤ 63) (i : Nat) (d : PyData) (e : SEnv) (hi : (intsD 0 ns.length)[i]? = some d) (he : dI ns 700 (fun i => 62 * i) (0 + i) e) : ∃ e1 e2, fName 4 d e = some e1 ∧ d1 e1 = .nx e2 ∧ dI ns 700 (fun i => 62 * i) (0 + i + 1) e2 := by
  obtain ⟨dr, mx, k, c, r, t, rfl, hl, hk, hc, hr, ht⟩ := he
  unfold d1
  have hin : i < ns.length := by
    have := (List.getElem?_eq_some_iff.mp hi).1
    simpa using this
  rw [intsD_get, if_pos hin] at hi
  cases hi
  have hl0 : dr.length ≤ 62 * i := by simpa using hl
  have hl2 : dr.length < 16777216 := by omega
  have hl3 : dr.length + 1 < 16777216 := by omega
  have hg : (ns.map PyData.int)[i]? = some (.int ns[i]) := by simp [hin]
  have z2 : small62 60 = true := by decide
  have hh : (if ns[i] < 0 then -ns[i] else ns[i]) = if ns[i] < 0 then -ns[i] else ns[i] := rfl
  generalize hce : (if ns[i] < 0 then -ns[i] else ns[i]) = ce at hh
  by_cases hb : (1000000000000000000 : Int) ≤ ce
  · obtain ⟨e2, p1, dr2, mx2, r2, t2, rfl, p2, p3⟩ := draws_inner ns 700 dr ((mx * 48271 + ce % 1000003 + (i : Int)) % 65537) ce ce (.val (.int (i : Int))) t rfl ht (62 * i) hl0 (by omega)
    refine ⟨_, _, by simp [dE, hk]; rfl, ?_, dr2, mx2, .val (.int (i : Int)), .val (.int ce), .val (.int r2), t2, rfl, by simp; omega, rfl, rfl, rfl, p3⟩
    unfold dE at p1
    simp [hc, hr, atI_nat, hg, hce, hb, z2, p1]
    rfl
  · obtain ⟨e2, p1, dr2, mx2, r2, t2, rfl, p2, p3⟩ := draws_inner ns 700 (dr ++ [ce % 997] ++ [(((mx * 48271 + ce % 1000003 + (i : Int)) % 65537) * 69621 + 5) % 65521 % 997]) ((mx * 48271 + ce % 1000003 + (i : Int)) % 65537) ce 0 (.val (.int (i : Int))) t rfl ht (62 * i + 2) (by simp; omega) (by omega)
    refine ⟨_, _, by simp [dE, hk]; rfl, ?_, dr2, mx2, .val (.int (i : Int)), .val (.int ce), .val (.int r2), t2, rfl, by simp; omega, rfl, rfl, rfl, p3⟩
    unfold dE at p1
    simp at p1
    simp [hc, hr, atI_nat, hg, hce, hb, z2, p1, hl2, hl3]
    rfl
theorem draws_2 (ns : List Int) (i : Nat) (d : PyData) (e : SEnv) (hi : (intsD 0 700)[i]? = some d) (he : dI ns 700 (fun i => 62 * 63 + i) (0 + i) e) : ∃ e1 e2, fName 4 d e = some e1 ∧ d2 e1 = .nx e2 ∧ dI ns 700 (fun i => 62 * 63 + i) (0 + i + 1) e2 := by
  obtain ⟨dr, mx, k, c, r, t, rfl, hl, hk, hc, hr, ht⟩ := he
  unfold d2
  have hi7 : i < 700 := by
    have := (List.getElem?_eq_some_iff.mp hi).1
    simpa using this
  rw [intsD_get, if_pos hi7] at hi
  cases hi
  have hl2 : dr.length < 16777216 := by simp at hl; omega
  refine ⟨_, dE ns 700 (dr ++ [((mx * 16807 + (0 + i) + 1) % 65537) % 997]) ((mx * 16807 + (0 + i) + 1) % 65537) (.val (.int (0 + i))) c r t, by simp [dE, hk]; rfl, ?_, _, _, _, _, _, _, rfl, ?_, rfl, hc, hr, ht⟩
  · simp [dE, hl2]
  · simp at hl ⊢; omega
theorem draws_ok (ns : List Int) (h : ns.length ≤ 63) : ∃ ds : List Int, S_law_draws [.val (.list (ns.map .int)), .val (.int 700)] = .ok (.list (ds.map .int)) none := by
  obtain ⟨e1, q1, dr1, mx1, k1, c1, r1, t1, rfl, hl, hk, hc, hr, ht⟩ := fLoop_inv (g := fName 4) (b := d1) (dI ns 700 fun i => 62 * i) (intsD 0 ns.length) 0 (dE ns 700 [] 7 .un .un .un .un) ⟨[], 7, .un, .un, .un, .un, rfl, by simp, rfl, rfl, rfl, rfl⟩ (draws_1 ns h)
  have hl : dr1.length ≤ 62 * 63 := by simp at hl; omega
  have l2 : ∀ n, n = 700 → ∃ e', fLoop (fName 4) d2 (intsD 0 n) (dE ns 700 dr1 mx1 k1 c1 r1 t1) = .nx e' ∧ dI ns 700 (fun i => 62 * 63 + i) (0 + (intsD 0 n).length) e' := fun n hn => by
    refine fLoop_inv (g := fName 4) (b := d2) (dI ns 700 fun i => 62 * 63 + i) (intsD 0 n) 0 (dE ns 700 dr1 mx1 k1 c1 r1 t1) ⟨dr1, mx1, k1, c1, r1, t1, rfl, hl, hk, hc, hr, ht⟩ ?_
    rw [hn]
    exact draws_2 ns
  obtain ⟨e2, q2, dr, mx, k, c, r, t, rfl, _, u1, u2, u3, u4⟩ := l2 700 rfl
  refine ⟨dr.take 700, ?_⟩
  have z := small62_of (n := ns.length) (by omega)
  have z2 : small62 700 = true := by decide
  unfold dE at q1 q2
  simp only [List.map_nil] at q1
  have h7 : ∀ l : List PyData, cutL l none (some (700 : Int)) = l.take 700 := fun l => cut_to l 700
  unfold S_law_draws B_law_draws
  rw [run_ap]
  unfold d1 at q1
  unfold d2 at q2
  simp [z, z2, q1, q2, h7, List.map_take, u1, u2, u3, u4]
end K08

set_option linter.all false
set_option maxRecDepth 100000
set_option maxHeartbeats 2000000
namespace K08
open PySem Bk
/-! ### trees and their texts -/
def four : List (List Nat) := [[97], [98], [99, 49], [120]]
abbrev ent (e : List Nat × PyData × List Nat) : PyData := .tuple [.str (tx e.1), e.2.1]
abbrev row (e : List Nat × PyData × List Nat) : List Nat := e.1 ++ [58, 32] ++ e.2.2
abbrev sT (x : List Nat) : PyData := .str (tx x)
/-- d is a tree of at most n levels, x its text -/
def TT : Nat → PyData → List Nat → Prop
  | 0, _, _ => False
  | n + 1, d, x => ∃ es : List (List Nat × PyData × List Nat), d = .tuple (es.map ent) ∧ (∀ e ∈ es, TT n e.2.1 e.2.2) ∧ (es.map (·.1)).Sublist four ∧ x = [123] ++ joinL [32] (es.map row) ++ [125]
theorem TT.nil (n : Nat) : TT (n + 1) (.tuple []) [123, 125] := ⟨[], rfl, (fun e h => nomatch h), List.nil_sublist _, rfl⟩
theorem sub_of {α : Type} {f : α → PyData} {Rl : PyData → Option PyData → Prop} (hR : ∀ d z, Rl d z → z = none ∨ z = some d) : ∀ {l : List α} {zs : List (Option PyData)}, Paired Rl (l.map f) zs → ∃ s : List α, s.Sublist l ∧ zs.filterMap _root_.id = s.map f
  | [], _, h => by cases h; exact ⟨[], .slnil, rfl⟩
  | a :: l, _, h => by
    cases h with
    | cons h1 h2 =>
      obtain ⟨s, q1, q2⟩ := sub_of hR h2
      rcases hR _ _ h1 with rfl | rfl
      · exact ⟨s, q1.cons _, by simpa using q2⟩
      · exact ⟨a :: s, q1.cons₂ _, by simp [q2]⟩
theorem es_of {n : Nat} : ∀ {l : List (List Nat)} {zs : List (Option PyData)}, Paired (fun d z => ∃ nm t x, d = sT nm ∧ z = some (.tuple [sT nm, t]) ∧ TT n t x) (l.map sT) zs →
    ∃ es : List (List Nat × PyData × List Nat), es.map (·.1) = l ∧ zs.filterMap _root_.id = es.map ent ∧ ∀ e ∈ es, TT n e.2.1 e.2.2
  | [], _, h => by cases h; exact ⟨[], rfl, rfl, (fun e h => nomatch h)⟩
  | a :: l, _, h => by
    cases h with
    | cons h1 h2 =>
      obtain ⟨es, q1, q2, q3⟩ := es_of h2
      obtain ⟨nm, t, x, e1, rfl, ht⟩ := h1
      have e1 : a = nm := by simpa using e1
      subst e1
      refine ⟨(a, t, x) :: es, by simp [q1], by simp [q2], fun e he => ?_⟩
      rcases List.mem_cons.mp he with rfl | he
      · exact ht
      · exact q3 e he
theorem names_ok (ds : List Int) (a : Nat) (D : PyData) : ∃ (a' : Nat) (nl : List (List Nat)), nl.Sublist four ∧ lcLoop [3] (fName 3) (mTest (mOp2 eqD (mCallS S_law_next 0 [mC (.int 3)]) (mC (.int 0)))) (mVar 3) [sT [97], sT [98], sT [99, 49], sT [120]] [.io (wO ds a), .val D, .un, .un] [] = .ok (.lst (nl.map sT)) [.io (wO ds a'), .val D, .un, .un] := by
  obtain ⟨e1, zs, q1, ⟨a1, s1, rfl⟩, q2⟩ := lc_all (ow := [3]) (g := fName 3) (mt := mTest (mOp2 eqD (mCallS S_law_next 0 [mC (.int 3)]) (mC (.int 0)))) (me := mVar 3)
    (fun e => ∃ a s, e = [.io (wO ds a), .val D, .un, s]) (fun d z => z = none ∨ z = some d) (four.map sT) [.io (wO ds a), .val D, .un, .un] [] ⟨a, .un, rfl⟩ (by decide) (by
      rintro d hd e ⟨a, s, rfl⟩
      obtain ⟨r, h1, h2⟩ := next_ok ds a 3 (by omega)
      have h2 : S_law_next [.io (wO ds a), .val (.int 3)] = .ok (.int r) (some (wO ds (a + 1))) := h2
      by_cases hr : r = 0
      · subst hr
        refine ⟨[.io (wO ds a), .val D, .un, .val d], by simp [wipeE], .inr ⟨[.io (wO ds (a + 1)), .val D, .un, .val d], [.io (wO ds (a + 1)), .val D, .un, .val d], d, ?_, ?_, ⟨a + 1, .val d, rfl⟩, .inr rfl⟩⟩
        · simp [h2]
        · simp
      · refine ⟨[.io (wO ds a), .val D, .un, .val d], by simp [wipeE], .inl ⟨[.io (wO ds (a + 1)), .val D, .un, .val d], ?_, ⟨a + 1, .val d, rfl⟩, .inl rfl⟩⟩
        simp [h2, hr])
  obtain ⟨nl, h1, h2⟩ := sub_of (fun _ _ h => h) q2
  refine ⟨a1, nl, h1, ?_⟩
  rw [h2] at q1
  simpa [wipeE, four] using q1
theorem elts_ok (ds : List Int) (n : Nat) (D : Int) (S : SEnv → RC) (nl : List (List Nat)) (hnl : nl.length ≤ 4)
    (hS : ∀ a (s2 s3 : Sl), ∃ t x a', TT n t x ∧ (mIf (mTest (mOp2 gtD (mVar 1) (mC (.int 0)))) (mCallS S 0 [mOp2 subD (mVar 1) (mC (.int 1))]) (mTup [])) [.io (wO ds a), .val (.int D), s2, s3] = .ok t [.io (wO ds a'), .val (.int D), s2, s3]) (a : Nat) :
    ∃ (a' : Nat) (es : List (List Nat × PyData × List Nat)), es.map (·.1) = nl ∧ (∀ e ∈ es, TT n e.2.1 e.2.2) ∧ lcLoop [3] (fName 3) mYes (mTup [mVar 3, mIf (mTest (mOp2 gtD (mVar 1) (mC (.int 0)))) (mCallS S 0 [mOp2 subD (mVar 1) (mC (.int 1))]) (mTup [])]) (nl.map sT) [.io (wO ds a), .val (.int D), .val (.list (nl.map sT)), .un] [] =
      .ok (.lst (es.map ent)) [.io (wO ds a'), .val (.int D), .val (.list (nl.map sT)), .un] := by
  obtain ⟨e1, zs, q1, ⟨a1, s1, rfl⟩, q2⟩ := lc_all (ow := [3]) (g := fName 3) (mt := mYes) (me := mTup [mVar 3, mIf (mTest (mOp2 gtD (mVar 1) (mC (.int 0)))) (mCallS S 0 [mOp2 subD (mVar 1) (mC (.int 1))]) (mTup [])])
    (fun e => ∃ a s, e = [.io (wO ds a), .val (.int D), .val (.list (nl.map sT)), s]) (fun d z => ∃ nm t x, d = sT nm ∧ z = some (.tuple [sT nm, t]) ∧ TT n t x) (nl.map sT) [.io (wO ds a), .val (.int D), .val (.list (nl.map sT)), .un] [] ⟨a, .un, rfl⟩ (by simp; omega) (by
      rintro d hd e ⟨a, s, rfl⟩
      obtain ⟨nm, hm, rfl⟩ := List.mem_map.mp hd
      obtain ⟨t, x, a', ht, h2⟩ := hS a (.val (.list (nl.map sT))) (.val (sT nm))
      refine ⟨[.io (wO ds a), .val (.int D), .val (.list (nl.map sT)), .val (sT nm)], by simp [wipeE], .inr ⟨_, [.io (wO ds a'), .val (.int D), .val (.list (nl.map sT)), .val (sT nm)], .tuple [sT nm, t], rfl, ?_, ⟨a', .val (sT nm), rfl⟩, nm, t, x, rfl, rfl, ht⟩⟩
      rw [mTup_ap, mList_cons, mVar_val]
      simp only [List.getElem?_cons_succ, List.getElem?_cons_zero, rbind_ok, kList_ap, mList_cons]
      rw [h2]
      simp)
  obtain ⟨es, h1, h2, h3⟩ := es_of q2
  refine ⟨a1, es, h1, h3, ?_⟩
  rw [h2] at q1
  simpa [wipeE] using q1
theorem tree_ok (ds : List Int) : ∀ (n a : Nat), ∃ t x a', S_law_tree (n + 1) [.io (wO ds a), .val (.int n)] = .ok t (some (wO ds a')) ∧ TT (n + 2) t x := by
  intro n
  induction n with
  | zero =>
    intro a
    unfold S_law_tree B_law_tree
    rw [run_ap]
    obtain ⟨a1, nl, h1, q1⟩ := names_ok ds a (.int 0)
    have hl : nl.length ≤ 4 := h1.length_le
    obtain ⟨a2, es, h2, h3, q2⟩ := elts_ok ds 1 0 (S_law_tree 0) nl hl (fun a s2 s3 => ⟨.tuple [], _, a, TT.nil 0, by simp⟩) a1
    refine ⟨.tuple (es.map ent), _, a2, ?_, es, rfl, h3, by rw [h2]; exact h1, rfl⟩
    simp [kLcF_ap, q1, q2]
  | succ n ih =>
    intro a
    unfold S_law_tree B_law_tree
    rw [run_ap]
    obtain ⟨a1, nl, h1, q1⟩ := names_ok ds a (.int ((n : Int) + 1))
    have hl : nl.length ≤ 4 := h1.length_le
    obtain ⟨a2, es, h2, h3, q2⟩ := elts_ok ds (n + 2) ((n : Int) + 1) (S_law_tree (n + 1)) nl hl (fun a s2 s3 => by
      obtain ⟨t, x, a', h4, h5⟩ := ih a
      have hp : (0 : Int) < (n : Int) + 1 := by omega
      have hq : (n : Int) + 1 - 1 = n := by omega
      exact ⟨t, x, a', h5, by simp [hp, hq, h4]⟩) a1
    refine ⟨.tuple (es.map ent), _, a2, ?_, es, rfl, h3, by rw [h2]; exact h1, rfl⟩
    simp [kLcF_ap, q1, q2]
end K08

set_option linter.all false
set_option maxRecDepth 100000
set_option maxHeartbeats 2000000
namespace K08
open PySem Bk
def bnd : Nat → Nat
  | 0 => 0
  | n + 1 => 22 + 4 * bnd n
theorem bnd_mono : ∀ {n : Nat}, n ≤ 5 → bnd n ≤ 7502
  | 0, _ => by decide
  | 1, _ => by decide
  | 2, _ => by decide
  | 3, _ => by decide
  | 4, _ => by decide
  | 5, _ => by decide
  | n + 6, h => by omega
theorem joinL_len (s : List Nat) : ∀ xs : List (List Nat), (joinL s xs).length ≤ (xs.map (·.length)).sum + xs.length * s.length
  | [] => by simp [joinL]
  | [x] => by simp [joinL]
  | x :: y :: r => by
    have := joinL_len s (y :: r)
    simp only [joinL, List.length_append, List.map_cons, List.sum_cons, List.length_cons] at this ⊢
    have e : (r.length + 1 + 1) * s.length = (r.length + 1) * s.length + s.length := by rw [Nat.succ_mul]
    omega
theorem sum_le {α : Type} (f : α → Nat) (b : Nat) : ∀ l : List α, (∀ x ∈ l, f x ≤ b) → (l.map f).sum ≤ l.length * b
  | [], _ => by simp
  | x :: l, h => by
    have h1 := h x List.mem_cons_self
    have h2 := sum_le f b l fun y hy => h y (List.mem_cons_of_mem _ hy)
    simp only [List.map_cons, List.sum_cons, List.length_cons]
    have e : (l.length + 1) * b = l.length * b + b := by rw [Nat.succ_mul]
    omega
theorem four_len {x : List Nat} (h : x ∈ four) : x.length ≤ 2 := by
  simp [four] at h
  rcases h with rfl | rfl | rfl | rfl <;> simp
theorem TT_len : ∀ {n : Nat} {d : PyData} {x : List Nat}, TT n d x → x.length ≤ bnd n
  | 0, _, _, h => h.elim
  | n + 1, d, x, ⟨es, _, h2, h3, hx⟩ => by
    subst hx
    have hl : es.length ≤ 4 := by have := h3.length_le; simpa [four] using this
    have hr : ∀ e ∈ es, (row e).length ≤ 4 + bnd n := fun e he => by
      have h4 := TT_len (h2 e he)
      have h5 := four_len (h3.subset (List.mem_map_of_mem (f := (·.1)) he))
      simp [row]; omega
    have h6 := sum_le (fun e => (row e).length) (4 + bnd n) es hr
    have h7 := joinL_len [32] (es.map row)
    simp only [List.map_map, Function.comp_def, List.length_map, List.length_singleton, Nat.mul_one] at h7
    have h8 : es.length * (4 + bnd n) ≤ 4 * (4 + bnd n) := Nat.mul_le_mul_right _ hl
    simp only [List.length_append, List.length_singleton, bnd]
    omega
theorem row_bnd {n : Nat} {es : List (List Nat × PyData × List Nat)} (h2 : ∀ e ∈ es, TT n e.2.1 e.2.2) (h3 : (es.map (·.1)).Sublist four) (hn : n ≤ 5) : es.length ≤ 4 ∧ (∀ e ∈ es, e.1.length ≤ 2 ∧ e.2.2.length ≤ 7502) ∧ ((es.map row).map (·.length)).sum + (es.map row).length ≤ 30040 := by
  have hl : es.length ≤ 4 := by have := h3.length_le; simpa [four] using this
  have hr : ∀ e ∈ es, e.1.length ≤ 2 ∧ e.2.2.length ≤ 7502 := fun e he => ⟨four_len (h3.subset (List.mem_map_of_mem (f := (·.1)) he)), Nat.le_trans (TT_len (h2 e he)) (bnd_mono hn)⟩
  refine ⟨hl, hr, ?_⟩
  have h6 := sum_le (fun e => (row e).length) 7506 es fun e he => by have := hr e he; simp [row]; omega
  simp only [List.map_map, Function.comp_def, List.length_map]
  have h8 : es.length * 7506 ≤ 4 * 7506 := Nat.mul_le_mul_right _ hl
  omega
theorem text_ok : ∀ (n : Nat) (d : PyData) (x : List Nat) (m : Nat), TT n d x → n ≤ m → m ≤ 5 → S_law_text m [.val d] = .ok (.str (tx x)) none
  | 0, _, _, _, h, _, _ => h.elim
  | n + 1, d, x, 0, h, hm, _ => by omega
  | n + 1, _, _, m + 1, ⟨es, rfl, h2, h3, rfl⟩, hm, h5 => by
    obtain ⟨hl, hr, hs⟩ := row_bnd h2 h3 (by omega)
    unfold S_law_text B_law_text
    rw [run_ap]
    obtain ⟨e', q1, s1, s2, rfl⟩ := lc_map (ow := [1, 2]) (g := fTup [fName 1, fName 2]) (me := mOp2 addD (mOp2 addD (mVar 1) (mC (.str (tx [58, 32])))) (mCall (S_law_text m) [mVar 2]))
      (fun e => ∃ s1 s2, e = [.val (.tuple (es.map ent)), s1, s2]) ent (fun e => sT (row e)) es [.val (.tuple (es.map ent)), .un, .un] ⟨.un, .un, rfl⟩ (by omega) (by
        rintro e he _ ⟨s1, s2, rfl⟩
        have := text_ok n e.2.1 e.2.2 m (h2 e he) (by omega) (by omega)
        obtain ⟨b1, b2⟩ := hr e he
        have b3 : e.1.length + 2 ≤ 16777216 := by omega
        have b4 : e.1.length + 2 + e.2.2.length ≤ 16777216 := by omega
        refine ⟨_, [.val (.tuple (es.map ent)), .val (sT e.1), .val e.2.1], by simp [wipeE, ent]; rfl, ?_, _, _, rfl⟩
        simp [this, b3, b4, row])
    have e1 : (es.map fun e => sT (row e)) = (es.map row).map fun x => .str (tx x) := by simp
    rw [e1] at q1
    have hs2 : ((es.map row).map (·.length)).sum + (es.map row).length * [32].length ≤ 16777216 := by simp only [List.length_singleton, Nat.mul_one]; omega
    have hj := joinL_len [32] (es.map row)
    have hj2 : (joinL [32] (es.map row)).length ≤ 30040 := by simp only [List.length_singleton, Nat.mul_one] at hj; omega
    have j := joinD_tx [32] (es.map row)
    rw [if_pos hs2] at j
    have hj3 : 1 + (joinL [32] (es.map row)).length ≤ 16777216 := by omega
    have hj4 : 1 + (joinL [32] (es.map row)).length + 1 ≤ 16777216 := by omega
    simp only [List.cons_append, List.nil_append, List.replicate, sRet_ap, mOp2_ap, mC_ap, rbind_ok, kOp2_ap, mStr1_ap, kStr1_ap, mFz_ap, mLcF_ap, mIter_ap, mVar_val, List.getElem?_cons_zero, kIter_tuple, kLcF_ap]
    rw [if_pos (by simp), q1]
    have hj5 : (joinL [32] (es.map row)).length ≤ 16777214 := by omega
    simp [j, hj3, hj4, hj5, wipeE, ent, -List.map_map]
theorem print_ok : ∀ (n : Nat) (d : PyData) (x : List Nat) (m : Nat), TT n d x → n ≤ m → m ≤ 5 → S_print_tree m [.val d] = .ok (.str (tx x)) none
  | 0, _, _, _, h, _, _ => h.elim
  | n + 1, d, x, 0, h, hm, _ => by omega
  | n + 1, _, _, m + 1, ⟨es, rfl, h2, h3, rfl⟩, hm, h5 => by
    obtain ⟨hl, hr, hs⟩ := row_bnd h2 h3 (by omega)
    unfold S_print_tree B_print_tree
    rw [run_ap]
    obtain ⟨e', q1, s1, s2, rfl⟩ := lc_map (ow := [1, 2]) (g := fTup [fName 1, fName 2]) (me := mOp2 addD (mOp2 addD (mVar 1) (mC (.str (tx [58, 32])))) (mCall (S_print_tree m) [mVar 2]))
      (fun e => ∃ s1 s2, e = [.val (.tuple (es.map ent)), s1, s2]) ent (fun e => sT (row e)) es [.val (.tuple (es.map ent)), .un, .un] ⟨.un, .un, rfl⟩ (by omega) (by
        rintro e he _ ⟨s1, s2, rfl⟩
        have := print_ok n e.2.1 e.2.2 m (h2 e he) (by omega) (by omega)
        obtain ⟨b1, b2⟩ := hr e he
        have b3 : e.1.length + 2 ≤ 16777216 := by omega
        have b4 : e.1.length + 2 + e.2.2.length ≤ 16777216 := by omega
        refine ⟨_, [.val (.tuple (es.map ent)), .val (sT e.1), .val e.2.1], by simp [wipeE, ent]; rfl, ?_, _, _, rfl⟩
        simp [this, b3, b4, row])
    have e1 : (es.map fun e => sT (row e)) = (es.map row).map fun x => .str (tx x) := by simp
    rw [e1] at q1
    have hs2 : ((es.map row).map (·.length)).sum + (es.map row).length * [32].length ≤ 16777216 := by simp only [List.length_singleton, Nat.mul_one]; omega
    have hj := joinL_len [32] (es.map row)
    have hj2 : (joinL [32] (es.map row)).length ≤ 30040 := by simp only [List.length_singleton, Nat.mul_one] at hj; omega
    have j := joinD_tx [32] (es.map row)
    rw [if_pos hs2] at j
    have hj3 : 1 + (joinL [32] (es.map row)).length ≤ 16777216 := by omega
    have hj4 : 1 + (joinL [32] (es.map row)).length + 1 ≤ 16777216 := by omega
    simp only [List.cons_append, List.nil_append, List.replicate, sRet_ap, mOp2_ap, mC_ap, rbind_ok, kOp2_ap, mStr1_ap, kStr1_ap, mFz_ap, mLcF_ap, mIter_ap, mVar_val, List.getElem?_cons_zero, kIter_tuple, kLcF_ap]
    rw [if_pos (by simp), q1]
    have hj5 : (joinL [32] (es.map row)).length ≤ 16777214 := by omega
    simp [j, hj3, hj4, hj5, wipeE, ent, -List.map_map]
end K08

set_option linter.all false
set_option maxRecDepth 100000
set_option maxHeartbeats 2000000
namespace K08
open PySem Bk
/-! ### brackets -/
def op (l : List Nat) : Nat := l.count 123
def cl (l : List Nat) : Nat := l.count 125
theorem op_app (a b : List Nat) : op (a ++ b) = op a + op b := List.count_append
theorem cl_app (a b : List Nat) : cl (a ++ b) = cl a + cl b := List.count_append
def Seg (n : Nat) (l : List Nat) : Prop := ∀ i j, op ((l.drop i).take j) ≤ cl ((l.drop i).take j) + n
theorem Seg.mono {m n : Nat} {l : List Nat} (h : Seg m l) (hn : m ≤ n) : Seg n l := fun i j => by have := h i j; omega
theorem Seg.app {m n : Nat} {u v : List Nat} (hu : Seg m u) (hv : Seg n v) : Seg (m + n) (u ++ v) := fun i j => by
  rw [List.drop_append, List.take_append, op_app, cl_app]
  have := hu i j
  have := hv (i - u.length) (j - (u.drop i).length)
  omega
theorem Seg.take {n : Nat} {l : List Nat} (h : Seg n l) (k : Nat) : Seg n (l.take k) := fun i j => by
  rw [List.drop_take, List.take_take]
  exact h i _
theorem Seg.drop {n : Nat} {l : List Nat} (h : Seg n l) (k : Nat) : Seg n (l.drop k) := fun i j => by
  rw [List.drop_drop]
  exact h _ j
theorem Seg.op (l : List Nat) : Seg (op l) l := fun i j => by
  have h : ((l.drop i).take j).Sublist l := (List.take_sublist _ _).trans (List.drop_sublist _ _)
  have := h.count_le 123
  unfold K08.op
  omega
structure Bal (n : Nat) (l : List Nat) : Prop where
  lo : ∀ i, cl (l.take i) ≤ op (l.take i)
  hi : ∀ i, op (l.take i) ≤ cl (l.take i) + n
  eq : op l = cl l
theorem Bal.seg {n : Nat} {l : List Nat} (h : Bal n l) : Seg n l := fun i j => by
  have h1 := h.hi (i + j)
  have h2 := h.lo i
  rw [List.take_add, op_app, cl_app] at h1
  omega
theorem Bal.mono {m n : Nat} {l : List Nat} (h : Bal m l) (hn : m ≤ n) : Bal n l := ⟨h.lo, fun i => by have := h.hi i; omega, h.eq⟩
theorem Bal.app {n : Nat} {u v : List Nat} (hu : Bal n u) (hv : Bal n v) : Bal n (u ++ v) := by
  have key : ∀ i, (cl ((u ++ v).take i) ≤ op ((u ++ v).take i)) ∧ (op ((u ++ v).take i) ≤ cl ((u ++ v).take i) + n) := fun i => by
    rw [List.take_append, op_app, cl_app]
    have h1 := hu.lo i
    have h2 := hu.hi i
    have h3 := hv.lo (i - u.length)
    have h4 := hv.hi (i - u.length)
    by_cases hi : i ≤ u.length
    · have e : i - u.length = 0 := by omega
      rw [e]; simp [op, cl] at h1 h2 ⊢; omega
    · rw [List.take_of_length_le (by omega), hu.eq]
      omega
  refine ⟨fun i => (key i).1, fun i => (key i).2, ?_⟩
  rw [op_app, cl_app, hu.eq, hv.eq]
theorem Bal.none {l : List Nat} (h1 : 123 ∉ l) (h2 : 125 ∉ l) : Bal 0 l := by
  have e1 : ∀ i, op (l.take i) = 0 := fun i => List.count_eq_zero.mpr fun h => h1 (List.mem_of_mem_take h)
  have e2 : ∀ i, cl (l.take i) = 0 := fun i => List.count_eq_zero.mpr fun h => h2 (List.mem_of_mem_take h)
  refine ⟨fun i => by rw [e1, e2]; omega, fun i => by rw [e1, e2]; omega, ?_⟩
  rw [show op l = 0 from List.count_eq_zero.mpr h1, show cl l = 0 from List.count_eq_zero.mpr h2]
theorem Bal.wrap {n : Nat} {l : List Nat} (h : Bal n l) : Bal (n + 1) ([123] ++ l ++ [125]) := by
  have key : ∀ i, (cl (([123] ++ l ++ [125]).take i) ≤ op (([123] ++ l ++ [125]).take i)) ∧ (op (([123] ++ l ++ [125]).take i) ≤ cl (([123] ++ l ++ [125]).take i) + (n + 1)) := fun i => by
    cases i with
    | zero => simp [op, cl]
    | succ i =>
      have e : ([123] ++ l ++ [125]).take (i + 1) = [123] ++ (l.take i ++ [125].take (i - l.length)) := by
        rw [List.append_assoc, List.singleton_append, List.take_succ_cons, List.take_append]; rfl
      rw [e, op_app, cl_app, op_app, cl_app]
      have h1 := h.lo i
      have h2 := h.hi i
      have e1 : op [123] = 1 := rfl
      have e2 : cl [123] = 0 := rfl
      by_cases hi : i ≤ l.length
      · have e : i - l.length = 0 := by omega
        rw [e]
        have e3 : op (List.take 0 [125]) = 0 := rfl
        have e4 : cl (List.take 0 [125]) = 0 := rfl
        omega
      · rw [List.take_of_length_le (by omega : l.length ≤ i), h.eq]
        have e3 : op ([125].take (i - l.length)) = 0 := List.count_eq_zero.mpr fun z => by have := List.mem_of_mem_take z; simp at this
        have e4 : cl ([125].take (i - l.length)) ≤ 1 := by
          have := (List.take_sublist (i - l.length) [125]).count_le 125
          simpa [cl] using this
        omega
  refine ⟨fun i => (key i).1, fun i => (key i).2, ?_⟩
  rw [op_app, cl_app, op_app, cl_app, h.eq]
  have e1 : op [123] = 1 := rfl
  have e2 : cl [123] = 0 := rfl
  have e3 : op [125] = 0 := rfl
  have e4 : cl [125] = 1 := rfl
  omega
theorem four_no {x : List Nat} (h : x ∈ four) : 123 ∉ x ∧ 125 ∉ x := by
  simp [four] at h
  rcases h with rfl | rfl | rfl | rfl <;> simp
theorem Bal.join {n : Nat} {s : List Nat} (hs : Bal n s) : ∀ {xs : List (List Nat)}, (∀ x ∈ xs, Bal n x) → Bal n (joinL s xs)
  | [], _ => (Bal.none (by simp [joinL]) (by simp [joinL])).mono (by omega)
  | [x], h => h x List.mem_cons_self
  | x :: y :: r, h => by
    have := Bal.join hs (xs := y :: r) fun z hz => h z (List.mem_cons_of_mem _ hz)
    exact ((h x List.mem_cons_self).app hs).app this
theorem TT_bal : ∀ {n : Nat} {d : PyData} {x : List Nat}, TT n d x → Bal n x
  | 0, _, _, h => h.elim
  | n + 1, d, x, ⟨es, _, h2, h3, hx⟩ => by
    subst hx
    refine Bal.wrap (Bal.join ((Bal.none (by simp) (by simp)).mono (by omega)) fun y hy => ?_)
    obtain ⟨e, he, rfl⟩ := List.mem_map.mp hy
    obtain ⟨g1, g2⟩ := four_no (h3.subset (List.mem_map_of_mem (f := (·.1)) he))
    exact (((Bal.none g1 g2).mono (by omega)).app ((Bal.none (by simp) (by simp)).mono (by omega))).app (TT_bal (h2 e he))
/-! ### texts bent -/
def rows10 : List (List Nat) := [[32], [123], [125], [97], [65], [58], [49], [97, 58, 32, 123, 125], [123, 125], [122]]
theorem bent_ok (ds : List Int) (a : Nat) (t : List Nat) (ht : t.length ≤ 100000) : ∃ t' a', S_law_bent [.io (wO ds a), .val (sT t)] = .ok (sT t') (some (wO ds a')) ∧ t'.length ≤ t.length + 6 ∧ ∀ n, Seg n t → Seg (2 * n + 1) t' := by
  obtain ⟨r1, h1, e1⟩ := next_ok ds a (t.length + 1) (by omega)
  obtain ⟨r2, h2, e2⟩ := next_ok ds (a + 1) 5 (by omega)
  have e1 : S_law_next [.io (wO ds a), .val (.int ((t.length : Int) + 1))] = .ok (.int r1) (some (wO ds (a + 1))) := e1
  have e2 : S_law_next [.io (wO ds (a + 1)), .val (.int 5)] = .ok (.int r2) (some (wO ds (a + 1 + 1))) := e2
  have l1 : t.length ≤ 16777216 := by omega
  unfold S_law_bent B_law_bent
  rw [run_ap]
  by_cases c0 : r2 = 0
  · subst c0
    refine ⟨t.take r1 ++ t.drop (r1 + 1), a + 1 + 1, ?_, ?_, fun n h => ((h.take _).app (h.drop _)).mono (by omega)⟩
    · have e3 : cutL t (some ((r1 : Int) + 1)) none = t.drop (r1 + 1) := cut_from t (r1 + 1)
      have l2 : min r1 t.length + (t.length - (r1 + 1)) ≤ 16777216 := by omega
      simp [e1, e2, l1, cut_to, e3, l2]
    · simp; omega
  · by_cases c1 : r2 < 3
    · obtain ⟨x, hx, e4⟩ := pick_ok ds (a + 1 + 1) rows10 (by decide) (by decide)
      obtain ⟨r3, h3, e5⟩ := next_ok ds (a + 1 + 1 + 1) 2 (by omega)
      have e5 : S_law_next [.io (wO ds (a + 1 + 1 + 1)), .val (.int 2)] = .ok (.int r3) (some (wO ds (a + 1 + 1 + 1 + 1))) := e5
      have hx5 : x.length ≤ 5 := by
        simp [rows10] at hx
        rcases hx with rfl | rfl | rfl | rfl | rfl | rfl | rfl | rfl | rfl | rfl <;> simp
      have hxo : op x ≤ 1 := by
        simp [rows10] at hx
        rcases hx with rfl | rfl | rfl | rfl | rfl | rfl | rfl | rfl | rfl | rfl <;> decide
      simp only [rows10, List.map_cons, List.map_nil] at e4
      refine ⟨t.take r1 ++ x ++ t.drop (r1 + r3), a + 1 + 1 + 1 + 1, ?_, ?_, fun n h => (((h.take _).app (Seg.op x)).app (h.drop _)).mono (by omega)⟩
      · have e6 : cutL t (some ((r1 : Int) + (r3 : Int))) none = t.drop (r1 + r3) := cut_from t (r1 + r3)
        have l2 : min r1 t.length + x.length ≤ 16777216 := by omega
        have l3 : min r1 t.length + (x.length + (t.length - (r1 + r3))) ≤ 16777216 := by omega
        have c1' : (r2 : Int) < 3 := by omega
        have l4 : min r1 t.length + x.length + (t.length - (r1 + r3)) ≤ 16777216 := by omega
        simp [e1, e2, l1, cut_to, c0, c1', e4, e5, e6, l2, l3, l4]
      · simp; omega
    · have c1' : ¬ (r2 : Int) < 3 := by omega
      by_cases c2 : r2 = 3
      · subst c2
        refine ⟨t.take r1, a + 1 + 1, ?_, by simp; omega, fun n h => (h.take _).mono (by omega)⟩
        simp [e1, e2, l1, cut_to]
      · have c2' : ¬ (r2 : Int) = 3 := by omega
        refine ⟨t.drop r1 ++ t.take r1, a + 1 + 1, ?_, by simp; omega, fun n h => ((h.drop _).app (h.take _)).mono (by omega)⟩
        have l2 : t.length - r1 + min r1 t.length ≤ 16777216 := by omega
        simp [e1, e2, l1, cut_to, cut_from, c0, c1', c2', l2]
end K08

set_option linter.all false
set_option maxRecDepth 100000
set_option maxHeartbeats 4000000
namespace K08
open PySem Bk
/-! ### a text read: plainly -/
def letters : List Nat := [97, 98, 99, 100, 101, 102, 103, 104, 105, 106, 107, 108, 109, 110, 111, 112, 113, 114, 115, 116, 117, 118, 119, 120, 121, 122]
def digits : List Nat := [48, 49, 50, 51, 52, 53, 54, 55, 56, 57]
def isLD (c : Nat) : Bool := decide (c ∈ letters ++ digits)
inductive PR where
  | ok (d : PyData) (q : Nat)
  | bad (q : Nat) (c : Bool)
  | out
abbrev en (e : List Nat × PyData) : PyData := .tuple [sT e.1, e.2]
def okName (found : List (List Nat × PyData)) (nm : List Nat) : Bool := match found.getLast? with
  | none => true
  | some e => decide (e.1 < nm)
def isFst (T : List Nat) (b : Nat) : Bool := match T[b]? with
  | some c => decide (c ∈ letters)
  | none => false
def rdL (rd : Nat → PR) (T : List Nat) : Nat → List (List Nat × PyData) → Nat → PR
  | 0, _, _ => .out
  | m + 1, found, at_ => if T[at_]? = some 125 then .ok (.tuple (found.map en)) (at_ + 1)
    else if found.isEmpty = false ∧ T[at_]? ≠ some 32 then .bad at_ false
    else
      let b := if found.isEmpty then at_ else at_ + 1
      let nm := (T.drop b).takeWhile isLD
      if isFst T b && okName found nm then
        (if T[b + nm.length]? ≠ some 58 then .bad (b + nm.length) false
        else if T[b + nm.length + 1]? ≠ some 32 then .bad (b + nm.length + 1) true
        else match rd (b + nm.length + 1 + 1) with
          | .ok d q => rdL rd T m (found ++ [(nm, d)]) q
          | .bad q c => .bad q c
          | .out => .out)
      else .bad b false
def rd (T : List Nat) : Nat → Nat → PR
  | 0, _ => .out
  | n + 1, at_ => if T[at_]? = some 123 then rdL (rd T n) T (T.length + 1) [] (at_ + 1) else .bad at_ false
/-- p: the text T, at the at-th sign -/
def pO (T : List Nat) (at_ : Nat) (bad : Bool) : O := .dct [(.inr k_text, sT T), (.inr k_at, .int at_), (.inr k_bad, .bool bad)]
theorem m1 : k_text ≠ k_at := by decide +kernel
theorem m2 : k_text ≠ k_bad := by decide +kernel
theorem m3 : k_at ≠ k_bad := by decide +kernel
@[simp] theorem p_text (a b c : PyData) : klook [(.inr k_text, a), (.inr k_at, b), (.inr k_bad, c)] (.inr k_text) = some a := by simp [klook]
@[simp] theorem p_at (a b c : PyData) : klook [(.inr k_text, a), (.inr k_at, b), (.inr k_bad, c)] (.inr k_at) = some b := by simp [klook, m1]
@[simp] theorem p_bad (a b c : PyData) : klook [(.inr k_text, a), (.inr k_at, b), (.inr k_bad, c)] (.inr k_bad) = some c := by simp [klook, m2, m3]
@[simp] theorem p_putA (a b c d : PyData) : kput [(.inr k_text, a), (.inr k_at, b), (.inr k_bad, c)] (.inr k_at) d = [(.inr k_text, a), (.inr k_at, d), (.inr k_bad, c)] := by simp [kput, m1, Ne.symm m3]
@[simp] theorem p_putB (a b c d : PyData) : kput [(.inr k_text, a), (.inr k_at, b), (.inr k_bad, c)] (.inr k_bad) d = [(.inr k_text, a), (.inr k_at, b), (.inr k_bad, d)] := by simp [kput, m2, m3]
theorem cut1 (T : List Nat) (a : Nat) : cutL T (some (a : Int)) (some ((a : Int) + 1)) = (T[a]?).toList := by
  have := cut_mid T a (a + 1) (by omega)
  rw [show (a : Int) + 1 = ((a + 1 : Nat) : Int) by omega, this]
  rw [show a + 1 - a = 1 by omega]
  cases h : T[a]? with
  | none =>
    have := List.getElem?_eq_none_iff.mp h
    simp [List.drop_of_length_le this]
  | some c =>
    obtain ⟨hl, rfl⟩ := List.getElem?_eq_some_iff.mp h
    rw [List.drop_eq_getElem_cons hl]; rfl
theorem go_ok (T : List Nat) (hT : T.length ≤ 16777216) (a c : Nat) (b : Bool) : S_law_go [.io (pO T a b), .val (sT [c])] = if T[a]? = some c then .ok (.bool true) (some (pO T (a + 1) b)) else .ok (.bool false) (some (pO T a true)) := by
  unfold S_law_go B_law_go pO
  rw [run_ap]
  by_cases h : T[a]? = some c
  · simp [hT, cut1, h]
  · have h2 : ¬ (T[a]?).toList = [c] := fun z => h (by cases hh : T[a]? with | none => rw [hh] at z; simp at z | some y => rw [hh] at z; simpa using z)
    simp [hT, cut1, h, h2]
theorem sg_ne {T : List Nat} {a c : Nat} (h : T[a]? ≠ some c) : ¬ (T[a]?).toList = [c] := fun z => h (by
  cases hh : T[a]? with
  | none => rw [hh] at z; simp at z
  | some y => rw [hh] at z; simpa using z)
theorem in_LD (c : Nat) : decide (c ∈ letters ++ [48, 49, 50, 51, 52, 53, 54, 55, 56, 57]) = isLD c := rfl
theorem letters_len : letters.length = 26 := rfl
/-- the name's signs -/
theorem scan_ok (S : SEnv → RC) (T : List Nat) (hT : T.length ≤ 100010) (s1 s2 : Sl) : ∀ (k a : Nat) (nm : List Nat), T.length - a = k → nm ≠ [] → nm.length ≤ a → a ≤ T.length →
    sWhile (C1_law_read S) (D1_law_read S) [.io (pO T a false), s1, s2, .val (sT nm), .val (sT letters)] = .nx [.io (pO T (a + ((T.drop a).takeWhile isLD).length) false), s1, s2, .val (sT (nm ++ (T.drop a).takeWhile isLD)), .val (sT letters)] := by
  intro k
  induction k with
  | zero =>
    intro a nm hk hn hl ha
    have h1 : T[a]? = none := List.getElem?_eq_none (by omega)
    have h2 : T.drop a = [] := List.drop_of_length_le (by omega)
    rw [sWhile_eq]
    have l1 : T.length ≤ 16777216 := by omega
    unfold C1_law_read pO
    simp [cut1, h1, h2, l1]
  | succ k ih =>
    intro a nm hk hn hl ha
    have hlt : a < T.length := by omega
    have h1 : T[a]? = some T[a] := List.getElem?_eq_getElem hlt
    have l1 : T.length ≤ 16777216 := by omega
    have l2 : nm.length + 1 ≤ 16777216 := by omega
    have hd : T.drop a = T[a] :: T.drop (a + 1) := List.drop_eq_getElem_cons hlt
    rw [sWhile_eq]
    have e1 : ((C1_law_read S [.io (pO T a false), s1, s2, .val (sT nm), .val (sT letters)])) = .ok (isLD T[a]) [.io (pO T a false), s1, s2, .val (sT nm), .val (sT letters)] := by
      unfold C1_law_read pO
      simp [cut1, h1, l1, hn, atI_nat, letters_len, in_LD, -List.mem_append, -List.mem_cons]
    rw [e1]
    by_cases hc : isLD T[a] = true
    · have ih2 := ih (a + 1) (nm ++ [T[a]]) (by omega) (by simp) (by simp; omega) (by omega)
      have e2 : D1_law_read S [.io (pO T a false), s1, s2, .val (sT nm), .val (sT letters)] = .nx [.io (pO T (a + 1) false), s1, s2, .val (sT (nm ++ [T[a]])), .val (sT letters)] := by
        unfold D1_law_read pO
        have l3 : nm.length ≤ 16777215 := by omega
        simp [h1, l1, l2, l3, atI_nat]
      rw [hc, sbind_ok, kWhile_t, e2, wNext_nx, ih2, hd, List.takeWhile_cons, if_pos hc]
      simp only [List.length_cons, List.append_assoc, List.singleton_append]
      rw [show a + 1 + ((T.drop (a + 1)).takeWhile isLD).length = a + (((T.drop (a + 1)).takeWhile isLD).length + 1) by omega]
    · have hc' : isLD T[a] = false := by simpa using hc
      rw [hc', sbind_ok, kWhile_f, hd, List.takeWhile_cons, hc']
      simp
/-- the name from its first sign on -/
theorem name_ok (S : SEnv → RC) (T : List Nat) (hT : T.length ≤ 100010) (s1 s2 : Sl) (b : Nat) :
    sWhile (C1_law_read S) (D1_law_read S) [.io (pO T b false), s1, s2, .val (sT []), .val (sT letters)] =
      if isFst T b then .nx [.io (pO T (b + ((T.drop b).takeWhile isLD).length) false), s1, s2, .val (sT ((T.drop b).takeWhile isLD)), .val (sT letters)]
      else .nx [.io (pO T b false), s1, s2, .val (sT []), .val (sT letters)] := by
  have l1 : T.length ≤ 16777216 := by omega
  rw [sWhile_eq]
  unfold isFst
  cases h : T[b]? with
  | none =>
    unfold C1_law_read pO
    simp [cut1, h, l1]
  | some c =>
    obtain ⟨hlt, rfl⟩ := List.getElem?_eq_some_iff.mp h
    have hd : T.drop b = T[b] :: T.drop (b + 1) := List.drop_eq_getElem_cons hlt
    have e1 : ((C1_law_read S [.io (pO T b false), s1, s2, .val (sT []), .val (sT letters)])) = .ok (decide (T[b] ∈ letters)) [.io (pO T b false), s1, s2, .val (sT []), .val (sT letters)] := by
      unfold C1_law_read pO
      simp [cut1, h, l1, atI_nat, letters_len, -List.mem_append, -List.mem_cons]
    rw [e1]
    by_cases hc : T[b] ∈ letters
    · have hld : isLD T[b] = true := by unfold isLD; simp [hc]
      have e2 : D1_law_read S [.io (pO T b false), s1, s2, .val (sT []), .val (sT letters)] = .nx [.io (pO T (b + 1) false), s1, s2, .val (sT [T[b]]), .val (sT letters)] := by
        unfold D1_law_read pO
        simp [h, l1, atI_nat]
      rw [show decide (T[b] ∈ letters) = true by simpa using hc, sbind_ok, kWhile_t, e2, wNext_nx, scan_ok S T hT s1 s2 _ (b + 1) [T[b]] rfl (by simp) (by simp) (by omega)]
      simp only [hc, decide_true, if_true, hd, List.takeWhile_cons, hld, List.length_cons, List.singleton_append]
      rw [show b + 1 + ((T.drop (b + 1)).takeWhile isLD).length = b + (((T.drop (b + 1)).takeWhile isLD).length + 1) by omega]
    · simp [hc]
end K08

set_option linter.all false
set_option maxRecDepth 100000
set_option maxHeartbeats 4000000
namespace K08
open PySem Bk
/-- what _law_read gives, by the plain reading -/
def GoodL (T : List Nat) (p : PR) (r : RC) : Prop := match p with
  | .out => True
  | .ok d q => r = .ok d (some (pO T q false))
  | .bad q _ => ∃ d, r = .ok d (some (pO T q true))
def R1 : SEnv → SR := (sSeq (sIf (mNotT (mTest (mDget 0 (mC (.str (tx [98, 97, 100])))))) (sDaug 0 iaddD (mC (.str (tx [97, 116]))) (mC (.int 1))) sPass) (sRet (mB tupOf [(mVar 1)])))
theorem R1_bad (T : List Nat) (q : Nat) (l : List PyData) (s2 s3 s4 : Sl) : ofSR (R1 [.io (pO T q true), .own (.lst l), s2, s3, s4]) = .ok (.tuple l) (some (pO T q true)) := by
  unfold R1 pO
  simp
theorem R1_ok (T : List Nat) (q : Nat) (l : List PyData) (s2 s3 s4 : Sl) : ofSR (R1 [.io (pO T q false), .own (.lst l), s2, s3, s4]) = .ok (.tuple l) (some (pO T (q + 1) false)) := by
  unfold R1 pO
  simp
theorem cond_ok (S : SEnv → RC) (T : List Nat) (hT : T.length ≤ 100010) (a : Nat) (s1 s2 s3 s4 : Sl) : C2_law_read S [.io (pO T a false), s1, s2, s3, s4] = .ok (!decide (T[a]? = some 125)) [.io (pO T a false), s1, s2, s3, s4] := by
  have l1 : T.length ≤ 16777216 := by omega
  unfold C2_law_read pO
  by_cases h : T[a]? = some 125
  · simp [cut1, h, l1]
  · have := sg_ne h
    simp [cut1, h, l1, this]
theorem cond_bad (S : SEnv → RC) (T : List Nat) (a : Nat) (s1 s2 s3 s4 : Sl) : C2_law_read S [.io (pO T a true), s1, s2, s3, s4] = .ok false [.io (pO T a true), s1, s2, s3, s4] := by
  unfold C2_law_read pO
  simp
theorem letters_eq : ([97, 98, 99, 100, 101, 102, 103, 104, 105, 106, 107, 108, 109, 110, 111, 112, 113, 114, 115, 116, 117, 118, 119, 120, 121, 122] : List Nat) = letters := rfl
/-- one turn: what it does behind the blank -/
noncomputable def T1 (S : SEnv → RC) : SEnv → SR := (sSeq (sAsg (mDget 0 (mC (.str (tx [97, 116])))) (fName 2)) (sSeq (sAsg (mC (.str (tx []))) (fName 3)) (sSeq (sAsg (mC (.str (tx [97, 98, 99, 100, 101, 102, 103, 104, 105, 106, 107, 108, 109, 110, 111, 112, 113, 114, 115, 116, 117, 118, 119, 120, 121, 122]))) (fName 4)) (sSeq (sWhile (C1_law_read S) (D1_law_read S)) (sSeq (sIf (mOrT (mTest (mOp2 eqD (mVar 3) (mC (.str (tx []))))) (mAndT (mTest (mOpS (fun ds d => neD (.list ds) d) 1 (mLst []))) (mTest (mOp2 leD (mVar 3) (mOp2 idxD (mOpS (fun ds d => idxD (.list ds) d) 1 (mOp2 subD (mLenS 1) (mC (.int 1)))) (mC (.int 0))))))) (sSeq (sAsg (mTup [(mC (.bool true)), (mVar 2)]) (fTup [(fSub 0 (.inr k_bad)), (fSub 0 (.inr k_at))])) (sRet (mTup []))) sPass) (sSeq (sIf (mOrT (mNotT (mTest (mCallS S_law_go 0 [(mC (.str (tx [58])))]))) (mNotT (mTest (mCallS S_law_go 0 [(mC (.str (tx [32])))])))) (sRet (mTup [])) sPass) (sAppend 1 (mTup [(mVar 3), (mCallS S 0 [])]))))))))
noncomputable def T2 (S : SEnv → RC) : SEnv → SR := (sSeq (sIf (mOrT (mTest (mOp2 eqD (mVar 3) (mC (.str (tx []))))) (mAndT (mTest (mOpS (fun ds d => neD (.list ds) d) 1 (mLst []))) (mTest (mOp2 leD (mVar 3) (mOp2 idxD (mOpS (fun ds d => idxD (.list ds) d) 1 (mOp2 subD (mLenS 1) (mC (.int 1)))) (mC (.int 0))))))) (sSeq (sAsg (mTup [(mC (.bool true)), (mVar 2)]) (fTup [(fSub 0 (.inr k_bad)), (fSub 0 (.inr k_at))])) (sRet (mTup []))) sPass) (sSeq (sIf (mOrT (mNotT (mTest (mCallS S_law_go 0 [(mC (.str (tx [58])))]))) (mNotT (mTest (mCallS S_law_go 0 [(mC (.str (tx [32])))])))) (sRet (mTup [])) sPass) (sAppend 1 (mTup [(mVar 3), (mCallS S 0 [])]))))
def T3 (S : SEnv → RC) : SEnv → SR := (sSeq (sIf (mOrT (mNotT (mTest (mCallS S_law_go 0 [(mC (.str (tx [58])))]))) (mNotT (mTest (mCallS S_law_go 0 [(mC (.str (tx [32])))])))) (sRet (mTup [])) sPass) (sAppend 1 (mTup [(mVar 3), (mCallS S 0 [])])))
@[simp] theorem isEmpty_snoc {α : Type} (l : List α) (x : α) : (l ++ [x]).isEmpty = false := by cases l <;> rfl
section
variable (S : SEnv → RC) (T : List Nat)
theorem turn_1 (found : List (List Nat × PyData)) (b : Nat) (s2 s3 s4 : Sl) (h2 : s2.isIo = false) (h3 : s3.isIo = false) (h4 : s4.isIo = false) : T1 S [.io (pO T b false), .own (.lst (found.map en)), s2, s3, s4] = SR.seq (sWhile (C1_law_read S) (D1_law_read S) [.io (pO T b false), .own (.lst (found.map en)), .val (.int b), .val (sT []), .val (sT letters)]) (T2 S) := by
  unfold T1 T2 pO
  simp [h2, h3, h4, letters_eq]
theorem turn_2 (found : List (List Nat × PyData)) (b : Nat) (q : Nat) (nm : List Nat) (hn : nm ≠ []) (h : okName found nm = true) : T2 S [.io (pO T q false), .own (.lst (found.map en)), .val (.int b), .val (sT nm), .val (sT letters)] = T3 S [.io (pO T q false), .own (.lst (found.map en)), .val (.int b), .val (sT nm), .val (sT letters)] := by
  unfold T2 T3 pO
  rcases List.eq_nil_or_concat found with rfl | ⟨f0, e, rfl⟩
  · simp [hn]
  · have h : e.1 < nm := by simpa [okName] using h
    simp [hn, h, atI_nat]
theorem turn_2b (found : List (List Nat × PyData)) (b : Nat) (q : Nat) (nm : List Nat) (h : nm = [] ∨ okName found nm = false) : T2 S [.io (pO T q false), .own (.lst (found.map en)), .val (.int b), .val (sT nm), .val (sT letters)] = .rt (.tuple []) [.io (pO T b true), .own (.lst (found.map en)), .val (.int b), .val (sT nm), .val (sT letters)] := by
  unfold T2 pO
  by_cases hn : nm = []
  · subst hn; simp
  · have h := h.resolve_left hn
    rcases List.eq_nil_or_concat found with rfl | ⟨f0, e, rfl⟩
    · simp [okName] at h
    · have h : ¬ e.1 < nm := by simpa [okName] using h
      simp [hn, h, atI_nat]
theorem turn_3a (hT : T.length ≤ 100010) (found : List (List Nat × PyData)) (q : Nat) (nm : List Nat) (s2 : Sl) (h : T[q]? ≠ some 58) : T3 S [.io (pO T q false), .own (.lst (found.map en)), s2, .val (sT nm), .val (sT letters)] = .rt (.tuple []) [.io (pO T q true), .own (.lst (found.map en)), s2, .val (sT nm), .val (sT letters)] := by
  have g1 := go_ok T (by omega) q 58 false
  rw [if_neg h] at g1
  unfold T3
  simp [g1]
theorem turn_3b (hT : T.length ≤ 100010) (found : List (List Nat × PyData)) (q : Nat) (nm : List Nat) (s2 : Sl) (h : T[q]? = some 58) (h' : T[q + 1]? ≠ some 32) : T3 S [.io (pO T q false), .own (.lst (found.map en)), s2, .val (sT nm), .val (sT letters)] = .rt (.tuple []) [.io (pO T (q + 1) true), .own (.lst (found.map en)), s2, .val (sT nm), .val (sT letters)] := by
  have g1 := go_ok T (by omega) q 58 false
  rw [if_pos h] at g1
  have g2 := go_ok T (by omega) (q + 1) 32 false
  rw [if_neg h'] at g2
  unfold T3
  simp [g1, g2]
theorem turn_3 (hT : T.length ≤ 100010) (found : List (List Nat × PyData)) (q q' : Nat) (bad : Bool) (d : PyData) (nm : List Nat) (s2 : Sl) (h : T[q]? = some 58) (h' : T[q + 1]? = some 32) (hf : found.length ≤ 100020) (hS : S [.io (pO T (q + 1 + 1) false)] = .ok d (some (pO T q' bad))) :
    T3 S [.io (pO T q false), .own (.lst (found.map en)), s2, .val (sT nm), .val (sT letters)] = .nx [.io (pO T q' bad), .own (.lst ((found ++ [(nm, d)]).map en)), s2, .val (sT nm), .val (sT letters)] := by
  have g1 := go_ok T (by omega) q 58 false
  rw [if_pos h] at g1
  have g2 := go_ok T (by omega) (q + 1) 32 false
  rw [if_pos h'] at g2
  have hf2 : found.length < 16777216 := by omega
  unfold T3
  simp [g1, g2, hS, hf2]
/-- the loop -/
theorem read_loop (hT : T.length ≤ 100010) (rdn : Nat → PR) (hS : ∀ a, GoodL T (rdn a) (S [.io (pO T a false)])) : ∀ (m : Nat) (found : List (List Nat × PyData)) (a : Nat) (s2 s3 s4 : Sl), found.length + m ≤ 100020 → s2.isIo = false → s3.isIo = false → s4.isIo = false →
    GoodL T (rdL rdn T m found a) (ofSR (SR.seq (sWhile (C2_law_read S) (D2_law_read S) [.io (pO T a false), .own (.lst (found.map en)), s2, s3, s4]) R1)) := by
  intro m
  induction m with
  | zero => intro found a s2 s3 s4 _ _ _ _; trivial
  | succ m ih =>
    intro found a s2 s3 s4 hm h2 h3 h4
    have l1 : T.length ≤ 16777216 := by omega
    rw [sWhile_eq, cond_ok S T hT, sbind_ok]
    unfold rdL
    by_cases hb : T[a]? = some 125
    · rw [if_pos hb]
      simp only [hb, decide_true, Bool.not_true, kWhile_f, seq_nx]
      exact R1_ok T a _ _ _ _
    · rw [if_neg hb]
      simp only [hb, decide_false, Bool.not_false, kWhile_t]
      have go := go_ok T l1 a 32 false
      have body : ∀ b, D2_law_read S [.io (pO T a false), .own (.lst (found.map en)), s2, s3, s4] = T1 S [.io (pO T b false), .own (.lst (found.map en)), s2, s3, s4] →
          GoodL T (if isFst T b && okName found ((T.drop b).takeWhile isLD) then
            (if T[b + ((T.drop b).takeWhile isLD).length]? ≠ some 58 then .bad (b + ((T.drop b).takeWhile isLD).length) false
            else if T[b + ((T.drop b).takeWhile isLD).length + 1]? ≠ some 32 then .bad (b + ((T.drop b).takeWhile isLD).length + 1) true
            else match rdn (b + ((T.drop b).takeWhile isLD).length + 1 + 1) with
              | .ok d q => rdL rdn T m (found ++ [((T.drop b).takeWhile isLD, d)]) q
              | .bad q c => .bad q c
              | .out => .out)
          else .bad b false) (ofSR (SR.seq (wNext (C2_law_read S) (D2_law_read S) (D2_law_read S [.io (pO T a false), .own (.lst (found.map en)), s2, s3, s4])) R1)) := fun b hD => by
        rw [hD, turn_1 S T found b s2 s3 s4 h2 h3 h4, name_ok S T hT]
        by_cases hc : isFst T b = true
        · rw [if_pos hc, seq_nx, hc, Bool.true_and]
          have hnm : (T.drop b).takeWhile isLD ≠ [] := by
            unfold isFst at hc
            cases h : T[b]? with
            | none => rw [h] at hc; cases hc
            | some c =>
              rw [h] at hc
              obtain ⟨hlt, rfl⟩ := List.getElem?_eq_some_iff.mp h
              have hld : isLD T[b] = true := by unfold isLD; simp at hc ⊢; exact .inl hc
              rw [List.drop_eq_getElem_cons hlt, List.takeWhile_cons, hld]
              simp
          by_cases ho : okName found ((T.drop b).takeWhile isLD) = true
          · rw [if_pos ho, turn_2 S T found b _ _ hnm ho]
            by_cases c1 : T[b + ((T.drop b).takeWhile isLD).length]? = some 58
            · rw [if_neg (fun z => z c1)]
              by_cases c2 : T[b + ((T.drop b).takeWhile isLD).length + 1]? = some 32
              · rw [if_neg (fun z => z c2)]
                have hs := hS (b + ((T.drop b).takeWhile isLD).length + 1 + 1)
                cases hr : rdn (b + ((T.drop b).takeWhile isLD).length + 1 + 1) with
                | out => trivial
                | ok d q =>
                  rw [hr] at hs
                  rw [turn_3 S T hT found _ q false d _ _ c1 c2 (by omega) hs, wNext_nx]
                  exact ih _ q _ _ _ (by simp; omega) rfl rfl rfl
                | bad q c =>
                  rw [hr] at hs
                  obtain ⟨d, hs⟩ := hs
                  rw [turn_3 S T hT found _ q true d _ _ c1 c2 (by omega) hs, wNext_nx, sWhile_eq, cond_bad, sbind_ok, kWhile_f, seq_nx]
                  exact ⟨_, R1_bad T q _ _ _ _⟩
              · rw [if_pos c2, turn_3b S T hT found _ _ _ c1 c2]
                exact ⟨_, rfl⟩
            · rw [if_pos c1, turn_3a S T hT found _ _ _ c1]
              exact ⟨_, rfl⟩
          · rw [if_neg ho, turn_2b S T found b _ _ (.inr (by simpa using ho))]
            exact ⟨_, rfl⟩
        · rw [if_neg hc, seq_nx]
          have hc' : isFst T b = false := by simpa using hc
          rw [hc', Bool.false_and, if_neg (by decide), turn_2b S T found b _ _ (.inl rfl)]
          exact ⟨_, rfl⟩
      by_cases hf : found = []
      · subst hf
        rw [if_neg (by simp)]
        refine body a ?_
        unfold D2_law_read
        rw [sSeq_ap]
        simp only [sIf_ap, mAndT_ap, mTest_ap, mOpS_ap]
        simp
        rfl
      · have hf' : found.isEmpty = false := by simpa using hf
        by_cases hsp : T[a]? = some 32
        · rw [if_neg (fun z => z.2 hsp)]
          simp only [hf', Bool.false_eq_true, if_false]
          refine body (a + 1) ?_
          rw [if_pos hsp] at go
          unfold D2_law_read
          rw [sSeq_ap]
          have e1 : (sIf (mAndT (mTest (mOpS (fun ds d => neD (.list ds) d) 1 (mLst []))) (mNotT (mTest (mCallS S_law_go 0 [(mC (.str (tx [32])))])))) (sRet (mTup [])) sPass) [.io (pO T a false), .own (.lst (found.map en)), s2, s3, s4] = .nx [.io (pO T (a + 1) false), .own (.lst (found.map en)), s2, s3, s4] := by
            simp [hf', go]
          rw [e1, seq_nx]
          rfl
        · rw [if_pos ⟨hf', hsp⟩]
          rw [if_neg hsp] at go
          have e1 : (sIf (mAndT (mTest (mOpS (fun ds d => neD (.list ds) d) 1 (mLst []))) (mNotT (mTest (mCallS S_law_go 0 [(mC (.str (tx [32])))])))) (sRet (mTup [])) sPass) [.io (pO T a false), .own (.lst (found.map en)), s2, s3, s4] = .rt (.tuple []) [.io (pO T a true), .own (.lst (found.map en)), s2, s3, s4] := by
            simp [hf', go]
          unfold D2_law_read
          rw [sSeq_ap, e1, seq_rt, wNext_rt, seq_rt]
          exact ⟨_, rfl⟩
end
/-- _law_read -/
theorem read_ok (T : List Nat) (hT : T.length ≤ 100010) : ∀ n a, GoodL T (rd T n a) (S_law_read n [.io (pO T a false)])
  | 0, a => trivial
  | n + 1, a => by
    have go := go_ok T (by omega) a 123 false
    unfold S_law_read B_law_read
    rw [run_ap]
    unfold rd
    by_cases h : T[a]? = some 123
    · rw [if_pos h]
      rw [if_pos h] at go
      have := read_loop (S_law_read n) T hT (rd T n) (read_ok T hT n) (T.length + 1) [] (a + 1) .un .un .un (by simp; omega) rfl rfl rfl
      have e : (sSeq (sSetF 1 (mLstF [])) (sSeq (sIf (mNotT (mTest (mCallS S_law_go 0 [(mC (.str (tx [123])))]))) (sRet (mTup [])) sPass) (sSeq (sWhile (C2_law_read (S_law_read n)) (D2_law_read (S_law_read n))) R1))) ([.io (pO T a false)] ++ List.replicate 4 .un) =
          SR.seq (sWhile (C2_law_read (S_law_read n)) (D2_law_read (S_law_read n)) [.io (pO T (a + 1) false), .own (.lst []), .un, .un, .un]) R1 := by
        simp [go]
      rw [List.map_nil, ← e] at this
      exact this
    · rw [if_neg h]
      rw [if_neg h] at go
      exact ⟨.tuple [], by simp [go]⟩
end K08

set_option linter.all false
set_option maxRecDepth 100000
set_option maxHeartbeats 4000000
namespace K08
open PySem Bk
/-! ### the reader -/
def rO (T : List Nat) (a : Nat) : O := .ins 2 [(k_text, sT T), (k_at, .int a)]
theorem kt1 : (k_at == k_text) = false := by decide +kernel
@[simp] theorem r_text (x y : PyData) : List.lookup k_text [(k_text, x), (k_at, y)] = some x := by simp [List.lookup]
@[simp] theorem r_at (x y : PyData) : List.lookup k_at [(k_text, x), (k_at, y)] = some y := by simp [List.lookup, kt1]
theorem mm1 : (k_need == k_text) = false := by decide +kernel
theorem mm2 : (k_need == k_at) = false := by decide +kernel
theorem mm3 : (k_name == k_text) = false := by decide +kernel
theorem mm4 : (k_name == k_at) = false := by decide +kernel
theorem mm5 : (k_tree == k_text) = false := by decide +kernel
theorem mm6 : (k_tree == k_at) = false := by decide +kernel
@[simp] theorem r_need (x y : PyData) : List.lookup k_need [(k_text, x), (k_at, y)] = none := by simp [List.lookup, mm1, mm2]
@[simp] theorem r_name (x y : PyData) : List.lookup k_name [(k_text, x), (k_at, y)] = none := by simp [List.lookup, mm3, mm4]
@[simp] theorem r_tree (x y : PyData) : List.lookup k_tree [(k_text, x), (k_at, y)] = none := by simp [List.lookup, mm5, mm6]
@[simp] theorem r_put (x y z : PyData) : fput k_at z [(k_text, x), (k_at, y)] = [(k_text, x), (k_at, z)] := by simp [fput, m1]
theorem init_ok (T : List Nat) : S_TreeReader_init [.io (.ins 2 []), .val (sT T)] = .ok .none (some (rO T 0)) := by
  unfold S_TreeReader_init B_TreeReader_init rO
  rw [run_ap]
  simp [fput, m1]
theorem need_ok (T part : List Nat) (hT : T.length ≤ 100010) (hp : part.length ≤ 10) (a : Nat) : S_TreeReader_need [.io (rO T a), .val (sT part)] = if (T.drop a).take part.length = part then .ok .none (some (rO T (a + part.length))) else .exc ⟨1, [(k_place, .int a)]⟩ (some (rO T a)) := by
  have l1 : T.length ≤ 16777216 := by omega
  have l2 : part.length ≤ 16777216 := by omega
  have hc : cutL T (some (a : Int)) (some ((a : Int) + (part.length : Int))) = (T.drop a).take part.length := by
    have := cut_mid T a (a + part.length) (by omega)
    rw [show a + part.length - a = part.length by omega] at this
    simpa using this
  unfold S_TreeReader_need B_TreeReader_need rO
  rw [run_ap]
  by_cases h : (T.drop a).take part.length = part
  · rw [if_pos h]
    simp [l1, l2, hc, h]
  · rw [if_neg h]
    simp [l1, l2, hc, h]
theorem gl_L : gl_LETTERS = tx letters := rfl
theorem gl_D : gl_DIGITS = tx digits := rfl
theorem in_LD2 (c : Nat) : decide (c ∈ letters ++ digits) = isLD c := rfl
theorem digits_len : digits.length = 10 := rfl
theorem scanP_ok (T : List Nat) (hT : T.length ≤ 100010) (s1 s2 : Sl) : ∀ (k a : Nat), T.length - a = k → a ≤ T.length →
    sWhile C1_TreeReader_name D1_TreeReader_name [.io (rO T a), s1, s2] = .nx [.io (rO T (a + ((T.drop a).takeWhile isLD).length)), s1, s2] := by
  intro k
  have l1 : T.length ≤ 16777216 := by omega
  induction k with
  | zero =>
    intro a hk ha
    have h1 : T[a]? = none := List.getElem?_eq_none (by omega)
    have h2 : T.drop a = [] := List.drop_of_length_le (by omega)
    rw [sWhile_eq]
    unfold C1_TreeReader_name rO
    simp [cut1, h1, h2, l1]
  | succ k ih =>
    intro a hk ha
    have hlt : a < T.length := by omega
    have h1 : T[a]? = some T[a] := List.getElem?_eq_getElem hlt
    have hd : T.drop a = T[a] :: T.drop (a + 1) := List.drop_eq_getElem_cons hlt
    rw [sWhile_eq]
    have e1 : C1_TreeReader_name [.io (rO T a), s1, s2] = .ok (isLD T[a]) [.io (rO T a), s1, s2] := by
      unfold C1_TreeReader_name rO
      simp [cut1, h1, l1, atI_nat, gl_L, gl_D, letters_len, digits_len, in_LD2, -List.mem_append, -List.mem_cons]
    rw [e1]
    by_cases hc : isLD T[a] = true
    · have ih2 := ih (a + 1) (by omega) (by omega)
      have e2 : D1_TreeReader_name [.io (rO T a), s1, s2] = .nx [.io (rO T (a + 1)), s1, s2] := by
        unfold D1_TreeReader_name rO
        simp
      rw [hc, sbind_ok, kWhile_t, e2, wNext_nx, ih2, hd, List.takeWhile_cons, if_pos hc]
      simp only [List.length_cons]
      rw [show a + 1 + ((T.drop (a + 1)).takeWhile isLD).length = a + (((T.drop (a + 1)).takeWhile isLD).length + 1) by omega]
    · have hc' : isLD T[a] = false := by simpa using hc
      rw [hc', sbind_ok, kWhile_f, hd, List.takeWhile_cons, hc']
      simp
theorem nameP_ok (T : List Nat) (hT : T.length ≤ 100010) (b : Nat) : S_TreeReader_name [.io (rO T b)] = if isFst T b then .ok (sT ((T.drop b).takeWhile isLD)) (some (rO T (b + ((T.drop b).takeWhile isLD).length))) else .exc ⟨1, [(k_place, .int b)]⟩ (some (rO T b)) := by
  have l1 : T.length ≤ 16777216 := by omega
  have hc : cutL T (some (b : Int)) (some ((b : Int) + (((T.drop b).takeWhile isLD).length : Int))) = (T.drop b).takeWhile isLD := by
    have := cut_mid T b (b + ((T.drop b).takeWhile isLD).length) (by omega)
    rw [show b + ((T.drop b).takeWhile isLD).length - b = ((T.drop b).takeWhile isLD).length by omega, ← List.prefix_iff_eq_take.mp (List.takeWhile_prefix _)] at this
    simpa using this
  unfold S_TreeReader_name B_TreeReader_name
  rw [run_ap]
  unfold isFst
  cases h : T[b]? with
  | none =>
    unfold rO
    simp [cut1, h, l1]
  | some c =>
    obtain ⟨hlt, rfl⟩ := List.getElem?_eq_some_iff.mp h
    have sc := scanP_ok T hT (.val (.int b)) (.val (sT [T[b]])) _ b rfl (by omega)
    unfold rO at sc ⊢
    by_cases hl : T[b] ∈ letters
    · simp [cut1, h, l1, gl_L, hl, sc, hc, -List.mem_cons]
    · simp [cut1, h, l1, gl_L, hl, -List.mem_cons]
end K08

set_option linter.all false
set_option maxRecDepth 100000
set_option maxHeartbeats 4000000
namespace K08
open PySem Bk
/-- the place that the reader tells -/
def plc (q : Nat) (c : Bool) : Int := if c then (q : Int) - 1 else q
def GoodP (T : List Nat) (p : PR) (r : RC) : Prop := match p with
  | .out => True
  | .ok d q => r = .ok d (some (rO T q))
  | .bad q c => ∃ o, r = .exc ⟨1, [(k_place, .int (plc q c))]⟩ (some o)
theorem two {T : List Nat} {a c d : Nat} : (T.drop a).take 2 = [c, d] ↔ T[a]? = some c ∧ T[a + 1]? = some d := by
  constructor
  · intro h
    have h1 : ((T.drop a).take 2)[0]? = some c := by rw [h]; rfl
    have h2 : ((T.drop a).take 2)[1]? = some d := by rw [h]; rfl
    rw [List.getElem?_take_of_lt (by omega), List.getElem?_drop] at h1 h2
    exact ⟨by simpa using h1, by simpa using h2⟩
  · rintro ⟨h1, h2⟩
    obtain ⟨g1, rfl⟩ := List.getElem?_eq_some_iff.mp h1
    obtain ⟨g2, rfl⟩ := List.getElem?_eq_some_iff.mp h2
    rw [List.drop_eq_getElem_cons g1, List.drop_eq_getElem_cons g2]; rfl
theorem one1 {T : List Nat} {a c : Nat} : (T.drop a).take 1 = [c] ↔ T[a]? = some c := by
  constructor
  · intro h
    have h1 : ((T.drop a).take 1)[0]? = some c := by rw [h]; rfl
    rw [List.getElem?_take_of_lt (by omega), List.getElem?_drop] at h1
    simpa using h1
  · rintro h1
    obtain ⟨g1, rfl⟩ := List.getElem?_eq_some_iff.mp h1
    rw [List.drop_eq_getElem_cons g1]; rfl
theorem need1 (T : List Nat) (hT : T.length ≤ 100010) (a c : Nat) : S_TreeReader_need [.io (rO T a), .val (sT [c])] = if T[a]? = some c then .ok .none (some (rO T (a + 1))) else .exc ⟨1, [(k_place, .int a)]⟩ (some (rO T a)) := by
  have := need_ok T [c] hT (by simp) a
  simpa [one1] using this
theorem need2 (T : List Nat) (hT : T.length ≤ 100010) (a : Nat) : S_TreeReader_need [.io (rO T a), .val (sT [58, 32])] = if T[a]? = some 58 ∧ T[a + 1]? = some 32 then .ok .none (some (rO T (a + 1 + 1))) else .exc ⟨1, [(k_place, .int a)]⟩ (some (rO T a)) := by
  have := need_ok T [58, 32] hT (by simp) a
  simpa [two] using this
theorem condP_ok (S : SEnv → RC) (T : List Nat) (hT : T.length ≤ 100010) (a : Nat) (s1 s2 s3 : Sl) : C1_TreeReader_tree S [.io (rO T a), s1, s2, s3] = .ok (!decide (T[a]? = some 125)) [.io (rO T a), s1, s2, s3] := by
  have l1 : T.length ≤ 16777216 := by omega
  unfold C1_TreeReader_tree rO
  by_cases h : T[a]? = some 125
  · simp [cut1, h, l1]
  · have := sg_ne h
    simp [cut1, h, l1, this]
noncomputable def U1 (S : SEnv → RC) : SEnv → SR := (sSeq (sAsg (mFld 2 0 k_at) (fName 2)) (sSeq (sAsg (mMeth S_TreeReader_name 2 k_name 0 []) (fName 3)) (sSeq (sIf (mAndT (mTest (mOpS (fun ds d => neD (.list ds) d) 1 (mLst []))) (mTest (mOp2 leD (mVar 3) (mOp2 idxD (mOpS (fun ds d => idxD (.list ds) d) 1 (mOp1 negD (mC (.int 1)))) (mC (.int 0)))))) (sRaise 1 k_place (mVar 2)) sPass) (sSeq (sExpr (mMeth S_TreeReader_need 2 k_need 0 [(mC (.str (tx [58, 32])))])) (sAppend 1 (mTup [(mVar 3), (mMeth S 2 k_tree 0 [])]))))))
def U3 (S : SEnv → RC) : SEnv → SR := (sSeq (sExpr (mMeth S_TreeReader_need 2 k_need 0 [(mC (.str (tx [58, 32])))])) (sAppend 1 (mTup [(mVar 3), (mMeth S 2 k_tree 0 [])])))
def U2 (S : SEnv → RC) : SEnv → SR := (sSeq (sIf (mAndT (mTest (mOpS (fun ds d => neD (.list ds) d) 1 (mLst []))) (mTest (mOp2 leD (mVar 3) (mOp2 idxD (mOpS (fun ds d => idxD (.list ds) d) 1 (mOp1 negD (mC (.int 1)))) (mC (.int 0)))))) (sRaise 1 k_place (mVar 2)) sPass) (sSeq (sExpr (mMeth S_TreeReader_need 2 k_need 0 [(mC (.str (tx [58, 32])))])) (sAppend 1 (mTup [(mVar 3), (mMeth S 2 k_tree 0 [])]))))
section
variable (S : SEnv → RC) (T : List Nat)
theorem turnP_1 (hT : T.length ≤ 100010) (found : List (List Nat × PyData)) (b : Nat) (s2 s3 : Sl) (h2 : s2.isIo = false) (h3 : s3.isIo = false) (hc : isFst T b = true) : U1 S [.io (rO T b), .own (.lst (found.map en)), s2, s3] =
    U2 S [.io (rO T (b + ((T.drop b).takeWhile isLD).length)), .own (.lst (found.map en)), .val (.int b), .val (sT ((T.drop b).takeWhile isLD))] := by
  have hn := nameP_ok T hT b
  rw [if_pos hc] at hn
  unfold rO at hn
  unfold U1 U2 rO
  simp [h2, h3, hn]
theorem turnP_1b (hT : T.length ≤ 100010) (found : List (List Nat × PyData)) (b : Nat) (s2 s3 : Sl) (h2 : s2.isIo = false) (h3 : s3.isIo = false) (hc : isFst T b = false) : U1 S [.io (rO T b), .own (.lst (found.map en)), s2, s3] =
    .exc ⟨1, [(k_place, .int b)]⟩ [.io (rO T b), .own (.lst (found.map en)), .val (.int b), s3] := by
  have hn := nameP_ok T hT b
  rw [if_neg (by simp [hc])] at hn
  unfold rO at hn
  unfold U1 rO
  simp [h2, h3, hn]
theorem turnP_2 (found : List (List Nat × PyData)) (b q : Nat) (nm : List Nat) (h : okName found nm = true) : U2 S [.io (rO T q), .own (.lst (found.map en)), .val (.int b), .val (sT nm)] = U3 S [.io (rO T q), .own (.lst (found.map en)), .val (.int b), .val (sT nm)] := by
  unfold U2 U3 rO
  rcases List.eq_nil_or_concat found with rfl | ⟨f0, e, rfl⟩
  · simp
  · have h : e.1 < nm := by simpa [okName] using h
    simp [h, atI_last]
theorem turnP_2b (found : List (List Nat × PyData)) (b q : Nat) (nm : List Nat) (h : okName found nm = false) : U2 S [.io (rO T q), .own (.lst (found.map en)), .val (.int b), .val (sT nm)] = .exc ⟨1, [(k_place, .int b)]⟩ [.io (rO T q), .own (.lst (found.map en)), .val (.int b), .val (sT nm)] := by
  unfold U2 rO
  rcases List.eq_nil_or_concat found with rfl | ⟨f0, e, rfl⟩
  · simp [okName] at h
  · have h : ¬ e.1 < nm := by simpa [okName] using h
    simp [h, atI_last]
theorem turnP_3b (hT : T.length ≤ 100010) (found : List (List Nat × PyData)) (q : Nat) (nm : List Nat) (s2 : Sl) (h : ¬ (T[q]? = some 58 ∧ T[q + 1]? = some 32)) : U3 S [.io (rO T q), .own (.lst (found.map en)), s2, .val (sT nm)] = .exc ⟨1, [(k_place, .int q)]⟩ [.io (rO T q), .own (.lst (found.map en)), s2, .val (sT nm)] := by
  have g := need2 T hT q
  rw [if_neg h] at g
  unfold rO at g
  unfold U3 rO
  simp [g]
theorem turnP_3 (hT : T.length ≤ 100010) (found : List (List Nat × PyData)) (q q' : Nat) (d : PyData) (nm : List Nat) (s2 : Sl) (h : T[q]? = some 58 ∧ T[q + 1]? = some 32) (hf : found.length ≤ 100020) (hS : S [.io (rO T (q + 1 + 1))] = .ok d (some (rO T q'))) :
    U3 S [.io (rO T q), .own (.lst (found.map en)), s2, .val (sT nm)] = .nx [.io (rO T q'), .own (.lst ((found ++ [(nm, d)]).map en)), s2, .val (sT nm)] := by
  have g := need2 T hT q
  rw [if_pos h] at g
  have hf2 : found.length < 16777216 := by omega
  unfold rO at g hS
  unfold U3 rO
  simp at hS g
  simp [g, hS, hf2]
theorem turnP_3x (hT : T.length ≤ 100010) (found : List (List Nat × PyData)) (q : Nat) (o : O) (x : Ex) (nm : List Nat) (s2 : Sl) (h : T[q]? = some 58 ∧ T[q + 1]? = some 32) (hf : found.length ≤ 100020) (hS : S [.io (rO T (q + 1 + 1))] = .exc x (some o)) :
    U3 S [.io (rO T q), .own (.lst (found.map en)), s2, .val (sT nm)] = .exc x [.io o, .own (.lst (found.map en)), s2, .val (sT nm)] := by
  have g := need2 T hT q
  rw [if_pos h] at g
  have hf2 : found.length < 16777216 := by omega
  unfold rO at g hS
  unfold U3 rO
  simp at hS g
  simp [g, hS, hf2]
theorem plc_f (q : Nat) : plc q false = q := rfl
theorem plc_t (q : Nat) : plc (q + 1) true = q := by unfold plc; simp
def Q1 : SEnv → SR := (sSeq (sFldAug 2 0 k_at iaddD (mC (.int 1))) (sRet (mB tupOf [(mVar 1)])))
theorem Q1_ok (q : Nat) (l : List PyData) (s2 s3 : Sl) : ofSR (Q1 [.io (rO T q), .own (.lst l), s2, s3]) = .ok (.tuple l) (some (rO T (q + 1))) := by
  unfold Q1 rO
  simp
theorem treeP_loop (hT : T.length ≤ 100010) (rdn : Nat → PR) (hS : ∀ a, GoodP T (rdn a) (S [.io (rO T a)])) : ∀ (m : Nat) (found : List (List Nat × PyData)) (a : Nat) (s2 s3 : Sl), found.length + m ≤ 100020 → s2.isIo = false → s3.isIo = false →
    GoodP T (rdL rdn T m found a) (ofSR (SR.seq (sWhile (C1_TreeReader_tree S) (D1_TreeReader_tree S) [.io (rO T a), .own (.lst (found.map en)), s2, s3]) Q1)) := by
  intro m
  induction m with
  | zero => intro found a s2 s3 _ _ _; trivial
  | succ m ih =>
    intro found a s2 s3 hm h2 h3
    rw [sWhile_eq, condP_ok S T hT, sbind_ok]
    unfold rdL
    by_cases hb : T[a]? = some 125
    · rw [if_pos hb]
      simp only [hb, decide_true, Bool.not_true, kWhile_f, seq_nx]
      exact Q1_ok T a _ _ _
    · rw [if_neg hb]
      simp only [hb, decide_false, Bool.not_false, kWhile_t]
      have go := need1 T hT a 32
      have body : ∀ b, D1_TreeReader_tree S [.io (rO T a), .own (.lst (found.map en)), s2, s3] = U1 S [.io (rO T b), .own (.lst (found.map en)), s2, s3] →
          GoodP T (if isFst T b && okName found ((T.drop b).takeWhile isLD) then
            (if T[b + ((T.drop b).takeWhile isLD).length]? ≠ some 58 then .bad (b + ((T.drop b).takeWhile isLD).length) false
            else if T[b + ((T.drop b).takeWhile isLD).length + 1]? ≠ some 32 then .bad (b + ((T.drop b).takeWhile isLD).length + 1) true
            else match rdn (b + ((T.drop b).takeWhile isLD).length + 1 + 1) with
              | .ok d q => rdL rdn T m (found ++ [((T.drop b).takeWhile isLD, d)]) q
              | .bad q c => .bad q c
              | .out => .out)
          else .bad b false) (ofSR (SR.seq (wNext (C1_TreeReader_tree S) (D1_TreeReader_tree S) (D1_TreeReader_tree S [.io (rO T a), .own (.lst (found.map en)), s2, s3])) Q1)) := fun b hD => by
        rw [hD]
        by_cases hc : isFst T b = true
        · rw [turnP_1 S T hT found b s2 s3 h2 h3 hc, hc, Bool.true_and]
          by_cases ho : okName found ((T.drop b).takeWhile isLD) = true
          · rw [if_pos ho, turnP_2 S T found b _ _ ho]
            by_cases c1 : T[b + ((T.drop b).takeWhile isLD).length]? = some 58
            · rw [if_neg (fun z => z c1)]
              by_cases c2 : T[b + ((T.drop b).takeWhile isLD).length + 1]? = some 32
              · rw [if_neg (fun z => z c2)]
                have hs := hS (b + ((T.drop b).takeWhile isLD).length + 1 + 1)
                cases hr : rdn (b + ((T.drop b).takeWhile isLD).length + 1 + 1) with
                | out => trivial
                | ok d q =>
                  rw [hr] at hs
                  rw [turnP_3 S T hT found _ q d _ _ ⟨c1, c2⟩ (by omega) hs, wNext_nx]
                  exact ih _ q _ _ (by simp; omega) rfl rfl
                | bad q c =>
                  rw [hr] at hs
                  obtain ⟨o, hs⟩ := hs
                  rw [turnP_3x S T hT found _ o _ _ _ ⟨c1, c2⟩ (by omega) hs, wNext_exc, seq_exc]
                  exact ⟨o, rfl⟩
              · rw [if_pos c2, turnP_3b S T hT found _ _ _ (fun z => c2 z.2), wNext_exc, seq_exc, ofSR_exc]
                exact ⟨rO T _, by rw [plc_t]; rfl⟩
            · rw [if_pos c1, turnP_3b S T hT found _ _ _ (fun z => c1 z.1), wNext_exc, seq_exc]
              exact ⟨_, rfl⟩
          · rw [if_neg ho, turnP_2b S T found b _ _ (by simpa using ho), wNext_exc, seq_exc]
            exact ⟨_, rfl⟩
        · have hc' : isFst T b = false := by simpa using hc
          rw [turnP_1b S T hT found b s2 s3 h2 h3 hc', hc', Bool.false_and, if_neg (by decide), wNext_exc, seq_exc]
          exact ⟨_, rfl⟩
      by_cases hf : found = []
      · subst hf
        rw [if_neg (by simp)]
        refine body a ?_
        unfold D1_TreeReader_tree
        rw [sSeq_ap]
        have e1 : (sIf (mTest (mOpS (fun ds d => neD (.list ds) d) 1 (mLst []))) (sExpr (mMeth S_TreeReader_need 2 k_need 0 [(mC (.str (tx [32])))])) sPass) [.io (rO T a), .own (.lst (([] : List (List Nat × PyData)).map en)), s2, s3] = .nx [.io (rO T a), .own (.lst (([] : List (List Nat × PyData)).map en)), s2, s3] := by
          simp
        rw [e1, seq_nx]
        rfl
      · have hf' : found.isEmpty = false := by simpa using hf
        by_cases hsp : T[a]? = some 32
        · rw [if_neg (fun z => z.2 hsp)]
          simp only [hf', Bool.false_eq_true, if_false]
          refine body (a + 1) ?_
          rw [if_pos hsp] at go
          unfold D1_TreeReader_tree
          rw [sSeq_ap]
          have e1 : (sIf (mTest (mOpS (fun ds d => neD (.list ds) d) 1 (mLst []))) (sExpr (mMeth S_TreeReader_need 2 k_need 0 [(mC (.str (tx [32])))])) sPass) [.io (rO T a), .own (.lst (found.map en)), s2, s3] = .nx [.io (rO T (a + 1)), .own (.lst (found.map en)), s2, s3] := by
            unfold rO at go ⊢
            simp [hf', go]
          rw [e1, seq_nx]
          rfl
        · rw [if_pos ⟨hf', hsp⟩]
          rw [if_neg hsp] at go
          have e1 : (sIf (mTest (mOpS (fun ds d => neD (.list ds) d) 1 (mLst []))) (sExpr (mMeth S_TreeReader_need 2 k_need 0 [(mC (.str (tx [32])))])) sPass) [.io (rO T a), .own (.lst (found.map en)), s2, s3] = .exc ⟨1, [(k_place, .int a)]⟩ [.io (rO T a), .own (.lst (found.map en)), s2, s3] := by
            unfold rO at go ⊢
            simp [hf', go]
          unfold D1_TreeReader_tree
          rw [sSeq_ap, e1, seq_exc, wNext_exc, seq_exc]
          exact ⟨_, rfl⟩
end
/-- the reader's tree -/
theorem treeP_ok (T : List Nat) (hT : T.length ≤ 100010) : ∀ n a, GoodP T (rd T n a) (S_TreeReader_tree n [.io (rO T a)])
  | 0, a => trivial
  | n + 1, a => by
    have go := need1 T hT a 123
    unfold S_TreeReader_tree B_TreeReader_tree
    rw [run_ap]
    unfold rd
    by_cases h : T[a]? = some 123
    · rw [if_pos h]
      rw [if_pos h] at go
      have := treeP_loop (S_TreeReader_tree n) T hT (rd T n) (treeP_ok T hT n) (T.length + 1) [] (a + 1) .un .un (by simp; omega) rfl rfl
      have e : (sSeq (sExpr (mMeth S_TreeReader_need 2 k_need 0 [(mC (.str (tx [123])))])) (sSeq (sSetF 1 (mLstF [])) (sSeq (sWhile (C1_TreeReader_tree (S_TreeReader_tree n)) (D1_TreeReader_tree (S_TreeReader_tree n))) Q1))) ([.io (rO T a)] ++ List.replicate 3 .un) =
          SR.seq (sWhile (C1_TreeReader_tree (S_TreeReader_tree n)) (D1_TreeReader_tree (S_TreeReader_tree n)) [.io (rO T (a + 1)), .own (.lst []), .un, .un]) Q1 := by
        unfold rO at go ⊢
        simp [go]
      rw [List.map_nil, ← e] at this
      exact this
    · rw [if_neg h]
      rw [if_neg h] at go
      unfold rO at go ⊢
      exact ⟨.ins 2 [(k_text, sT T), (k_at, .int a)], by simp [go, plc_f]⟩
/-- a whole text -/
def due (T : List Nat) : PR := match rd T 40 0 with
  | .ok d q => if q = T.length then .ok d q else .bad q false
  | r => r
def isFin : PR → Bool
  | .out => false
  | _ => true
theorem parse_ok (T : List Nat) (hT : T.length ≤ 100010) : match due T with
    | .out => True
    | .ok d q => S_parse_tree [.val (sT T)] = .ok d none
    | .bad q c => S_parse_tree [.val (sT T)] = .exc ⟨1, [(k_place, .int (plc q c))]⟩ none := by
  have l1 : T.length ≤ 16777216 := by omega
  have hp := treeP_ok T hT 40 0
  unfold due
  cases hr : rd T 40 0 with
  | out => trivial
  | ok d q =>
    rw [hr] at hp
    have hp : S_TreeReader_tree 40 [.io (rO T 0)] = .ok d (some (rO T q)) := hp
    have hi := init_ok T
    dsimp only
    by_cases hq : q = T.length
    · rw [if_pos hq]
      dsimp only
      unfold S_parse_tree B_parse_tree
      rw [run_ap]
      have hp : S_TreeReader_tree 40 [.io (.ins 2 [(k_text, sT T), (k_at, .int 0)])] = .ok d (some (.ins 2 [(k_text, sT T), (k_at, .int q)])) := hp
      have hi : S_TreeReader_init [.io (.ins 2 []), .val (sT T)] = .ok .none (some (.ins 2 [(k_text, sT T), (k_at, .int 0)])) := hi
      simp [hi, hp, l1, hq]
    · rw [if_neg hq]
      dsimp only
      have hq' : ¬ (q : Int) = (T.length : Int) := by omega
      unfold S_parse_tree B_parse_tree
      rw [run_ap]
      have hp : S_TreeReader_tree 40 [.io (.ins 2 [(k_text, sT T), (k_at, .int 0)])] = .ok d (some (.ins 2 [(k_text, sT T), (k_at, .int q)])) := hp
      have hi : S_TreeReader_init [.io (.ins 2 []), .val (sT T)] = .ok .none (some (.ins 2 [(k_text, sT T), (k_at, .int 0)])) := hi
      simp [hi, hp, l1, hq, hq', plc_f]
  | bad q c =>
    rw [hr] at hp
    obtain ⟨o, hp⟩ := hp
    have hp : S_TreeReader_tree 40 [.io (rO T 0)] = .exc ⟨1, [(k_place, .int (plc q c))]⟩ (some o) := hp
    have hi := init_ok T
    dsimp only
    unfold S_parse_tree B_parse_tree
    rw [run_ap]
    have hp : S_TreeReader_tree 40 [.io (.ins 2 [(k_text, sT T), (k_at, .int 0)])] = .exc ⟨1, [(k_place, .int (plc q c))]⟩ (some o) := hp
    have hi : S_TreeReader_init [.io (.ins 2 []), .val (sT T)] = .ok .none (some (.ins 2 [(k_text, sT T), (k_at, .int 0)])) := hi
    simp [hi, hp, l1]
/-- what _law_told, _law_due give -/
theorem told_ok (T : List Nat) (hT : T.length ≤ 100010) : match due T with
    | .out => True
    | .ok d q => S_law_told [.val (sT T)] = .ok d none
    | .bad q c => S_law_told [.val (sT T)] = .ok (.int (plc q c)) none := by
  have hp := parse_ok T hT
  cases hd : due T with
  | out => trivial
  | ok d q =>
    rw [hd] at hp
    dsimp only at hp ⊢
    unfold S_law_told B_law_told
    rw [run_ap]
    simp [sTryRet, hp]
  | bad q c =>
    rw [hd] at hp
    dsimp only at hp ⊢
    unfold S_law_told B_law_told
    rw [run_ap]
    simp [sTryRet, hp, xIf, xIsi, x_is_BadText, xFld, List.lookup]
theorem p_dict (a b c : PyData) : kput (kput (kput [] (.inr k_text) a) (.inr k_at) b) (.inr k_bad) c = [(.inr k_text, a), (.inr k_at, b), (.inr k_bad, c)] := by
  simp [kput, m1, m2, m3]
theorem due_ok (T : List Nat) (hT : T.length ≤ 100010) : match due T with
    | .out => True
    | .ok d q => S_law_due [.val (sT T)] = .ok d none
    | .bad q c => S_law_due [.val (sT T)] = .ok (.int q) none := by
  have l1 : T.length ≤ 16777216 := by omega
  have hp := read_ok T hT 40 0
  unfold due
  cases hr : rd T 40 0 with
  | out => trivial
  | ok d q =>
    rw [hr] at hp
    have hp : S_law_read 40 [.io (.dct [(.inr k_text, sT T), (.inr k_at, .int 0), (.inr k_bad, .bool false)])] = .ok d (some (.dct [(.inr k_text, sT T), (.inr k_at, .int q), (.inr k_bad, .bool false)])) := hp
    dsimp only
    by_cases hq : q = T.length
    · rw [if_pos hq]
      dsimp only
      unfold S_law_due B_law_due
      rw [run_ap]
      simp [p_dict, hp, l1, hq]
    · rw [if_neg hq]
      dsimp only
      have hq' : ¬ (q : Int) = (T.length : Int) := by omega
      unfold S_law_due B_law_due
      rw [run_ap]
      simp [p_dict, hp, l1, hq, hq']
  | bad q c =>
    rw [hr] at hp
    obtain ⟨d, hp⟩ := hp
    have hp : S_law_read 40 [.io (.dct [(.inr k_text, sT T), (.inr k_at, .int 0), (.inr k_bad, .bool false)])] = .ok d (some (.dct [(.inr k_text, sT T), (.inr k_at, .int q), (.inr k_bad, .bool true)])) := hp
    dsimp only
    unfold S_law_due B_law_due
    rw [run_ap]
    simp [p_dict, hp, l1]
end K08

set_option linter.all false
set_option maxRecDepth 100000
set_option maxHeartbeats 4000000
namespace K08
open PySem Bk
/-! ### a tree's text is read -/
def sep1 : List (List Nat × PyData × List Nat) → List Nat
  | [] => []
  | e :: r => [32] ++ row e ++ sep1 r
theorem sep1_len : ∀ es, es.length ≤ (sep1 es).length
  | [] => by simp
  | e :: r => by
    have := sep1_len r
    simp only [sep1, List.length_append, List.length_cons, List.length_nil]
    omega
theorem join_sep (e : List Nat × PyData × List Nat) (r : List (List Nat × PyData × List Nat)) : joinL [32] ((e :: r).map row) = row e ++ sep1 r := by
  induction r generalizing e with
  | nil => simp [joinL, sep1]
  | cons f r ih =>
    show row e ++ [32] ++ joinL [32] ((f :: r).map row) = _
    rw [ih f]
    simp [sep1]
theorem four_fst {nm : List Nat} (h : nm ∈ four) : (∀ c ∈ nm, isLD c = true) ∧ ∃ c r, nm = c :: r ∧ c ∈ letters := by
  simp [four] at h
  rcases h with rfl | rfl | rfl | rfl
  · exact ⟨by decide, _, _, rfl, by decide⟩
  · exact ⟨by decide, _, _, rfl, by decide⟩
  · exact ⟨by decide, _, _, rfl, by decide⟩
  · exact ⟨by decide, _, _, rfl, by decide⟩
theorem drop_get {T w : List Nat} {a : Nat} (h : T.drop a = w) (i : Nat) : T[a + i]? = w[i]? := by rw [← h, List.getElem?_drop]
theorem drop_more {T w : List Nat} {a : Nat} (h : T.drop a = w) (i : Nat) : T.drop (a + i) = w.drop i := by rw [← h, List.drop_drop]
theorem tw_name {nm w : List Nat} (h : ∀ c ∈ nm, isLD c = true) : (nm ++ 58 :: w).takeWhile isLD = nm := by
  induction nm with
  | nil => rfl
  | cons c r ih =>
    rw [List.cons_append, List.takeWhile_cons, h c List.mem_cons_self, if_pos rfl, ih fun x hx => h x (List.mem_cons_of_mem _ hx)]
section
variable (T : List Nat)
theorem step_ok (rdn : Nat → PR) (m : Nat) (f : List (List Nat × PyData)) (b : Nat) (e : List Nat × PyData × List Nat) (w : List Nat) (hd : T.drop b = row e ++ w) (hf : okName f e.1 = true) (h4 : e.1 ∈ four)
    (hr : ∀ a v, T.drop a = e.2.2 ++ v → rdn a = .ok e.2.1 (a + e.2.2.length)) :
    (if isFst T b && okName f ((T.drop b).takeWhile isLD) then
        (if T[b + ((T.drop b).takeWhile isLD).length]? ≠ some 58 then .bad (b + ((T.drop b).takeWhile isLD).length) false
        else if T[b + ((T.drop b).takeWhile isLD).length + 1]? ≠ some 32 then .bad (b + ((T.drop b).takeWhile isLD).length + 1) true
        else match rdn (b + ((T.drop b).takeWhile isLD).length + 1 + 1) with
          | .ok d q => rdL rdn T m (f ++ [((T.drop b).takeWhile isLD, d)]) q
          | .bad q c => .bad q c
          | .out => .out)
      else .bad b false) = rdL rdn T m (f ++ [(e.1, e.2.1)]) (b + (row e).length) := by
  obtain ⟨n1, c, r, hc, hl⟩ := four_fst h4
  have hd1 : T.drop b = e.1 ++ 58 :: (32 :: (e.2.2 ++ w)) := by rw [hd]; simp [row]
  have ht : (T.drop b).takeWhile isLD = e.1 := by rw [hd1]; exact tw_name n1
  have hF : isFst T b = true := by
    have := drop_get hd1 0
    unfold isFst
    rw [Nat.add_zero] at this
    rw [this, hc]
    simp [hl]
  have g1 : T[b + e.1.length]? = some 58 := by rw [drop_get hd1]; simp
  have g2 : T[b + e.1.length + 1]? = some 32 := by rw [Nat.add_assoc, drop_get hd1]; simp
  have g3 : T.drop (b + e.1.length + 1 + 1) = e.2.2 ++ w := by
    rw [show b + e.1.length + 1 + 1 = b + (e.1.length + 2) by omega, drop_more hd1, List.drop_append, List.drop_of_length_le (by omega)]
    simp
  rw [ht, hF, hf, Bool.and_self, if_pos rfl, if_neg (fun z => z g1), if_neg (fun z => z g2), hr _ _ g3]
  dsimp only
  rw [show b + e.1.length + 1 + 1 + e.2.2.length = b + (row e).length by simp [row]; omega]
theorem loop_ok (rdn : Nat → PR) (v : List Nat) : ∀ (es : List (List Nat × PyData × List Nat)) (f : List (List Nat × PyData)) (l : List Nat × PyData) (m a : Nat), T.drop a = sep1 es ++ 125 :: v → es.length < m → (l.1 :: es.map (·.1)).Pairwise (· < ·) → (∀ e ∈ es, e.1 ∈ four) →
    (∀ e ∈ es, ∀ a v, T.drop a = e.2.2 ++ v → rdn a = .ok e.2.1 (a + e.2.2.length)) →
    rdL rdn T m (f ++ [l]) a = .ok (.tuple ((f ++ [l] ++ es.map fun e => (e.1, e.2.1)).map en)) (a + (sep1 es).length + 1)
  | [], f, l, m, a, hd, hm, hp, h4, hr => by
    obtain ⟨m, rfl⟩ : ∃ k, m = k + 1 := ⟨m - 1, by simp at hm; omega⟩
    have g := drop_get hd 0
    unfold rdL
    rw [Nat.add_zero] at g
    rw [if_pos (by rw [g]; rfl)]
    simp [sep1]
  | e :: es, f, l, m, a, hd, hm, hp, h4, hr => by
    obtain ⟨m, rfl⟩ : ∃ k, m = k + 1 := ⟨m - 1, by simp at hm; omega⟩
    simp only [List.length_cons] at hm
    have g := drop_get hd 0
    rw [Nat.add_zero] at g
    have g : T[a]? = some 32 := by rw [g]; simp [sep1]
    have hd1 : T.drop (a + 1) = row e ++ (sep1 es ++ 125 :: v) := by rw [drop_more hd]; simp [sep1]
    have ho : okName (f ++ [l]) e.1 = true := by
      simp only [List.map_cons, List.pairwise_cons] at hp
      have := hp.1 e.1 List.mem_cons_self
      simp [okName, this]
    have st := step_ok T rdn m (f ++ [l]) (a + 1) e _ hd1 ho (h4 e List.mem_cons_self) (hr e List.mem_cons_self)
    have ih := loop_ok rdn v es (f ++ [l]) (e.1, e.2.1) m (a + 1 + (row e).length) (by rw [drop_more hd1]; simp) (by omega) (by simp only [List.map_cons, List.pairwise_cons] at hp ⊢; exact hp.2) (fun x hx => h4 x (List.mem_cons_of_mem _ hx)) (fun x hx => hr x (List.mem_cons_of_mem _ hx))
    unfold rdL
    rw [if_neg (by rw [g]; decide), if_neg (by rw [g]; simp)]
    simp only [isEmpty_snoc, Bool.false_eq_true, if_false]
    refine Eq.trans st (Eq.trans ih ?_)
    simp [sep1]
    omega
theorem rd_text : ∀ (n : Nat) (d : PyData) (x : List Nat), TT n d x → ∀ (k a : Nat) (v : List Nat), T.drop a = x ++ v → rd T (n + k) a = .ok d (a + x.length)
  | 0, _, _, h, _, _, _, _ => h.elim
  | n + 1, d, x, ⟨es, hd, h2, h3, hx⟩, k, a, v, ha => by
    subst hd
    subst hx
    rw [show n + 1 + k = (n + k) + 1 by omega]
    unfold rd
    have g := drop_get ha 0
    rw [Nat.add_zero] at g
    rw [if_pos (by rw [g]; simp)]
    have ha1 : T.drop (a + 1) = joinL [32] (es.map row) ++ 125 :: v := by rw [drop_more ha]; simp
    have hlen : es.length ≤ 4 := by have := h3.length_le; simpa [four] using this
    have hT4 : (joinL [32] (es.map row) ++ 125 :: v).length ≤ T.length := by rw [← ha1, List.length_drop]; omega
    have hr : ∀ e ∈ es, ∀ a v, T.drop a = e.2.2 ++ v → rd T (n + k) a = .ok e.2.1 (a + e.2.2.length) := fun e he a v hv => rd_text n e.2.1 e.2.2 (h2 e he) k a v hv
    have h4 : ∀ e ∈ es, e.1 ∈ four := fun e he => h3.subset (List.mem_map_of_mem (f := (·.1)) he)
    have hp : (es.map (·.1)).Pairwise (· < ·) := List.Pairwise.sublist h3 (by decide)
    cases es with
    | nil =>
      have g := drop_get ha1 0
      rw [Nat.add_zero] at g
      unfold rdL
      rw [if_pos (by rw [g]; simp [joinL])]
      simp [joinL]
    | cons e es =>
      rw [join_sep] at ha1 hT4 ⊢
      have g := drop_get ha1 0
      rw [Nat.add_zero] at g
      obtain ⟨n1, c, r, hc, hl⟩ := four_fst (h4 e List.mem_cons_self)
      have g : T[a + 1]? = some c := by rw [g]; simp [row, hc]
      have hc125 : c ≠ 125 := fun z => by subst z; revert hl; decide
      have ho : okName [] e.1 = true := rfl
      have hd1 : T.drop (a + 1) = row e ++ (sep1 es ++ 125 :: v) := by rw [ha1]; simp
      have st := step_ok T (rd T (n + k)) T.length [] (a + 1) e _ hd1 ho (h4 e List.mem_cons_self) (hr e List.mem_cons_self)
      have hle : es.length < T.length := by
        have := sep1_len es
        simp only [List.length_append, List.length_cons] at hT4
        omega
      have ih := loop_ok T (rd T (n + k)) v es [] (e.1, e.2.1) T.length (a + 1 + (row e).length) (by rw [drop_more hd1]; simp) hle (by simpa using hp) (fun x hx => h4 x (List.mem_cons_of_mem _ hx)) (fun x hx => hr x (List.mem_cons_of_mem _ hx))
      unfold rdL
      rw [if_neg (by rw [g]; simpa using hc125), if_neg (by simp)]
      simp only [List.isEmpty_nil, if_true]
      refine Eq.trans st (Eq.trans ih ?_)
      simp
      omega
end
end K08

set_option linter.all false
set_option maxRecDepth 100000
set_option maxHeartbeats 4000000
namespace K08
open PySem Bk
/-! ### the reading ends -/
/-- a tree of at most n levels, whatever its names -/
def PT : Nat → PyData → Prop
  | 0, _ => False
  | n + 1, d => ∃ fs : List (List Nat × PyData), d = .tuple (fs.map en) ∧ (∀ e ∈ fs, PT n e.2) ∧ fs.length ≤ 100020
theorem tw_mem {p : Nat → Bool} {c : Nat} : ∀ {l : List Nat}, c ∈ l.takeWhile p → p c = true
  | [], h => nomatch h
  | x :: l, h => by
    rw [List.takeWhile_cons] at h
    split at h
    · rcases List.mem_cons.mp h with rfl | h
      · assumption
      · exact tw_mem h
    · cases h
section
variable (T : List Nat)
def dep (n a : Nat) : Prop := ∀ j, op ((T.drop a).take j) ≤ cl ((T.drop a).take j) + n
def even (a s : Nat) : Prop := op ((T.drop a).take s) = cl ((T.drop a).take s)
theorem seg_add (a s t : Nat) : (T.drop a).take (s + t) = (T.drop a).take s ++ (T.drop (a + s)).take t := by
  rw [List.take_add, List.drop_drop]
theorem even_add {a s t : Nat} (h1 : even T a s) (h2 : even T (a + s) t) : even T a (s + t) := by
  unfold even at *
  rw [seg_add, op_app, cl_app, h1, h2]
theorem dep_skip {n a s : Nat} (h : dep T n a) (e : even T a s) : dep T n (a + s) := fun j => by
  have := h (s + j)
  unfold even at e
  rw [seg_add, op_app, cl_app] at this
  omega
theorem even_none {a s : Nat} {w : List Nat} (h : (T.drop a).take s = w) (h1 : 123 ∉ w) (h2 : 125 ∉ w) : even T a s := by
  unfold even
  rw [h, show op w = 0 from List.count_eq_zero.mpr h1, show cl w = 0 from List.count_eq_zero.mpr h2]
theorem even_one {a c : Nat} (h : T[a]? = some c) (h1 : 123 ≠ c) (h2 : 125 ≠ c) : even T a 1 := even_none T (one1.mpr h) (by simpa using h1) (by simpa using h2)
theorem even_name (b : Nat) : even T b ((T.drop b).takeWhile isLD).length := by
  refine even_none T (w := (T.drop b).takeWhile isLD) (List.prefix_iff_eq_take.mp (List.takeWhile_prefix _)).symm (fun h => ?_) fun h => ?_
  · have := tw_mem h
    revert this; decide
  · have := tw_mem h
    revert this; decide
def Bad (q : Nat) (c : Bool) : Prop := q ≤ T.length ∧ (c = true → T[q - 1]? = some 58 ∧ 0 < q)
def FinL (n k a : Nat) (p : PR) : Prop := match p with
  | .out => False
  | .bad q c => Bad T q c
  | .ok d q => a < q ∧ q ≤ T.length ∧ even T a (q - 1 - a) ∧ T[q - 1]? = some 125 ∧ PT (n + 1) d
def FinR (n a : Nat) (p : PR) : Prop := match p with
  | .out => False
  | .bad q c => Bad T q c
  | .ok d q => a < q ∧ q ≤ T.length ∧ even T a (q - a) ∧ PT n d
theorem loop_fin (n : Nat) (rdn : Nat → PR) (k : Nat) (hr : ∀ a, a ≤ T.length → dep T k a → FinR T n a (rdn a)) : ∀ (m : Nat) (f : List (List Nat × PyData)) (a : Nat), a ≤ T.length → T.length + 2 ≤ a + m → dep T k a → f.length + m ≤ 100020 → (∀ e ∈ f, PT n e.2) → FinL T n k a (rdL rdn T m f a) := by
  intro m
  induction m with
  | zero => intro f a ha hm; omega
  | succ m ih =>
    intro f a ha hm hd hf hp
    unfold rdL
    by_cases hb : T[a]? = some 125
    · rw [if_pos hb]
      have hlt := (List.getElem?_eq_some_iff.mp hb).1
      refine ⟨by omega, by omega, ?_, by simpa using hb, f, rfl, hp, by omega⟩
      rw [show a + 1 - 1 - a = 0 by omega]
      exact even_none T (w := []) (by simp) (by simp) (by simp)
    · rw [if_neg hb]
      by_cases hs : f.isEmpty = false ∧ T[a]? ≠ some 32
      · rw [if_pos hs]; exact ⟨ha, fun z => nomatch z⟩
      · rw [if_neg hs]
        have key : ∀ b, a ≤ b → b ≤ T.length → even T a (b - a) → FinL T n k a (if isFst T b && okName f ((T.drop b).takeWhile isLD) then
            (if T[b + ((T.drop b).takeWhile isLD).length]? ≠ some 58 then .bad (b + ((T.drop b).takeWhile isLD).length) false
            else if T[b + ((T.drop b).takeWhile isLD).length + 1]? ≠ some 32 then .bad (b + ((T.drop b).takeWhile isLD).length + 1) true
            else match rdn (b + ((T.drop b).takeWhile isLD).length + 1 + 1) with
              | .ok d q => rdL rdn T m (f ++ [((T.drop b).takeWhile isLD, d)]) q
              | .bad q c => .bad q c
              | .out => .out)
          else .bad b false) := fun b hab hbT he => by
          have hnl : b + ((T.drop b).takeWhile isLD).length ≤ T.length := by
            have := (List.takeWhile_sublist (l := T.drop b) isLD).length_le
            rw [List.length_drop] at this
            omega
          split
          · split
            · exact ⟨hnl, fun z => nomatch z⟩
            · rename_i c1
              split
              · have c1 : T[b + ((T.drop b).takeWhile isLD).length]? = some 58 := Classical.byContradiction c1
                have hlt := (List.getElem?_eq_some_iff.mp c1).1
                exact ⟨by omega, fun _ => ⟨c1, by omega⟩⟩
              · rename_i c2
                have c1 : T[b + ((T.drop b).takeWhile isLD).length]? = some 58 := Classical.byContradiction c1
                have c2 : T[b + ((T.drop b).takeWhile isLD).length + 1]? = some 32 := Classical.byContradiction c2
                have hlt := (List.getElem?_eq_some_iff.mp c2).1
                have e1 := even_name T b
                have e2 := even_one T c1 (by decide) (by decide)
                have e3 := even_one T c2 (by decide) (by decide)
                have e4 : even T a (b + ((T.drop b).takeWhile isLD).length + 1 + 1 - a) := by
                  have z1 : even T a (b - a + ((T.drop b).takeWhile isLD).length) := even_add T he (by rw [show a + (b - a) = b by omega]; exact e1)
                  have z2 : even T a (b - a + ((T.drop b).takeWhile isLD).length + 1) := even_add T z1 (by rw [show a + (b - a + ((T.drop b).takeWhile isLD).length) = b + ((T.drop b).takeWhile isLD).length by omega]; exact e2)
                  have z3 : even T a (b - a + ((T.drop b).takeWhile isLD).length + 1 + 1) := even_add T z2 (by rw [show a + (b - a + ((T.drop b).takeWhile isLD).length + 1) = b + ((T.drop b).takeWhile isLD).length + 1 by omega]; exact e3)
                  rw [show b + ((T.drop b).takeWhile isLD).length + 1 + 1 - a = b - a + ((T.drop b).takeWhile isLD).length + 1 + 1 by omega]
                  exact z3
                have d4 : dep T k (b + ((T.drop b).takeWhile isLD).length + 1 + 1) := by
                  have := dep_skip T hd e4
                  rwa [show a + (b + ((T.drop b).takeWhile isLD).length + 1 + 1 - a) = b + ((T.drop b).takeWhile isLD).length + 1 + 1 by omega] at this
                have hh := hr _ (by omega) d4
                cases hq : rdn (b + ((T.drop b).takeWhile isLD).length + 1 + 1) with
                | out => rw [hq] at hh; exact hh
                | bad q c => rw [hq] at hh; exact hh
                | ok d q =>
                  rw [hq] at hh
                  obtain ⟨g1, g2, g3, g4⟩ := hh
                  have e5 : even T a (q - a) := by
                    have := even_add T e4 (t := q - (b + ((T.drop b).takeWhile isLD).length + 1 + 1)) (by rw [show a + (b + ((T.drop b).takeWhile isLD).length + 1 + 1 - a) = b + ((T.drop b).takeWhile isLD).length + 1 + 1 by omega]; exact g3)
                    rwa [show b + ((T.drop b).takeWhile isLD).length + 1 + 1 - a + (q - (b + ((T.drop b).takeWhile isLD).length + 1 + 1)) = q - a by omega] at this
                  have d5 : dep T k q := by
                    have := dep_skip T hd e5
                    rwa [show a + (q - a) = q by omega] at this
                  have := ih (f ++ [((T.drop b).takeWhile isLD, d)]) q g2 (by omega) d5 (by simp; omega) (fun e he => by
                    rcases List.mem_append.mp he with he | he
                    · exact hp e he
                    · rw [List.mem_singleton] at he; subst he; exact g4)
                  dsimp only
                  cases hl : rdL rdn T m (f ++ [((T.drop b).takeWhile isLD, d)]) q with
                  | out => rw [hl] at this; exact this
                  | bad q c => rw [hl] at this; exact this
                  | ok d2 q2 =>
                    rw [hl] at this
                    obtain ⟨y1, y2, y3, y4, y5⟩ := this
                    refine ⟨by omega, y2, ?_, y4, y5⟩
                    have := even_add T e5 (t := q2 - 1 - q) (by rw [show a + (q - a) = q by omega]; exact y3)
                    rwa [show q - a + (q2 - 1 - q) = q2 - 1 - a by omega] at this
          · exact ⟨hbT, fun z => nomatch z⟩
        by_cases hf0 : f = []
        · subst hf0
          exact key a (Nat.le_refl _) ha (by rw [Nat.sub_self]; exact even_none T (w := []) (by simp) (by simp) (by simp))
        · have hf' : f.isEmpty = false := by simpa using hf0
          have hsp : T[a]? = some 32 := Classical.byContradiction fun z => hs ⟨hf', z⟩
          have hlt := (List.getElem?_eq_some_iff.mp hsp).1
          simp only [hf', Bool.false_eq_true, if_false]
          exact key (a + 1) (by omega) (by omega) (by rw [show a + 1 - a = 1 by omega]; exact even_one T hsp (by decide) (by decide))
theorem rd_fin (hT : T.length ≤ 100010) : ∀ n a, a ≤ T.length → dep T n a → FinR T (n + 1) a (rd T (n + 1) a) := by
  intro n
  induction n with
  | zero =>
    intro a ha hd
    unfold rd
    by_cases h : T[a]? = some 123
    · have := hd 1
      rw [one1.mpr h] at this
      exact absurd this (by decide)
    · rw [if_neg h]; exact ⟨ha, fun z => nomatch z⟩
  | succ n ih =>
    intro a ha hd
    unfold rd
    by_cases h : T[a]? = some 123
    · rw [if_pos h]
      have hlt := (List.getElem?_eq_some_iff.mp h).1
      have hd1 : dep T n (a + 1) := fun j => by
        have := hd (1 + j)
        rw [seg_add, one1.mpr h, op_app, cl_app, show op [123] = 1 from rfl, show cl [123] = 0 from rfl] at this
        omega
      have := loop_fin T (n + 1) (rd T (n + 1)) n ih (T.length + 1) [] (a + 1) (by omega) (by omega) hd1 (by simp; omega) (fun e h => nomatch h)
      cases hl : rdL (rd T (n + 1)) T (T.length + 1) [] (a + 1) with
      | out => rw [hl] at this; exact this
      | bad q c => rw [hl] at this; exact this
      | ok d q =>
        rw [hl] at this
        obtain ⟨y1, y2, y3, y4, y5⟩ := this
        refine ⟨by omega, y2, ?_, y5⟩
        unfold even at y3 ⊢
        have e1 : q - a = 1 + ((q - 1 - (a + 1)) + 1) := by omega
        have e2 : a + 1 + (q - 1 - (a + 1)) = q - 1 := by omega
        rw [e1, seg_add, one1.mpr h, seg_add, e2, one1.mpr y4, op_app, cl_app, op_app, cl_app, y3, show op [123] = 1 from rfl, show cl [123] = 0 from rfl, show op [125] = 0 from rfl, show cl [125] = 1 from rfl]
        omega
    · rw [if_neg h]; exact ⟨ha, fun z => nomatch z⟩
end
theorem due_fin (T : List Nat) (hT : T.length ≤ 100010) (h : Seg 39 T) : match due T with
    | .out => False
    | .ok d q => PT 40 d ∧ q = T.length
    | .bad q c => Bad T q c := by
  have := rd_fin T hT 39 0 (by omega) (fun j => h 0 j)
  unfold due
  cases hr : rd T 40 0 with
  | out => rw [hr] at this; exact this
  | bad q c => rw [hr] at this; exact this
  | ok d q =>
    rw [hr] at this
    dsimp only
    by_cases hq : q = T.length
    · rw [if_pos hq]
      exact ⟨this.2.2.2, hq⟩
    · rw [if_neg hq]; exact ⟨this.2.1, fun z => nomatch z⟩
end K08

set_option linter.all false
set_option maxRecDepth 100000
set_option maxHeartbeats 4000000
namespace K08
open PySem Bk
/-! ### told alike -/
theorem alike_str (m : Nat) (x : List Nat) : S_law_alike (m + 1) [.val (sT x), .val (sT x)] = .ok (.bool true) none := by
  unfold S_law_alike B_law_alike
  rw [run_ap]
  simp [isi_ap, tyName, isiB, isNb]
theorem alike_int (m : Nat) (i : Int) : S_law_alike (m + 1) [.val (.int i), .val (.int i)] = .ok (.bool true) none := by
  unfold S_law_alike B_law_alike
  rw [run_ap]
  simp [isi_ap, tyName, isiB, isNb]
theorem alike_tup (m : Nat) (ps : List PyData) (hl : ps.length ≤ 100020) (h : ∀ p ∈ ps, S_law_alike m [.val p, .val p] = .ok (.bool true) none) : S_law_alike (m + 1) [.val (.tuple ps), .val (.tuple ps)] = .ok (.bool true) none := by
  unfold S_law_alike B_law_alike
  rw [run_ap]
  obtain ⟨e', zs, q1, ⟨s, rfl⟩, q2⟩ := lc_all (ow := [2]) (g := fName 2) (mt := mNotT (mTest (mCall (S_law_alike m) [mOp2 idxD (mVar 0) (mVar 2), mOp2 idxD (mVar 1) (mVar 2)]))) (me := mVar 2)
    (fun e => ∃ s, e = [.val (.tuple ps), .val (.tuple ps), s]) (fun d z => z = none) (intsD 0 ps.length) [.val (.tuple ps), .val (.tuple ps), .un] [] ⟨.un, rfl⟩ (by simp; omega) (by
      rintro d hd e ⟨s, rfl⟩
      obtain ⟨i, hi⟩ := List.getElem?_of_mem hd
      have hip : i < ps.length := by
        have := (List.getElem?_eq_some_iff.mp hi).1
        simpa using this
      rw [intsD_get, if_pos hip] at hi
      cases hi
      have hg : ps[i]? = some ps[i] := List.getElem?_eq_getElem hip
      have ha := h ps[i] (List.getElem_mem _)
      refine ⟨[.val (.tuple ps), .val (.tuple ps), .val (.int (i : Int))], by simp [wipeE], .inl ⟨[.val (.tuple ps), .val (.tuple ps), .val (.int (i : Int))], ?_, ⟨.val (.int (i : Int)), rfl⟩, rfl⟩⟩
      simp [atI_nat, hg, ha])
  have hz : zs.filterMap _root_.id = [] := by
    have : ∀ {ds : List PyData} {zs : List (Option PyData)}, Paired (fun (_ : PyData) (z : Option PyData) => z = none) ds zs → zs.filterMap _root_.id = [] := by
      intro ds
      induction ds with
      | nil => intro zs h; cases h; rfl
      | cons d ds ih =>
        intro zs h
        cases h with
        | cons h1 h2 => subst h1; simpa using ih h2
    exact this q2
  rw [hz] at q1
  have z := small62_of (n := ps.length) (by omega)
  have q1 : lcLoop [2] (fName 2) (mNotT (mTest (mCall (S_law_alike m) [mOp2 idxD (mVar 0) (mVar 2), mOp2 idxD (mVar 1) (mVar 2)]))) (mVar 2) (intsD 0 ps.length) [.val (.tuple ps), .val (.tuple ps), .un] [] = .ok (.lst []) [.val (.tuple ps), .val (.tuple ps), .un] := q1
  simp [isi_ap, tyName, isiB, z, kLcF_ap, q1]
theorem alike_ok : ∀ (n : Nat) (d : PyData) (m : Nat), PT n d → 2 * n + 1 ≤ m → S_law_alike m [.val d, .val d] = .ok (.bool true) none
  | 0, _, _, h, _ => h.elim
  | n + 1, _, m, ⟨fs, hd, h2, h3⟩, hm => by
    subst hd
    obtain ⟨m, rfl⟩ : ∃ k, m = k + 1 + 1 := ⟨m - 2, by omega⟩
    refine alike_tup (m + 1) _ (by simpa using h3) fun p hp => ?_
    obtain ⟨e, he, rfl⟩ := List.mem_map.mp hp
    refine alike_tup m _ (by simp) fun p hp => ?_
    simp only [List.mem_cons, List.not_mem_nil, or_false] at hp
    rcases hp with rfl | rfl
    · obtain ⟨m, rfl⟩ : ∃ k, m = k + 1 := ⟨m - 1, by omega⟩
      exact alike_str m e.1
    · exact alike_ok n e.2 m (h2 e he) (by omega)
theorem colon_int (T : List Nat) (hT : T.length ≤ 100010) (q : Nat) (hq : q ≤ T.length) : S_law_is_colon [.val (sT T), .val (.int q)] = .ok (.bool (decide (0 < q) && decide (T[q - 1]? = some 58))) none := by
  have l1 : T.length ≤ 16777216 := by omega
  unfold S_law_is_colon B_law_is_colon
  rw [run_ap]
  by_cases h : 0 < q
  · have e : (q : Int) - 1 = ((q - 1 : Nat) : Int) := by omega
    have hlt : q - 1 < T.length := by omega
    have h1 : T[q - 1]? = some T[q - 1] := List.getElem?_eq_getElem hlt
    have h' : (0 : Int) < q := by omega
    simp [isi_ap, tyName, isiB, h, h', e, atI_nat, l1, h1]
  · have h' : ¬ (0 : Int) < q := by omega
    simp [isi_ap, tyName, isiB, h, h']
theorem colon_tup (T : List Nat) (ps : List PyData) : S_law_is_colon [.val (sT T), .val (.tuple ps)] = .ok (.bool false) none := by
  unfold S_law_is_colon B_law_is_colon
  rw [run_ap]
  simp [isi_ap, tyName, isiB]
theorem seg0 : Seg 0 [] := fun i j => by simp [op, cl]
/-- the texts that are asked last -/
theorem last_1 : due [] = .bad 0 false := rfl
theorem last_2 : due [123, 98, 58, 32, 123, 125, 32, 97, 58, 32, 123, 125, 125] = .bad 7 false := rfl
theorem last_3 : due [123, 125] = .ok (.tuple []) 2 := rfl
end K08

set_option linter.all false
set_option maxRecDepth 100000
set_option maxHeartbeats 4000000
namespace K08
open PySem Bk
noncomputable section
def CK : SEnv → SR := (sSeq (sAsg (mCall S_law_due [(mVar 6)]) (fName 7)) (sSeq (sAsg (mCall S_law_told [(mVar 6)]) (fName 8)) (sIf (mTest (mCall S_law_is_colon [(mVar 6), (mVar 7)])) (sIf (mOrT (mNotT (mTest (mOp1 (isiD "int") (mVar 8)))) (mTest (mOp2 notInD (mVar 8) (mTup [(mVar 7), (mOp2 subD (mVar 7) (mC (.int 1)))])))) (sRet (mC (.bool false))) sPass) (sIf (mNotT (mTest (mCall (S_law_alike 90) [(mVar 8), (mVar 7)]))) (sRet (mC (.bool false))) sPass))))
def IB : SEnv → SR := (sSeq (sAsg (mCallS S_law_bent 1 [(mVar 4)]) (fName 6)) (sSeq (sIf (mTest (mOp2 eqD (mCallS S_law_next 1 [(mC (.int 3))]) (mC (.int 0)))) (sAsg (mCallS S_law_bent 1 [(mVar 6)]) (fName 6)) sPass) CK))
def OB : SEnv → SR := (sSeq (sAsg (mCallS (S_law_tree 4) 1 [(mC (.int 3))]) (fName 3)) (sSeq (sAsg (mCall (S_law_text 5) [(mVar 3)]) (fName 4)) (sSeq (sIf (mOrT (mNotT (mTest (mCall (S_law_alike 90) [(mCall (S_print_tree 5) [(mVar 3)]), (mVar 4)]))) (mNotT (mTest (mCall (S_law_alike 90) [(mCall S_law_told [(mVar 4)]), (mVar 3)])))) (sRet (mC (.bool false))) sPass) (sFor (mRange1 (mC (.int 5))) (fName 5) IB))))
/-- the two are held against one another -/
theorem check_ok (T : List Nat) (hT : T.length ≤ 100010) (hs : Seg 39 T) (s0 s1 s2 s3 s4 s5 s7 s8 : Sl) (h7 : s7.isIo = false) (h8 : s8.isIo = false) : ∃ d7 d8, CK [s0, s1, s2, s3, s4, s5, .val (sT T), s7, s8] = .nx [s0, s1, s2, s3, s4, s5, .val (sT T), .val d7, .val d8] := by
  have hf := due_fin T hT hs
  have ht := told_ok T hT
  have hd := due_ok T hT
  cases hr : due T with
  | out => rw [hr] at hf; exact hf.elim
  | ok d q =>
    rw [hr] at hf ht hd
    dsimp only at hf ht hd
    obtain ⟨hp, _⟩ := hf
    have ha := alike_ok 40 d 90 hp (by omega)
    obtain ⟨fs, rfl, _⟩ := hp
    have hc := colon_tup T (fs.map en)
    refine ⟨.tuple (fs.map en), .tuple (fs.map en), ?_⟩
    unfold CK
    simp [hd, ht, hc, ha, h7, h8]
  | bad q c =>
    rw [hr] at hf ht hd
    dsimp only at hf ht hd
    obtain ⟨hq, hcol⟩ := hf
    have hc := colon_int T hT q hq
    refine ⟨.int q, .int (plc q c), ?_⟩
    unfold CK
    by_cases hk : (decide (0 < q) && decide (T[q - 1]? = some 58)) = true
    · rw [hk] at hc
      have hin : (q : Int) = plc q c ∨ (q : Int) - 1 = plc q c := by
        cases c with
        | false => exact .inl rfl
        | true => exact .inr rfl
      simp [hd, ht, hc, h7, h8, isi_ap, tyName, isiB, notInD, inD, flatD, PyData.eqv]
      rw [show (!(q : Int) == plc q c && !(q : Int) - 1 == plc q c) = false by rcases hin with h | h <;> simp [h]]
      simp
    · have hk' : (decide (0 < q) && decide (T[q - 1]? = some 58)) = false := by simpa using hk
      rw [hk'] at hc
      have hcf : c = false := by
        cases c with
        | false => rfl
        | true =>
          obtain ⟨z1, z2⟩ := hcol rfl
          simp [z1, z2] at hk
      subst hcf
      have ha := alike_int 89 (q : Int)
      simp [hd, ht, hc, ha, h7, h8, plc_f]
theorem inner_ok (ds : List Int) (a : Nat) (T : List Nat) (hT : T.length ≤ 7502) (hs : Seg 5 T) (s0 s2 s3 s5 s6 s7 s8 : Sl) (h6 : s6.isIo = false) (h7 : s7.isIo = false) (h8 : s8.isIo = false) :
    ∃ a' d6 d7 d8, IB [s0, .own (wO ds a), s2, s3, .val (sT T), s5, s6, s7, s8] = .nx [s0, .own (wO ds a'), s2, s3, .val (sT T), s5, .val d6, .val d7, .val d8] := by
  obtain ⟨t1, a1, b1, b2, b3⟩ := bent_ok ds a T (by omega)
  obtain ⟨r, c1, c2⟩ := next_ok ds a1 3 (by omega)
  have c2 : S_law_next [.io (wO ds a1), .val (.int 3)] = .ok (.int r) (some (wO ds (a1 + 1))) := c2
  by_cases hr : r = 0
  · obtain ⟨t2, a2, e1, e2, e3⟩ := bent_ok ds (a1 + 1) t1 (by omega)
    obtain ⟨d7, d8, g⟩ := check_ok t2 (by omega) ((e3 _ (b3 _ hs)).mono (by omega)) s0 (.own (wO ds a2)) s2 s3 (.val (sT T)) s5 s7 s8 h7 h8
    refine ⟨a2, sT t2, d7, d8, ?_⟩
    unfold IB
    simp [b1, c2, hr, e1, g, h6]
  · obtain ⟨d7, d8, g⟩ := check_ok t1 (by omega) ((b3 _ hs).mono (by omega)) s0 (.own (wO ds (a1 + 1))) s2 s3 (.val (sT T)) s5 s7 s8 h7 h8
    refine ⟨a1 + 1, sT t1, d7, d8, ?_⟩
    unfold IB
    simp [b1, c2, hr, g, h6]
theorem outer_ok (ds : List Int) (a : Nat) (s0 s2 s3 s4 s5 s6 s7 s8 : Sl) (h3 : s3.isIo = false) (h4 : s4.isIo = false) (h5 : s5.isIo = false) (h6 : s6.isIo = false) (h7 : s7.isIo = false) (h8 : s8.isIo = false) :
    ∃ a' t3 t4 t5 t6 t7 t8, OB [s0, .own (wO ds a), s2, s3, s4, s5, s6, s7, s8] = .nx [s0, .own (wO ds a'), s2, t3, t4, t5, t6, t7, t8] ∧ t3.isIo = false ∧ t4.isIo = false ∧ t5.isIo = false ∧ t6.isIo = false ∧ t7.isIo = false ∧ t8.isIo = false := by
  obtain ⟨t, x, a1, b1, b2⟩ := tree_ok ds 3 a
  have b1 : S_law_tree 4 [.io (wO ds a), .val (.int 3)] = .ok t (some (wO ds a1)) := b1
  have e1 := text_ok 5 t x 5 b2 (by omega) (by omega)
  have e2 := print_ok 5 t x 5 b2 (by omega) (by omega)
  have hx : x.length ≤ 7502 := Nat.le_trans (TT_len b2) (bnd_mono (by omega))
  have hseg : Seg 5 x := (TT_bal b2).seg
  have hr := rd_text x 5 t x b2 35 0 [] (by simp)
  have hdue : due x = .ok t x.length := by
    unfold due
    rw [show 5 + 35 = 40 from rfl] at hr
    rw [hr]
    simp
  have hf := due_fin x (by omega) (hseg.mono (by omega))
  have ht := told_ok x (by omega)
  rw [hdue] at hf ht
  dsimp only at hf ht
  have ha1 := alike_str 89 x
  have ha2 := alike_ok 40 t 90 hf.1 (by omega)
  obtain ⟨e', q1, ⟨a2, k, t6, t7, t8, rfl, g5, g6, g7, g8⟩⟩ := fLoop_inv (g := fName 5) (b := IB) (fun _ e => ∃ a k t6 t7 t8, e = [s0, .own (wO ds a), s2, .val t, .val (sT x), k, t6, t7, t8] ∧ k.isIo = false ∧ t6.isIo = false ∧ t7.isIo = false ∧ t8.isIo = false) (intsD 0 5) 0 [s0, .own (wO ds a1), s2, .val t, .val (sT x), s5, s6, s7, s8] ⟨a1, s5, s6, s7, s8, rfl, h5, h6, h7, h8⟩ (by
    rintro i d e hi ⟨a, k, t6, t7, t8, rfl, g5, g6, g7, g8⟩
    obtain ⟨a', d6, d7, d8, g⟩ := inner_ok ds a x hx hseg s0 s2 (.val t) (.val d) t6 t7 t8 g6 g7 g8
    exact ⟨[s0, .own (wO ds a), s2, .val t, .val (sT x), .val d, t6, t7, t8], _, by simp [g5], g, a', .val d, .val d6, .val d7, .val d8, rfl, rfl, rfl, rfl, rfl⟩)
  refine ⟨a2, .val t, .val (sT x), k, t6, t7, t8, ?_, rfl, rfl, g5, g6, g7, g8⟩
  have z : small62 5 = true := by decide
  unfold OB
  simp [b1, e1, e2, ha1, ha2, ht, h3, h4, z, q1]
theorem w_dict (a b : PyData) : kput (kput [] (.inr k_draws) a) (.inr k_at) b = [(.inr k_draws, a), (.inr k_at, b)] := by
  simp [kput, n1, n2]
theorem plain (ns : List Int) (hn : ns.length ≤ 63) : ∃ o, S_law [.val (.list (ns.map .int))] = .ok (.bool true) o := by
  obtain ⟨ds, hd⟩ := draws_ok ns hn
  obtain ⟨e', q1, ⟨a2, t2, t3, t4, t5, t6, t7, t8, rfl, g2, g3, g4, g5, g6, g7, g8⟩⟩ := fLoop_inv (g := fName 2) (b := OB) (fun _ e => ∃ a t2 t3 t4 t5 t6 t7 t8, e = [.val (.list (ns.map .int)), .own (wO ds a), t2, t3, t4, t5, t6, t7, t8] ∧ t2.isIo = false ∧ t3.isIo = false ∧ t4.isIo = false ∧ t5.isIo = false ∧ t6.isIo = false ∧ t7.isIo = false ∧ t8.isIo = false) (intsD 0 6) 0
    [.val (.list (ns.map .int)), .own (wO ds 0), .un, .un, .un, .un, .un, .un, .un] ⟨0, .un, .un, .un, .un, .un, .un, .un, rfl, rfl, rfl, rfl, rfl, rfl, rfl, rfl⟩ (by
    rintro i d e hi ⟨a, t2, t3, t4, t5, t6, t7, t8, rfl, g2, g3, g4, g5, g6, g7, g8⟩
    obtain ⟨a', u3, u4, u5, u6, u7, u8, g, v3, v4, v5, v6, v7, v8⟩ := outer_ok ds a (.val (.list (ns.map .int))) (.val d) t3 t4 t5 t6 t7 t8 g3 g4 g5 g6 g7 g8
    exact ⟨[.val (.list (ns.map .int)), .own (wO ds a), .val d, t3, t4, t5, t6, t7, t8], _, by simp [g2], g, a', .val d, u3, u4, u5, u6, u7, u8, rfl, rfl, v3, v4, v5, v6, v7, v8⟩)
  have k1 := told_ok [] (by simp)
  have k2 := told_ok [123, 98, 58, 32, 123, 125, 32, 97, 58, 32, 123, 125, 125] (by simp)
  have k3 := told_ok [123, 125] (by simp)
  rw [last_1] at k1
  rw [last_2] at k2
  rw [last_3] at k3
  have k1 : S_law_told [.val (sT [])] = .ok (.int 0) none := k1
  have k2 : S_law_told [.val (sT [123, 98, 58, 32, 123, 125, 32, 97, 58, 32, 123, 125, 125])] = .ok (.int 7) none := k2
  have k3 : S_law_told [.val (sT [123, 125])] = .ok (.tuple []) none := k3
  have j1 := alike_int 89 0
  have j2 := alike_int 89 7
  have j3 := alike_tup 89 [] (by simp) (fun p h => nomatch h)
  have z : small62 6 = true := by decide
  refine ⟨ioOf [.val (.list (ns.map .int)), .own (wO ds a2), t2, t3, t4, t5, t6, t7, t8], ?_⟩
  have q1 : fLoop (fName 2) OB (intsD 0 6) [.val (.list (ns.map .int)), .own (.dct [(.inr k_draws, .list (ds.map .int)), (.inr k_at, .int 0)]), .un, .un, .un, .un, .un, .un, .un] = .nx [.val (.list (ns.map .int)), .own (wO ds a2), t2, t3, t4, t5, t6, t7, t8] := q1
  unfold OB IB CK at q1
  unfold S_law B_law
  rw [run_ap]
  simp [hd, w_dict, z, q1, k1, k2, k3, j1, j2, j3]
end
end K08

open PySem PySem.W PyProof.Rows
set_option maxRecDepth 100000 in
set_option maxHeartbeats 0 in
theorem PySem.Challenge.cw_backlook_k08_texts_of_trees_holds : PySem.Challenge.rw_backlook_k08_texts_of_trees.Holds := by
  w_on; o_law; k_head; (case hw => w_witness2)
  k_fill
  refine Bk.law_walk (l := PySem.Challenge.rw_backlook_k08_texts_of_trees) (k := 92) (sem := K08.S_law) rfl ⟨rfl, by decide, by decide⟩ rfl (fun w h Y => PySem.W.kIn_of Y) ?F K08.plain
  case F =>
    intro w mg fa h KX G hmg
    refine' K08.all_mk KX G hmg ?aC_LookError ?aC_BadText ?aC_TreeReader ?z_abs ?z_bool ?z_int ?z_isinstance ?z_len ?z_range ?z_str ?z_tuple ?g_DIGITS ?g_LETTERS ?xL_BadText ?sa_BadText ?eC_BadText ?tC_BadText ?kC_BadText ?ai_BadText ?ty_BadText ?no_BadText ?sp_LookError ?rd_LookError ?vi_LookError ?ga_BadText ?gg_BadText ?hD_BadText ?cc_BadText ?mo_BadText ?ss_BadText ?zGet ?zTak ?iL_LookError ?tL_LookError ?eL_LookError ?su_BadText_LookError ?iD_BadText ?tD_BadText ?si_BadText_BadText ?pg_TreeReader ?hd_TreeReader ?po_TreeReader ?sa_TreeReader ?mk_TreeReader ?kc_TreeReader ?am_TreeReader_init ?im_TreeReader_init ?am_TreeReader_need ?im_TreeReader_need ?am_TreeReader_name ?im_TreeReader_name ?am_TreeReader_tree ?im_TreeReader_tree ?na_TreeReader_at ?na_TreeReader_text ?l0 ?c0 ?k0 ?a1 ?l1 ?c1 ?k1 ?l2 ?c2 ?k2 ?l3 ?c3 ?k3 ?l4 ?c4 ?k4 ?l5 ?c5 ?k5 ?a6 ?l6 ?c6 ?k6 ?a7 ?l7 ?c7 ?k7 ?a8 ?l8 ?c8 ?k8 ?a9 ?l9 ?c9 ?k9 ?a10 ?l10 ?c10 ?k10 ?a11 ?l11 ?c11 ?k11 ?a12 ?l12 ?c12 ?k12 ?a13 ?l13 ?c13 ?k13 ?a14 ?l14 ?c14 ?k14 ?a15 ?l15 ?c15 ?k15 ?a16 ?l16 ?c16 ?k16 ?a17 ?l17 ?c17 ?k17 ?a18 ?l18 ?c18 ?k18 ?a19 ?l19 ?c19 ?k19
    (case aC_LookError => k_is)
    (case aC_BadText => k_is)
    (case aC_TreeReader => k_is)
    (case z_abs => k_is)
    (case z_bool => k_is)
    (case z_int => k_is)
    (case z_isinstance => k_is)
    (case z_len => k_is)
    (case z_range => k_is)
    (case z_str => k_is)
    (case z_tuple => k_is)
    (case g_DIGITS => k_is)
    (case g_LETTERS => k_is)
    (case xL_BadText => k_is)
    (case sa_BadText => k_is)
    (case eC_BadText => k_is)
    (case tC_BadText => k_is)
    (case kC_BadText => k_is)
    (case ai_BadText => k_is)
    (case ty_BadText => k_is)
    (case no_BadText => k_is)
    (case sp_LookError => k_is)
    (case rd_LookError => k_is)
    (case vi_LookError => k_is)
    (case ga_BadText => k_is)
    (case gg_BadText => k_is)
    (case hD_BadText => k_is)
    (case cc_BadText => k_is)
    (case mo_BadText => k_is)
    (case ss_BadText => k_is)
    (case zGet => k_is)
    (case zTak => k_is)
    (case iL_LookError => k_is)
    (case tL_LookError => k_is)
    (case eL_LookError => k_is)
    (case su_BadText_LookError => k_is)
    (case iD_BadText => k_is)
    (case tD_BadText => k_is)
    (case si_BadText_BadText => k_is)
    (case pg_TreeReader => k_is)
    (case hd_TreeReader => k_is)
    (case po_TreeReader => k_is)
    (case sa_TreeReader => k_is)
    (case mk_TreeReader => k_is)
    (case kc_TreeReader => k_is)
    (case am_TreeReader_init => k_is)
    (case im_TreeReader_init => k_is)
    (case am_TreeReader_need => k_is)
    (case im_TreeReader_need => k_is)
    (case am_TreeReader_name => k_is)
    (case im_TreeReader_name => k_is)
    (case am_TreeReader_tree => k_is)
    (case im_TreeReader_tree => k_is)
    (case na_TreeReader_at => k_is)
    (case na_TreeReader_text => k_is)
    (case l0 => k_is)
    (case c0 => k_is)
    (case k0 => k_is)
    (case a1 => k_is)
    (case l1 => k_is)
    (case c1 => k_is)
    (case k1 => k_is)
    (case l2 => k_is)
    (case c2 => k_is)
    (case k2 => k_is)
    (case l3 => k_is)
    (case c3 => k_is)
    (case k3 => k_is)
    (case l4 => k_is)
    (case c4 => k_is)
    (case k4 => k_is)
    (case l5 => k_is)
    (case c5 => k_is)
    (case k5 => k_is)
    (case a6 => k_is)
    (case l6 => k_is)
    (case c6 => k_is)
    (case k6 => k_is)
    (case a7 => k_is)
    (case l7 => k_is)
    (case c7 => k_is)
    (case k7 => k_is)
    (case a8 => k_is)
    (case l8 => k_is)
    (case c8 => k_is)
    (case k8 => k_is)
    (case a9 => k_is)
    (case l9 => k_is)
    (case c9 => k_is)
    (case k9 => k_is)
    (case a10 => k_is)
    (case l10 => k_is)
    (case c10 => k_is)
    (case k10 => k_is)
    (case a11 => k_is)
    (case l11 => k_is)
    (case c11 => k_is)
    (case k11 => k_is)
    (case a12 => k_is)
    (case l12 => k_is)
    (case c12 => k_is)
    (case k12 => k_is)
    (case a13 => k_is)
    (case l13 => k_is)
    (case c13 => k_is)
    (case k13 => k_is)
    (case a14 => k_is)
    (case l14 => k_is)
    (case c14 => k_is)
    (case k14 => k_is)
    (case a15 => k_is)
    (case l15 => k_is)
    (case c15 => k_is)
    (case k15 => k_is)
    (case a16 => k_is)
    (case l16 => k_is)
    (case c16 => k_is)
    (case k16 => k_is)
    (case a17 => k_is)
    (case l17 => k_is)
    (case c17 => k_is)
    (case k17 => k_is)
    (case a18 => k_is)
    (case l18 => k_is)
    (case c18 => k_is)
    (case k18 => k_is)
    (case a19 => k_is)
    (case l19 => k_is)
    (case c19 => k_is)
    (case k19 => k_is)

