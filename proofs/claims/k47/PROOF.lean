import PyProof.Rows.All
import Wide.All
import OpenK.AllK
import Wide.FinOn
import HandS.ForMost
import HandS.TupAny
import HandS.Deep
import HandS.IsInst
import HandS.SortKw
import HandS.Conv
import HandS.More
import HandS.SortInts
import HandS.TupLe
import PySem.Challenge.RW_openrules_k47_lower_bounds
set_option Elab.async false
set_option linter.all false
set_option maxRecDepth 100000
namespace DL
open PySem PySem.Spec PyProof.Rows L2

/-! values by value; mutable things by number -/
inductive D where
  | non | bl (b : Bool) | int (i : Int) | str (x : Str) | tup (ds : List D) | fl (ds : List D) | ref (n : Nat)
inductive Cell where
  | lst (ds : List D) | dic (kvs : List (Key × D))
abbrev DHeap := List Cell
abbrev DEnv := List (Option D)
inductive Res (α : Type) where
  | ok (a : α) (h : DHeap) | bad
def Res.bind {α β : Type} (r : Res α) (k : α → DHeap → Res β) : Res β := match r with | .ok a h => k a h | .bad => .bad

/-- a list that nobody may change -/
def FrL (K : PySem.W.Frag) (H : Hp) (a : Addr) (xs : List V) : Prop :=
  (∃ o, H a = some (.frz o (.lst xs))) ∨
    ∃ (o : Obj) (its : Array Value) (n : Nat), K.lookup a = some o ∧ o.cls = .type "list" ∧ o.dict = none ∧ o.data = .seq its n ∧ its.size ≤ sizeLine ∧ Vals xs its.toList
theorem FrL.sq {K : PySem.W.Frag} {H : Hp} {a : Addr} {xs : List V} (h : FrL K H a xs) : SqL K H a xs := by
  rcases h with ⟨o, h⟩ | h
  · exact .inl (.inr ⟨o, h⟩)
  · exact .inr h

mutual
def RV (K : PySem.W.Frag) (H : Hp) (ρ : List Addr) : D → V → Prop
  | .non, v => v = .non
  | .bl b, v => v = .bl b
  | .int i, v => v = .int i
  | .str x, v => v = .str x
  | .tup ds, v => ∃ a xs, v = .ref a ∧ SqT K H a xs ∧ RVs K H ρ ds xs
  | .fl ds, v => ∃ a xs, v = .ref a ∧ FrL K H a xs ∧ RVs K H ρ ds xs
  | .ref n, v => ∃ a, v = .ref a ∧ ρ[n]? = some a
def RVs (K : PySem.W.Frag) (H : Hp) (ρ : List Addr) : List D → List V → Prop
  | [], xs => xs = []
  | d :: ds, xs => ∃ y ys, xs = y :: ys ∧ RV K H ρ d y ∧ RVs K H ρ ds ys
end

def isM : Option HO → Bool
  | some (.lst _) => true
  | some (.dK _) => true
  | _ => false
structure Ext (H : Hp) (ρ : List Addr) (H' : Hp) (ρ' : List Addr) : Prop where
  pre : ∀ (n : Nat) (a : Addr), ρ[n]? = some a → ρ'[n]? = some a
  keep : ∀ b o, H b = some o → b ∉ ρ → H' b = some o
  fresh : ∀ b, b ∈ ρ' → b ∉ ρ → H b = none
  mu : ∀ b, b ∈ ρ → isM (H b) = true
theorem Ext.sqT {K : PySem.W.Frag} {H H' : Hp} {ρ ρ' : List Addr} (e : Ext H ρ H' ρ') {a : Addr} {xs : List V} (h : SqT K H a xs) : SqT K H' a xs := by
  rcases h with (h | ⟨o, h⟩) | h
  · exact .inl (.inl (e.keep _ _ h fun m => by have q := e.mu _ m; rw [h] at q; cases q))
  · exact .inl (.inr ⟨o, e.keep _ _ h fun m => by have q := e.mu _ m; rw [h] at q; cases q⟩)
  · exact .inr h
theorem Ext.frL {K : PySem.W.Frag} {H H' : Hp} {ρ ρ' : List Addr} (e : Ext H ρ H' ρ') {a : Addr} {xs : List V} (h : FrL K H a xs) : FrL K H' a xs := by
  rcases h with ⟨o, h⟩ | h
  · exact .inl ⟨o, e.keep _ _ h fun m => by have q := e.mu _ m; rw [h] at q; cases q⟩
  · exact .inr h
structure Kp (K : PySem.W.Frag) (H : Hp) (ρ : List Addr) (H' : Hp) (ρ' : List Addr) : Prop where
  sqT : ∀ (a : Addr) (xs : List V), SqT K H a xs → SqT K H' a xs
  frL : ∀ (a : Addr) (xs : List V), FrL K H a xs → FrL K H' a xs
  pre : ∀ (n : Nat) (a : Addr), ρ[n]? = some a → ρ'[n]? = some a
mutual
theorem RV.kp {K : PySem.W.Frag} {H H' : Hp} {ρ ρ' : List Addr} (e : Kp K H ρ H' ρ') : ∀ (d : D) (v : V), RV K H ρ d v → RV K H' ρ' d v
  | .non, _, h => h
  | .bl _, _, h => h
  | .int _, _, h => h
  | .str _, _, h => h
  | .tup ds, v, h => by
    obtain ⟨a, xs, h1, h2, h3⟩ := h
    exact ⟨a, xs, h1, e.sqT _ _ h2, RVs.kp e ds xs h3⟩
  | .fl ds, v, h => by
    obtain ⟨a, xs, h1, h2, h3⟩ := h
    exact ⟨a, xs, h1, e.frL _ _ h2, RVs.kp e ds xs h3⟩
  | .ref n, v, h => by
    obtain ⟨a, h1, h2⟩ := h
    exact ⟨a, h1, e.pre _ _ h2⟩
theorem RVs.kp {K : PySem.W.Frag} {H H' : Hp} {ρ ρ' : List Addr} (e : Kp K H ρ H' ρ') : ∀ (ds : List D) (xs : List V), RVs K H ρ ds xs → RVs K H' ρ' ds xs
  | [], _, h => h
  | d :: ds, xs, h => by
    obtain ⟨y, ys, h1, h2, h3⟩ := h
    exact ⟨y, ys, h1, RV.kp e d y h2, RVs.kp e ds ys h3⟩
end
theorem Ext.kp {K : PySem.W.Frag} {H H' : Hp} {ρ ρ' : List Addr} (e : Ext H ρ H' ρ') : Kp K H ρ H' ρ' := ⟨fun _ _ h => e.sqT h, fun _ _ h => e.frL h, e.pre⟩
theorem RV.mono {K : PySem.W.Frag} {H H' : Hp} {ρ ρ' : List Addr} (e : Ext H ρ H' ρ') (d : D) (v : V) (h : RV K H ρ d v) : RV K H' ρ' d v := RV.kp e.kp d v h
theorem RVs.mono {K : PySem.W.Frag} {H H' : Hp} {ρ ρ' : List Addr} (e : Ext H ρ H' ρ') (ds : List D) (xs : List V) (h : RVs K H ρ ds xs) : RVs K H' ρ' ds xs := RVs.kp e.kp ds xs h

def RKVs (K : PySem.W.Frag) (H : Hp) (ρ : List Addr) (kvs : List (Key × D)) (vs : List (Key × V)) : Prop :=
  kvs.map (·.1) = vs.map (·.1) ∧ RVs K H ρ (kvs.map (·.2)) (vs.map (·.2))
def RC (K : PySem.W.Frag) (H : Hp) (ρ : List Addr) : Cell → Option HO → Prop
  | .lst ds, o => ∃ xs, o = some (.lst xs) ∧ RVs K H ρ ds xs
  | .dic kvs, o => ∃ vs, o = some (.dK vs) ∧ RKVs K H ρ kvs vs
theorem RC.isM {K : PySem.W.Frag} {H : Hp} {ρ : List Addr} {c : Cell} {o : Option HO} (h : RC K H ρ c o) : isM o = true := by
  cases c with
  | lst ds => obtain ⟨xs, rfl, _⟩ := h; rfl
  | dic kvs => obtain ⟨vs, rfl, _⟩ := h; rfl
theorem RC.kp {K : PySem.W.Frag} {H H' : Hp} {ρ ρ' : List Addr} (e : Kp K H ρ H' ρ') {c : Cell} {o : Option HO} (h : RC K H ρ c o) : RC K H' ρ' c o := by
  cases c with
  | lst ds => obtain ⟨xs, h1, h2⟩ := h; exact ⟨xs, h1, RVs.kp e _ _ h2⟩
  | dic kvs => obtain ⟨vs, h1, h2, h3⟩ := h; exact ⟨vs, h1, h2, RVs.kp e _ _ h3⟩
theorem RC.mono {K : PySem.W.Frag} {H H' : Hp} {ρ ρ' : List Addr} (e : Ext H ρ H' ρ') {c : Cell} {o : Option HO} (h : RC K H ρ c o) : RC K H' ρ' c o := h.kp e.kp

structure RH (K : PySem.W.Frag) (H : Hp) (ρ : List Addr) (h : DHeap) : Prop where
  len : ρ.length = h.length
  nd : ρ.Nodup
  at_ : ∀ (n : Nat) (c : Cell) (a : Addr), h[n]? = some c → ρ[n]? = some a → RC K H ρ c (H a)
theorem RH.mu {K : PySem.W.Frag} {H : Hp} {ρ : List Addr} {h : DHeap} (r : RH K H ρ h) : ∀ b, b ∈ ρ → isM (H b) = true := fun b hb => by
  obtain ⟨n, hn, e⟩ := List.mem_iff_getElem.mp hb
  have e' : ρ[n]? = some b := by rw [List.getElem?_eq_getElem hn, e]
  have hn' : n < h.length := by rw [← r.len]; exact hn
  exact (r.at_ n h[n] b (List.getElem?_eq_getElem hn') e').isM
theorem RH.ext {K : PySem.W.Frag} {H : Hp} {ρ : List Addr} {h : DHeap} (r : RH K H ρ h) : Ext H ρ H ρ :=
  ⟨fun _ _ e => e, fun _ _ e _ => e, fun b m n => absurd m n, r.mu⟩
theorem RH.addr {K : PySem.W.Frag} {H : Hp} {ρ : List Addr} {h : DHeap} (r : RH K H ρ h) {n : Nat} {c : Cell} (e : h[n]? = some c) : ∃ a, ρ[n]? = some a := by
  have hn : n < ρ.length := by rw [r.len]; exact (List.getElem?_eq_some_iff.mp e).1
  exact ⟨_, List.getElem?_eq_getElem hn⟩
theorem Ext.trans {H H1 H2 : Hp} {ρ ρ1 ρ2 : List Addr} (a : Ext H ρ H1 ρ1) (b : Ext H1 ρ1 H2 ρ2) : Ext H ρ H2 ρ2 where
  pre := fun n x e => b.pre _ _ (a.pre _ _ e)
  keep := fun c o e m => b.keep c o (a.keep c o e m) fun m1 => by rw [a.fresh c m1 m] at e; cases e
  fresh := fun c m2 m => by
    by_cases m1 : c ∈ ρ1
    · exact a.fresh c m1 m
    · cases q : H c with
      | none => rfl
      | some o => have := b.fresh c m2 m1; rw [a.keep c o q m] at this; cases this
  mu := a.mu

/-- a list of ours, that no number tells, is changed -/
theorem Kp.other {K : PySem.W.Frag} {H : Hp} {ρ : List Addr} {p : Addr} {o o' : HO} (hp : H p = some o) (hm : isM (some o) = true) : Kp K H ρ (upd H p o') ρ := by
  have ne : ∀ b u, H b = some u → isM (some u) = false → b ≠ p := fun b u e m z => by
    subst z
    rw [hp] at e
    cases e
    rw [hm] at m
    cases m
  refine ⟨fun a xs h => ?_, fun a xs h => ?_, fun _ _ e => e⟩
  · rcases h with (h | ⟨u, h⟩) | h
    · exact .inl (.inl (by rw [upd_ne (ne _ _ h rfl)]; exact h))
    · exact .inl (.inr ⟨u, by rw [upd_ne (ne _ _ h rfl)]; exact h⟩)
    · exact .inr h
  · rcases h with ⟨u, h⟩ | h
    · exact .inl ⟨u, by rw [upd_ne (ne _ _ h rfl)]; exact h⟩
    · exact .inr h
theorem RH.other {K : PySem.W.Frag} {H : Hp} {ρ : List Addr} {h : DHeap} (r : RH K H ρ h) {p : Addr} {o o' : HO} (hp : H p = some o) (hm : isM (some o) = true) (np : p ∉ ρ) : RH K (upd H p o') ρ h := by
  refine ⟨r.len, r.nd, fun n d a e1 e2 => ?_⟩
  rw [upd_ne (show a ≠ p from fun e => np (by rw [← e]; exact List.mem_of_getElem? e2))]
  exact (r.at_ n d a e1 e2).kp (Kp.other hp hm)
/-- a list of ours gets a number -/
theorem RH.adopt {K : PySem.W.Frag} {H0 H : Hp} {ρ0 ρ : List Addr} {h : DHeap} (r : RH K H ρ h) (e : Ext H0 ρ0 H ρ) {p : Addr} {o : HO} {c : Cell} (h0 : H0 p = none) (hp : H p = some o) (np : p ∉ ρ) (hc : RC K H ρ c (some o)) :
    Ext H0 ρ0 H (ρ ++ [p]) ∧ RH K H (ρ ++ [p]) (h ++ [c]) := by
  have kp : Kp K H ρ H (ρ ++ [p]) := ⟨fun _ _ h => h, fun _ _ h => h, fun n a e => by rw [List.getElem?_append_left (List.getElem?_eq_some_iff.mp e).1]; exact e⟩
  refine ⟨⟨fun n a q => kp.pre _ _ (e.pre _ _ q), e.keep, fun b m n => ?_, e.mu⟩, ⟨by rw [List.length_append, List.length_append, r.len]; rfl, ?_, fun n d a e1 e2 => ?_⟩⟩
  · rcases List.mem_append.mp m with m | m
    · exact e.fresh b m n
    · rw [List.mem_singleton.mp m]; exact h0
  · refine List.nodup_append.mpr ⟨r.nd, by simp, fun a ha b hb => ?_⟩
    rw [List.mem_singleton.mp hb]
    exact fun z => np (z ▸ ha)
  · by_cases hn : n < h.length
    · rw [List.getElem?_append_left hn] at e1
      rw [List.getElem?_append_left (by rw [r.len]; exact hn)] at e2
      exact (r.at_ n d a e1 e2).kp kp
    · have hn1 : n < h.length + 1 := by have := (List.getElem?_eq_some_iff.mp e1).1; simpa using this
      have hn2 : n = h.length := by omega
      subst hn2
      rw [List.getElem?_append_right (Nat.le_refl _)] at e1
      rw [List.getElem?_append_right (by rw [r.len]; exact Nat.le_refl _), r.len] at e2
      simp at e1 e2
      subst e1; subst e2
      rw [hp]
      exact hc.kp kp

/-- the names -/
def RE (K : PySem.W.Frag) (H : Hp) (ρ : List Addr) (σd : DEnv) (σ : L2.St) : Prop :=
  σd.length = σ.length ∧ ∀ (i : Nat) (d : D), σd[i]? = some (some d) → ∃ v, σ[i]? = some (some v) ∧ RV K H ρ d v
theorem RE.mono {K : PySem.W.Frag} {H H' : Hp} {ρ ρ' : List Addr} (e : Ext H ρ H' ρ') {σd : DEnv} {σ : L2.St} (h : RE K H ρ σd σ) : RE K H' ρ' σd σ :=
  ⟨h.1, fun i d q => let ⟨v, h1, h2⟩ := h.2 i d q; ⟨v, h1, RV.mono e _ _ h2⟩⟩
theorem RE.kp {K : PySem.W.Frag} {H H' : Hp} {ρ ρ' : List Addr} (e : Kp K H ρ H' ρ') {σd : DEnv} {σ : L2.St} (h : RE K H ρ σd σ) : RE K H' ρ' σd σ :=
  ⟨h.1, fun i d q => let ⟨v, h1, h2⟩ := h.2 i d q; ⟨v, h1, RV.kp e _ _ h2⟩⟩
theorem RE.set {K : PySem.W.Frag} {H : Hp} {ρ : List Addr} {σd : DEnv} {σ : L2.St} (h : RE K H ρ σd σ) (i : Nat) {d : D} {v : V} (r : RV K H ρ d v) : RE K H ρ (σd.set i (some d)) (σ.set i (some v)) := by
  refine ⟨by rw [List.length_set, List.length_set]; exact h.1, fun j e q => ?_⟩
  by_cases hj : i = j
  · subst hj
    have hi : i < σd.length := by
      have := (List.getElem?_eq_some_iff.mp q).1
      rwa [List.length_set] at this
    rw [List.getElem?_set_self hi] at q
    have e' : d = e := Option.some.inj (Option.some.inj q)
    subst e'
    exact ⟨v, List.getElem?_set_self (by rw [← h.1]; exact hi), r⟩
  · rw [List.getElem?_set_ne hj] at q
    obtain ⟨w, h1, h2⟩ := h.2 j e q
    exact ⟨w, by rw [List.getElem?_set_ne hj]; exact h1, h2⟩

/-- what follows a result -/
def Post (K : PySem.W.Frag) (H : Hp) (ρ : List Addr) {α β : Type} (R : Hp → List Addr → α → β → Prop) (r : Res α) (Q : β → Hp → Prop) : Prop :=
  match r with
  | .ok a h' => ∀ H' ρ' b, Ext H ρ H' ρ' → RH K H' ρ' h' → R H' ρ' a b → Q b H'
  | .bad => False
theorem Post.ext {K : PySem.W.Frag} {H H1 : Hp} {ρ ρ1 : List Addr} {α β : Type} {R : Hp → List Addr → α → β → Prop} {r : Res α} {Q : β → Hp → Prop} (e : Ext H ρ H1 ρ1) (h : Post K H ρ R r Q) : Post K H1 ρ1 R r Q := by
  cases r with
  | ok a h' => exact fun H' ρ' b x y z => h H' ρ' b (e.trans x) y z
  | bad => exact h
theorem Post.bind {K : PySem.W.Frag} {H : Hp} {ρ : List Addr} {α β γ δ : Type} {R : Hp → List Addr → α → β → Prop} {R' : Hp → List Addr → γ → δ → Prop} {r : Res α} {k : α → DHeap → Res γ} {Q : δ → Hp → Prop} (h : Post K H ρ R' (r.bind k) Q) :
    Post K H ρ R r (fun b H1 => ∃ a h1 ρ1, Ext H ρ H1 ρ1 ∧ RH K H1 ρ1 h1 ∧ R H1 ρ1 a b ∧ Post K H1 ρ1 R' (k a h1) Q) := by
  cases r with
  | ok a h1 => exact fun H' ρ' b x y z => ⟨a, h1, ρ', x, y, z, Post.ext x h⟩
  | bad => exact h
theorem Post.mono {K : PySem.W.Frag} {H : Hp} {ρ : List Addr} {α β : Type} {R : Hp → List Addr → α → β → Prop} {r : Res α} {Q Q' : β → Hp → Prop} (h : Post K H ρ R r Q) (q : ∀ b H, Q b H → Q' b H) : Post K H ρ R r Q' := by
  cases r with
  | ok a h' => exact fun H' ρ' b x y z => q _ _ (h H' ρ' b x y z)
  | bad => exact h
theorem Post.ok {K : PySem.W.Frag} {H : Hp} {ρ : List Addr} {α β : Type} {R : Hp → List Addr → α → β → Prop} {a : α} {b : β} {h : DHeap} {Q : β → Hp → Prop} (p : Post K H ρ R (.ok a h) Q) (rh : RH K H ρ h) (r : R H ρ a b) : Q b H :=
  p H ρ b rh.ext rh r

theorem Post.is_ok {K : PySem.W.Frag} {H : Hp} {ρ : List Addr} {α β : Type} {R : Hp → List Addr → α → β → Prop} {r : Res α} {Q : β → Hp → Prop} (p : Post K H ρ R r Q) : ∃ a h', r = .ok a h' := by
  cases r with
  | ok a h' => exact ⟨a, h', rfl⟩
  | bad => exact p.elim

/-- a new cell -/
theorem RH.push {K : PySem.W.Frag} {H : Hp} {ρ : List Addr} {h : DHeap} (r : RH K H ρ h) {p : Addr} {o : HO} {c : Cell} (hp : H p = none) (hm : isM (some o) = true) (hc : RC K H ρ c (some o)) :
    Ext H ρ (upd H p o) (ρ ++ [p]) ∧ RH K (upd H p o) (ρ ++ [p]) (h ++ [c]) := by
  have np : p ∉ ρ := fun m => by have q := r.mu p m; rw [hp] at q; cases q
  have ex : Ext H ρ (upd H p o) (ρ ++ [p]) := by
    refine ⟨fun n a e => ?_, fun b u e m => ?_, fun b m n => ?_, r.mu⟩
    · rw [List.getElem?_append_left (List.getElem?_eq_some_iff.mp e).1]; exact e
    · rw [upd_ne (ne_of_none e hp)]; exact e
    · rcases List.mem_append.mp m with m | m
      · exact absurd m n
      · rw [List.mem_singleton.mp m]; exact hp
  refine ⟨ex, ⟨by rw [List.length_append, List.length_append, r.len]; rfl, ?_, fun n d a e1 e2 => ?_⟩⟩
  · refine List.nodup_append.mpr ⟨r.nd, by simp, fun a ha b hb => ?_⟩
    rw [List.mem_singleton.mp hb]
    exact fun e => np (e ▸ ha)
  · by_cases hn : n < h.length
    · rw [List.getElem?_append_left hn] at e1
      rw [List.getElem?_append_left (by rw [r.len]; exact hn)] at e2
      have ha : a ≠ p := fun e => np (e ▸ List.mem_of_getElem? e2)
      rw [upd_ne ha]
      exact (r.at_ n d a e1 e2).mono ex
    · have hn1 : n < h.length + 1 := by have := (List.getElem?_eq_some_iff.mp e1).1; simpa using this
      have hn2 : n = h.length := by omega
      subst hn2
      rw [List.getElem?_append_right (Nat.le_refl _)] at e1
      rw [List.getElem?_append_right (by rw [r.len]; exact Nat.le_refl _), r.len] at e2
      simp at e1 e2
      subst e1; subst e2
      rw [upd_same]
      exact hc.mono ex
/-- a cell changed -/
theorem RH.put {K : PySem.W.Frag} {H : Hp} {ρ : List Addr} {h : DHeap} (r : RH K H ρ h) {n : Nat} {a : Addr} {o : HO} {c : Cell} (ha : ρ[n]? = some a) (hm : isM (some o) = true) (hc : RC K H ρ c (some o)) :
    Ext H ρ (upd H a o) ρ ∧ RH K (upd H a o) ρ (h.set n c) := by
  have ma : a ∈ ρ := List.mem_of_getElem? ha
  have ex : Ext H ρ (upd H a o) ρ := ⟨fun _ _ e => e, fun b u e m => by rw [upd_ne (show b ≠ a from fun z => m (by rw [z]; exact ma))]; exact e, fun b m n => absurd m n, r.mu⟩
  refine ⟨ex, ⟨by rw [List.length_set]; exact r.len, r.nd, fun j d b e1 e2 => ?_⟩⟩
  by_cases hj : n = j
  · subst hj
    have e : b = a := Option.some.inj (e2.symm.trans ha)
    subst e
    have hn : n < h.length := by have := (List.getElem?_eq_some_iff.mp e1).1; rwa [List.length_set] at this
    rw [List.getElem?_set_self hn] at e1
    cases e1
    rw [upd_same]
    exact hc.mono ex
  · rw [List.getElem?_set_ne hj] at e1
    have hb : b ≠ a := fun e => by
      subst e
      exact hj (nd_ix r.nd ha e2)
    rw [upd_ne hb]
    exact (r.at_ j d b e1 e2).mono ex
/-- a new thing that is not mutable, or not told -/
theorem RH.lay {K : PySem.W.Frag} {H : Hp} {ρ : List Addr} {h : DHeap} (r : RH K H ρ h) {p : Addr} (o : HO) (hp : H p = none) : Ext H ρ (upd H p o) ρ ∧ RH K (upd H p o) ρ h := by
  have np : p ∉ ρ := fun m => by have q := r.mu p m; rw [hp] at q; cases q
  have ex : Ext H ρ (upd H p o) ρ := ⟨fun _ _ e => e, fun b u e m => by rw [upd_ne (ne_of_none e hp)]; exact e, fun b m n => absurd m n, r.mu⟩
  refine ⟨ex, ⟨r.len, r.nd, fun n d a e1 e2 => ?_⟩⟩
  rw [upd_ne (show a ≠ p from fun e => np (by rw [← e]; exact List.mem_of_getElem? e2))]
  exact (r.at_ n d a e1 e2).mono ex

theorem RVs.len {K : PySem.W.Frag} {H : Hp} {ρ : List Addr} : ∀ {ds : List D} {xs : List V}, RVs K H ρ ds xs → ds.length = xs.length
  | [], xs, h => by rw [show xs = [] from h]; rfl
  | d :: ds, xs, h => by
    obtain ⟨y, ys, rfl, _, h3⟩ := h
    rw [List.length_cons, List.length_cons, RVs.len h3]
theorem RVs.get {K : PySem.W.Frag} {H : Hp} {ρ : List Addr} : ∀ {ds : List D} {xs : List V} {i : Nat} {d : D}, RVs K H ρ ds xs → ds[i]? = some d → ∃ v, xs[i]? = some v ∧ RV K H ρ d v
  | [], _, _, _, _, e => by simp at e
  | d :: ds, xs, 0, d', h, e => by
    obtain ⟨y, ys, rfl, h2, _⟩ := h
    simp at e; subst e
    exact ⟨y, rfl, h2⟩
  | d :: ds, xs, i + 1, d', h, e => by
    obtain ⟨y, ys, rfl, _, h3⟩ := h
    simp at e
    obtain ⟨v, h4, h5⟩ := RVs.get h3 e
    exact ⟨v, by simpa using h4, h5⟩
theorem RVs.app {K : PySem.W.Frag} {H : Hp} {ρ : List Addr} : ∀ {ds es : List D} {xs ys : List V}, RVs K H ρ ds xs → RVs K H ρ es ys → RVs K H ρ (ds ++ es) (xs ++ ys)
  | [], es, xs, ys, h, q => by rw [show xs = [] from h]; exact q
  | d :: ds, es, xs, ys, h, q => by
    obtain ⟨y, zs, rfl, h2, h3⟩ := h
    exact ⟨y, zs ++ ys, rfl, h2, RVs.app h3 q⟩
theorem RVs.drop {K : PySem.W.Frag} {H : Hp} {ρ : List Addr} : ∀ (n : Nat) {ds : List D} {xs : List V}, RVs K H ρ ds xs → RVs K H ρ (ds.drop n) (xs.drop n)
  | 0, _, _, h => h
  | n + 1, [], xs, h => by rw [show xs = [] from h]; rfl
  | n + 1, d :: ds, xs, h => by
    obtain ⟨y, ys, rfl, _, h3⟩ := h
    exact RVs.drop n h3
theorem RVs.take {K : PySem.W.Frag} {H : Hp} {ρ : List Addr} : ∀ (n : Nat) {ds : List D} {xs : List V}, RVs K H ρ ds xs → RVs K H ρ (ds.take n) (xs.take n)
  | 0, _, _, h => rfl
  | n + 1, [], xs, h => by rw [show xs = [] from h]; rfl
  | n + 1, d :: ds, xs, h => by
    obtain ⟨y, ys, rfl, h2, h3⟩ := h
    exact ⟨y, ys.take n, rfl, h2, RVs.take n h3⟩
theorem RVs.one {K : PySem.W.Frag} {H : Hp} {ρ : List Addr} {d : D} {v : V} (h : RV K H ρ d v) : RVs K H ρ [d] [v] := ⟨v, [], rfl, h, rfl⟩
theorem RVs.setAt {K : PySem.W.Frag} {H : Hp} {ρ : List Addr} : ∀ (n : Nat) {ds : List D} {xs : List V} {d : D} {v : V}, RVs K H ρ ds xs → RV K H ρ d v → RVs K H ρ (ds.set n d) (xs.set n v)
  | _, [], xs, d, v, h, _ => by rw [show xs = [] from h]; rfl
  | 0, e :: ds, xs, d, v, h, r => by
    obtain ⟨y, ys, rfl, _, h3⟩ := h
    exact ⟨v, ys, rfl, r, h3⟩
  | n + 1, e :: ds, xs, d, v, h, r => by
    obtain ⟨y, ys, rfl, h2, h3⟩ := h
    exact ⟨y, ys.set n v, rfl, h2, RVs.setAt n h3 r⟩
theorem RVs.inv1 {K : PySem.W.Frag} {H : Hp} {ρ : List Addr} {d : D} {xs : List V} (h : RVs K H ρ [d] xs) : ∃ v, xs = [v] ∧ RV K H ρ d v := by
  obtain ⟨y, ys, rfl, h2, h3⟩ := h
  rw [show ys = [] from h3]
  exact ⟨y, rfl, h2⟩
theorem RVs.inv2 {K : PySem.W.Frag} {H : Hp} {ρ : List Addr} {d e : D} {xs : List V} (h : RVs K H ρ [d, e] xs) : ∃ v w, xs = [v, w] ∧ RV K H ρ d v ∧ RV K H ρ e w := by
  obtain ⟨y, ys, rfl, h2, h3⟩ := h
  obtain ⟨w, rfl, h4⟩ := RVs.inv1 h3
  exact ⟨y, w, rfl, h2, h4⟩
theorem RVs.ints {K : PySem.W.Frag} {H : Hp} {ρ : List Addr} : ∀ {ns : List Int} {xs : List V}, RVs K H ρ (ns.map D.int) xs → xs = ns.map V.int
  | [], _, h => h
  | n :: ns, xs, h => by
    obtain ⟨y, ys, rfl, h2, h3⟩ := h
    rw [show y = V.int n from h2, RVs.ints h3]; rfl
theorem RVs.ofInts {K : PySem.W.Frag} {H : Hp} {ρ : List Addr} : ∀ (ns : List Int), RVs K H ρ (ns.map D.int) (ns.map V.int)
  | [] => rfl
  | n :: ns => ⟨_, _, rfl, rfl, RVs.ofInts ns⟩

/-! ### judgements -/
def rdG (K : PySem.W.Frag) {α β : Type} (R : Hp → List Addr → α → β → Prop) (f : DEnv → DHeap → Res α) : L2.St → Hp → (β → Hp → Prop) → Prop := fun σ H Q =>
  ∃ σd h ρ, RE K H ρ σd σ ∧ RH K H ρ h ∧ Post K H ρ R (f σd h) Q
abbrev M (α : Type) := DEnv → DHeap → Res α
structure DE (X : Cx) (e : Expr) (f : M D) : Prop where
  run : PE X e (rdG X.K (RV X.K) f)
def RB (_ : Hp) (_ : List Addr) (a b : Bool) : Prop := a = b
structure DT (X : Cx) (e : Expr) (f : M Bool) : Prop where
  run : PT X e (rdG X.K RB f)
structure DW (X : Cx) (e : Expr) (f : M Bool) : Prop where
  run : PW X e (rdG X.K RB f)
structure DA (X : Cx) (es : List Expr) (f : M (List D)) : Prop where
  run : PA X es (rdG X.K (RVs X.K) f)
inductive Fl where
  | nx (σ : DEnv) | rt (d : D) | bk (σ : DEnv) | ct (σ : DEnv)
/-- how a statement ends -/
def EndsAt (K : PySem.W.Frag) (H' : Hp) (ρ' : List Addr) (E : Ends) (fl : Fl) : Prop :=
  match fl with
  | .nx σd => ∀ σ, RE K H' ρ' σd σ → E.nx σ H'
  | .rt d => ∀ v, RV K H' ρ' d v → E.rt v H'
  | .bk σd => ∀ σ, RE K H' ρ' σd σ → E.bk σ H'
  | .ct σd => ∀ σ, RE K H' ρ' σd σ → E.ct σ H'
def PostS (K : PySem.W.Frag) (H : Hp) (ρ : List Addr) (r : Res Fl) (E : Ends) : Prop :=
  match r with
  | .ok fl h' => ∀ H' ρ', Ext H ρ H' ρ' → RH K H' ρ' h' → EndsAt K H' ρ' E fl
  | .bad => False
def rdS (K : PySem.W.Frag) (f : M Fl) : TS := fun E σ H => ∃ σd h ρ, RE K H ρ σd σ ∧ RH K H ρ h ∧ PostS K H ρ (f σd h) E
structure DS (X : Cx) (st : Stmt) (f : M Fl) : Prop where
  run : PS X st (rdS X.K f)
structure DSs (X : Cx) (st : List Stmt) (f : M Fl) : Prop where
  run : PSs X st (rdS X.K f)

theorem peI {X : Cx} {e : Expr} {t t' : TE} (h : PE X e t) (i : ∀ σ H Q, t' σ H Q → t σ H Q) : PE X e t' := ⟨fun pins s σ H Q I q => h.run pins s σ H Q I (i σ H Q q)⟩
theorem ptI {X : Cx} {e : Expr} {t t' : TT} (h : PT X e t) (i : ∀ σ H Q, t' σ H Q → t σ H Q) : PT X e t' := ⟨fun pins s σ H Q I q => h.run pins s σ H Q I (i σ H Q q)⟩
theorem pwI {X : Cx} {e : Expr} {t t' : TT} (h : PW X e t) (i : ∀ σ H Q, t' σ H Q → t σ H Q) : PW X e t' := ⟨fun wh pins s σ H Q I q => h.run wh pins s σ H Q I (i σ H Q q)⟩
theorem paI {X : Cx} {e : List Expr} {t t' : TA} (h : PA X e t) (i : ∀ σ H Q, t' σ H Q → t σ H Q) : PA X e t' := ⟨fun pos pins s σ H Q I q => h.run pos pins s σ H Q I (i σ H Q q)⟩
theorem psI {X : Cx} {e : Stmt} {t t' : TS} (h : PS X e t) (i : ∀ E σ H, t' E σ H → t E σ H) : PS X e t' := ⟨fun pins s σ H E I q => h.run pins s σ H E I (i E σ H q)⟩
theorem pssI {X : Cx} {e : List Stmt} {t t' : TS} (h : PSs X e t) (i : ∀ E σ H, t' E σ H → t E σ H) : PSs X e t' := ⟨fun pins s σ H E I q => h.run pins s σ H E I (i E σ H q)⟩

/-- statements behind a result -/
theorem PostS.ext {K : PySem.W.Frag} {H H1 : Hp} {ρ ρ1 : List Addr} {r : Res Fl} {E : Ends} (e : Ext H ρ H1 ρ1) (h : PostS K H ρ r E) : PostS K H1 ρ1 r E := by
  cases r with
  | ok a h' => exact fun H' ρ' x y => h H' ρ' (e.trans x) y
  | bad => exact h
theorem PostS.bind {K : PySem.W.Frag} {H : Hp} {ρ : List Addr} {α β : Type} {R : Hp → List Addr → α → β → Prop} {r : Res α} {k : α → DHeap → Res Fl} {E : Ends} (h : PostS K H ρ (r.bind k) E) :
    Post K H ρ R r (fun b H1 => ∃ a h1 ρ1, Ext H ρ H1 ρ1 ∧ RH K H1 ρ1 h1 ∧ R H1 ρ1 a b ∧ PostS K H1 ρ1 (k a h1) E) := by
  cases r with
  | ok a h1 => exact fun H' ρ' b x y z => ⟨a, h1, ρ', x, y, z, PostS.ext x h⟩
  | bad => exact h
/-- a statement's result, then what follows -/
theorem PostS.seq {K : PySem.W.Frag} {H : Hp} {ρ : List Addr} {r : Res Fl} {k : Fl → DHeap → Res Fl} {E E' : Ends} (h : PostS K H ρ (r.bind k) E)
    (q : ∀ fl h1 H1 ρ1, Ext H ρ H1 ρ1 → RH K H1 ρ1 h1 → PostS K H1 ρ1 (k fl h1) E → EndsAt K H1 ρ1 E' fl) : PostS K H ρ r E' := by
  cases r with
  | ok a h1 => exact fun H' ρ' x y => q a h1 H' ρ' x y (PostS.ext x h)
  | bad => exact h
theorem PostS.ok {K : PySem.W.Frag} {H : Hp} {ρ : List Addr} {fl : Fl} {h : DHeap} {E : Ends} (p : PostS K H ρ (.ok fl h) E) (rh : RH K H ρ h) : EndsAt K H ρ E fl := p H ρ rh.ext rh
end DL

set_option Elab.async false
set_option linter.all false
set_option maxRecDepth 100000
namespace DL
open PySem PySem.Spec PyProof.Rows L2
section
variable {X : Cx} {pos : Pos} {e a b : Expr} {fa fb fc : M D}

def vr (i : Nat) : M D := fun σ h => match σ[i]? with | some (some d) => .ok d h | _ => .bad
theorem de_vr (i : Nat) {x : Str} (hN : X.N[i]? = some x := by rfl) (hv : Vis X.env.scope x := by first | exact Or.inl rfl | exact Or.inr (Or.inl rfl) | exact Or.inr (Or.inr rfl)) (hd : (x == ("__debug__" : Str)) = false := by decide)
    (hcd : (x == ("__classdict__" : Str)) = false := by decide) : DE X (.Name x pos) (vr i) := ⟨peI (pv i hN hv hd hcd) fun σ H Q q => by
  obtain ⟨σd, h, ρ, re, rh, p⟩ := q
  unfold vr at p
  cases q1 : σd[i]? with
  | none => rw [q1] at p; exact p.elim
  | some o =>
    cases o with
    | none => rw [q1] at p; exact p.elim
    | some d =>
      rw [q1] at p
      obtain ⟨v, h1, h2⟩ := re.2 i d q1
      exact ⟨v, h1, p.ok rh h2⟩⟩
def cst (d : D) : M D := fun _ h => .ok d h
theorem de_c {d : D} {v : V} (hp : PE X e (tC v)) (hr : ∀ H ρ, RV X.K H ρ d v) : DE X e (cst d) := ⟨peI hp fun σ H Q q => by
  obtain ⟨σd, h, ρ, re, rh, p⟩ := q
  exact p.ok rh (hr _ _)⟩
theorem de_int {i j} : DE X (.Constant (.int i) j pos) (cst (.int i)) := de_c pe_int fun _ _ => rfl
theorem de_bl {i j} : DE X (.Constant (.bool i) j pos) (cst (.bl i)) := de_c pe_bl fun _ _ => rfl
theorem de_non {j} : DE X (.Constant .none j pos) (cst .non) := de_c pe_non fun _ _ => rfl
theorem de_str {x j} : DE X (.Constant (.str x) j pos) (cst (.str x)) := de_c pe_str fun _ _ => rfl

/-! operators, by values -/
def RO (K : PySem.W.Frag) (m : D → D → DHeap → Res D) : R2 := fun x y H Q => ∃ dx dy h ρ, RV K H ρ dx x ∧ RV K H ρ dy y ∧ RH K H ρ h ∧ Post K H ρ (RV K) (m dx dy h) Q
theorem opI {f : Value → Value → Sem Value} {r r' : R2} (ho : OpR X f r) (i : ∀ x y H Q, r' x y H Q → r x y H Q) : OpR X f r' :=
  fun pins s σ H x y v u Q I rx ry q => ho pins s σ H x y v u Q I rx ry (i x y H Q q)
def bin2 (m : D → D → DHeap → Res D) (fa fb : M D) : M D := fun σ h => (fa σ h).bind fun x h1 => (fb σ h1).bind fun y h2 => m x y h2
theorem two {K : PySem.W.Frag} {m : D → D → DHeap → Res D} {σ : L2.St} {H : Hp} {Q : VK} (q : rdG K (RV K) (bin2 m fa fb) σ H Q) :
    rdG K (RV K) fa σ H fun x H1 => rdG K (RV K) fb σ H1 fun y H2 => RO K m x y H2 Q := by
  obtain ⟨σd, h, ρ, re, rh, p⟩ := q
  refine ⟨σd, h, ρ, re, rh, p.bind.mono fun x H1 ⟨d, h1, ρ1, e1, rh1, r1, p1⟩ => ?_⟩
  exact ⟨σd, h1, ρ1, re.mono e1, rh1, p1.bind.mono fun y H2 ⟨d2, h2, ρ2, e2, rh2, r2, p2⟩ => ⟨d, d2, h2, ρ2, RV.mono e2 _ _ r1, r2, rh2, p2⟩⟩
theorem de_op {op : Operator} {m : D → D → DHeap → Res D} (ho : OpR X (binaryOp op) (RO X.K m)) (ha : DE X a fa) (hb : DE X b fb) : DE X (.BinOp a op b pos) (bin2 m fa fb) :=
  ⟨peI (pe_op ho ha.run hb.run) fun _ _ _ q => two q⟩
theorem de_cmp {op : CmpOp} {m : D → D → DHeap → Res D} (ho : OpR X (compareOp op) (RO X.K m)) (ha : DE X a fa) (hb : DE X b fb) (hm : behindInMarks op b = false) : DE X (.Compare a [op] [b] pos) (bin2 m fa fb) :=
  ⟨peI (pe_cmpR ho ha.run hb.run hm) fun _ _ _ q => two q⟩
def tst (f : M D) : M Bool := fun σ h => (f σ h).bind fun d h1 => match d with | .bl b => .ok b h1 | _ => .bad
theorem tst_rd {K : PySem.W.Frag} {f : M D} {σ : L2.St} {H : Hp} {Q : Bool → Hp → Prop} (q : rdG K RB (tst f) σ H Q) : rdG K (RV K) f σ H fun x H1 => ∃ k, x = .bl k ∧ Q k H1 := by
  obtain ⟨σd, h, ρ, re, rh, p⟩ := q
  refine ⟨σd, h, ρ, re, rh, p.bind.mono fun x H1 ⟨d, h1, ρ1, e1, rh1, r1, p1⟩ => ?_⟩
  cases d with
  | bl k => exact ⟨k, r1, p1.ok rh1 (rfl : RB _ _ k k)⟩
  | _ => exact p1.elim
theorem dt_val {f : M D} (h : DE X e f) (he : ∀ whole, isTrue e X.env whole = (do let v ← whole; standAt e.pos; holding [v] (truthy v)) := by intro _; rfl) : DT X e (tst f) :=
  ⟨ptI (pt_val h.run he) fun _ _ _ q => tst_rd q⟩
theorem dt_cmp {op : CmpOp} {m : D → D → DHeap → Res D} (ho : OpR X (compareOp op) (RO X.K m)) (ha : DE X a fa) (hb : DE X b fb) (hm : behindInMarks op b = false) : DT X (.Compare a [op] [b] pos) (tst (bin2 m fa fb)) :=
  ⟨ptI (pt_cmpR ho ha.run hb.run hm) fun σ H Q q => two (Q := fun x H' => ∃ k, x = .bl k ∧ Q k H') (tst_rd q)⟩

/-! and, or, not -/
def andT (f g : M Bool) : M Bool := fun σ h => (f σ h).bind fun b h1 => if b = true then g σ h1 else .ok false h1
def orT (f g : M Bool) : M Bool := fun σ h => (f σ h).bind fun b h1 => if b = true then .ok true h1 else g σ h1
def notT (f : M Bool) : M Bool := fun σ h => (f σ h).bind fun b h1 => .ok (!b) h1
variable {ta tb : M Bool} {rest : List Expr}
theorem dt_w (h : DW X e ta) : DT X e ta := ⟨h.run.pt⟩
theorem dw_and1 (ha : DT X a ta) : DW X (.BoolOp .And [a] pos) ta := ⟨pw_and1 ha.run⟩
theorem dw_or1 (ha : DT X a ta) : DW X (.BoolOp .Or [a] pos) ta := ⟨pw_or1 ha.run⟩
theorem dw_and (ha : DT X a ta) (hb : DW X (.BoolOp .And (b :: rest) pos) tb) : DW X (.BoolOp .And (a :: b :: rest) pos) (andT ta tb) :=
  ⟨pwI (pw_and ha.run hb.run) fun σ H Q q => by
    obtain ⟨σd, h, ρ, re, rh, p⟩ := q
    refine ⟨σd, h, ρ, re, rh, p.bind.mono fun x H1 ⟨d, h1, ρ1, e1, rh1, r1, p1⟩ => ?_⟩
    cases (show d = x from r1)
    cases x with
    | true => exact ⟨σd, h1, ρ1, re.mono e1, rh1, p1⟩
    | false => exact p1.ok rh1 (rfl : RB _ _ false false)⟩
theorem dw_or (ha : DT X a ta) (hb : DW X (.BoolOp .Or (b :: rest) pos) tb) : DW X (.BoolOp .Or (a :: b :: rest) pos) (orT ta tb) :=
  ⟨pwI (pw_or ha.run hb.run) fun σ H Q q => by
    obtain ⟨σd, h, ρ, re, rh, p⟩ := q
    refine ⟨σd, h, ρ, re, rh, p.bind.mono fun x H1 ⟨d, h1, ρ1, e1, rh1, r1, p1⟩ => ?_⟩
    cases (show d = x from r1)
    cases x with
    | false => exact ⟨σd, h1, ρ1, re.mono e1, rh1, p1⟩
    | true => exact p1.ok rh1 (rfl : RB _ _ true true)⟩
theorem dt_not (ha : DT X a ta) : DT X (.UnaryOp .Not a pos) (notT ta) :=
  ⟨ptI (pt_not ha.run) fun σ H Q q => by
    obtain ⟨σd, h, ρ, re, rh, p⟩ := q
    refine ⟨σd, h, ρ, re, rh, p.bind.mono fun x H1 ⟨d, h1, ρ1, e1, rh1, r1, p1⟩ => ?_⟩
    cases (show d = x from r1)
    exact p1.ok rh1 (rfl : RB _ _ _ _)⟩
def andV (f g : M D) : M D := fun σ h => (f σ h).bind fun d h1 => match d with | .bl b => (if b = true then g σ h1 else .ok (.bl false) h1) | _ => .bad
def orV (f g : M D) : M D := fun σ h => (f σ h).bind fun d h1 => match d with | .bl b => (if b = true then .ok (.bl true) h1 else g σ h1) | _ => .bad
def notV (f : M D) : M D := fun σ h => (f σ h).bind fun d h1 => match d with | .bl b => .ok (.bl (!b)) h1 | _ => .bad
theorem de_one {op} (ha : DE X a fa) : DE X (.BoolOp op [a] pos) fa := ⟨pe_one ha.run⟩
theorem de_and (ha : DE X a fa) (hb : DE X (.BoolOp .And (b :: rest) pos) fb) : DE X (.BoolOp .And (a :: b :: rest) pos) (andV fa fb) :=
  ⟨peI (pe_and ha.run hb.run) fun σ H Q q => by
    obtain ⟨σd, h, ρ, re, rh, p⟩ := q
    refine ⟨σd, h, ρ, re, rh, p.bind.mono fun x H1 ⟨d, h1, ρ1, e1, rh1, r1, p1⟩ => ?_⟩
    cases d with
    | bl k =>
      refine ⟨k, r1, ?_⟩
      cases k with
      | true => exact ⟨σd, h1, ρ1, re.mono e1, rh1, p1⟩
      | false => exact Post.ok p1 rh1 (rfl : RV X.K H1 ρ1 (.bl false) (.bl false))
    | _ => exact p1.elim⟩
theorem de_or (ha : DE X a fa) (hb : DE X (.BoolOp .Or (b :: rest) pos) fb) : DE X (.BoolOp .Or (a :: b :: rest) pos) (orV fa fb) :=
  ⟨peI (pe_or ha.run hb.run) fun σ H Q q => by
    obtain ⟨σd, h, ρ, re, rh, p⟩ := q
    refine ⟨σd, h, ρ, re, rh, p.bind.mono fun x H1 ⟨d, h1, ρ1, e1, rh1, r1, p1⟩ => ?_⟩
    cases d with
    | bl k =>
      refine ⟨k, r1, ?_⟩
      cases k with
      | false => exact ⟨σd, h1, ρ1, re.mono e1, rh1, p1⟩
      | true => exact Post.ok p1 rh1 (rfl : RV X.K H1 ρ1 (.bl true) (.bl true))
    | _ => exact p1.elim⟩
theorem de_not (ha : DE X a fa) : DE X (.UnaryOp .Not a pos) (notV fa) :=
  ⟨peI (pe_not ha.run) fun σ H Q q => by
    obtain ⟨σd, h, ρ, re, rh, p⟩ := q
    refine ⟨σd, h, ρ, re, rh, p.bind.mono fun x H1 ⟨d, h1, ρ1, e1, rh1, r1, p1⟩ => ?_⟩
    cases d with
    | bl k => exact ⟨k, r1, Post.ok p1 rh1 (rfl : RV X.K H1 ρ1 (.bl (!k)) (.bl (!k)))⟩
    | _ => exact p1.elim⟩
def ifV (t : M Bool) (f g : M D) : M D := fun σ h => (t σ h).bind fun b h1 => if b = true then f σ h1 else g σ h1
theorem de_if {c : Expr} (hc : DT X c ta) (ha : DE X a fa) (hb : DE X b fb) : DE X (.IfExp c a b pos) (ifV ta fa fb) :=
  ⟨peI (pe_ifExp hc.run ha.run hb.run) fun σ H Q q => by
    obtain ⟨σd, h, ρ, re, rh, p⟩ := q
    refine ⟨σd, h, ρ, re, rh, p.bind.mono fun x H1 ⟨d, h1, ρ1, e1, rh1, r1, p1⟩ => ?_⟩
    cases (show d = x from r1)
    cases x with
    | true => exact ⟨σd, h1, ρ1, re.mono e1, rh1, p1⟩
    | false => exact ⟨σd, h1, ρ1, re.mono e1, rh1, p1⟩⟩
end

/-! ### the operators -/
section
variable {X : Cx}
def addD : D → D → DHeap → Res D
  | .int i, .int j, h => .ok (.int (i + j)) h
  | .str x, .str y, h => if x.length + y.length ≤ sizeLine then .ok (.str (x ++ y)) h else .bad
  | .tup xs, .tup ys, h => if xs.length + ys.length ≤ sizeLine then .ok (.tup (xs ++ ys)) h else .bad
  | .ref m, .ref n, h => match h[m]?, h[n]? with
    | some (.lst xs), some (.lst ys) => if xs.length + ys.length ≤ sizeLine then .ok (.ref h.length) (h ++ [.lst (xs ++ ys)]) else .bad
    | _, _ => .bad
  | _, _, _ => .bad
theorem od_add : OpR X (binaryOp .Add) (RO X.K addD) := opI (op_add.or (op_add_str.or (op_catA.or op_cat))) fun x y H Q q => by
  obtain ⟨dx, dy, h, ρ, rx, ry, rh, p⟩ := q
  cases dx with
  | int i =>
    cases dy with
    | int j => exact .inl ⟨i, j, rx, ry, Post.ok p rh (rfl : RV X.K H ρ (.int (i + j)) _)⟩
    | _ => exact p.elim
  | str i =>
    cases dy with
    | str j =>
      simp only [addD] at p
      split at p
      · rename_i hl
        exact .inr (.inl ⟨i, j, rx, ry, hl, Post.ok p rh (rfl : RV X.K H ρ (.str (i ++ j)) _)⟩)
      · exact p.elim
    | _ => exact p.elim
  | tup xs =>
    cases dy with
    | tup ys =>
      simp only [addD] at p
      split at p
      · rename_i hl
        obtain ⟨a, vs, e1, s1, r1⟩ := rx
        obtain ⟨b, ws, e2, s2, r2⟩ := ry
        refine .inr (.inr (.inl ⟨a, b, vs, ws, e1, e2, s1, s2, by rw [← r1.len, ← r2.len]; exact hl, fun e0 => ?_, fun e0 e3 => ?_, fun e0 e3 l hn => ?_⟩))
        · subst e0
          exact Post.ok p rh ⟨b, ws, rfl, s2, by simpa using r1.app r2⟩
        · subst e3
          exact Post.ok p rh ⟨a, vs, rfl, s1, by simpa using r1.app r2⟩
        · obtain ⟨x1, x2⟩ := rh.lay (.tup (vs ++ ws)) hn
          exact p _ _ _ x1 x2 ⟨l, _, rfl, .of upd_same, RVs.mono x1 _ _ (r1.app r2)⟩
      · exact p.elim
    | _ => exact p.elim
  | ref m =>
    cases dy with
    | ref n =>
      simp only [addD] at p
      split at p
      · rename_i xs ys hx hy
        split at p
        · rename_i hl
          obtain ⟨a, e1, a1⟩ := rx
          obtain ⟨b, e2, b1⟩ := ry
          obtain ⟨vs, v1, v2⟩ := rh.at_ _ _ _ hx a1
          obtain ⟨ws, w1, w2⟩ := rh.at_ _ _ _ hy b1
          refine .inr (.inr (.inr ⟨a, b, vs, ws, e1, e2, v1, w1, by rw [← v2.len, ← w2.len]; exact hl, fun l hn => ?_⟩))
          obtain ⟨x1, x2⟩ := rh.push (c := .lst (xs ++ ys)) hn (o := .lst (vs ++ ws)) rfl ⟨_, rfl, v2.app w2⟩
          exact p _ _ _ x1 x2 ⟨l, rfl, by rw [← rh.len]; simp⟩
        · exact p.elim
      · exact p.elim
    | _ => exact p.elim
  | _ => cases dy <;> exact p.elim
def intOp (C : Int → Int → Prop) [∀ i j, Decidable (C i j)] (g : Int → Int → Int) : D → D → DHeap → Res D
  | .int i, .int j, h => if C i j then .ok (.int (g i j)) h else .bad
  | _, _, _ => .bad
theorem od_int {f : Value → Value → Sem Value} {C : Int → Int → Prop} [∀ i j, Decidable (C i j)] {g : Int → Int → Int} (ho : OpR X f (rI C fun i j => .int (g i j))) : OpR X f (RO X.K (intOp C g)) := opI ho fun x y H Q q => by
  obtain ⟨dx, dy, h, ρ, rx, ry, rh, p⟩ := q
  cases dx with
  | int i =>
    cases dy with
    | int j =>
      simp only [intOp] at p
      split at p
      · rename_i hc
        exact ⟨i, j, rx, ry, hc, Post.ok p rh (rfl : RV X.K H ρ (.int (g i j)) _)⟩
      · exact p.elim
    | _ => exact p.elim
  | _ => cases dy <;> exact p.elim
theorem rI_of {C : Int → Int → Prop} {g : Int → Int → V} {f : Value → Value → Sem Value} (ho : OpR X f (rI0 g)) : OpR X f (rI (fun _ _ => True) g) := opI ho fun x y H Q ⟨i, j, h1, h2, _, q⟩ => ⟨i, j, h1, h2, q⟩
instance (i j : Int) : Decidable (CMul i j) := by unfold CMul; infer_instance
instance (i j : Int) : Decidable (CDiv i j) := by unfold CDiv; infer_instance
instance (i j : Int) : Decidable (CPow i j) := by unfold CPow; infer_instance
def subD : D → D → DHeap → Res D := intOp (fun _ _ => True) (fun i j => i - j)
def mulD : D → D → DHeap → Res D := intOp CMul (fun i j => i * j)
def divD : D → D → DHeap → Res D := intOp CDiv (fun i j => i / j)
def modD : D → D → DHeap → Res D := intOp (fun _ j => 0 < j) (fun i j => i % j)
def powD : D → D → DHeap → Res D := intOp CPow (fun i j => i ^ j.toNat)
theorem od_sub : OpR X (binaryOp .Sub) (RO X.K subD) := od_int (rI_of (C := fun _ _ => True) op_sub)
theorem od_mul : OpR X (binaryOp .Mult) (RO X.K mulD) := od_int op_mul
theorem od_div : OpR X (binaryOp .FloorDiv) (RO X.K divD) := od_int op_fdiv
theorem od_mod : OpR X (binaryOp .Mod) (RO X.K modD) := od_int op_mod
theorem od_pow : OpR X (binaryOp .Pow) (RO X.K powD) := od_int op_pow
def cmpI (g : Int → Int → Bool) : D → D → DHeap → Res D
  | .int i, .int j, h => .ok (.bl (g i j)) h
  | _, _, _ => .bad
theorem od_cmpI {f : Value → Value → Sem Value} {g : Int → Int → Bool} (ho : OpR X f (rI0 fun i j => .bl (g i j))) : OpR X f (RO X.K (cmpI g)) := opI ho fun x y H Q q => by
  obtain ⟨dx, dy, h, ρ, rx, ry, rh, p⟩ := q
  cases dx with
  | int i =>
    cases dy with
    | int j => exact ⟨i, j, rx, ry, Post.ok p rh (rfl : RV X.K H ρ (.bl (g i j)) _)⟩
    | _ => exact p.elim
  | _ => cases dy <;> exact p.elim
def ltD : D → D → DHeap → Res D := cmpI fun i j => decide (i < j)
def leD : D → D → DHeap → Res D := cmpI fun i j => decide (i ≤ j)
def gtD : D → D → DHeap → Res D := cmpI fun i j => decide (j < i)
def geD : D → D → DHeap → Res D := cmpI fun i j => decide (j ≤ i)
theorem od_lt : OpR X (compareOp .Lt) (RO X.K ltD) := od_cmpI op_lt
theorem od_le : OpR X (compareOp .LtE) (RO X.K leD) := od_cmpI op_le
theorem od_gt : OpR X (compareOp .Gt) (RO X.K gtD) := od_cmpI op_gt
theorem od_ge : OpR X (compareOp .GtE) (RO X.K geD) := od_cmpI op_ge
def isNon : D → Bool
  | .non => true
  | _ => false
theorem RV.non_iff {K : PySem.W.Frag} {H : Hp} {ρ : List Addr} {d : D} {v : V} (r : RV K H ρ d v) : decide (v = .non) = isNon d := by
  cases d with
  | non => cases (show v = .non from r); rfl
  | bl b => cases (show v = .bl b from r); rfl
  | int b => cases (show v = .int b from r); rfl
  | str b => cases (show v = .str b from r); rfl
  | tup ds => obtain ⟨_, _, rfl, _⟩ := r; rfl
  | fl ds => obtain ⟨_, _, rfl, _⟩ := r; rfl
  | ref n => obtain ⟨_, rfl, _⟩ := r; rfl
def isD' : D → D → DHeap → Res D
  | x, .non, h => .ok (.bl (isNon x)) h
  | _, _, _ => .bad
def notD : D → D → DHeap → Res D
  | x, .non, h => .ok (.bl (!isNon x)) h
  | _, _, _ => .bad
theorem od_is : OpR X (compareOp .Is) (RO X.K isD') := opI op_isN fun x y H Q q => by
  obtain ⟨dx, dy, h, ρ, rx, ry, rh, p⟩ := q
  cases dy with
  | non => exact ⟨ry, Post.ok p rh (show V.bl _ = V.bl _ by rw [rx.non_iff])⟩
  | _ => cases dx <;> exact p.elim
theorem od_isnot : OpR X (compareOp .IsNot) (RO X.K notD) := opI op_notN fun x y H Q q => by
  obtain ⟨dx, dy, h, ρ, rx, ry, rh, p⟩ := q
  cases dy with
  | non => exact ⟨ry, Post.ok p rh (show V.bl _ = V.bl _ by rw [rx.non_iff])⟩
  | _ => cases dx <;> exact p.elim

/-! data without numbers, as the library's data -/
mutual
def toP : D → PyData
  | .non => .none | .bl b => .bool b | .int i => .int i | .str x => .str x | .tup ds => .tuple (toPs ds) | .fl ds => .list (toPs ds) | .ref _ => .none
def toPs : List D → List PyData
  | [] => []
  | d :: ds => toP d :: toPs ds
end
mutual
def pureD : D → Bool
  | .non => true | .bl _ => true | .int _ => true | .str _ => true | .tup ds => pureDs ds | .fl ds => pureDs ds | .ref _ => false
def pureDs : List D → Bool
  | [] => true
  | d :: ds => pureD d && pureDs ds
end
mutual
theorem dp_of {K : PySem.W.Frag} {H : Hp} {ρ : List Addr} : ∀ (d : D) (v : V), pureD d = true → RV K H ρ d v → Dp K H v (toP d)
  | .non, v, _, r => by cases (show v = .non from r); exact .non
  | .bl b, v, _, r => by cases (show v = .bl b from r); exact .bl b
  | .int b, v, _, r => by cases (show v = .int b from r); exact .int b
  | .str b, v, _, r => by cases (show v = .str b from r); exact .str b
  | .tup ds, v, p, r => by
    obtain ⟨a, xs, rfl, s, q⟩ := r
    exact .tup s (dps_of ds xs p q)
  | .fl ds, v, p, r => by
    obtain ⟨a, xs, rfl, s, q⟩ := r
    exact .lst s.sq (dps_of ds xs p q)
  | .ref n, v, p, r => by cases p
theorem dps_of {K : PySem.W.Frag} {H : Hp} {ρ : List Addr} : ∀ (ds : List D) (xs : List V), pureDs ds = true → RVs K H ρ ds xs → DpAll K H xs (toPs ds)
  | [], xs, _, r => by cases (show xs = [] from r); exact .nil
  | d :: ds, xs, p, r => by
    obtain ⟨y, ys, rfl, h1, h2⟩ := r
    have q : (pureD d && pureDs ds) = true := p
    rw [Bool.and_eq_true] at q
    exact .cons (dp_of d y q.1 h1) (dps_of ds ys q.2 h2)
end
/-- a list's items, or the thing itself -/
def seen (h : DHeap) : D → Option D
  | .ref n => match h[n]? with | some (.lst ds) => some (.fl ds) | _ => none
  | d => some d
theorem dp_seen {K : PySem.W.Frag} {H : Hp} {ρ : List Addr} {h : DHeap} (rh : RH K H ρ h) {d d' : D} {v : V} (e : seen h d = some d') (p : pureD d' = true) (r : RV K H ρ d v) : Dp K H v (toP d') := by
  cases d with
  | ref n =>
    unfold seen at e
    simp only at e
    split at e
    · rename_i ds hn
      cases e
      obtain ⟨a, rfl, ha⟩ := r
      obtain ⟨xs, x1, x2⟩ := rh.at_ _ _ _ hn ha
      exact .lst (.of x1) (dps_of ds xs p x2)
    · cases e
  | _ => cases e; exact dp_of _ v p r
def okP (d : D) : Bool := pureD d && SeqAt.shaped (toP d)
def eqvD (d e : D) : Bool := PyData.eqv (toP d) (toP e)
def scalD : D → D → Option Bool
  | .int i, .int j => some (decide (i = j))
  | .str i, .str j => some (decide (i = j))
  | .bl i, .bl j => some (decide (i = j))
  | _, _ => none
def eqD : D → D → DHeap → Res D := fun x y h => match scalD x y with
  | some b => .ok (.bl b) h
  | none => match seen h x, seen h y with
    | some x', some y' => if okP x' = true ∧ okP y' = true then .ok (.bl (eqvD x' y')) h else .bad
    | _, _ => .bad
def neD : D → D → DHeap → Res D := fun x y h => match scalD x y with
  | some b => .ok (.bl (!b)) h
  | none => match seen h x, seen h y with
    | some x', some y' => if okP x' = true ∧ okP y' = true then .ok (.bl (!eqvD x' y')) h else .bad
    | _, _ => .bad
theorem scal_ok {K : PySem.W.Frag} {H : Hp} {ρ : List Addr} {dx dy : D} {x y : V} {b : Bool} (rx : RV K H ρ dx x) (ry : RV K H ρ dy y) (e : scalD dx dy = some b) : scal x y = true ∧ b = decide (x = y) := by
  cases dx <;> cases dy <;> first | (cases e; done) | skip
  · cases (show x = _ from rx); cases (show y = _ from ry); cases e; exact ⟨rfl, by simp⟩
  · cases (show x = _ from rx); cases (show y = _ from ry); cases e; exact ⟨rfl, by simp⟩
  · cases (show x = _ from rx); cases (show y = _ from ry); cases e; exact ⟨rfl, by simp⟩
theorem od_eq (hu : X.A.units + 64 < cLine) : OpR X (compareOp .Eq) (RO X.K eqD) := opI (op_eq.or (op_eqD hu)) fun x y H Q q => by
  obtain ⟨dx, dy, h, ρ, rx, ry, rh, p⟩ := q
  unfold eqD at p
  cases e : scalD dx dy with
  | some b =>
    rw [e] at p
    obtain ⟨h1, h2⟩ := scal_ok rx ry e
    subst h2
    exact .inl ⟨h1, Post.ok p rh (rfl : RV X.K H ρ (.bl _) _)⟩
  | none =>
    rw [e] at p
    simp only at p
    split at p
    · rename_i x' y' hx hy
      split at p
      · rename_i hc
        obtain ⟨c1, c2⟩ := hc
        unfold okP at c1 c2
        rw [Bool.and_eq_true] at c1 c2
        exact .inr ⟨_, _, dp_seen rh hx c1.1 rx, dp_seen rh hy c2.1 ry, c1.2, c2.2, Post.ok p rh (rfl : RV X.K H ρ (.bl _) _)⟩
      · exact p.elim
    · exact p.elim
theorem od_ne (hu : X.A.units + 64 < cLine) : OpR X (compareOp .NotEq) (RO X.K neD) := opI (op_ne.or (op_neD hu)) fun x y H Q q => by
  obtain ⟨dx, dy, h, ρ, rx, ry, rh, p⟩ := q
  unfold neD at p
  cases e : scalD dx dy with
  | some b =>
    rw [e] at p
    obtain ⟨h1, h2⟩ := scal_ok rx ry e
    subst h2
    exact .inl ⟨h1, Post.ok p rh (rfl : RV X.K H ρ (.bl _) _)⟩
  | none =>
    rw [e] at p
    simp only at p
    split at p
    · rename_i x' y' hx hy
      split at p
      · rename_i hc
        obtain ⟨c1, c2⟩ := hc
        unfold okP at c1 c2
        rw [Bool.and_eq_true] at c1 c2
        exact .inr ⟨_, _, dp_seen rh hx c1.1 rx, dp_seen rh hy c2.1 ry, c1.2, c2.2, Post.ok p rh (rfl : RV X.K H ρ (.bl _) _)⟩
      · exact p.elim
    · exact p.elim
end
end DL

set_option Elab.async false
set_option linter.all false
set_option maxRecDepth 100000
namespace DL
open PySem PySem.Spec PyProof.Rows L2
section
variable {X : Cx} {pos p : Pos} {x : Str} {e a b : Expr} {es : List Expr} {fa fb fc : M D} {f g : M (List D)}

/-! arguments, calls -/
def aNil : M (List D) := fun _ h => .ok [] h
def aCons (f : M D) (g : M (List D)) : M (List D) := fun σ h => (f σ h).bind fun d h1 => (g σ h1).bind fun ds h2 => .ok (d :: ds) h2
theorem da_nil : DA X [] aNil := ⟨paI pa_nil fun σ H Q q => by
  obtain ⟨σd, h, ρ, re, rh, p⟩ := q
  exact Post.ok p rh (show RVs X.K H ρ [] [] from rfl)⟩
theorem da_cons (ha : DE X e fa) (hr : DA X es g) (hs : starEach (e :: es) X.env = (false, eval e X.env) :: starEach es X.env := by rfl) : DA X (e :: es) (aCons fa g) :=
  ⟨paI (pa_cons ha.run hr.run hs) fun σ H Q q => by
    obtain ⟨σd, h, ρ, re, rh, p⟩ := q
    refine ⟨σd, h, ρ, re, rh, p.bind.mono fun x H1 ⟨d, h1, ρ1, e1, rh1, r1, p1⟩ => ?_⟩
    refine ⟨σd, h1, ρ1, re.mono e1, rh1, p1.bind.mono fun xs H2 ⟨ds, h2, ρ2, e2, rh2, r2, p2⟩ => ?_⟩
    exact Post.ok p2 rh2 (show RVs X.K H2 ρ2 (d :: ds) (x :: xs) from ⟨x, xs, rfl, RV.mono e2 _ _ r1, r2⟩)⟩
def RCl (K : PySem.W.Frag) (m : List D → DHeap → Res D) : List V → Hp → VK → Prop := fun vs H Q => ∃ ds h ρ, RVs K H ρ ds vs ∧ RH K H ρ h ∧ Post K H ρ (RV K) (m ds h) Q
theorem clI {u : Value} {r r' : List V → Hp → VK → Prop} (ho : CallR X u r) (i : ∀ vs H Q, r' vs H Q → r vs H Q) : CallR X u r' :=
  fun pins s σ H vs us Q I rv q => ho pins s σ H vs us Q I rv (i vs H Q q)
def callM (m : List D → DHeap → Res D) (f : M (List D)) : M D := fun σ h => (f σ h).bind m
theorem call_rd {K : PySem.W.Frag} {m : List D → DHeap → Res D} {σ : L2.St} {H : Hp} {Q : VK} (q : rdG K (RV K) (callM m f) σ H Q) : rdG K (RVs K) f σ H fun vs H1 => RCl K m vs H1 Q := by
  obtain ⟨σd, h, ρ, re, rh, p⟩ := q
  exact ⟨σd, h, ρ, re, rh, p.bind.mono fun x H1 ⟨d, h1, ρ1, e1, rh1, r1, p1⟩ => ⟨d, h1, ρ1, r1, rh1, p1⟩⟩
theorem de_callB {id : String} {m : List D → DHeap → Res D} (hc : CallR X (.builtin id) (RCl X.K m)) (hg : Gl X x) (hm : X.mg x = none) (hv : bootBuiltins x = some (.builtin id)) (ha : DA X (e :: es) f) (hn : x ≠ "__name__" := by decide) (hdb : (x == ("__debug__" : Str)) = false := by decide)
    (he : starEach (e :: es) X.env = (false, eval e X.env) :: starEach es X.env := by rfl) (hpl : (backTo pos (starEach es X.env)).any (·.1) = false := by rfl) : DE X (.Call (.Name x p) (e :: es) [] pos) (callM m f) :=
  ⟨peI (pe_callB hc hg hm hv ha.run hn hdb he hpl) fun _ _ _ q => call_rd q⟩
theorem de_callTy {T : String} {m : List D → DHeap → Res D} (hc : CallR X (.type T) (RCl X.K m)) (hg : Gl X x) (hm : X.mg x = none) (hv : bootBuiltins x = some (.type T)) (ha : DA X (e :: es) f) (hn : x ≠ "__name__" := by decide) (hdb : (x == ("__debug__" : Str)) = false := by decide)
    (he : starEach (e :: es) X.env = (false, eval e X.env) :: starEach es X.env := by rfl) (hpl : (backTo pos (starEach es X.env)).any (·.1) = false := by rfl) : DE X (.Call (.Name x p) (e :: es) [] pos) (callM m f) :=
  ⟨peI (pe_callTy hc hg hm hv ha.run hn hdb he hpl) fun _ _ _ q => call_rd q⟩

/-! what a sequence holds -/
def seqOf (h : DHeap) : D → Option (List D)
  | .tup ds => some ds
  | .fl ds => some ds
  | .ref n => match h[n]? with | some (.lst ds) => some ds | _ => none
  | _ => none
theorem seq_ok {K : PySem.W.Frag} {H : Hp} {ρ : List Addr} {h : DHeap} (rh : RH K H ρ h) {d : D} {ds : List D} {v : V} (e : seqOf h d = some ds) (r : RV K H ρ d v) :
    ∃ q xs, v = .ref q ∧ (SqL K H q xs ∨ SqT K H q xs) ∧ RVs K H ρ ds xs := by
  cases d with
  | tup es => cases e; obtain ⟨q, xs, h1, h2, h3⟩ := r; exact ⟨q, xs, h1, .inr h2, h3⟩
  | fl es => cases e; obtain ⟨q, xs, h1, h2, h3⟩ := r; exact ⟨q, xs, h1, .inl h2.sq, h3⟩
  | ref n =>
    unfold seqOf at e
    simp only at e
    split at e
    · rename_i es hn
      cases e
      obtain ⟨q, h1, h2⟩ := r
      obtain ⟨xs, x1, x2⟩ := rh.at_ _ _ _ hn h2
      exact ⟨q, xs, h1, .inl (.of x1), x2⟩
    · cases e
  | _ => cases e

def lenD : List D → DHeap → Res D
  | [.str x], h => if x.length ≤ sizeLine then .ok (.int x.length) h else .bad
  | [.ref n], h => match h[n]? with
    | some (.lst ds) => .ok (.int ds.length) h
    | some (.dic kvs) => .ok (.int kvs.length) h
    | none => .bad
  | [.tup ds], h => .ok (.int ds.length) h
  | [.fl ds], h => .ok (.int ds.length) h
  | _, _ => .bad
theorem len_seq {K : PySem.W.Frag} {H : Hp} {ρ : List Addr} {h : DHeap} (rh : RH K H ρ h) {d : D} {v : V} {es : List D} {Q : VK} (e1 : seqOf h d = some es) (r1 : RV K H ρ d v) (p1 : Post K H ρ (RV K) (.ok (.int es.length) h) Q) :
    ∃ x n, [v] = [x] ∧ LenV K x H n ∧ Q (.int n) H := by
  obtain ⟨q, xs, rfl, hs, h3⟩ := seq_ok rh e1 r1
  refine ⟨.ref q, xs.length, rfl, ?_, ?_⟩
  · rcases hs with hs | hs
    · exact .inl ⟨xs, hs, rfl⟩
    · exact .inr ⟨xs, hs, rfl⟩
  · rw [← h3.len]; exact Post.ok p1 rh (rfl : RV K H ρ (.int _) _)
theorem cd_len : CallR X (.builtin "len") (RCl X.K lenD) := clI (call_len.or call_lenD) fun vs H Q q => by
  obtain ⟨ds, h, ρ, r, rh, p⟩ := q
  unfold lenD at p
  split at p
  case h_1 y =>
    obtain ⟨v, rfl, r1⟩ := r.inv1
    split at p
    · rename_i hl
      exact .inl ⟨v, y.length, rfl, by rw [show v = .str y from r1]; exact ⟨hl, rfl⟩, Post.ok p rh (rfl : RV X.K H ρ (.int _) _)⟩
    · exact p.elim
  case h_2 n =>
    obtain ⟨v, rfl, r1⟩ := r.inv1
    split at p
    · rename_i es hn
      exact .inl (len_seq rh (d := .ref n) (by unfold seqOf; simp only [hn]) r1 p)
    · rename_i kvs hn
      obtain ⟨q, rfl, h2⟩ := r1
      obtain ⟨ws, x1, x2, x3⟩ := rh.at_ _ _ _ hn h2
      refine .inr ⟨q, ws, rfl, x1, ?_⟩
      have hl : kvs.length = ws.length := by have := congrArg List.length x2; simpa using this
      rw [← hl]; exact Post.ok p rh (rfl : RV X.K H ρ (.int _) _)
    · exact p.elim
  case h_3 es =>
    obtain ⟨v, rfl, r1⟩ := r.inv1
    exact .inl (len_seq rh (d := .tup es) rfl r1 p)
  case h_4 es =>
    obtain ⟨v, rfl, r1⟩ := r.inv1
    exact .inl (len_seq rh (d := .fl es) rfl r1 p)
  case h_5 => exact p.elim
def intD : List D → DHeap → Res D
  | [.int i], h => .ok (.int i) h
  | [.bl k], h => .ok (.int (if k = true then 1 else 0)) h
  | _, _ => .bad
theorem cd_int : CallR X (.type "int") (RCl X.K intD) := clI call_int1 fun vs H Q q => by
  obtain ⟨ds, h, ρ, r, rh, p⟩ := q
  obtain ⟨_, _, e⟩ := p.is_ok
  rw [e] at p
  unfold intD at e
  split at e
  · cases e
    obtain ⟨v, rfl, r1⟩ := r.inv1
    cases r1
    exact .inl ⟨_, rfl, Post.ok p rh (rfl : RV X.K H ρ (.int _) _)⟩
  · cases e
    obtain ⟨v, rfl, r1⟩ := r.inv1
    cases r1
    refine .inr ⟨_, rfl, Post.ok p rh ?_⟩
    rename_i k
    cases k <;> exact (rfl : RV X.K H ρ (.int _) _)
  · cases e
def absD : List D → DHeap → Res D
  | [.int i], h => .ok (.int (if i < 0 then -i else i)) h
  | _, _ => .bad
theorem cd_abs : CallR X (.builtin "abs") (RCl X.K absD) := clI call_abs fun vs H Q q => by
  obtain ⟨ds, h, ρ, r, rh, p⟩ := q
  obtain ⟨_, _, e⟩ := p.is_ok
  rw [e] at p
  unfold absD at e
  split at e
  · cases e
    obtain ⟨v, rfl, r1⟩ := r.inv1
    cases r1
    exact ⟨_, rfl, Post.ok p rh (rfl : RV X.K H ρ (.int _) _)⟩
  · cases e
def max2D : List D → DHeap → Res D
  | [.int i, .int j], h => .ok (.int (if j > i then j else i)) h
  | _, _ => .bad
def min2D : List D → DHeap → Res D
  | [.int i, .int j], h => .ok (.int (if j < i then j else i)) h
  | _, _ => .bad
theorem cd_max2 (hc : X.calm = true) : CallR X (.builtin "max") (RCl X.K max2D) := clI (call_max2 hc) fun vs H Q q => by
  obtain ⟨ds, h, ρ, r, rh, p⟩ := q
  obtain ⟨_, _, e⟩ := p.is_ok
  rw [e] at p
  unfold max2D at e
  split at e
  · cases e
    obtain ⟨v, w, rfl, r1, r2⟩ := r.inv2
    cases r1
    cases r2
    exact ⟨_, _, rfl, Post.ok p rh (rfl : RV X.K H ρ (.int _) _)⟩
  · cases e
theorem cd_min2 (hc : X.calm = true) : CallR X (.builtin "min") (RCl X.K min2D) := clI (call_min2 hc) fun vs H Q q => by
  obtain ⟨ds, h, ρ, r, rh, p⟩ := q
  obtain ⟨_, _, e⟩ := p.is_ok
  rw [e] at p
  unfold min2D at e
  split at e
  · cases e
    obtain ⟨v, w, rfl, r1, r2⟩ := r.inv2
    cases r1
    cases r2
    exact ⟨_, _, rfl, Post.ok p rh (rfl : RV X.K H ρ (.int _) _)⟩
  · cases e
/-- the ints of a list -/
def intsOf : List D → Option (List Int)
  | [] => some []
  | .int i :: r => (intsOf r).map (i :: ·)
  | _ => none
def blsOf : List D → Option (List Bool)
  | [] => some []
  | .bl i :: r => (blsOf r).map (i :: ·)
  | _ => none
theorem intsOf_ok : ∀ {ds : List D} {ns : List Int}, intsOf ds = some ns → ds = ns.map D.int
  | [], ns, e => by cases e; rfl
  | d :: r, ns, e => by
    cases d with
    | int i =>
      simp only [intsOf] at e
      cases q : intsOf r with
      | none => rw [q] at e; cases e
      | some ms => rw [q] at e; cases e; rw [intsOf_ok q]; rfl
    | _ => cases e
theorem blsOf_ok : ∀ {ds : List D} {ns : List Bool}, blsOf ds = some ns → ds = ns.map D.bl
  | [], ns, e => by cases e; rfl
  | d :: r, ns, e => by
    cases d with
    | bl i =>
      simp only [blsOf] at e
      cases q : blsOf r with
      | none => rw [q] at e; cases e
      | some ms => rw [q] at e; cases e; rw [blsOf_ok q]; rfl
    | _ => cases e
theorem RVs.bls {K : PySem.W.Frag} {H : Hp} {ρ : List Addr} : ∀ {ns : List Bool} {xs : List V}, RVs K H ρ (ns.map D.bl) xs → xs = ns.map V.bl
  | [], _, h => h
  | n :: ns, xs, h => by
    obtain ⟨y, ys, rfl, h2, h3⟩ := h
    rw [show y = V.bl n from h2, RVs.bls h3]; rfl
def isTup : D → Bool
  | .tup _ => true
  | _ => false
theorem lst_ok {K : PySem.W.Frag} {H : Hp} {ρ : List Addr} {h : DHeap} (rh : RH K H ρ h) {d : D} {ds : List D} {v : V} (e : seqOf h d = some ds) (t : isTup d = false) (r : RV K H ρ d v) :
    ∃ q xs, v = .ref q ∧ SqL K H q xs ∧ RVs K H ρ ds xs := by
  cases d with
  | tup es => cases t
  | fl es => cases e; obtain ⟨q, xs, h1, h2, h3⟩ := r; exact ⟨q, xs, h1, h2.sq, h3⟩
  | ref n =>
    unfold seqOf at e
    simp only at e
    split at e
    · rename_i es hn
      cases e
      obtain ⟨q, h1, h2⟩ := r
      obtain ⟨xs, x1, x2⟩ := rh.at_ _ _ _ hn h2
      exact ⟨q, xs, h1, .of x1, x2⟩
    · cases e
  | _ => cases e
def overInts (g : List Int → Option D) : List D → DHeap → Res D
  | [d], h => if isTup d = true then .bad else match seqOf h d with
    | some ds => match intsOf ds with
      | some ns => match g ns with | some r => .ok r h | none => .bad
      | none => .bad
    | none => .bad
  | _, _ => .bad
def overBls (g : List Bool → D) : List D → DHeap → Res D
  | [d], h => if isTup d = true then .bad else match seqOf h d with
    | some ds => match blsOf ds with
      | some ns => .ok (g ns) h
      | none => .bad
    | none => .bad
  | _, _ => .bad
theorem overInts_inv {g : List Int → Option D} {vs : List V} {H : Hp} {Q : VK} (q : RCl X.K (overInts g) vs H Q) : ∃ a ns r h ρ, vs = [V.ref a] ∧ SqL X.K H a (ns.map V.int) ∧ g ns = some r ∧ RH X.K H ρ h ∧ Post X.K H ρ (RV X.K) (.ok r h) Q := by
  obtain ⟨ds, h, ρ, r, rh, p⟩ := q
  unfold overInts at p
  split at p
  case h_2 => exact p.elim
  case h_1 d =>
    obtain ⟨v, rfl, r1⟩ := r.inv1
    split at p
    · exact p.elim
    rename_i ht
    split at p
    · rename_i es he
      split at p
      · rename_i ns hn
        split at p
        · rename_i y hy
          obtain ⟨a, xs, rfl, hs, hr⟩ := lst_ok rh he (by simpa using ht) r1
          rw [intsOf_ok hn] at hr
          rw [hr.ints] at hs
          exact ⟨a, ns, y, h, ρ, rfl, hs, hy, rh, p⟩
        · exact p.elim
      · exact p.elim
    · exact p.elim
theorem overBls_inv {g : List Bool → D} {vs : List V} {H : Hp} {Q : VK} (q : RCl X.K (overBls g) vs H Q) : ∃ a ns h ρ, vs = [V.ref a] ∧ SqL X.K H a (ns.map V.bl) ∧ RH X.K H ρ h ∧ Post X.K H ρ (RV X.K) (.ok (g ns) h) Q := by
  obtain ⟨ds, h, ρ, r, rh, p⟩ := q
  unfold overBls at p
  split at p
  case h_2 => exact p.elim
  case h_1 d =>
    obtain ⟨v, rfl, r1⟩ := r.inv1
    split at p
    · exact p.elim
    rename_i ht
    split at p
    · rename_i es he
      split at p
      · rename_i ns hn
        obtain ⟨a, xs, rfl, hs, hr⟩ := lst_ok rh he (by simpa using ht) r1
        rw [blsOf_ok hn] at hr
        rw [hr.bls] at hs
        exact ⟨a, ns, h, ρ, rfl, hs, rh, p⟩
      · exact p.elim
    · exact p.elim
def sumD : List D → DHeap → Res D := overInts fun ns => some (.int ns.sum)
theorem cd_sum (hc : X.calm = true) : CallR X (.builtin "sum") (RCl X.K sumD) := clI (cr_sum hc) fun vs H Q q => by
  obtain ⟨a, ns, r, h, ρ, rfl, hs, e, rh, p⟩ := overInts_inv q
  cases e
  exact ⟨a, ns, rfl, hs, Post.ok p rh (rfl : RV X.K H ρ (.int _) _)⟩
/-- the greatest of some ints -/
def maxL : List Int → Option Int
  | [] => none
  | i :: r => match maxL r with | none => some i | some m => some (if m > i then m else i)
theorem maxL_ge : ∀ {ns : List Int} {m : Int}, maxL ns = some m → m ∈ ns ∧ ∀ y, y ∈ ns → y ≤ m
  | [], m, e => by cases e
  | i :: r, m, e => by
    simp only [maxL] at e
    cases q : maxL r with
    | none =>
      rw [q] at e
      cases e
      have : r = [] := by
        cases r with
        | nil => rfl
        | cons j s => simp only [maxL] at q; split at q <;> cases q
      subst this
      exact ⟨List.mem_cons_self, fun y hy => by rw [List.mem_singleton.mp hy]; exact Int.le_refl _⟩
    | some k =>
      rw [q] at e
      obtain ⟨h1, h2⟩ := maxL_ge q
      simp only [Option.some.injEq] at e
      split at e
      · subst e
        refine ⟨List.mem_cons_of_mem _ h1, fun y hy => ?_⟩
        rcases List.mem_cons.mp hy with rfl | hy
        · omega
        · exact h2 y hy
      · subst e
        refine ⟨List.mem_cons_self, fun y hy => ?_⟩
        rcases List.mem_cons.mp hy with rfl | hy
        · exact Int.le_refl _
        · have := h2 y hy; omega
def maxD : List D → DHeap → Res D := overInts fun ns => (maxL ns).map .int
theorem cd_max (hc : X.calm = true) : CallR X (.builtin "max") (RCl X.K maxD) := clI (cr_max hc) fun vs H Q q => by
  obtain ⟨a, ns, r, h, ρ, rfl, hs, e, rh, p⟩ := overInts_inv q
  cases em : maxL ns with
  | none => simp only [em] at e; cases e
  | some m =>
    simp only [em] at e
    cases e
    obtain ⟨h1, h2⟩ := maxL_ge em
    refine ⟨a, ns, rfl, hs, ?_, fun k hk hg => ?_⟩
    · cases ns with
      | nil => cases em
      | cons _ _ => exact Nat.succ_pos _
    · have : k = m := Int.le_antisymm (h2 k hk) (hg m h1)
      subst this
      exact Post.ok p rh (rfl : RV X.K H ρ (.int _) _)
def allD : List D → DHeap → Res D := overBls fun ns => .bl (ns.all id)
def anyD : List D → DHeap → Res D := overBls fun ns => .bl (ns.any id)
theorem cd_all (hc : X.calm = true) : CallR X (.builtin "all") (RCl X.K allD) := clI (cr_all hc) fun vs H Q q => by
  obtain ⟨a, ns, h, ρ, rfl, hs, rh, p⟩ := overBls_inv q
  exact ⟨a, ns, rfl, hs, Post.ok p rh (rfl : RV X.K H ρ (.bl _) _)⟩
theorem cd_any (hc : X.calm = true) : CallR X (.builtin "any") (RCl X.K anyD) := clI (cr_any hc) fun vs H Q q => by
  obtain ⟨a, ns, h, ρ, rfl, hs, rh, p⟩ := overBls_inv q
  exact ⟨a, ns, rfl, hs, Post.ok p rh (rfl : RV X.K H ρ (.bl _) _)⟩
def tupD : List D → DHeap → Res D
  | [d], h => match seqOf h d with | some ds => .ok (.tup ds) h | none => .bad
  | _, _ => .bad
theorem cd_tup : CallR X (.type "tuple") (RCl X.K tupD) := clI call_tuple_of fun vs H Q q => by
  obtain ⟨ds, h, ρ, r, rh, p⟩ := q
  unfold tupD at p
  split at p
  case h_2 => exact p.elim
  case h_1 d =>
    obtain ⟨v, rfl, r1⟩ := r.inv1
    split at p
    · rename_i es he
      obtain ⟨q, xs, rfl, hs, h3⟩ := seq_ok rh he r1
      refine ⟨q, xs, rfl, ?_⟩
      rcases hs with hs | hs
      · refine .inl ⟨hs, fun l hl => ?_⟩
        obtain ⟨x1, x2⟩ := rh.lay (.tup xs) hl
        exact p _ _ _ x1 x2 ⟨l, xs, rfl, .of upd_same, RVs.mono x1 _ _ h3⟩
      · exact .inr ⟨hs, Post.ok p rh ⟨q, xs, rfl, hs, h3⟩⟩
    · exact p.elim
def lstD : List D → DHeap → Res D
  | [d], h => match seqOf h d with | some ds => .ok (.ref h.length) (h ++ [.lst ds]) | none => .bad
  | _, _ => .bad
theorem cd_lst : CallR X (.type "list") (RCl X.K lstD) := clI call_list_of fun vs H Q q => by
  obtain ⟨ds, h, ρ, r, rh, p⟩ := q
  unfold lstD at p
  split at p
  case h_2 => exact p.elim
  case h_1 d =>
    obtain ⟨v, rfl, r1⟩ := r.inv1
    split at p
    · rename_i es he
      obtain ⟨q, xs, rfl, hs, h3⟩ := seq_ok rh he r1
      refine ⟨q, xs, rfl, hs, fun l hl => ?_⟩
      obtain ⟨x1, x2⟩ := rh.push (c := .lst es) hl (o := .lst xs) rfl ⟨_, rfl, h3⟩
      exact p _ _ _ x1 x2 ⟨l, rfl, by rw [← rh.len]; simp⟩
    · exact p.elim

/-! isinstance -/
def isTy (T : String) : List D → DHeap → Res D
  | [.non], h => .ok (.bl false) h
  | [.bl _], h => .ok (.bl (T == "int" || T == "bool")) h
  | [.int _], h => .ok (.bl (T == "int")) h
  | [.str _], h => .ok (.bl (T == "str")) h
  | [.tup _], h => .ok (.bl (T == "tuple")) h
  | [.fl _], h => .ok (.bl (T == "list")) h
  | [.ref n], h => match h[n]? with
    | some (.lst _) => .ok (.bl (T == "list")) h
    | some (.dic _) => .ok (.bl (T == "dict")) h
    | none => .bad
  | _, _ => .bad
theorem tyx_of {K : PySem.W.Frag} {H : Hp} {ρ : List Addr} {h h' : DHeap} (rh : RH K H ρ h) {T : String} {d : D} {v : V} {r : D} (rv : RV K H ρ d v) (e : isTy T [d] h = .ok r h') (hT : T = "int" ∨ T = "tuple" ∨ T = "str" ∨ T = "list" ∨ T = "dict" ∨ T = "bool") :
    h' = h ∧ ∃ t b, r = .bl b ∧ TyX K H v t ∧ PySem.W.kitOne K t (.type T) = some b := by
  cases d with
  | non => cases e; cases (show v = _ from rv); exact ⟨rfl, _, _, rfl, .base .non, by rcases hT with rfl | rfl | rfl | rfl | rfl | rfl <;> exact kit_ty (by decide +kernel)⟩
  | bl _ => cases e; cases (show v = _ from rv); exact ⟨rfl, _, _, rfl, .base (.bl _), by rcases hT with rfl | rfl | rfl | rfl | rfl | rfl <;> exact kit_ty (by decide +kernel)⟩
  | int _ => cases e; cases (show v = _ from rv); exact ⟨rfl, _, _, rfl, .base (.int _), by rcases hT with rfl | rfl | rfl | rfl | rfl | rfl <;> exact kit_ty (by decide +kernel)⟩
  | str _ => cases e; cases (show v = _ from rv); exact ⟨rfl, _, _, rfl, .base (.str _), by rcases hT with rfl | rfl | rfl | rfl | rfl | rfl <;> exact kit_ty (by decide +kernel)⟩
  | tup ds =>
    cases e
    obtain ⟨a, xs, rfl, s, _⟩ := rv
    refine ⟨rfl, .type "tuple", _, rfl, ?_, by rcases hT with rfl | rfl | rfl | rfl | rfl | rfl <;> exact kit_ty (by decide +kernel)⟩
    rcases s with (s | ⟨o, s⟩) | ⟨o, its, n, s, c, _⟩
    · exact .base (.tup s)
    · exact .fTuple s
    · exact .kTuple s c
  | fl ds =>
    cases e
    obtain ⟨a, xs, rfl, s, _⟩ := rv
    refine ⟨rfl, .type "list", _, rfl, ?_, by rcases hT with rfl | rfl | rfl | rfl | rfl | rfl <;> exact kit_ty (by decide +kernel)⟩
    rcases s with ⟨o, s⟩ | ⟨o, its, n, s, c, _⟩
    · exact .base (.frz s)
    · exact .kList s c
  | ref n =>
    simp only [isTy] at e
    obtain ⟨a, rfl, ha⟩ := rv
    split at e
    · rename_i ds hn
      cases e
      obtain ⟨xs, x1, _⟩ := rh.at_ _ _ _ hn ha
      exact ⟨rfl, .type "list", _, rfl, .base (.lst x1), by rcases hT with rfl | rfl | rfl | rfl | rfl | rfl <;> exact kit_ty (by decide +kernel)⟩
    · rename_i ds hn
      cases e
      obtain ⟨xs, x1, _⟩ := rh.at_ _ _ _ hn ha
      exact ⟨rfl, .type "dict", _, rfl, .base (.dK x1), by rcases hT with rfl | rfl | rfl | rfl | rfl | rfl <;> exact kit_ty (by decide +kernel)⟩
    · cases e
/-- isinstance(e, T) -/
def isiM (T : String) (f : M D) : M D := fun σ h => (f σ h).bind fun d h1 => isTy T [d] h1
theorem de_isi {T : Str} {n : String} {pT : Pos} (hT : n = "int" ∨ n = "tuple" ∨ n = "str" ∨ n = "list" ∨ n = "dict" ∨ n = "bool") (hg : Gl X "isinstance") (hm : X.mg "isinstance" = none) (hgT : Gl X T) (hmT : X.mg T = none) (hvT : bootBuiltins T = some (.type n)) (ha : DE X e fa)
    (hnT : T ≠ "__name__" := by decide) (hdT : (T == ("__debug__" : Str)) = false := by decide)
    (he : starEach [e, .Name T pT] X.env = (false, eval e X.env) :: starEach [.Name T pT] X.env := by rfl) (he2 : starEach [.Name T pT] X.env = (false, eval (.Name T pT) X.env) :: starEach [] X.env := by rfl)
    (hpl : (backTo pos (starEach [.Name T pT] X.env)).any (·.1) = false := by rfl) : DE X (.Call (.Name "isinstance" p) [e, .Name T pT] [] pos) (isiM n fa) :=
  ⟨peI (pe_callB call_isi hg hm (by decide +kernel) (pa_cons ha.run (pa_cons (pe_bltn (v := .ty n) hgT hmT hvT rfl hnT hdT) pa_nil he2) he) (by decide) (by decide) he hpl) fun σ H Q q => by
    obtain ⟨σd, h, ρ, re, rh, p⟩ := q
    refine ⟨σd, h, ρ, re, rh, p.bind.mono fun v H1 ⟨d, h1, ρ1, e1, rh1, r1, p1⟩ => ?_⟩
    cases ei : isTy n [d] h1 with
    | bad => rw [ei] at p1; exact p1.elim
    | ok r h2 =>
      rw [ei] at p1
      obtain ⟨rfl, t, b, rfl, tx, kt⟩ := tyx_of rh1 r1 ei hT
      exact ⟨v, .ty n, t, .type n, b, rfl, .ty n, tx, kt, Post.ok p1 rh1 (rfl : RV X.K H1 ρ1 (.bl b) _)⟩⟩
end
end DL

set_option Elab.async false
set_option linter.all false
set_option maxRecDepth 100000
namespace DL
open PySem PySem.Spec PyProof.Rows L2

/-! dicts with ints and texts as keys -/
def keyD : D → Option Key
  | .int i => some (.inl i)
  | .str x => some (.inr x)
  | _ => none
def lookD (kvs : List (Key × D)) (k : Key) : Option D := (kvs.find? fun kv => decide (kv.1 = k)).map (·.2)
def putD (kvs : List (Key × D)) (k : Key) (v : D) : List (Key × D) :=
  if (kvs.any fun kv => decide (kv.1 = k)) = true then kvs.map (fun kv => if kv.1 = k then (kv.1, v) else kv) else kvs ++ [(k, v)]
theorem key_rv {K : PySem.W.Frag} {H : Hp} {ρ : List Addr} {d : D} {v : V} {k : Key} (e : keyD d = some k) (r : RV K H ρ d v) : v = kV k := by
  cases d with
  | int i => cases e; exact r
  | str i => cases e; exact r
  | _ => cases e
theorem RKVs.cons_inv {K : PySem.W.Frag} {H : Hp} {ρ : List Addr} {kv : Key × D} {kvs : List (Key × D)} {vs : List (Key × V)} (r : RKVs K H ρ (kv :: kvs) vs) : ∃ v ws, vs = (kv.1, v) :: ws ∧ RV K H ρ kv.2 v ∧ RKVs K H ρ kvs ws := by
  obtain ⟨e, q⟩ := r
  cases vs with
  | nil => cases e
  | cons w ws =>
    rw [List.map_cons, List.map_cons] at e
    obtain ⟨e1, e2⟩ := List.cons.inj e
    obtain ⟨y, ys, h1, h2, h3⟩ := q
    rw [List.map_cons] at h1
    obtain ⟨f1, f2⟩ := List.cons.inj h1
    exact ⟨y, ws, by rw [← f1, e1], h2, e2, by rw [f2]; exact h3⟩
theorem RKVs.nil_inv {K : PySem.W.Frag} {H : Hp} {ρ : List Addr} {vs : List (Key × V)} (r : RKVs K H ρ [] vs) : vs = [] := by
  obtain ⟨e, _⟩ := r
  cases vs with
  | nil => rfl
  | cons _ _ => cases e
theorem RKVs.nil {K : PySem.W.Frag} {H : Hp} {ρ : List Addr} : RKVs K H ρ [] [] := ⟨rfl, rfl⟩
theorem RKVs.cons {K : PySem.W.Frag} {H : Hp} {ρ : List Addr} {k : Key} {d : D} {v : V} {kvs : List (Key × D)} {vs : List (Key × V)} (r : RV K H ρ d v) (q : RKVs K H ρ kvs vs) : RKVs K H ρ ((k, d) :: kvs) ((k, v) :: vs) :=
  ⟨by rw [List.map_cons, List.map_cons, q.1], v, vs.map (·.2), rfl, r, q.2⟩
theorem RKVs.look {K : PySem.W.Frag} {H : Hp} {ρ : List Addr} (k : Key) : ∀ {kvs : List (Key × D)} {vs : List (Key × V)}, RKVs K H ρ kvs vs → match lookD kvs k with | some d => ∃ v, valV vs k = some v ∧ RV K H ρ d v | none => valV vs k = none
  | [], vs, r => by rw [r.nil_inv]; rfl
  | kv :: kvs, vs, r => by
    obtain ⟨v, ws, rfl, h1, h2⟩ := r.cons_inv
    by_cases e : kv.1 = k
    · have : lookD (kv :: kvs) k = some kv.2 := by simp [lookD, List.find?_cons, e]
      rw [this]
      exact ⟨v, valV_pos e, h1⟩
    · have : lookD (kv :: kvs) k = lookD kvs k := by simp [lookD, List.find?_cons, e]
      rw [this, valV_neg (p := (kv.1, v)) e]
      exact RKVs.look k h2
theorem RKVs.any {K : PySem.W.Frag} {H : Hp} {ρ : List Addr} (k : Key) : ∀ {kvs : List (Key × D)} {vs : List (Key × V)}, RKVs K H ρ kvs vs → (kvs.any fun kv => decide (kv.1 = k)) = vs.any fun kv => decide (kv.1 = k)
  | [], vs, r => by rw [r.nil_inv]; rfl
  | kv :: kvs, vs, r => by
    obtain ⟨v, ws, rfl, h1, h2⟩ := r.cons_inv
    rw [List.any_cons, List.any_cons, RKVs.any k h2]
theorem RKVs.repl {K : PySem.W.Frag} {H : Hp} {ρ : List Addr} (k : Key) {d : D} {v : V} (rd : RV K H ρ d v) : ∀ {kvs : List (Key × D)} {vs : List (Key × V)}, RKVs K H ρ kvs vs →
    RKVs K H ρ (kvs.map fun kv => if kv.1 = k then (kv.1, d) else kv) (vs.map fun kv => if kv.1 = k then (kv.1, v) else kv)
  | [], vs, r => by rw [r.nil_inv]; exact .nil
  | kv :: kvs, vs, r => by
    obtain ⟨w, ws, rfl, h1, h2⟩ := r.cons_inv
    rw [List.map_cons, List.map_cons]
    by_cases e : kv.1 = k
    · rw [if_pos e, if_pos e]; exact .cons rd (RKVs.repl k rd h2)
    · rw [if_neg e, if_neg e]; exact .cons h1 (RKVs.repl k rd h2)
theorem RKVs.snoc {K : PySem.W.Frag} {H : Hp} {ρ : List Addr} (k : Key) {d : D} {v : V} (rd : RV K H ρ d v) : ∀ {kvs : List (Key × D)} {vs : List (Key × V)}, RKVs K H ρ kvs vs → RKVs K H ρ (kvs ++ [(k, d)]) (vs ++ [(k, v)])
  | [], vs, r => by rw [r.nil_inv]; exact .cons rd .nil
  | kv :: kvs, vs, r => by
    obtain ⟨w, ws, rfl, h1, h2⟩ := r.cons_inv
    exact .cons h1 (RKVs.snoc k rd h2)
theorem RKVs.put {K : PySem.W.Frag} {H : Hp} {ρ : List Addr} (k : Key) {d : D} {v : V} (rd : RV K H ρ d v) {kvs : List (Key × D)} {vs : List (Key × V)} (r : RKVs K H ρ kvs vs) : RKVs K H ρ (putD kvs k d) (putK vs k v) := by
  unfold putD putK
  rw [r.any k]
  split
  · exact r.repl k rd
  · exact r.snoc k rd
theorem RKVs.len {K : PySem.W.Frag} {H : Hp} {ρ : List Addr} {kvs : List (Key × D)} {vs : List (Key × V)} (r : RKVs K H ρ kvs vs) : kvs.length = vs.length := by
  have := congrArg List.length r.1
  simpa using this

section
variable {X : Cx} {pos p apos cpos : Pos} {x : Str} {e a b o i : Expr} {es : List Expr} {fa fb fc fo fi fe : M D} {f g : M (List D)}

/-! subscripts -/
def ixD : D → D → DHeap → Res D := fun x y h => match y with
  | .int i => match seqOf h x with
    | some ds => match atI ds i with | some d => .ok d h | none => .bad
    | none => match x with
      | .str z => if z.length ≤ sizeLine then (match atI z.cps.toList i with | some c => .ok (.str ⟨#[c]⟩) h | none => .bad) else .bad
      | .ref n => match h[n]? with | some (.dic kvs) => (match lookD kvs (.inl i) with | some d => .ok d h | none => .bad) | _ => .bad
      | _ => .bad
  | .str k => match x with
    | .ref n => match h[n]? with | some (.dic kvs) => (match lookD kvs (.inr k) with | some d => .ok d h | none => .bad) | _ => .bad
    | _ => .bad
  | _ => .bad
theorem RVs.atI {K : PySem.W.Frag} {H : Hp} {ρ : List Addr} {ds : List D} {xs : List V} {i : Int} {d : D} (r : RVs K H ρ ds xs) (e : atI ds i = some d) : ∃ v, L2.atI xs i = some v ∧ RV K H ρ d v := by
  unfold L2.atI at e ⊢
  rw [r.len] at e
  cases q : ixN xs.length i with
  | none => rw [q] at e; cases e
  | some j =>
    rw [q] at e
    exact r.get e
def rIxDict (K : PySem.W.Frag) : R2 := fun x y H Q => ∃ a v, x = .ref a ∧ DGet H a y (some v) ∧ Q v H
theorem ix_dict (hu : X.A.units + 1 < cLine) : IxR X (rIxDict X.K) := by
  intro value slice pins s σ H x y v u Q I rx ry h hs
  obtain ⟨a, w, rfl, g, q⟩ := h
  cases rx
  exact tail_any (dict_typeIs I g) PySem.F.slot_dict_getitem.lookup (d_getItem hu I g ry fun w' s' I' rw' => ⟨w, H, I', rw', q⟩) hs
theorem dic_get {K : PySem.W.Frag} {H : Hp} {ρ : List Addr} {h : DHeap} (rh : RH K H ρ h) {n : Nat} {kvs : List (Key × D)} {k : Key} {d : D} {x y : V} (hn : h[n]? = some (.dic kvs)) (l : lookD kvs k = some d) (rx : RV K H ρ (.ref n) x) (ey : y = kV k) :
    ∃ a v, x = .ref a ∧ DGet H a y (some v) ∧ RV K H ρ d v := by
  obtain ⟨a, rfl, ha⟩ := rx
  obtain ⟨vs, x1, x2⟩ := rh.at_ _ _ _ hn ha
  have q := x2.look k
  rw [l] at q
  obtain ⟨v, q1, q2⟩ := q
  subst ey
  exact ⟨a, v, rfl, by rw [← q1]; exact .k x1, q2⟩
theorem ixI {r r' : R2} (ho : IxR X r) (i : ∀ x y H Q, r' x y H Q → r x y H Q) : IxR X r' :=
  fun value slice pins s σ H x y v u Q I rx ry q => ho value slice pins s σ H x y v u Q I rx ry (i x y H Q q)
theorem id_ix (hu : X.A.units + 1 < cLine) : IxR X (RO X.K ixD) := ixI (ix_seq.or (ix_dict hu)) fun x y H Q q => by
  obtain ⟨dx, dy, h, ρ, rx, ry, rh, p⟩ := q
  unfold ixD at p
  split at p
  · rename_i i
    split at p
    · rename_i ds hs
      split at p
      · rename_i d hd
        obtain ⟨a, xs, rfl, hq, hr⟩ := seq_ok rh hs rx
        obtain ⟨v, hv, rv⟩ := hr.atI hd
        rcases hq with hq | hq
        · exact .inl (.inl ⟨a, xs, i, v, rfl, ry, hq, hv, Post.ok p rh rv⟩)
        · exact .inl (.inr (.inl ⟨a, xs, i, v, rfl, ry, hq, hv, Post.ok p rh rv⟩))
      · exact p.elim
    · split at p
      · rename_i z hs
        split at p
        · rename_i hz
          split at p
          · rename_i c hc
            exact .inl (.inr (.inr ⟨z, i, c, rx, ry, hz, hc, Post.ok p rh (rfl : RV X.K H ρ (.str _) _)⟩))
          · exact p.elim
        · exact p.elim
      · split at p
        · rename_i kvs hn
          split at p
          · rename_i d hd
            obtain ⟨a, v, e1, g, r⟩ := dic_get (k := .inl i) rh hn hd rx ry
            exact .inr ⟨a, v, e1, g, Post.ok p rh r⟩
          · exact p.elim
        · exact p.elim
      · exact p.elim
  · rename_i k
    split at p
    · split at p
      · rename_i kvs hn
        split at p
        · rename_i d hd
          obtain ⟨a, v, e1, g, r⟩ := dic_get (k := .inr k) rh hn hd rx ry
          exact .inr ⟨a, v, e1, g, Post.ok p rh r⟩
        · exact p.elim
      · exact p.elim
    · exact p.elim
  · exact p.elim
theorem de_ix (hu : X.A.units + 1 < cLine) (ha : DE X a fa) (hb : DE X b fb) (hs : PlainIx b) : DE X (.Subscript a b pos) (bin2 ixD fa fb) := ⟨peI (pe_ix (id_ix hu) ha.run hb.run hs) fun _ _ _ q => two q⟩

/-! slices -/
def RO1 (_ : Hp) (_ : List Addr) (a b : Option Int) : Prop := a = b
structure DO (X : Cx) (e : Option Expr) (f : M (Option Int)) : Prop where
  run : PO X e (rdG X.K RO1 f)
def oNone : M (Option Int) := fun _ h => .ok none h
def oSome (f : M D) : M (Option Int) := fun σ h => (f σ h).bind fun d h1 => match d with | .int i => .ok (some i) h1 | _ => .bad
theorem poI {e : Option Expr} {t t' : TO} (h : PO X e t) (i : ∀ σ H Q, t' σ H Q → t σ H Q) : PO X e t' := ⟨fun pins s σ H Q I q => h.run pins s σ H Q I (i σ H Q q)⟩
theorem do_none : DO X none oNone := ⟨poI po_none fun σ H Q q => by
  obtain ⟨σd, h, ρ, re, rh, p⟩ := q
  exact Post.ok p rh (rfl : RO1 _ _ none none)⟩
theorem do_some (h : DE X e fa) : DO X (some e) (oSome fa) := ⟨poI (po_some h.run) fun σ H Q q => by
  obtain ⟨σd, h, ρ, re, rh, p⟩ := q
  refine ⟨σd, h, ρ, re, rh, p.bind.mono fun v H1 ⟨d, h1, ρ1, e1, rh1, r1, p1⟩ => ?_⟩
  cases d with
  | int i => exact ⟨i, r1, Post.ok p1 rh1 (rfl : RO1 _ _ _ _)⟩
  | _ => exact p1.elim⟩
def cutL {α : Type} (xs : List α) (lo hi : Option Int) : List α := (xs.drop (HT.sIx xs.length 0 lo)).take (HT.sIx xs.length xs.length hi - HT.sIx xs.length 0 lo)
def slD (x : D) (lo hi : Option Int) (h : DHeap) : Res D := match x with
  | .tup ds => .ok (.tup (cutL ds lo hi)) h
  | .str z => if z.length ≤ sizeLine then .ok (.str (cutS z lo hi)) h else .bad
  | d => match seqOf h d with | some ds => .ok (.ref h.length) (h ++ [.lst (cutL ds lo hi)]) | none => .bad
def slM (f : M D) (l u : M (Option Int)) : M D := fun σ h => (f σ h).bind fun x h1 => (l σ h1).bind fun lo h2 => (u σ h2).bind fun hi h3 => slD x lo hi h3
theorem RVs.cut {K : PySem.W.Frag} {H : Hp} {ρ : List Addr} {ds : List D} {xs : List V} (r : RVs K H ρ ds xs) (lo hi : Option Int) : RVs K H ρ (cutL ds lo hi) (cutV xs lo hi) := by
  unfold cutL cutV
  rw [r.len]
  exact (r.drop _).take _
theorem cut_whole {xs : List V} {lo hi : Option Int} (h : HT.sIx xs.length 0 lo = 0 ∧ HT.sIx xs.length xs.length hi = xs.length) : cutV xs lo hi = xs := by
  unfold cutV
  rw [h.1, h.2, Nat.sub_zero, List.drop_zero, List.take_length]
theorem de_sl {lo hi : Option Expr} {fl fh : M (Option Int)} {p2 : Pos} (ha : DE X a fa) (hl : DO X lo fl) (hh : DO X hi fh) : DE X (.Subscript a (.Slice lo hi none p2) pos) (slM fa fl fh) :=
  ⟨peI (pe_slice (sl_tupA.or (sl_list.or sl_str)) ha.run hl.run hh.run) fun σ H Q q => by
    obtain ⟨σd, h, ρ, re, rh, p⟩ := q
    refine ⟨σd, h, ρ, re, rh, p.bind.mono fun v H1 ⟨x, h1, ρ1, e1, rh1, r1, p1⟩ => ?_⟩
    refine ⟨σd, h1, ρ1, re.mono e1, rh1, p1.bind.mono fun l H2 ⟨l', h2, ρ2, e2, rh2, r2, p2⟩ => ?_⟩
    refine ⟨σd, h2, ρ2, (re.mono e1).mono e2, rh2, p2.bind.mono fun u H3 ⟨u', h3, ρ3, e3, rh3, r3, p3⟩ => ?_⟩
    cases (show l' = l from r2)
    cases (show u' = u from r3)
    have rx := RV.mono e3 _ _ (RV.mono e2 _ _ r1)
    have seq : ∀ {ds : List D}, seqOf h3 x = some ds → isTup x = false → Post X.K H3 ρ3 (RV X.K) (.ok (.ref h3.length) (h3 ++ [.lst (cutL ds l u)])) Q → rSlL X.K v l u H3 Q := fun {ds} hs ht pp => by
      obtain ⟨q, xs, rfl, hq, hr⟩ := lst_ok rh3 hs ht rx
      refine ⟨q, xs, rfl, hq, fun a ha => ?_⟩
      obtain ⟨x1, x2⟩ := rh3.push (c := .lst (cutL ds l u)) ha (o := .lst (cutV xs l u)) rfl ⟨_, rfl, hr.cut l u⟩
      exact pp _ _ _ x1 x2 ⟨a, rfl, by rw [← rh3.len]; simp⟩
    cases x with
    | tup ds =>
      obtain ⟨a, xs, rfl, hs, hr⟩ := rx
      refine .inl ⟨a, xs, rfl, hs, fun hw => ?_, fun hw q hq => ?_⟩
      · have hc := hr.cut l u
        rw [cut_whole hw] at hc
        exact Post.ok p3 rh3 ⟨a, xs, rfl, hs, hc⟩
      · obtain ⟨x1, x2⟩ := rh3.lay (.tup (cutV xs l u)) hq
        exact p3 _ _ _ x1 x2 ⟨q, _, rfl, .of upd_same, RVs.mono x1 _ _ (hr.cut l u)⟩
    | str z =>
      simp only [slD] at p3
      split at p3
      · rename_i hz
        exact .inr (.inr ⟨z, rx, hz, Post.ok p3 rh3 (rfl : RV X.K H3 ρ3 (.str _) _)⟩)
      · exact p3.elim
    | fl ds => exact .inr (.inl (seq rfl rfl p3))
    | ref n =>
      simp only [slD] at p3
      split at p3
      · rename_i ds hs
        exact .inr (.inl (seq hs rfl p3))
      · exact p3.elim
    | _ => exact p3.elim⟩

/-! displays -/
def tupM (f : M (List D)) : M D := fun σ h => (f σ h).bind fun ds h1 => if ds.length ≤ sizeLine then .ok (.tup ds) h1 else .bad
def lstM (f : M (List D)) : M D := fun σ h => (f σ h).bind fun ds h1 => if ds.length ≤ sizeLine then .ok (.ref h1.length) (h1 ++ [.lst ds]) else .bad
theorem de_tup {x1} (hf : DA X es f) : DE X (.Tuple es x1 pos) (tupM f) := ⟨peI (pe_tup hf.run) fun σ H Q q => by
  obtain ⟨σd, h, ρ, re, rh, p⟩ := q
  refine ⟨σd, h, ρ, re, rh, p.bind.mono fun vs H1 ⟨ds, h1, ρ1, e1, rh1, r1, p1⟩ => ?_⟩
  split at p1
  · rename_i hl
    refine ⟨by rw [← r1.len]; exact hl, fun q hq => ?_⟩
    obtain ⟨x1, x2⟩ := rh1.lay (.tup vs) hq
    exact p1 _ _ _ x1 x2 ⟨q, _, rfl, .of upd_same, RVs.mono x1 _ _ r1⟩
  · exact p1.elim⟩
theorem de_lst (hf : DA X es f) : DE X (.List es pos) (lstM f) := ⟨peI (pe_lst hf.run) fun σ H Q q => by
  obtain ⟨σd, h, ρ, re, rh, p⟩ := q
  refine ⟨σd, h, ρ, re, rh, p.bind.mono fun vs H1 ⟨ds, h1, ρ1, e1, rh1, r1, p1⟩ => ?_⟩
  split at p1
  · rename_i hl
    refine ⟨by rw [← r1.len]; exact hl, fun q hq => ?_⟩
    obtain ⟨x1, x2⟩ := rh1.push (c := .lst ds) hq (o := .lst vs) rfl ⟨_, rfl, r1⟩
    exact p1 _ _ _ x1 x2 ⟨q, rfl, by rw [← rh1.len]; simp⟩
  · exact p1.elim⟩
def newDic : M D := fun _ h => .ok (.ref h.length) (h ++ [.dic []])
theorem de_dic : DE X (.Dict [] [] pos) newDic := ⟨peI pe_dnewK fun σ H Q q => by
  obtain ⟨σd, h, ρ, re, rh, p⟩ := q
  intro q hq
  obtain ⟨x1, x2⟩ := rh.push (c := .dic []) hq (o := .dK []) rfl ⟨_, rfl, .nil⟩
  exact p _ _ _ x1 x2 ⟨q, rfl, by rw [← rh.len]; simp⟩⟩

/-! a list grows -/
def appM (fo fe : M D) : M D := fun σ h => (fo σ h).bind fun x h1 => match x with
  | .ref n => match h1[n]? with
    | some (.lst _) => (fe σ h1).bind fun y h2 => match h2[n]? with
      | some (.lst ds) => if ds.length < sizeLine then .ok .non (h2.set n (.lst (ds ++ [y]))) else .bad
      | _ => .bad
    | _ => .bad
  | _ => .bad
theorem de_app (ho : DE X o fo) (he : DE X e fe) (hbase : attributeBase o "append" X.env (eval o X.env) = eval o X.env := by rfl)
    (hfew : ((backTo cpos (starEach (e :: []) X.env)).all (fun x => !x.1) && (backToKw cpos (keywordEach [] X.env)).all (fun x => x.1.isSome)
      && decide ((e :: []).length + ([] : List Keyword).length + (if ([] : List Keyword).isEmpty then 0 else 1) < 30)) = true := by rfl)
    (hline : (apos.endLine == cpos.line) = true := by rfl) (hs : starEach (e :: []) X.env = (false, eval e X.env) :: starEach [] X.env := by rfl) (hplain : (backTo cpos (starEach [] X.env)).any (·.1) = false := by rfl) :
    DE X (.Call (.Attribute o "append" apos) [e] [] cpos) (appM fo fe) :=
  ⟨peI (pe_bm PySem.F.plainAttrs_list PySem.F.slot_list_append PySem.F.type_list_append mt_append ho.run (pa_cons he.run pa_nil hs) hbase hfew hline hs hplain) fun σ H Q q => by
    obtain ⟨σd, h, ρ, re, rh, p⟩ := q
    refine ⟨σd, h, ρ, re, rh, p.bind.mono fun v H1 ⟨x, h1, ρ1, e1, rh1, r1, p1⟩ => ?_⟩
    cases x with
    | ref n =>
      simp only at p1
      split at p1
      · rename_i es hn
        obtain ⟨a, rfl, ha⟩ := r1
        obtain ⟨xs, x1, x2⟩ := rh1.at_ _ _ _ hn ha
        refine ⟨Or.inl ⟨rfl, _, SqL.of x1⟩, σd, h1, ρ1, re.mono e1, rh1, p1.bind.mono fun w H2 ⟨y, h2, ρ2, e2, rh2, r2, p2⟩ => ?_⟩
        split at p2
        · rename_i ds hn2
          split at p2
          · rename_i hl
            obtain ⟨ys, y1, y2⟩ := rh2.at_ _ _ _ hn2 (e2.pre _ _ ha)
            refine ⟨a, ys, w, rfl, rfl, y1, by rw [← y2.len]; exact hl, ?_⟩
            obtain ⟨z1, z2⟩ := rh2.put (e2.pre _ _ ha) (o := .lst (ys ++ [w])) rfl (c := .lst (ds ++ [y])) ⟨_, rfl, y2.app (RVs.one r2)⟩
            exact p2 _ _ _ z1 z2 rfl
          · exact p2.elim
        · exact p2.elim
      · exact p1.elim
    | _ => exact p1.elim⟩
end
end DL

set_option Elab.async false
set_option linter.all false
set_option maxRecDepth 100000
namespace DL
open PySem PySem.Spec PyProof.Rows L2
def Mx (xs : List Int) (m : Int) : Prop := m ∈ xs ∧ ∀ y, y ∈ xs → y ≤ m
section
variable {prog : Program} {w : World} {A : Around} {E : Value → Shared → Prop}
theorem tree_kw {id : String} {b : Builtin} {args : List Value} {kw : List (Str × Value)} {s : Shared} {Q : Value → Shared → Prop} (hk : builtinKind id = none) (hp : plainId id = true) (hb : entryFor table id = some b) (ha : argsOk id ⟨args, kw⟩)
    (hc : wpAny (model prog w) A.in1 (b ⟨args, kw⟩) (fun fin s' => match fin with
      | .done f => (match (Except.ok f : Result) with | .ok (.ret v) => Q v s' | .ok _ => False | .error e => E e s')
      | .again c' => c'.quiet = true ∧ codeAny (model prog w) A c' (fun r s' => match r with | .ok (.ret v) => Q v s' | .ok _ => False | .error e => E e s') s') E s) : wpAny (model prog w) A (call (.builtin id) args kw) Q E s := by
  apply wpAny_call
  apply codeAny_call_builtin hp hb
  simp only [checkBuiltinCall, hk]
  cases hsig : Manifest.signature? id with
  | none => exact wpAny_pure hc
  | some sig =>
    have ha' : Bind.checkArgs id sig ⟨args, kw⟩ = pure () := by simpa only [argsOk, hsig] using ha
    simp only [ha']
    exact wpAny_pure hc

theorem mx_loop {R : Result → Shared → Prop} {it l S : Addr} {its : List Value} {ns : List Int} {d : Value} (hh : A.in1.handled = none) (hi : IntsAre its ns) (h1 : it ≠ S) (h2 : l ≠ S) (h3 : l ≠ it) :
    ∀ (k j : Nat) (s : Shared) (vs : Array Value) (c : Nat), its.length - j = k → j ≤ its.length → s.heap.IsListIter it l j → s.heap.IsList l its.toArray →
    s.heap.get? S = some { cls := .type "list", dict := none, data := .seq vs c, slots := #[] } → ((j = 0 ∧ vs = #[]) ∨ ∃ m t, vs = #[.int m t, .int m t] ∧ Mx (ns.take j) m) →
    (∀ v h' tk, (∀ b o, b ≠ it → b ≠ S → s.heap.get? b = some o → h'.get? b = some o) → ((ns = [] ∧ v = d) ∨ ∃ m t, v = .int m t ∧ Mx ns m) → R (.ok (.ret v)) { s with heap := h', toks := tk }) →
    codeAny (model prog w) A (.builtin "max.loop" ⟨[.ref it, .none, .ref S], [("default", d)]⟩) R s := by
  have nm : (toString "max" ++ toString ".loop" : String) = "max.loop" := by decide
  have hlen : its.length = ns.length := hi.length
  intro k
  induction k with
  | zero =>
    intro j s vs c hk hj st hl hS hv hR
    have ej : j = its.length := by omega
    apply codeAny_builtin F.entry_max_loop
    rw [Around.under_plainId F.plain_max_loop _]
    show wpAny _ A.in1 (seqItems? (.ref S) >>= _) _ _ s
    apply wpAny_bind
    apply wpAny_seqItems hS rfl
    show wpAny _ A.in1 (tryCatch (pyNext (.ref it)) _ >>= _) _ _ s
    apply wpAny_bind
    apply wpAny_tryCatch
    refine wpAny_pyNext_list_end hh st hl (by rw [ej]; simp) fun h' eb => ?_
    have hS' := eb S _ (Ne.symm h1) hS
    rcases hv with ⟨e0, rfl⟩ | ⟨m, t, rfl, hm⟩
    · show wpAny _ A.in1 (rule _ >>= _) _ _ _
      refine wpAny_bind (wpAny_rule ?_)
      refine wpAny_pure (hR d h' s.toks (fun b o n1 n2 e => eb b o n1 e) (.inl ⟨?_, rfl⟩))
      apply List.length_eq_zero_iff.mp
      omega
    · show wpAny _ A.in1 (updateSeq S (fun _ => #[]) >>= _) _ _ _
      apply wpAny_bind
      refine wpAny_updateSeq hS' rfl (wpAny_bind (wpAny_letGo (wpAny_pure ?_)))
      refine hR (.int m t) _ s.toks (fun b o n1 n2 e => (Heap.get?_update_other _ _ (Ne.symm n2)).trans (eb b o n1 e)) (.inr ⟨m, t, rfl, ?_⟩)
      rw [ej, hlen, List.take_length] at hm
      exact hm
  | succ k ih =>
    intro j s vs c hk hj st hl hS hv hR
    have hlt : j < its.length := by omega
    have hltn : j < ns.length := by omega
    obtain ⟨t, et⟩ : ∃ t, its[j]? = some (.int ns[j] t) := by
      obtain ⟨u, e1, e2⟩ := (vals_of_ints hi).get (i := j) (x := .int ns[j]) (by simp [hltn])
      obtain ⟨t, rfl⟩ := e2
      exact ⟨t, e1⟩
    have ht : ns.take (j + 1) = ns.take j ++ [ns[j]] := by rw [List.take_add_one]; simp [hltn]
    apply codeAny_builtin F.entry_max_loop
    rw [Around.under_plainId F.plain_max_loop _]
    show wpAny _ A.in1 (seqItems? (.ref S) >>= _) _ _ s
    apply wpAny_bind
    apply wpAny_seqItems hS rfl
    show wpAny _ A.in1 (tryCatch (pyNext (.ref it)) _ >>= _) _ _ s
    apply wpAny_bind
    apply wpAny_tryCatch
    refine wpAny_pyNext_list_item st hl (x := .int ns[j] t) (by simpa using et) fun h' st' sb => ?_
    have hS' := (sb.2 S (Ne.symm h1)).trans hS
    have hl' : h'.IsList l its.toArray := by
      obtain ⟨o, e, r⟩ := hl
      exact ⟨o, (sb.2 l h3).trans e, r⟩
    rcases hv with ⟨e0, rfl⟩ | ⟨m, tm, rfl, hm⟩
    · show wpAny _ A.in1 (updateSeq S (fun _ => #[.int ns[j] t, .int ns[j] t]) >>= _) _ _ _
      apply wpAny_bind
      refine wpAny_updateSeq hS' rfl ?_
      rw [nm]
      refine wpAny_pure ⟨plainId_quiet F.plain_max_loop _, ih (j + 1) _ _ _ (by omega) hlt ?_ ?_ (Heap.get?_update_self _ hS' rfl) (.inr ⟨ns[j], t, rfl, ?_⟩) fun v h'' tk kp hv => ?_⟩
      · obtain ⟨o, e, r⟩ := st'
        exact ⟨o, (Heap.get?_update_other _ _ (Ne.symm h1)).trans e, r⟩
      · obtain ⟨o, e, r⟩ := hl'
        exact ⟨o, (Heap.get?_update_other _ _ (Ne.symm h2)).trans e, r⟩
      · rw [ht, show ns.take j = [] by simp [e0]]
        exact ⟨by simp, fun y hy => by simp at hy; omega⟩
      · exact hR v h'' tk (fun b o n1 n2 e => kp b o n1 n2 ((Heap.get?_update_other _ _ (Ne.symm n2)).trans ((sb.2 b n1).trans e))) hv
    · show wpAny _ A.in1 (tryCatch (holding [.int ns[j] t, .int ns[j] t] (richCompare .Gt (.int ns[j] t) (.int m tm) >>= _)) _ >>= _) _ _ _
      apply wpAny_bind
      apply wpAny_tryCatch
      apply wpAny_holding
      apply wpAny_bind
      refine CmpOf.ints_gt (P := fun i v => ∃ t, v = .int (if i = 0 then ns[j] else m) t) (fun i => if i = 0 then ns[j] else m) (fun _ _ x => x) 0 1 _ _ _ _ _ ⟨t, rfl⟩ ⟨tm, rfl⟩ ?_
      refine wpAny_bind (wpAny_holding (wpAny_truthy_bool ?_))
      refine wpAny_bind (wpAny_letGo (wpAny_pure ?_))
      have eb : (fun i j_1 : Nat => decide ((if i = 0 then ns[j] else m) > if j_1 = 0 then ns[j] else m)) 0 1 = decide (ns[j] > m) := by simp
      rw [eb]
      by_cases hgt : ns[j] > m
      · rw [decide_eq_true hgt]
        simp only [if_true]
        apply wpAny_bind
        refine wpAny_updateSeq hS' rfl (wpAny_bind (wpAny_letGo ?_))
        rw [nm]
        refine wpAny_pure ⟨plainId_quiet F.plain_max_loop _, ih (j + 1) _ _ _ (by omega) hlt ?_ ?_ (Heap.get?_update_self _ hS' rfl) (.inr ⟨ns[j], t, rfl, ?_⟩) fun v h'' tk kp hv => ?_⟩
        · obtain ⟨o, e, r⟩ := st'
          exact ⟨o, (Heap.get?_update_other _ _ (Ne.symm h1)).trans e, r⟩
        · obtain ⟨o, e, r⟩ := hl'
          exact ⟨o, (Heap.get?_update_other _ _ (Ne.symm h2)).trans e, r⟩
        · rw [ht]
          refine ⟨List.mem_append_right _ List.mem_cons_self, fun y hy => ?_⟩
          rcases List.mem_append.mp hy with q | q
          · have := hm.2 y q; omega
          · simp at q; omega
        · exact hR v h'' tk (fun b o n1 n2 e => kp b o n1 n2 ((Heap.get?_update_other _ _ (Ne.symm n2)).trans ((sb.2 b n1).trans e))) hv
      · rw [decide_eq_false hgt]
        simp only [Bool.false_eq_true, if_false]
        refine wpAny_bind (wpAny_letGo ?_)
        rw [nm]
        refine wpAny_pure ⟨plainId_quiet F.plain_max_loop _, ih (j + 1) _ _ _ (by omega) hlt st' hl' hS' (.inr ⟨m, tm, rfl, ?_⟩) fun v h'' tk kp hv => ?_⟩
        · rw [ht]
          refine ⟨List.mem_append_left _ hm.1, fun y hy => ?_⟩
          rcases List.mem_append.mp hy with q | q
          · exact hm.2 y q
          · simp at q; omega
        · exact hR v h'' tk (fun b o n1 n2 e => kp b o n1 n2 ((sb.2 b n1).trans e)) hv
theorem args_maxd (a d : Value) : argsOk "max" ⟨[a], [(Str.ofString "default", d)]⟩ := by unfold argsOk; kernel_rfl
/-- max(l, default=d) -/
theorem mx_call {l : Addr} {its : List Value} {ns : List Int} {d : Value} {s : Shared} {Q : Value → Shared → Prop} (hh : A.handled = none) (hi : IntsAre its ns) (hl : s.heap.IsList l its.toArray)
    (hQ : ∀ v h' tk, (∀ b o, s.heap.get? b = some o → h'.get? b = some o) → ((ns = [] ∧ v = d) ∨ ∃ m t, v = .int m t ∧ Mx ns m) → Q v { s with heap := h', toks := tk }) : wpAny (model prog w) A (call (.builtin "max") [.ref l] [(Str.ofString "default", d)]) Q E s := by
  have nm : (toString "max" ++ toString ".loop" : String) = "max.loop" := by decide
  have lt : l < s.heap.objs.size := by obtain ⟨_, e, _⟩ := hl; exact Heap.lt_size e
  refine tree_kw F.kind_max F.plain_max F.entry_max (args_maxd _ _) ?_
  show wpAny _ A.in1 (Builtin.Builtins.bindParams "max" ["key", "default"] 0 ⟨[], [(Str.ofString "default", d)]⟩ >>= _) _ _ s
  refine wpAny_bind (wpAny_of_eq (show Builtin.Builtins.bindParams "max" ["key", "default"] 0 ⟨[], [(Str.ofString "default", d)]⟩ = pure [none, some d] from rfl) ?_)
  refine wpAny_bind (wpAny_pure ?_)
  apply wpAny_bind
  refine wpAny_pyIter_list hl ?_
  refine wpAny_bind (wpAny_newObj_type ?_)
  rw [nm]
  have z1 : (s.heap.push { cls := .type "list_iterator", data := .fields #[.ref l, .int 0 0] }).objs.size = s.heap.objs.size + 1 := Heap.size_push ..
  refine wpAny_pure ⟨plainId_quiet F.plain_max_loop _, mx_loop hh hi (it := s.heap.objs.size) (l := l) ?_ ?_ ?_ its.length 0 _ #[] _ rfl (Nat.zero_le _) ?_ ?_ (Heap.get?_push_size _ rfl) (.inl ⟨rfl, rfl⟩) fun v h' tk kp hv => ?_⟩
  · rw [z1]; exact Nat.ne_of_lt (Nat.lt_succ_self _)
  · rw [z1]; exact Nat.ne_of_lt (Nat.lt_succ_of_lt lt)
  · exact Nat.ne_of_lt lt
  · refine ⟨_, Heap.get?_push_of_some _ (Heap.get?_push_size _ rfl), rfl, rfl⟩
  · obtain ⟨o, e, r⟩ := hl
    exact ⟨o, Heap.get?_push_of_some _ (Heap.get?_push_of_some _ e), r⟩
  · refine hQ v h' tk (fun b o e => kp b o ?_ ?_ (Heap.get?_push_of_some _ (Heap.get?_push_of_some _ e))) hv
    · exact Nat.ne_of_lt (Heap.lt_size e)
    · rw [z1]; exact Nat.ne_of_lt (Nat.lt_succ_of_lt (Heap.lt_size e))
end
end DL

set_option Elab.async false
set_option linter.all false
set_option maxRecDepth 100000
namespace DL
open PySem PySem.Spec PyProof.Rows L2
section
variable {X : Cx} {pos pos' p apos cpos : Pos} {x : Str} {e a b o i : Expr} {st : Stmt} {sts rest : List Stmt} {fa fb fc fo fi fe : M D} {f g : M Fl} {t : M Bool}

/-! small statements -/
def sNil : M Fl := fun σ h => .ok (.nx σ) h
def sSeq (f g : M Fl) : M Fl := fun σ h => (f σ h).bind fun fl h1 => match fl with | .nx σ1 => g σ1 h1 | .rt d => .ok (.rt d) h1 | .bk s => .ok (.bk s) h1 | .ct s => .ok (.ct s) h1
theorem dss_nil : DSs X [] sNil := ⟨pssI pss_nil fun E σ H q => by
  obtain ⟨σd, h, ρ, re, rh, p⟩ := q
  exact (p.ok rh) σ re⟩
theorem dss_one (h : DS X st f) : DSs X [st] f := ⟨pss_one h.run⟩
theorem dss_cons (h1 : DS X st f) (h2 : DSs X rest g) : DSs X (st :: rest) (sSeq f g) := ⟨pssI (pss_cons h1.run h2.run) fun E σ H q => by
  obtain ⟨σd, h, ρ, re, rh, p⟩ := q
  refine ⟨σd, h, ρ, re, rh, p.seq fun fl h1 H1 ρ1 e1 rh1 p1 => ?_⟩
  cases fl with
  | nx σ1 => exact fun s rs => ⟨σ1, h1, ρ1, rs, rh1, p1⟩
  | rt d => exact p1.ok rh1
  | bk s => exact p1.ok rh1
  | ct s => exact p1.ok rh1⟩
def sExpr (f : M D) : M Fl := fun σ h => (f σ h).bind fun _ h1 => .ok (.nx σ) h1
def sRet (f : M D) : M Fl := fun σ h => (f σ h).bind fun d h1 => .ok (.rt d) h1
def sRetN : M Fl := fun _ h => .ok (.rt .non) h
def sBrk : M Fl := fun σ h => .ok (.bk σ) h
def sCt : M Fl := fun σ h => .ok (.ct σ) h
def sIf (t : M Bool) (f g : M Fl) : M Fl := fun σ h => (t σ h).bind fun b h1 => if b = true then f σ h1 else g σ h1
theorem ds_expr (he : DE X e fe) (hs : swapsWith e none pos.line X.env = pure false := by rfl) : DS X (.Expr e pos) (sExpr fe) := ⟨psI (ps_expr he.run hs) fun E σ H q => by
  obtain ⟨σd, h, ρ, re, rh, p⟩ := q
  exact ⟨σd, h, ρ, re, rh, p.bind.mono fun v H1 ⟨d, h1, ρ1, e1, rh1, r1, p1⟩ => (p1.ok rh1) σ (re.mono e1)⟩⟩
theorem ds_ret (he : DE X e fe) : DS X (.Return (some e) pos) (sRet fe) := ⟨psI (ps_ret he.run) fun E σ H q => by
  obtain ⟨σd, h, ρ, re, rh, p⟩ := q
  exact ⟨σd, h, ρ, re, rh, p.bind.mono fun v H1 ⟨d, h1, ρ1, e1, rh1, r1, p1⟩ => (p1.ok rh1) v r1⟩⟩
theorem ds_retN : DS X (.Return none pos) sRetN := ⟨psI ps_retN fun E σ H q => by
  obtain ⟨σd, h, ρ, re, rh, p⟩ := q
  exact (p.ok rh) _ rfl⟩
theorem ds_pass : DS X (.Pass pos) sNil := ⟨psI ps_pass fun E σ H q => by
  obtain ⟨σd, h, ρ, re, rh, p⟩ := q
  exact (p.ok rh) σ re⟩
theorem ds_break : DS X (.Break pos) sBrk := ⟨psI ps_break fun E σ H q => by
  obtain ⟨σd, h, ρ, re, rh, p⟩ := q
  exact (p.ok rh) σ re⟩
theorem ds_continue : DS X (.Continue pos) sCt := ⟨psI ps_continue fun E σ H q => by
  obtain ⟨σd, h, ρ, re, rh, p⟩ := q
  exact (p.ok rh) σ re⟩
theorem ds_if {c : Expr} {u v : List Stmt} (hc : DT X c t) (ha : DSs X u f) (hb : DSs X v g) : DS X (.If c u v pos) (sIf t f g) := ⟨psI (ps_if hc.run ha.run hb.run) fun E σ H q => by
  obtain ⟨σd, h, ρ, re, rh, p⟩ := q
  refine ⟨σd, h, ρ, re, rh, p.bind.mono fun x H1 ⟨d, h1, ρ1, e1, rh1, r1, p1⟩ => ?_⟩
  cases (show d = x from r1)
  cases x with
  | true => exact ⟨σd, h1, ρ1, re.mono e1, rh1, p1⟩
  | false => exact ⟨σd, h1, ρ1, re.mono e1, rh1, p1⟩⟩

/-! targets -/
def rdT (K : PySem.W.Frag) (g : D → M DEnv) : TG := fun v σ H Q => ∃ d σd h ρ, RV K H ρ d v ∧ RE K H ρ σd σ ∧ RH K H ρ h ∧ Post K H ρ (RE K) (g d σd h) Q
structure DG (X : Cx) (tg : Expr) (g : D → M DEnv) : Prop where
  run : PG X tg (rdT X.K g)
theorem pgI {tg : Expr} {t t' : TG} (h : PG X tg t) (i : ∀ v σ H Q, t' v σ H Q → t v σ H Q) : PG X tg t' := ⟨fun pins s σ H v u Q I r q => h.run pins s σ H v u Q I r (i v σ H Q q)⟩
def gN (i : Nat) : D → M DEnv := fun d σ h => .ok (σ.set i (some d)) h
theorem dg_name {i : Nat} (hN : X.N.Nodup) (hi : X.N[i]? = some x) (hx : Loc X.env.scope x) (hf : X.fn x = true ∨ X.env.scope.names.lookup x = some .local := by first | exact .inl rfl | exact .inr rfl | assumption) : DG X (.Name x pos) (gN i) :=
  ⟨pgI (pg_name hN hi hx hf) fun v σ H Q q => by
    obtain ⟨d, σd, h, ρ, rd, re, rh, p⟩ := q
    exact Post.ok p rh (re.set i rd)⟩
def sAsg (f : M D) (g : D → M DEnv) : M Fl := fun σ h => (f σ h).bind fun d h1 => (g d σ h1).bind fun σ1 h2 => .ok (.nx σ1) h2
def sSet (i : Nat) (f : M D) : M Fl := fun σ h => (f σ h).bind fun d h1 => .ok (.nx (σ.set i (some d))) h1
theorem ds_set {i : Nat} (hN : X.N.Nodup) (hi : X.N[i]? = some x) (hx : Loc X.env.scope x) (he : DE X e fe) (hs : swapsWith e (some (.Name x pos')) pos.line X.env = pure false := by rfl) (hf : X.fn x = true ∨ X.env.scope.names.lookup x = some .local := by first | exact .inl rfl | exact .inr rfl | assumption) :
    DS X (.Assign [.Name x pos'] e pos) (sSet i fe) := ⟨psI (ps_set hN hi hx he.run hs hf) fun E σ H q => by
  obtain ⟨σd, h, ρ, re, rh, p⟩ := q
  exact ⟨σd, h, ρ, re, rh, p.bind.mono fun v H1 ⟨d, h1, ρ1, e1, rh1, r1, p1⟩ => (p1.ok rh1) _ ((re.mono e1).set i r1)⟩⟩
theorem ds_asg {tg : Expr} {gg : D → M DEnv} (he : DE X e fe) (hg : DG X tg gg) (hs : swapsWithSole [tg] e pos.line X.env = pure false := by rfl) (hw : swappedStores [tg] e X.env = pure none := by rfl)
    (h1 : (assignEach [tg] X.env).map (·.2) = [assign tg X.env] := by rfl) : DS X (.Assign [tg] e pos) (sAsg fe gg) := ⟨psI (ps_asg he.run hg.run hs hw h1) fun E σ H q => by
  obtain ⟨σd, h, ρ, re, rh, p⟩ := q
  refine ⟨σd, h, ρ, re, rh, p.bind.mono fun v H1 ⟨d, h1, ρ1, e1, rh1, r1, p1⟩ => ?_⟩
  exact ⟨d, σd, h1, ρ1, r1, re.mono e1, rh1, p1.bind.mono fun s H2 ⟨s', h2, ρ2, e2, rh2, r2, p2⟩ => (p2.ok rh2) _ r2⟩⟩
/-- o[i] = v -/
def setD (o i v : D) (h : DHeap) : Res Unit := match o with
  | .ref n => match h[n]? with
    | some (.lst ds) => (match i with | .int k => (match ixN ds.length k with | some j => .ok () (h.set n (.lst (ds.set j v))) | none => .bad) | _ => .bad)
    | some (.dic kvs) => (match keyD i with | some k => if kvs.length < sizeLine then .ok () (h.set n (.dic (putD kvs k v))) else .bad | none => .bad)
    | none => .bad
  | _ => .bad
def gSb (fo fi : M D) : D → M DEnv := fun v σ h => (fo σ h).bind fun o h1 => (fi σ h1).bind fun i h2 => (setD o i v h2).bind fun _ h3 => .ok σ h3
def rSetDic : TSet := fun o i v H Q => ∃ a H', o = .ref a ∧ DPut H a i v H' ∧ Q H'
theorem set_dic (hu : X.A.units + 1 < cLine) : PSet X rSetDic := by
  intro pins s σ H o i v ov iv u Q I ro ri rv h
  obtain ⟨a, H', rfl, g, q⟩ := h
  cases ro
  exact d_setItem hu I g ri rv fun s' I' => ⟨H', I', q⟩
theorem PSet.or {r r' : TSet} (h : PSet X r) (h' : PSet X r') : PSet X (fun o i v H Q => r o i v H Q ∨ r' o i v H Q) := by
  intro pins s σ H o i v ov iv u Q I ro ri rv q
  rcases q with q | q
  · exact h pins s σ H o i v ov iv u Q I ro ri rv q
  · exact h' pins s σ H o i v ov iv u Q I ro ri rv q
theorem dg_sub (hu : X.A.units + 1 < cLine) (ho : DE X o fo) (hi : DE X i fi)
    (ha : ∀ v, assign (.Subscript o i pos) X.env v = (do
      let ov ← holding [v] (eval o X.env)
      let iv ← holding [v, ov] (eval i X.env)
      standAt pos
      holding [v, ov, iv] (setItem ov iv v)
      release [v, ov, iv] []) := by intro _; rfl) : DG X (.Subscript o i pos) (gSb fo fi) :=
  ⟨pgI (pg_sub ho.run hi.run (PSet.or set_list (set_dic hu)) ha) fun v σ H Q q => by
    obtain ⟨d, σd, h, ρ, rd, re, rh, p⟩ := q
    refine ⟨σd, h, ρ, re, rh, p.bind.mono fun y H1 ⟨od, h1, ρ1, e1, rh1, r1, p1⟩ => ?_⟩
    refine ⟨σd, h1, ρ1, re.mono e1, rh1, p1.bind.mono fun z H2 ⟨id, h2, ρ2, e2, rh2, r2, p2⟩ => ?_⟩
    have rv := RV.mono e2 _ _ (RV.mono e1 _ _ rd)
    have ro := RV.mono e2 _ _ r1
    have re2 := (re.mono e1).mono e2
    unfold setD at p2
    cases od with
    | ref n =>
      simp only at p2
      split at p2
      · rename_i ds hn
        cases id with
        | int k =>
          simp only at p2
          split at p2
          · rename_i j hj
            obtain ⟨a, rfl, ha⟩ := ro
            obtain ⟨xs, x1, x2⟩ := rh2.at_ _ _ _ hn ha
            refine .inl ⟨a, xs, k, j, rfl, r2, x1, by rw [← x2.len]; exact hj, ?_⟩
            obtain ⟨z1, z2⟩ := rh2.put ha (o := .lst (xs.set j v)) rfl (c := .lst (ds.set j d)) ⟨_, rfl, x2.setAt j rv⟩
            exact p2 _ _ _ z1 z2 (re2.mono z1)
          · exact p2.elim
        | _ => exact p2.elim
      · rename_i kvs hn
        split at p2
        · rename_i k hk
          split at p2
          · rename_i hl
            obtain ⟨a, rfl, ha⟩ := ro
            obtain ⟨vs, x1, x2⟩ := rh2.at_ _ _ _ hn ha
            have ek := key_rv hk r2
            refine .inr ⟨a, _, rfl, by rw [ek]; exact .k x1 (by rw [← x2.len]; exact hl), ?_⟩
            obtain ⟨z1, z2⟩ := rh2.put ha (o := .dK (putK vs k v)) rfl (c := .dic (putD kvs k d)) ⟨_, rfl, x2.put k rv⟩
            exact p2 _ _ _ z1 z2 (re2.mono z1)
          · exact p2.elim
        · exact p2.elim
      · exact p2.elim
    | _ => exact p2.elim⟩
/-- a, b = .. -/
def rdTs (K : PySem.W.Frag) (g : List D → M DEnv) : TGs := fun vs σ H Q => ∃ ds σd h ρ, RVs K H ρ ds vs ∧ RE K H ρ σd σ ∧ RH K H ρ h ∧ Post K H ρ (RE K) (g ds σd h) Q
structure DGs (X : Cx) (ts : List Expr) (g : List D → M DEnv) : Prop where
  run : PGs X ts (rdTs X.K g)
def gsNil : List D → M DEnv := fun ds σ h => match ds with | [] => .ok σ h | _ => .bad
def gsCons (g : D → M DEnv) (gs : List D → M DEnv) : List D → M DEnv := fun ds σ h => match ds with | d :: r => (g d σ h).bind fun σ1 h1 => gs r σ1 h1 | [] => .bad
theorem pgsI {ts : List Expr} {t t' : TGs} (h : PGs X ts t) (i : ∀ v σ H Q, t' v σ H Q → t v σ H Q) : PGs X ts t' := ⟨fun pins s σ H v u Q I r q => h.run pins s σ H v u Q I r (i v σ H Q q)⟩
theorem dgs_nil : DGs X [] gsNil := ⟨pgsI pgs_nil fun v σ H Q q => by
  obtain ⟨ds, σd, h, ρ, rd, re, rh, p⟩ := q
  cases ds with
  | nil => exact ⟨rd, Post.ok p rh re⟩
  | cons _ _ => exact p.elim⟩
theorem dgs_cons {es : List Expr} {gg : D → M DEnv} {gs : List D → M DEnv} (h1 : DG X e gg) (h2 : DGs X es gs) (hs : (assignEach (e :: es) X.env).map (·.2) = assign e X.env :: (assignEach es X.env).map (·.2) := by rfl) : DGs X (e :: es) (gsCons gg gs) :=
  ⟨pgsI (pgs_cons h1.run h2.run hs) fun v σ H Q q => by
    obtain ⟨ds, σd, h, ρ, rd, re, rh, p⟩ := q
    cases ds with
    | nil => exact p.elim
    | cons d r =>
      obtain ⟨y, ys, rfl, r1, r2⟩ := rd
      refine ⟨y, ys, rfl, d, σd, h, ρ, r1, re, rh, Post.mono (Post.bind p) fun s H1 ⟨s', h1, ρ1, e1, rh1, re1, p1⟩ => ?_⟩
      exact ⟨r, s', h1, ρ1, RVs.mono e1 _ _ r2, re1, rh1, p1⟩⟩
def gTp (n : Nat) (gs : List D → M DEnv) : D → M DEnv := fun d σ h => match d with | .tup ds => if ds.length = n then gs ds σ h else .bad | _ => .bad
theorem dg_tup {es : List Expr} {k n : Nat} {gs : List D → M DEnv} (hc : X.calm = true) (hg : DGs X es gs) (hn : (assignEach es X.env).length = n := by rfl) (hst : (assignEach es X.env).findIdx? (·.1) = none := by rfl) : DG X (.Tuple es k pos) (gTp n gs) :=
  ⟨pgI (pg_tup hc hg.run hn hst) fun v σ H Q q => by
    obtain ⟨d, σd, h, ρ, rd, re, rh, p⟩ := q
    cases d with
    | tup ds =>
      unfold gTp at p
      simp only at p
      split at p
      · rename_i hl
        obtain ⟨a, xs, rfl, hs, hr⟩ := rd
        exact ⟨a, xs, rfl, hs, by rw [← hr.len]; exact hl, ds, σd, h, ρ, hr, re, rh, p⟩
      · exact p.elim
    | _ => exact p.elim⟩

/-! what is walked -/
structure Src where
  items : List D
  at_ : Option Nat
def Src.chk (s : Src) (h : DHeap) : Prop := match s.at_ with | none => True | some n => h[n]? = some (.lst s.items)
structure IterOk (K : PySem.W.Frag) (s : Src) (J : It) (H : Hp) (ρ : List Addr) : Prop where
  go : ∀ H2 ρ2 h2 i d, Ext H ρ H2 ρ2 → RH K H2 ρ2 h2 → s.chk h2 → s.items[i]? = some d → J.go i H2 ∧ ∀ v H3, J.yld i H2 v H3 → H3 = H2 ∧ RV K H2 ρ2 d v
  stop : ∀ H2 ρ2 h2 i, Ext H ρ H2 ρ2 → RH K H2 ρ2 h2 → s.chk h2 → s.items.length ≤ i → J.stop i H2
def PostI (K : PySem.W.Frag) (H : Hp) (ρ : List Addr) (r : Res Src) (R : It → Hp → Prop) : Prop := match r with
  | .ok s h' => ∀ H' ρ' J, Ext H ρ H' ρ' → RH K H' ρ' h' → IterOk K s J H' ρ' → R J H'
  | .bad => False
def rdI (K : PySem.W.Frag) (f : M Src) : TI := fun σ H R => ∃ σd h ρ, RE K H ρ σd σ ∧ RH K H ρ h ∧ PostI K H ρ (f σd h) R
structure DI (X : Cx) (tg iter : Expr) (f : M Src) : Prop where
  run : PI X tg iter (rdI X.K f)
theorem piI {tg iter : Expr} {w w' : TI} (h : PI X tg iter w) (i : ∀ σ H R, w' σ H R → w σ H R) : PI X tg iter w' := ⟨fun pins s σ H R I q => h.run pins s σ H R I (i σ H R q)⟩
/-- a walk by the value -/
def iVal (K : PySem.W.Frag) (tl : TE) : TI := fun σ H R => tl σ H fun x H1 => (∃ a, x = .ref a ∧ (∃ xs, SqL K H1 a xs) ∧ R (Itl K a) H1) ∨ (∃ a, x = .ref a ∧ (∃ xs, SqT K H1 a xs) ∧ R (Itt K a) H1) ∨ ∃ z, x = .str z ∧ R (Its z) H1
theorem pi_val {tg l : Expr} {tl : TE} (hl : PE X l tl) : PI X tg l (iVal X.K tl) := by
  refine ⟨fun pins s σ H R I h => ?_⟩
  refine thn (hl.run pins s σ H _ I h) fun v s1 ⟨x, H1, I1, r1, q1⟩ => ?_
  rcases q1 with ⟨a, rfl, ⟨xs, hq⟩, q⟩ | ⟨a, rfl, ⟨xs, hq⟩, q⟩ | ⟨z, rfl, q⟩
  · cases r1
    obtain ⟨its, rv, pl, hz⟩ := I1.list hq
    exact wpAny_pyIter_list pl.isList (pi_one (tk := s1.toks) I1 _ (turn_list a _) ⟨_, Heap.get?_push_size _ rfl, rfl, rfl⟩ q)
  · cases r1
    obtain ⟨its, rv, pl, hz⟩ := I1.tuple hq
    exact wpAny_pyIter_tuple (show s1.heap.IsTuple a its.toArray from pl) (pi_one (tk := s1.toks) I1 _ (turn_tuple a _) ⟨_, Heap.get?_push_size _ rfl, rfl, rfl⟩ q)
  · obtain ⟨t, rfl⟩ := r1
    cases ha : z.cps.all (· < 128)
    · exact wpAny_pyIter_wide ha (pi_one (tk := s1.toks) I1 _ (turn_str _ z t "str_iterator" (.inr rfl)) ⟨_, Heap.get?_push_size _ rfl, rfl, rfl⟩ q)
    · exact wpAny_pyIter_ascii ha (pi_one (tk := s1.toks) I1 _ (turn_str _ z t "str_ascii_iterator" (.inl rfl)) ⟨_, Heap.get?_push_size _ rfl, rfl, rfl⟩ q)
def srcD (h : DHeap) : D → Option Src
  | .tup ds => some ⟨ds, none⟩
  | .fl ds => some ⟨ds, none⟩
  | .ref n => match h[n]? with | some (.lst ds) => some ⟨ds, some n⟩ | _ => none
  | .str z => some ⟨z.cps.toList.map fun c => .str ⟨#[c]⟩, none⟩
  | _ => none
def srcM (f : M D) : M Src := fun σ h => (f σ h).bind fun d h1 => match srcD h1 d with | some s => .ok s h1 | none => .bad
theorem di_val {tg l : Expr} {fl : M D} (hl : DE X l fl) : DI X tg l (srcM fl) := ⟨piI (pi_val hl.run) fun σ H R q => by
  obtain ⟨σd, h, ρ, re, rh, p⟩ := q
  refine ⟨σd, h, ρ, re, rh, ?_⟩
  unfold srcM at p
  cases e0 : fl σd h with
  | bad => rw [e0] at p; exact p.elim
  | ok d h1 =>
    rw [e0] at p
    intro H1 ρ1 v e1 rh1 r1
    simp only [Res.bind] at p
    cases d with
    | tup ds =>
      obtain ⟨a, xs, rfl, hs, hr⟩ := r1
      refine .inr (.inl ⟨a, rfl, ⟨xs, hs⟩, p H1 ρ1 _ e1 rh1 ⟨fun H2 ρ2 h2 i d e2 rh2 _ ed => ?_, fun H2 ρ2 h2 i e2 rh2 _ hl => ⟨xs, e2.sqT hs, by rw [← hr.len]; exact hl⟩⟩⟩)
      obtain ⟨v, ev, rv⟩ := hr.get ed
      exact ⟨⟨xs, v, e2.sqT hs, ev⟩, fun w H3 ⟨e3, y⟩ => ⟨e3, by rw [Option.some.inj ((y xs (e2.sqT hs)).symm.trans ev)]; exact RV.mono e2 _ _ rv⟩⟩
    | fl ds =>
      obtain ⟨a, xs, rfl, hs, hr⟩ := r1
      refine .inl ⟨a, rfl, ⟨xs, hs.sq⟩, p H1 ρ1 _ e1 rh1 ⟨fun H2 ρ2 h2 i d e2 rh2 _ ed => ?_, fun H2 ρ2 h2 i e2 rh2 _ hl => ⟨xs, (e2.frL hs).sq, by rw [← hr.len]; exact hl⟩⟩⟩
      obtain ⟨v, ev, rv⟩ := hr.get ed
      exact ⟨⟨xs, v, (e2.frL hs).sq, ev⟩, fun w H3 ⟨e3, y⟩ => ⟨e3, by rw [Option.some.inj ((y xs (e2.frL hs).sq).symm.trans ev)]; exact RV.mono e2 _ _ rv⟩⟩
    | ref n =>
      simp only [srcD] at p
      cases hn : h1[n]? with
      | none => rw [hn] at p; exact p.elim
      | some c =>
        cases c with
        | dic kvs => rw [hn] at p; exact p.elim
        | lst ds =>
          rw [hn] at p
          obtain ⟨a, rfl, ha⟩ := r1
          obtain ⟨xs, x1, x2⟩ := rh1.at_ _ _ _ hn ha
          refine .inl ⟨a, rfl, ⟨xs, .of x1⟩, p H1 ρ1 _ e1 rh1 ⟨fun H2 ρ2 h2 i d e2 rh2 hc ed => ?_, fun H2 ρ2 h2 i e2 rh2 hc hl => ?_⟩⟩
          · obtain ⟨ys, y1, y2⟩ := rh2.at_ _ _ _ (show h2[n]? = some (.lst ds) from hc) (e2.pre _ _ ha)
            obtain ⟨v, ev, rv⟩ := y2.get ed
            exact ⟨⟨ys, v, .of y1, ev⟩, fun w H3 ⟨e3, y⟩ => ⟨e3, by rw [Option.some.inj ((y ys (.of y1)).symm.trans ev)]; exact rv⟩⟩
          · obtain ⟨ys, y1, y2⟩ := rh2.at_ _ _ _ (show h2[n]? = some (.lst ds) from hc) (e2.pre _ _ ha)
            exact ⟨ys, .of y1, by rw [← y2.len]; exact hl⟩
    | str z =>
      cases (show v = .str z from r1)
      refine .inr (.inr ⟨z, rfl, p H1 ρ1 _ e1 rh1 ⟨fun H2 ρ2 h2 i d e2 rh2 _ ed => ?_, fun H2 ρ2 h2 i e2 rh2 _ hl => by
        show z.cps.size ≤ i
        simpa using hl⟩⟩)
      simp only [List.getElem?_map, Option.map_eq_some_iff, Array.getElem?_toList] at ed
      obtain ⟨c, ec, rfl⟩ := ed
      refine ⟨(Array.getElem?_eq_some_iff.mp ec).1, fun w H3 ⟨e3, c', ec', ew⟩ => ⟨e3, ?_⟩⟩
      rw [ec] at ec'
      cases ec'
      exact ew
    | _ => exact p.elim⟩
def rangeL (lo : Int) (n : Nat) : List D := (List.range n).map fun (i : Nat) => D.int (lo + (i : Int))
def rng1 (f : M D) : M Src := fun σ h => (f σ h).bind fun d h1 => match d with | .int j => if -(2 ^ 62) ≤ j ∧ j < 2 ^ 62 then .ok ⟨rangeL 0 j.toNat, none⟩ h1 else .bad | _ => .bad
def rng2 (f g : M D) : M Src := fun σ h => (f σ h).bind fun d h1 => (g σ h1).bind fun e h2 => match d, e with
  | .int i, .int j => if -(2 ^ 62) ≤ i ∧ i < 2 ^ 62 ∧ -(2 ^ 62) ≤ j ∧ j < 2 ^ 62 then .ok ⟨rangeL i (j - i).toNat, none⟩ h2 else .bad
  | _, _ => .bad
theorem range_ok {K : PySem.W.Frag} {lo : Int} {n : Nat} {H : Hp} {ρ : List Addr} : IterOk K ⟨rangeL lo n, none⟩ (Itr lo n) H ρ := by
  refine ⟨fun H2 ρ2 h2 i d e2 rh2 _ ed => ?_, fun H2 ρ2 h2 i e2 rh2 _ hl => by
    show n ≤ i
    simpa [rangeL] using hl⟩
  simp only [rangeL, List.getElem?_map, Option.map_eq_some_iff] at ed
  obtain ⟨j, ej, rfl⟩ := ed
  obtain ⟨hj, e⟩ := List.getElem?_eq_some_iff.mp ej
  simp at hj e
  subst e
  exact ⟨hj, fun v H3 ⟨e3, ev⟩ => ⟨e3, ev⟩⟩
theorem di_rng1 {tg : Expr} (hg : Gl X "range") (hm : X.mg "range" = none) (ha : DE X a fa) (hs : starEach [a] X.env = [(false, eval a X.env)] := by rfl) (hs2 : starEach [a] X.env = (false, eval a X.env) :: starEach [] X.env := by rfl) : DI X tg (.Call (.Name "range" p) [a] [] pos) (rng1 fa) :=
  ⟨piI (pi_range1 hg hm (pa_cons ha.run pa_nil hs2) hs) fun σ H R q => by
    obtain ⟨σd, h, ρ, re, rh, p⟩ := q
    refine ⟨σd, h, ρ, re, rh, ?_⟩
    unfold rng1 at p
    cases e0 : fa σd h with
    | bad => rw [e0] at p; exact p.elim
    | ok d h1 =>
      rw [e0] at p
      intro H1 ρ1 v e1 rh1 r1
      simp only [Res.bind] at p
      cases d with
      | int j =>
        simp only at p
        split at p
        · rename_i hj
          cases (show v = .int j from r1)
          exact ⟨j, rfl, hj.1, hj.2, p H1 ρ1 _ e1 rh1 range_ok⟩
        · exact p.elim
      | _ => exact p.elim⟩
theorem di_rng2 {tg : Expr} (hg : Gl X "range") (hm : X.mg "range" = none) (ha : DE X a fa) (hb : DE X b fb) (hs : starEach [a, b] X.env = [(false, eval a X.env), (false, eval b X.env)] := by rfl) (hs2 : starEach [b] X.env = [(false, eval b X.env)] := by rfl)
    (hs3 : starEach [a, b] X.env = (false, eval a X.env) :: starEach [b] X.env := by rfl) (hs4 : starEach [b] X.env = (false, eval b X.env) :: starEach [] X.env := by rfl) : DI X tg (.Call (.Name "range" p) [a, b] [] pos) (rng2 fa fb) :=
  ⟨piI (pi_range2 hg hm (pa_cons ha.run (pa_cons hb.run pa_nil hs4) hs3) hs hs2) fun σ H R q => by
    obtain ⟨σd, h, ρ, re, rh, p⟩ := q
    refine ⟨σd, h, ρ, re, rh, ?_⟩
    unfold rng2 at p
    cases e0 : fa σd h with
    | bad => rw [e0] at p; exact p.elim
    | ok d h1 =>
      rw [e0] at p
      intro H1 ρ1 v e1 rh1 r1
      refine ⟨σd, h1, ρ1, re.mono e1, rh1, ?_⟩
      simp only [Res.bind] at p
      cases e3 : fb σd h1 with
      | bad => rw [e3] at p; exact p.elim
      | ok d2 h2 =>
        rw [e3] at p
        intro H2 ρ2 v2 e2 rh2 r2
        simp only [Res.bind] at p
        split at p
        · rename_i i j
          split at p
          · rename_i hj
            cases (show v = .int i from r1)
            cases (show v2 = .int j from r2)
            exact ⟨i, j, rfl, hj, p H2 ρ2 _ (e1.trans e2) rh2 range_ok⟩
          · exact p.elim
        · exact p.elim⟩

/-! for -/
open Classical in
noncomputable def loopS (s : Src) (gg : D → M DEnv) (body : M Fl) : List D → M Fl
  | [], σ, h => if s.chk h then .ok (.nx σ) h else .bad
  | x :: r, σ, h => if s.chk h then (gg x σ h).bind fun σ1 h1 => (body σ1 h1).bind fun fl h2 => match fl with
    | .nx σ2 => loopS s gg body r σ2 h2
    | .ct σ2 => loopS s gg body r σ2 h2
    | .bk σ2 => .ok (.nx σ2) h2
    | .rt d => .ok (.rt d) h2
    else .bad
noncomputable def sFor (src : M Src) (gg : D → M DEnv) (body : M Fl) : M Fl := fun σ h => (src σ h).bind fun s h1 => loopS s gg body s.items σ h1
theorem drop_cons {α : Type} {l : List α} {i : Nat} {d : α} (h : l[i]? = some d) : l.drop i = d :: l.drop (i + 1) := by
  obtain ⟨hi, e⟩ := List.getElem?_eq_some_iff.mp h
  rw [List.drop_eq_getElem_cons hi, e]
theorem ds_for {tg iter : Expr} {body : List Stmt} {src : M Src} {gg : D → M DEnv} {fb : M Fl} (hp : PassesOwn (model X.prog X.w) X.A X.env X.xe) (hc : X.calm = true) (hi : DI X tg iter src) (hg : DG X tg gg) (hb : DSs X body fb)
    (hs : ∀ x, foldedSetIterable iter X.env x = pure x := by intro _; rfl) : DS X (.For tg iter body [] pos) (sFor src gg fb) := ⟨psI (ps_for hp hc hi.run hg.run hb.run hs) fun E σ H q => by
  obtain ⟨σd, h, ρ, re, rh, p⟩ := q
  refine ⟨σd, h, ρ, re, rh, ?_⟩
  unfold sFor at p
  cases e0 : src σd h with
  | bad => rw [e0] at p; exact p.elim
  | ok s h1 =>
    rw [e0] at p
    intro H1 ρ1 J e1 rh1 ok
    simp only [Res.bind] at p
    refine ⟨fun i m σ H => i ≤ s.items.length ∧ m = s.items.length - i ∧ ∃ σd h ρ2, Ext H1 ρ1 H ρ2 ∧ RE X.K H ρ2 σd σ ∧ RH X.K H ρ2 h ∧ PostS X.K H ρ2 (loopS s gg fb (s.items.drop i) σd h) E, ⟨_, Nat.zero_le _, rfl, σd, h1, ρ1, rh1.ext, re.mono e1, rh1, PostS.ext e1 p⟩, ?_⟩
    rintro i m σ2 H2 ⟨hi, rfl, σd2, h2, ρ2, e2, re2, rh2, p2⟩
    by_cases hlt : i < s.items.length
    · have ed : s.items[i]? = some s.items[i] := List.getElem?_eq_getElem hlt
      rw [drop_cons ed] at p2
      unfold loopS at p2
      split at p2
      · rename_i hck
        obtain ⟨g1, g2⟩ := ok.go H2 ρ2 h2 i _ e2 rh2 hck ed
        refine .inr ⟨g1, fun σ' H' => i + 1 ≤ s.items.length ∧ ∃ σd h ρ2, Ext H1 ρ1 H' ρ2 ∧ RE X.K H' ρ2 σd σ' ∧ RH X.K H' ρ2 h ∧ PostS X.K H' ρ2 (loopS s gg fb (s.items.drop (i + 1)) σd h) E, fun σ' H' ⟨n1, n2⟩ => ⟨s.items.length - (i + 1), by omega, n1, rfl, n2⟩, fun v H3 y => ?_⟩
        obtain ⟨rfl, rv⟩ := g2 v H3 y
        refine ⟨_, σd2, h2, ρ2, rv, re2, rh2, p2.bind.mono fun σ4 H4 ⟨σd4, h4, ρ4, e4, rh4, re4, p4⟩ => ?_⟩
        refine ⟨σd4, h4, ρ4, re4, rh4, p4.seq fun fl h5 H5 ρ5 e5 rh5 p5 => ?_⟩
        cases fl with
        | nx σ5 => exact fun σ6 r6 => ⟨hlt, σ5, h5, ρ5, (e2.trans e4).trans e5, r6, rh5, p5⟩
        | ct σ5 => exact fun σ6 r6 => ⟨hlt, σ5, h5, ρ5, (e2.trans e4).trans e5, r6, rh5, p5⟩
        | bk σ5 => exact p5.ok rh5
        | rt d => exact p5.ok rh5
      · exact p2.elim
    · have ei : i = s.items.length := by omega
      subst ei
      rw [List.drop_length] at p2
      unfold loopS at p2
      split at p2
      · rename_i hck
        exact .inl ⟨ok.stop H2 ρ2 h2 _ e2 rh2 hck (Nat.le_refl _), (p2.ok rh2) _ re2⟩
      · exact p2.elim⟩

/-! while -/
noncomputable def whileS (t : M Bool) (body : M Fl) : Nat → M Fl
  | 0, _, _ => .bad
  | n + 1, σ, h => (t σ h).bind fun b h1 => if b = true then (body σ h1).bind fun fl h2 => match fl with
    | .nx σ2 => whileS t body n σ2 h2
    | .ct σ2 => whileS t body n σ2 h2
    | .bk σ2 => .ok (.nx σ2) h2
    | .rt d => .ok (.rt d) h2
    else .ok (.nx σ) h1
open Classical in
noncomputable def sWhile (t : M Bool) (body : M Fl) : M Fl := fun σ h => if q : ∃ n fl h', whileS t body n σ h = .ok fl h' then whileS t body (Classical.choose q) σ h else .bad
theorem ds_while {c : Expr} {body : List Stmt} {tb : M Fl} (hp : PassesOwn (model X.prog X.w) X.A X.env X.xe) (hc : DT X c t) (hb : DSs X body tb) : DS X (.While c body [] pos) (sWhile t tb) := ⟨psI (ps_while hp hc.run hb.run) fun E σ H q => by
  obtain ⟨σd, h, ρ, re, rh, p⟩ := q
  unfold sWhile at p
  split at p
  · rename_i q
    generalize Classical.choose q = n at p
    refine ⟨fun m σ H => ∃ σd h ρ, RE X.K H ρ σd σ ∧ RH X.K H ρ h ∧ PostS X.K H ρ (whileS t tb m σd h) E, ⟨n, σd, h, ρ, re, rh, p⟩, ?_⟩
    rintro m σ1 H1 ⟨σd1, h1, ρ1, re1, rh1, p1⟩
    cases m with
    | zero => exact p1.elim
    | succ m =>
      unfold whileS at p1
      refine ⟨σd1, h1, ρ1, re1, rh1, p1.bind.mono fun b H2 ⟨b', h2, ρ2, e2, rh2, r2, p2⟩ => ?_⟩
      cases (show b' = b from r2)
      cases b with
      | true =>
        simp only [if_true] at p2 ⊢
        refine ⟨fun σ' H' => ∃ σd h ρ, RE X.K H' ρ σd σ' ∧ RH X.K H' ρ h ∧ PostS X.K H' ρ (whileS t tb m σd h) E, fun σ' H' z => ⟨m, Nat.lt_succ_self _, z⟩, σd1, h2, ρ2, re1.mono e2, rh2, p2.seq fun fl h5 H5 ρ5 e5 rh5 p5 => ?_⟩
        cases fl with
        | nx σ5 => exact fun σ6 r6 => ⟨σ5, h5, ρ5, r6, rh5, p5⟩
        | ct σ5 => exact fun σ6 r6 => ⟨σ5, h5, ρ5, r6, rh5, p5⟩
        | bk σ5 => exact p5.ok rh5
        | rt d => exact p5.ok rh5
      | false =>
        simp only [Bool.false_eq_true, if_false] at p2 ⊢
        exact (p2.ok rh2) _ (re1.mono e2)
  · exact p.elim⟩
end
end DL

set_option Elab.async false
set_option linter.all false
set_option maxRecDepth 100000
namespace DL
open PySem PySem.Spec PyProof.Rows L2
section
variable {X : Cx} {pos pos' p apos cpos : Pos} {x : Str} {e a b o i elt tg iter : Expr} {fa fb fc fo fi fe : M D} {t : M Bool}

/-! comprehensions: the new list has no number yet -/
def PostC (K : PySem.W.Frag) (H : Hp) (ρ : List Addr) (r : Res (List D)) (Q : VK) : Prop := match r with
  | .ok ys h' => ∀ H' ρ' L vs, Ext H ρ H' ρ' → RH K H' ρ' h' → H L = none → H' L = some (.lst vs) → L ∉ ρ' → RVs K H' ρ' ys vs → Q (.ref L) H'
  | .bad => False
def rdC (K : PySem.W.Frag) (f : M (List D)) : TE := fun σ H Q => ∃ σd h ρ, RE K H ρ σd σ ∧ RH K H ρ h ∧ PostC K H ρ (f σd h) Q
structure DC (X : Cx) (e : Expr) (f : M (List D)) : Prop where
  run : PE X e (rdC X.K f)
structure DTs (X : Cx) (ifs : List Expr) (f : M Bool) : Prop where
  run : PTs X ifs (rdG X.K RB f)
theorem ptsI {ifs : List Expr} {t t' : TT} (h : PTs X ifs t) (i : ∀ σ H Q, t' σ H Q → t σ H Q) : PTs X ifs t' := ⟨fun pins s σ H Q I q => h.run pins s σ H Q I (i σ H Q q)⟩
def tTrue : M Bool := fun _ h => .ok true h
theorem dts_nil : DTs X [] tTrue := ⟨ptsI pts_nil fun σ H Q q => by
  obtain ⟨σd, h, ρ, re, rh, p⟩ := q
  exact Post.ok p rh (rfl : RB _ _ true true)⟩
theorem dts_one {c : Expr} (h : DT X c t) : DTs X [c] t := ⟨pts_one h.run⟩
open Classical in
noncomputable def loopC (s : Src) (step : D → DHeap → Res (Option D)) : List D → DHeap → Res (List D)
  | [], h => if s.chk h then .ok [] h else .bad
  | x :: r, h => if s.chk h then (step x h).bind fun o h1 => (loopC s step r h1).bind fun ys h2 => .ok (match o with | some y => y :: ys | none => ys) h2 else .bad
def stepC (i : Nat) (t : M Bool) (te : M D) (σ : DEnv) : D → DHeap → Res (Option D) := fun x h =>
  (t (σ.set i (some x)) h).bind fun b h1 => if b = true then (te (σ.set i (some x)) h1).bind fun y h2 => .ok (some y) h2 else .ok none h1
noncomputable def compM (src : M Src) (i : Nat) (t : M Bool) (te : M D) : M (List D) := fun σ h => (src σ h).bind fun s h1 => if s.items.length ≤ sizeLine then loopC s (stepC i t te σ) s.items h1 else .bad
theorem loopC_len {s : Src} {step : D → DHeap → Res (Option D)} : ∀ {l : List D} {h h' : DHeap} {ys : List D}, loopC s step l h = .ok ys h' → ys.length ≤ l.length
  | [], h, h', ys, e => by
    unfold loopC at e
    split at e
    · cases e; exact Nat.le_refl _
    · cases e
  | x :: r, h, h', ys, e => by
    unfold loopC at e
    split at e
    · cases e1 : step x h with
      | bad => rw [e1] at e; cases e
      | ok o h1 =>
        rw [e1] at e
        simp only [Res.bind] at e
        cases e2 : loopC s step r h1 with
        | bad => rw [e2] at e; cases e
        | ok zs h2 =>
          rw [e2] at e
          have := loopC_len e2
          cases o with
          | none => cases e; exact Nat.le_succ_of_le this
          | some y => cases e; exact Nat.succ_le_succ this
    · cases e
theorem comp_rd {K : PySem.W.Frag} {src : M Src} {ii : Nat} {σ : L2.St} {H : Hp} {Q : VK} (q : rdC K (compM src ii t fe) σ H Q) : tLc (rdI K src) (gName ii) (rdG K RB t) (rdG K (RV K) fe) [ii] σ H Q := by
  obtain ⟨σd, h, ρ, re, rh, p⟩ := q
  refine ⟨σd, h, ρ, re, rh, ?_⟩
  unfold compM at p
  cases e0 : src σd h with
  | bad => rw [e0] at p; exact p.elim
  | ok s h1 =>
    rw [e0] at p
    simp only [Res.bind] at p
    split at p
    case isFalse => exact p.elim
    rename_i hsz
    intro H1 ρ1 J e1 rh1 iok L hL
    have hL0 : H L = none := by
      cases q : H L with
      | none => rfl
      | some o =>
        by_cases m : L ∈ ρ
        · obtain ⟨j, hj, ej⟩ := List.mem_iff_getElem.mp m
          have e4 := e1.pre j L (by rw [List.getElem?_eq_getElem hj, ej])
          have := rh1.mu L (List.mem_of_getElem? e4)
          rw [hL] at this; cases this
        · rw [e1.keep L o q m] at hL; cases hL
    refine ⟨fun i m H2 => i ≤ s.items.length ∧ m = s.items.length - i ∧ ∃ h2 ρ2 acc accV, Ext H1 ρ1 H2 ρ2 ∧ RH K H2 ρ2 h2 ∧ H2 L = some (.lst accV) ∧ L ∉ ρ2 ∧ RVs K H2 ρ2 acc accV ∧ acc.length ≤ i ∧
      ∃ ys h3, loopC s (stepC ii t fe σd) (s.items.drop i) h2 = .ok ys h3 ∧ PostC K H ρ (.ok (acc ++ ys) h3) Q, ?_, ?_⟩
    · obtain ⟨x1, x2⟩ := rh1.lay (.lst []) hL
      cases e5 : loopC s (stepC ii t fe σd) s.items h1 with
      | bad => rw [e5] at p; exact p.elim
      | ok ys h3 =>
        rw [e5] at p
        exact ⟨_, Nat.zero_le _, rfl, h1, ρ1, [], [], x1, x2, upd_same, fun m => (by have := rh1.mu L m; rw [hL] at this; cases this), rfl, Nat.le_refl _, ys, h3, e5, p⟩
    · rintro i m H2 ⟨hi, rfl, h2, ρ2, acc, accV, e2, rh2, hL2, nL, racc, hacc, ys, h3, el, pc⟩
      by_cases hlt : i < s.items.length
      · have ed : s.items[i]? = some s.items[i] := List.getElem?_eq_getElem hlt
        rw [drop_cons ed] at el
        unfold loopC at el
        split at el
        case isFalse => cases el
        rename_i hck
        obtain ⟨g1, g2⟩ := iok.go H2 ρ2 h2 i _ e2 rh2 hck ed
        generalize s.items[i] = d at el g2
        refine .inr ⟨g1, fun H' => i + 1 ≤ s.items.length ∧ ∃ h2 ρ2 acc accV, Ext H1 ρ1 H' ρ2 ∧ RH K H' ρ2 h2 ∧ H' L = some (.lst accV) ∧ L ∉ ρ2 ∧ RVs K H' ρ2 acc accV ∧ acc.length ≤ i + 1 ∧
          ∃ ys h3, loopC s (stepC ii t fe σd) (s.items.drop (i + 1)) h2 = .ok ys h3 ∧ PostC K H ρ (.ok (acc ++ ys) h3) Q, fun H' ⟨n1, n2⟩ => ⟨s.items.length - (i + 1), by omega, n1, rfl, n2⟩, fun v H3 y => ?_⟩
        obtain ⟨rfl, rv⟩ := g2 v H3 y
        have re2 : RE K H3 ρ2 σd σ := (re.mono e1).mono e2
        have rw2 : RE K H3 ρ2 (σd.set ii (some d)) ((wipe σ [ii]).set ii (some v)) := by
          show RE K H3 ρ2 (σd.set ii (some d)) ((σ.set ii none).set ii (some v))
          rw [List.set_set]
          exact re2.set ii rv
        refine ⟨?_, σd.set ii (some d), h2, ρ2, rw2, rh2, ?_⟩
        · show ((σ.set ii none).set ii (some v)).set ii none = σ.set ii none
          rw [List.set_set, List.set_set]
        obtain ⟨G, hG⟩ : ∃ G, G = loopC s (stepC ii t fe σd) (s.items.drop (i + 1)) := ⟨_, rfl⟩
        rw [← hG] at el
        unfold stepC at el
        cases e6 : t (σd.set ii (some d)) h2 with
        | bad => rw [e6] at el; cases el
        | ok bt h4 =>
          rw [e6] at el
          simp only [Res.bind] at el
          intro H4 ρ4 b4 x4 rh4 r4
          cases (show bt = b4 from r4)
          have hL4 : H4 L = some (.lst accV) := x4.keep _ _ hL2 nL
          have nL4 : L ∉ ρ4 := fun m => by rw [x4.fresh L m nL] at hL2; cases hL2
          cases bt with
          | false =>
            simp only [Bool.false_eq_true, if_false] at el ⊢
            cases e7 : G h4 with
            | bad => rw [e7] at el; cases el
            | ok zs h5 =>
              rw [e7] at el
              rw [hG] at e7
              cases el
              exact ⟨hlt, h4, ρ4, acc, accV, e2.trans x4, rh4, x4.keep _ _ hL2 nL, nL4, RVs.mono x4 _ _ racc, Nat.le_succ_of_le hacc, ys, h3, e7, pc⟩
          | true =>
            simp only [if_true] at el ⊢
            cases e8 : fe (σd.set ii (some d)) h4 with
            | bad => rw [e8] at el; cases el
            | ok y h6 =>
              rw [e8] at el
              simp only at el
              refine ⟨σd.set ii (some d), h4, ρ4, rw2.mono x4, rh4, ?_⟩
              rw [e8]
              intro H6 ρ6 w6 x6 rh6 r6
              have nL6 : L ∉ ρ6 := fun m => by rw [x6.fresh L m nL4] at hL4; cases hL4
              have hL6 : H6 L = some (.lst accV) := x6.keep _ _ (x4.keep _ _ hL2 nL) nL4
              have racc6 := RVs.mono x6 _ _ (RVs.mono x4 _ _ racc)
              refine ⟨accV, hL6, by rw [← racc.len]; omega, ?_⟩
              have kp := Kp.other (K := K) (ρ := ρ6) (o' := .lst (accV ++ [w6])) hL6 rfl
              have x7 : Ext H1 ρ1 (upd H6 L (.lst (accV ++ [w6]))) ρ6 := by
                have xx := (e2.trans x4).trans x6
                refine ⟨xx.pre, fun b o q m => ?_, xx.fresh, xx.mu⟩
                rw [upd_ne (ne_of_none q hL)]
                exact xx.keep b o q m
              cases e7 : G h6 with
              | bad => rw [e7] at el; cases el
              | ok zs h5 =>
                rw [e7] at el
                rw [hG] at e7
                cases el
                refine ⟨hlt, h6, ρ6, acc ++ [y], accV ++ [w6], x7, rh6.other hL6 rfl nL6, upd_same, nL6, (RVs.kp kp _ _ racc6).app (RVs.one (RV.kp kp _ _ r6)), by rw [List.length_append]; exact Nat.succ_le_succ hacc, zs, h3, e7, ?_⟩
                rw [List.append_assoc]
                exact pc
      · have ei : i = s.items.length := by omega
        subst ei
        rw [List.drop_length] at el
        unfold loopC at el
        split at el
        · rename_i hck
          cases el
          rw [List.append_nil] at pc
          exact .inl ⟨iok.stop H2 ρ2 h2 _ e2 rh2 hck (Nat.le_refl _), pc H2 ρ2 L accV (e1.trans e2) rh2 hL0 hL2 nL racc⟩
        · cases el
theorem dc_comp {ifs : List Expr} {scope : Scope} {src : M Src} {ii : Nat} {xi : Str} (hc : X.calm = true) (hN : X.N.Nodup) (hi : DI X tg iter src) (ok : BlkOk X.N X.env.scope scope [(xi, ii)])
    (hg : ∀ (s : Shared) (H : Hp) (C : Addr) (cl : List (Str × Addr)) (fp : List Addr), PG (X.blk s H scope (compEnvC scope cl C X.env) fp) tg (gName ii))
    (ht : ∀ (s : Shared) (H : Hp) (C : Addr) (cl : List (Str × Addr)) (fp : List Addr), DTs (X.blk s H scope (compEnvC scope cl C X.env) fp) ifs t)
    (he : ∀ (s : Shared) (H : Hp) (C : Addr) (cl : List (Str × Addr)) (fp : List Addr), DE (X.blk s H scope (compEnvC scope cl C X.env) fp) elt fe) (hs : ∀ x, foldedSetIterable iter X.env x = pure x := by intro _; rfl) :
    DC X (.ListComp elt [⟨tg, iter, ifs, 0⟩] scope pos) (compM src ii t fe) :=
  ⟨peI (pe_lc (tt := rdG X.K RB t) (te := rdG X.K (RV X.K) fe) hc hN hi.run ok hg (fun s H C cl fp => (ht s H C cl fp).run) (fun s H C cl fp => (he s H C cl fp).run) hs) fun σ H Q q => comp_rd q⟩
def sSetC (i : Nat) (f : M (List D)) : M Fl := fun σ h => (f σ h).bind fun ys h1 => .ok (.nx (σ.set i (some (.ref h1.length)))) (h1 ++ [.lst ys])
theorem ds_setC {ifs : List Expr} {scope : Scope} {src : M Src} {ii i : Nat} {xi y : Str} {py spos : Pos} (hc : X.calm = true) (hN : X.N.Nodup) (hy : X.N[i]? = some y) (hyl : X.env.scope.names.lookup y = some .local)
    (hsw : swapsWith (.ListComp elt [⟨tg, iter, ifs, 0⟩] scope pos) (some (.Name y py)) spos.line X.env = pure true) (hi : DI X tg iter src) (ok : BlkOk X.N X.env.scope scope [(xi, ii)])
    (hg : ∀ (s : Shared) (H : Hp) (C : Addr) (cl : List (Str × Addr)) (fp : List Addr), PG (X.blk s H scope (compEnvC scope cl C X.env) fp) tg (gName ii))
    (ht : ∀ (s : Shared) (H : Hp) (C : Addr) (cl : List (Str × Addr)) (fp : List Addr), DTs (X.blk s H scope (compEnvC scope cl C X.env) fp) ifs t)
    (he : ∀ (s : Shared) (H : Hp) (C : Addr) (cl : List (Str × Addr)) (fp : List Addr), DE (X.blk s H scope (compEnvC scope cl C X.env) fp) elt fe) (hs : ∀ x, foldedSetIterable iter X.env x = pure x := by intro _; rfl) :
    DS X (.Assign [.Name y py] (.ListComp elt [⟨tg, iter, ifs, 0⟩] scope pos) spos) (sSetC i (compM src ii t fe)) :=
  ⟨psI (ps_setLc (tt := rdG X.K RB t) (te := rdG X.K (RV X.K) fe) hc hN hy hyl hsw hi.run ok hg (fun s H C cl fp => (ht s H C cl fp).run) (fun s H C cl fp => (he s H C cl fp).run) hs) fun E σ H q => by
    refine comp_rd (K := X.K) (Q := fun x H1 => E.nx (σ.set i (some x)) H1) ?_
    obtain ⟨σd, h, ρ, re, rh, p⟩ := q
    refine ⟨σd, h, ρ, re, rh, ?_⟩
    unfold sSetC at p
    cases e0 : compM src ii t fe σd h with
    | bad => rw [e0] at p; exact p.elim
    | ok ys h1 =>
      rw [e0] at p
      intro H' ρ' L vs x1 rh1 hL0 hL nL rvs
      obtain ⟨y1, y2⟩ := rh1.adopt x1 (c := .lst ys) hL0 hL nL ⟨_, rfl, rvs⟩
      exact p H' _ y1 y2 _ ((re.mono y1).set i ⟨L, rfl, by rw [← rh1.len]; simp⟩)⟩
end
end DL

set_option Elab.async false
set_option linter.all false
set_option maxRecDepth 100000
namespace DL
open PySem PySem.Spec PyProof.Rows L2
section
variable {X : Cx} {pos pos' p apos cpos : Pos} {x : Str} {e a b o i elt tg iter : Expr} {es : List Expr} {fa fb fc fo fi fe : M D} {t : M Bool} {f : M (List D)}

/-! a comprehension as a list, or handed to a built-in at once -/
def compL (f : M (List D)) : M D := fun σ h => (f σ h).bind fun ys h1 => .ok (.ref h1.length) (h1 ++ [.lst ys])
theorem de_comp (hf : DC X e f) : DE X e (compL f) := ⟨peI hf.run fun σ H Q q => by
  obtain ⟨σd, h, ρ, re, rh, p⟩ := q
  refine ⟨σd, h, ρ, re, rh, ?_⟩
  unfold compL at p
  cases e0 : f σd h with
  | bad => rw [e0] at p; exact p.elim
  | ok ys h1 =>
    rw [e0] at p
    intro H' ρ' L vs x1 rh1 hL0 hL nL rvs
    obtain ⟨y1, y2⟩ := rh1.adopt x1 (c := .lst ys) hL0 hL nL ⟨_, rfl, rvs⟩
    exact p H' _ _ y1 y2 ⟨L, rfl, by rw [← rh1.len]; simp⟩⟩
def RClC (K : PySem.W.Frag) (m : List D → DHeap → Res D) : List V → Hp → VK → Prop := fun vs H Q => ∃ L xs ys h ρ, vs = [.ref L] ∧ H L = some (.lst xs) ∧ RVs K H ρ ys xs ∧ RH K H ρ h ∧ Post K H ρ (RV K) (m ys h) Q
def compCall (m : List D → DHeap → Res D) (f : M (List D)) : M D := fun σ h => (f σ h).bind m
theorem compCall_rd {K : PySem.W.Frag} {m : List D → DHeap → Res D} {σ : L2.St} {H : Hp} {Q : VK} (q : rdG K (RV K) (compCall m f) σ H Q) : rdC K f σ H fun x H1 => RClC K m [x] H1 Q := by
  obtain ⟨σd, h, ρ, re, rh, p⟩ := q
  refine ⟨σd, h, ρ, re, rh, ?_⟩
  unfold compCall at p
  cases e0 : f σd h with
  | bad => rw [e0] at p; exact p.elim
  | ok ys h1 =>
    rw [e0] at p
    exact fun H' ρ' L vs x1 rh1 hL0 hL nL rvs => ⟨L, vs, ys, h1, ρ', rfl, hL, rvs, rh1, Post.ext x1 p⟩
theorem de_compB {id : String} {m : List D → DHeap → Res D} (hc : CallR X (.builtin id) (RClC X.K m)) (hg : Gl X x) (hm : X.mg x = none) (hv : bootBuiltins x = some (.builtin id)) (hf : DC X e f) (hn : x ≠ "__name__" := by decide) (hdb : (x == ("__debug__" : Str)) = false := by decide)
    (he : starEach [e] X.env = (false, eval e X.env) :: starEach [] X.env := by rfl) (hpl : (backTo pos (starEach [] X.env)).any (·.1) = false := by rfl) : DE X (.Call (.Name x p) [e] [] pos) (compCall m f) :=
  ⟨peI (pe_callB hc hg hm hv (pa_cons hf.run pa_nil he) hn hdb he hpl) fun _ _ _ q => compCall_rd q⟩
theorem de_compTy {T : String} {m : List D → DHeap → Res D} (hc : CallR X (.type T) (RClC X.K m)) (hg : Gl X x) (hm : X.mg x = none) (hv : bootBuiltins x = some (.type T)) (hf : DC X e f) (hn : x ≠ "__name__" := by decide) (hdb : (x == ("__debug__" : Str)) = false := by decide)
    (he : starEach [e] X.env = (false, eval e X.env) :: starEach [] X.env := by rfl) (hpl : (backTo pos (starEach [] X.env)).any (·.1) = false := by rfl) : DE X (.Call (.Name x p) [e] [] pos) (compCall m f) :=
  ⟨peI (pe_callTy hc hg hm hv (pa_cons hf.run pa_nil he) hn hdb he hpl) fun _ _ _ q => compCall_rd q⟩
def cTup : List D → DHeap → Res D := fun ys h => .ok (.tup ys) h
theorem cc_tup : CallR X (.type "tuple") (RClC X.K cTup) := clI call_tuple_of fun vs H Q q => by
  obtain ⟨L, xs, ys, h, ρ, rfl, hL, rv, rh, p⟩ := q
  refine ⟨L, xs, rfl, .inl ⟨.of hL, fun l hl => ?_⟩⟩
  obtain ⟨x1, x2⟩ := rh.lay (.tup xs) hl
  exact p _ _ _ x1 x2 ⟨l, xs, rfl, .of upd_same, RVs.mono x1 _ _ rv⟩
def cInts (g : List Int → Option D) : List D → DHeap → Res D := fun ys h => match intsOf ys with
  | some ns => match g ns with | some r => .ok r h | none => .bad
  | none => .bad
def cBls (g : List Bool → D) : List D → DHeap → Res D := fun ys h => match blsOf ys with
  | some ns => .ok (g ns) h
  | none => .bad
theorem cInts_inv {g : List Int → Option D} {vs : List V} {H : Hp} {Q : VK} (q : RClC X.K (cInts g) vs H Q) : ∃ a ns r h ρ, vs = [V.ref a] ∧ SqL X.K H a (ns.map V.int) ∧ g ns = some r ∧ RH X.K H ρ h ∧ Post X.K H ρ (RV X.K) (.ok r h) Q := by
  obtain ⟨L, xs, ys, h, ρ, rfl, hL, rv, rh, p⟩ := q
  unfold cInts at p
  split at p
  · rename_i ns hn
    split at p
    · rename_i r hr
      rw [intsOf_ok hn] at rv
      rw [rv.ints] at hL
      exact ⟨L, ns, r, h, ρ, rfl, .of hL, hr, rh, p⟩
    · exact p.elim
  · exact p.elim
theorem cBls_inv {g : List Bool → D} {vs : List V} {H : Hp} {Q : VK} (q : RClC X.K (cBls g) vs H Q) : ∃ a ns h ρ, vs = [V.ref a] ∧ SqL X.K H a (ns.map V.bl) ∧ RH X.K H ρ h ∧ Post X.K H ρ (RV X.K) (.ok (g ns) h) Q := by
  obtain ⟨L, xs, ys, h, ρ, rfl, hL, rv, rh, p⟩ := q
  unfold cBls at p
  split at p
  · rename_i ns hn
    rw [blsOf_ok hn] at rv
    rw [rv.bls] at hL
    exact ⟨L, ns, h, ρ, rfl, .of hL, rh, p⟩
  · exact p.elim
def cSum : List D → DHeap → Res D := cInts fun ns => some (.int ns.sum)
theorem cc_sum (hc : X.calm = true) : CallR X (.builtin "sum") (RClC X.K cSum) := clI (cr_sum hc) fun vs H Q q => by
  obtain ⟨a, ns, r, h, ρ, rfl, hs, e, rh, p⟩ := cInts_inv q
  cases e
  exact ⟨a, ns, rfl, hs, Post.ok p rh (rfl : RV X.K H ρ (.int _) _)⟩
theorem max_any {ns : List Int} {m k : Int} (e : maxL ns = some m) (h : k ∈ ns) (g : ∀ y, y ∈ ns → y ≤ k) : k = m := by
  obtain ⟨h1, h2⟩ := maxL_ge e
  exact Int.le_antisymm (h2 k h) (g m h1)
def cMax : List D → DHeap → Res D := cInts fun ns => (maxL ns).map .int
theorem cc_max (hc : X.calm = true) : CallR X (.builtin "max") (RClC X.K cMax) := clI (cr_max hc) fun vs H Q q => by
  obtain ⟨a, ns, r, h, ρ, rfl, hs, e, rh, p⟩ := cInts_inv q
  cases em : maxL ns with
  | none => simp only [em] at e; cases e
  | some m =>
    simp only [em] at e
    cases e
    refine ⟨a, ns, rfl, hs, ?_, fun k hk hg => ?_⟩
    · cases ns with
      | nil => cases em
      | cons _ _ => exact Nat.succ_pos _
    · rw [max_any em hk hg]
      exact Post.ok p rh (rfl : RV X.K H ρ (.int _) _)
def cAll : List D → DHeap → Res D := cBls fun ns => .bl (ns.all id)
def cAny : List D → DHeap → Res D := cBls fun ns => .bl (ns.any id)
theorem cc_all (hc : X.calm = true) : CallR X (.builtin "all") (RClC X.K cAll) := clI (cr_all hc) fun vs H Q q => by
  obtain ⟨a, ns, h, ρ, rfl, hs, rh, p⟩ := cBls_inv q
  exact ⟨a, ns, rfl, hs, Post.ok p rh (rfl : RV X.K H ρ (.bl _) _)⟩
theorem cc_any (hc : X.calm = true) : CallR X (.builtin "any") (RClC X.K cAny) := clI (cr_any hc) fun vs H Q q => by
  obtain ⟨a, ns, h, ρ, rfl, hs, rh, p⟩ := cBls_inv q
  exact ⟨a, ns, rfl, hs, Post.ok p rh (rfl : RV X.K H ρ (.bl _) _)⟩

/-! max(.., default=..) -/
def rMaxD (K : PySem.W.Frag) : List V → List V → Hp → VK → Prop := fun vs zs H Q => ∃ a ns d, vs = [V.ref a] ∧ zs = [d] ∧ SqL K H a (ns.map V.int) ∧ (ns = [] → Q d H) ∧ ∀ m, Mx ns m → Q (.int m) H
theorem cr_maxD (hc : X.calm = true) : CallRK X (.builtin "max") [Str.ofString "default"] (rMaxD X.K) := by
  intro pins s σ H vs zs us ws Q I r rz h
  obtain ⟨a, ns, d, rfl, rfl, hs, q1, q2⟩ := h
  obtain rfl := Vals.ref1 r
  obtain ⟨w1, rfl, e1⟩ := vals1 rz
  obtain ⟨its, rv, hl, hz⟩ := I.list hs
  refine mx_call (I.ok.hd hc) rv.ints hl.isList fun v h' tk kp hv => ?_
  rcases hv with ⟨e, rfl⟩ | ⟨m, tm, rfl, hm⟩
  · exact ⟨d, H, I.kept kp, e1, q1 e⟩
  · exact ⟨.int m, H, I.kept kp, ⟨_, rfl⟩, q2 m hm⟩
/-- the default is read behind the list -/
def compMaxD (f : M (List D)) (g : M D) : M D := fun σ h => (f σ h).bind fun ys h1 => match intsOf ys with
  | some ns => (g σ h1).bind fun d h2 => match maxL ns with | some m => .ok (.int m) h2 | none => .ok d h2
  | none => .bad
theorem Ext.lst {H H' : Hp} {ρ ρ' : List Addr} (e : Ext H ρ H' ρ') {L : Addr} {o : HO} (h : H L = some o) (n : L ∉ ρ) : H' L = some o := e.keep _ _ h n
theorem de_maxD {kp : Pos} (hg : Gl X "max") (hm : X.mg "max" = none) (hc : X.calm = true) (hf : DC X e f) (hd : DE X a fa)
    (he : backTo pos (starEach [e] X.env) = (false, eval e X.env) :: backTo pos (starEach [] X.env) := by rfl) (hpl : (backTo pos (starEach [e] X.env)).any (·.1) = false := by rfl)
    (hall : (backToKw pos (keywordEach [⟨some (Str.ofString "default"), a, kp⟩] X.env)).all (·.1.isSome) = true := by rfl) (hnone : (backToKw pos (keywordEach [⟨some (Str.ofString "default"), a, kp⟩] X.env)).any (·.1.isNone) = false := by rfl)
    (hks : (backToKw pos (keywordEach [⟨some (Str.ofString "default"), a, kp⟩] X.env)).filterMap (·.1) = [Str.ofString "default"] := by rfl) (hs : starEach [e] X.env = (false, eval e X.env) :: starEach [] X.env := by rfl) :
    DE X (.Call (.Name "max" p) [e] [⟨some (Str.ofString "default"), a, kp⟩] pos) (compMaxD f fa) :=
  ⟨peI (pe_callBK (cr_maxD hc) hg hm boot_max (pa_cons hf.run pa_nil hs) (pk_cons hd.run pk_nil) (by decide) (by decide) he hpl hall hnone hks) fun σ H Q q => by
    obtain ⟨σd, h, ρ, re, rh, p⟩ := q
    refine ⟨σd, h, ρ, re, rh, ?_⟩
    unfold compMaxD at p
    cases e0 : f σd h with
    | bad => rw [e0] at p; exact p.elim
    | ok ys h1 =>
      rw [e0] at p
      simp only [Res.bind] at p
      split at p
      case h_2 => exact p.elim
      rename_i ns hn
      intro H' ρ' L vs x1 rh1 hL0 hL nL rvs
      refine ⟨σd, h1, ρ', re.mono x1, rh1, Post.mono (Post.bind (Post.ext x1 p)) fun v H2 ⟨d, h2, ρ2, e2, rh2, r2, p2⟩ => ?_⟩
      rw [intsOf_ok hn] at rvs
      rw [rvs.ints] at hL
      refine ⟨L, ns, v, rfl, rfl, .of (e2.lst hL nL), fun en => ?_, fun m hm => ?_⟩
      · subst en
        exact Post.ok p2 rh2 r2
      · cases em : maxL ns with
        | none =>
          cases ns with
          | nil => exact absurd hm.1 List.not_mem_nil
          | cons k r => simp only [maxL] at em; split at em <;> cases em
        | some k =>
          rw [em] at p2
          rw [max_any em hm.1 hm.2]
          exact Post.ok p2 rh2 (rfl : RV X.K H2 ρ2 (.int _) _)⟩
end

/-! a def by its meaning -/
structure FnG (P : Program) (w : World) (K : PySem.W.Frag) (mg : Str → Option Value) (base : Heap) (k : Nat) (f : Addr) (fd : FuncData) (ps : List Str) (m : List D → DHeap → Res D) : Prop where
  len : ∀ vs H Q, RCl K m vs H Q → vs.length = ps.length
  run : ∀ (A : Around) (outer : List Env) (s : Shared) (H : Hp) (args : Args) (us : List Value) (vs : List V) (Q : VK), Room k A → A.guards = some [] → Env0 P w K mg base A outer s H → BindsTo s fd args (ps.zip us) → Vals vs us → RCl K m vs H Q →
    codeAny (model P w) A (.call (.ref f) args) (CR CX0 outer P w H s Q E0) s
structure Defn (P : Program) (w : World) (K : PySem.W.Frag) (mg : Str → Option Value) (base : Heap) (k : Nat) (x : Str) (m : List D → DHeap → Res D) : Prop where
  ex : ∃ (f : Addr) (fd : FuncData) (ps : List Str), FnG P w K mg base k f fd ps m ∧ mg x = some (.ref f) ∧ PySem.W.keepIn K (.ref f) = true ∧ Binds K fd ps []
def runDef (np n : Nat) (body : M Fl) : List D → DHeap → Res D := fun ds h => if ds.length = np then (body (ds.map some ++ List.replicate (n - np) none) h).bind fun fl h1 => match fl with
  | .rt d => .ok d h1
  | .nx _ => .ok .non h1
  | .bk _ => .bad
  | .ct _ => .bad
  else .bad
section
variable {X : Cx} {pos p : Pos} {x : Str} {e : Expr} {es : List Expr} {f : M (List D)} {k : Nat} {m : List D → DHeap → Res D}
theorem run_fnG {fa : Addr} {fd : FuncData} {ps : List Str} {pins : List (Addr × Obj)} {σ : L2.St} {H : Hp} {s : Shared} {Q : VK} {us : List Value} {vs : List V} (F : FnG X.prog X.w X.K X.mg X.base k fa fd ps m) (hr : Room k X.A) (hgu : X.A.guards = some []) (hb : Binds X.K fd ps [])
    (I : Inv X pins σ H s) (r : Vals vs us) (q : RCl X.K m vs H Q) : wpAny (model X.prog X.w) X.A (call (.ref fa) us) (EP X pins σ Q) X.xe s := by
  have hl : (us ++ []).length = ps.length := by rw [List.append_nil, ← r.length]; exact F.len _ _ _ q
  refine wpAny_call (codeAny_mono (F.run X.A X.stack s H ⟨us, []⟩ us vs Q hr hgu I.env0 (by have := hb s us I.kIn hl; rwa [List.append_nil] at this) r q) fun r' s' hq => ?_)
  cases r' with
  | error e => exact False.elim hq
  | ok fl =>
    cases fl with
    | ret u => exact I.after hq
    | next => exact False.elim hq
    | brk => exact False.elim hq
    | cont => exact False.elim hq
theorem de_call (F : Defn X.prog X.w X.K X.mg X.base k x m) (hr : Room k X.A) (hgu : X.A.guards = some []) (hg : Gl X x) (ha : DA X (e :: es) f) (hdb : (x == ("__debug__" : Str)) = false := by decide)
    (he : starEach (e :: es) X.env = (false, eval e X.env) :: starEach es X.env := by rfl) (hpl : (backTo pos (starEach es X.env)).any (·.1) = false := by rfl) : DE X (.Call (.Name x p) (e :: es) [] pos) (callM m f) := by
  obtain ⟨fa, fd, ps, G, hm, hk, hb⟩ := F.ex
  refine ⟨⟨fun pins s σ H Q I q => ?_⟩⟩
  refine wpAny_Call_Name_kw (ld_glob I hg hm ?_ hdb)
  refine PySem.W.callWith_K (h₀ := X.base) I.ok.mod.kin hk (thn (ha.run.run pos pins s σ H _ I (call_rd q)) fun us s1 ⟨vs, H1, I1, r, q⟩ => ⟨I1.kIn, ?_⟩) he hpl
  exact run_fnG G hr hgu hb I1 r q
theorem de_call0 (F : Defn X.prog X.w X.K X.mg X.base k x m) (hr : Room k X.A) (hgu : X.A.guards = some []) (hg : Gl X x) (hdb : (x == ("__debug__" : Str)) = false := by decide) : DE X (.Call (.Name x p) [] [] pos) (callM m aNil) := by
  obtain ⟨fa, fd, ps, G, hm, hk, hb⟩ := F.ex
  refine ⟨⟨fun pins s σ H Q I q => ?_⟩⟩
  refine wpAny_Call_Name_kw (ld_glob I hg hm ?_ hdb)
  obtain ⟨σd, h, ρ, re, rh, pp⟩ := q
  exact PySem.W.callWith_K0 I.kIn hk (run_fnG (us := []) G hr hgu hb I .nil ⟨[], h, ρ, rfl, rh, pp⟩)
end
section
variable {P : Program} {w : World} {K : PySem.W.Frag} {mg : Str → Option Value} {base : Heap} {k : Nat}
theorem RE.start {H : Hp} {ρ : List Addr} {n : Nat} : ∀ {ds : List D} {vs : List V}, RVs K H ρ ds vs → RE K H ρ (ds.map some ++ List.replicate n none) (vs.map some ++ List.replicate n none) := by
  intro ds vs r
  refine ⟨by rw [List.length_append, List.length_append, List.length_map, List.length_map, r.len, List.length_replicate, List.length_replicate], fun i d q => ?_⟩
  by_cases hi : i < ds.length
  · rw [List.getElem?_append_left (by simpa using hi), List.getElem?_map] at q
    cases e : ds[i]? with
    | none => rw [e] at q; cases q
    | some d' =>
      rw [e] at q
      cases q
      obtain ⟨v, e1, e2⟩ := r.get e
      exact ⟨v, by rw [List.getElem?_append_left (by rw [List.length_map, ← r.len]; exact hi), List.getElem?_map, e1]; rfl, e2⟩
  · rw [List.getElem?_append_right (by simpa using hi), List.getElem?_replicate] at q
    split at q <;> cases q
theorem runDef_len {np n : Nat} {B : M Fl} {vs : List V} {H : Hp} {Q : VK} (q : RCl K (runDef np n B) vs H Q) : vs.length = np := by
  obtain ⟨ds, h, ρ, r, rh, p⟩ := q
  unfold runDef at p
  split at p
  · rename_i hl
    rw [← r.len]; exact hl
  · exact p.elim
/-- THE RULE: a def's meaning is that of its body -/
theorem okG {x qual : Str} {st : Stmt} {f : Addr} {fd : FuncData} {N ps : List Str} {B : M Fl} (F : Fun K x qual st f fd) (S : FnScope N ps (defScope st))
    (hbody : ∀ (cdv : Value) (A : Around) (outer : List Env) (s : Shared) (H : Hp), Room k (A.deeper (envOfC qual (defScope st) s.heap.objs.size f cdv)) → (A.deeper (envOfC qual (defScope st) s.heap.objs.size f cdv)).guards = some [] →
      DSs (cxOf CX0 P w K mg base N qual (defScope st) f cdv A outer s H E0).nox (defBody st) B) : FnG P w K mg base (k + 1) f fd ps (runDef ps.length N.length B) := by
  obtain ⟨oc, od, kV, doc, pm, an, cdv, ct, osl, rfl, lk, hcd⟩ := F.ex
  refine ⟨fun vs H Q q => runDef_len q, fun A outer s H args us vs Q hr hgu e0 hb r hsp => ?_⟩
  have hl := runDef_len hsp
  have KX : K.In s.heap := e0.mod.kin.keeps fun b o e => (e0.bs b o e).1
  have hkind : ∀ y ∈ ps.zip us, (defScope st).names.lookup y.1 = some .local ∨ ((defScope st).names.lookup y.1 = some .cell ∧ ((cellsFrom (s.heap.objs.size + 1) (defScope st).names []).lookup y.1).isSome = true) := fun y hy =>
    (S.par y.1 (List.of_mem_zip hy).1).imp id fun q => ⟨q, PySem.W.cellsFrom_some _ _ _ (.inl q)⟩
  apply codeAny_call_function hr.depth (KX _ _ lk) rfl S.co S.gen rfl (PySem.W.codeRec_of KX hcd)
  apply hb
  refine wpAny_newFunctionEnv_cells S.kind hkind fun env he s1 x => ?_
  subst he
  refine ⟨(e0.mod.nolimit.keeps fun b o e => (e0.bs b o e).1).keeps x.toInCall.keep, codeAny_func ?_⟩
  have ht := (hbody cdv A outer s H (hr.deeper _) hgu).run.nox
  have I : Inv (cxOf CX0 P w K mg base N qual (defScope st) f cdv A outer s H E0) [] (L2.start N vs) H s1 := inv_start S hr.hd e0 hl r x
  obtain ⟨ds, h, ρ, rv, rh, pp⟩ := hsp
  unfold runDef at pp
  split at pp
  case isFalse => exact pp.elim
  have hq : rdS K B { nx := fun _ H' => Q .non H', rt := Q } (L2.start N vs) H := by
    have es : L2.start N vs = vs.map some ++ List.replicate (N.length - ps.length) none := by unfold L2.start; rw [hl]
    rw [es]
    refine ⟨_, h, ρ, RE.start rv, rh, ?_⟩
    generalize B _ h = r0 at pp ⊢
    cases r0 with
    | bad => exact pp.elim
    | ok fl h1 =>
      cases fl with
      | rt d => exact fun H' ρ' x1 x2 v rv' => pp H' ρ' v x1 x2 rv'
      | nx σ' => exact fun H' ρ' x1 x2 _ _ => pp H' ρ' .non x1 x2 rfl
      | bk σ' => exact pp.elim
      | ct σ' => exact pp.elim
  refine wpAny_mono (ht.run [] s1 (L2.start N vs) H _ I hq) (fun fl s' hs => ?_) fun _ _ hs => hs
  cases fl with
  | ret u =>
    obtain ⟨v, σ', H', J, rv', q⟩ := hs
    exact ⟨v, H', J.os, J.bare, J.base, J.hok, rv', q⟩
  | next =>
    obtain ⟨σ', H', J, q⟩ := hs
    exact ⟨.non, H', J.os, J.bare, J.base, J.hok, rfl, q⟩
  | brk =>
    obtain ⟨_, _, _, q⟩ := hs
    exact False.elim q
  | cont =>
    obtain ⟨_, _, _, q⟩ := hs
    exact False.elim q
/-- a meaning that is never asked -/
theorem badG {f : Addr} {fd : FuncData} {ps : List Str} : FnG P w K mg base k f fd ps (fun _ _ => .bad) :=
  ⟨fun vs H Q ⟨_, _, _, _, _, p⟩ => p.elim, fun _ _ _ _ _ _ _ _ _ _ _ _ _ ⟨_, _, _, _, _, p⟩ => p.elim⟩
end

/-! the law's end -/
theorem endG {P : Program} {w : World} {K : PySem.W.Frag} {mg mb : Str → Option Value} {k : Nat} {fa a : Addr} {fd : FuncData} {x : Str} {m : List D → DHeap → Res D} {s₁ : Shared} {vs : List Value} {ns : List Int}
    (KX : K.In s₁.heap) (hns : s₁.heap.Ns mainGlobals mg) (hb : s₁.heap.Ns builtinsNs mb) (hbb : ∀ x : Str, x ≠ "__name__" → mb x = bootBuiltins x) (hlim : s₁.heap.NoLimit) (hg : s₁.gens = #[])
    (ha : s₁.heap.get? a = some { cls := .type "list", data := .seq vs.toArray }) (hi : IntsAre vs ns) (hl : ns.length ≤ sizeLine) (hr : Room k callerA)
    (F : ∀ base : Heap, K.In base → base.Ns mainGlobals mg → FnG P w K mg base k fa fd [x] m) (hbind : ∀ (s : Shared) (u : Value), BindsTo s fd ⟨[u], []⟩ [(x, u)]) (hm : ∃ h', m [.fl (ns.map .int)] [] = .ok (.bl true) h') :
    codeAny (model P w) callerA (.call (.ref fa) ⟨[.ref a], []⟩) (fun r s' => r = .ok (.ret (.bool true)) ∧ OldK s₁.heap s'.heap ∧ s'.os = s₁.os ∧ AllBare s'.gens) s₁ := by
  have rv := vals_ints hi
  have lenV := hi.length
  -- H tells the script at most
  have core : ∀ H : Hp, (∀ b u, H b = some u → b = a ∧ u = .frz { cls := .type "list", data := .seq vs.toArray } (.lst (ns.map V.int))) → FrL K H a (ns.map V.int) → HOk P w H s₁.heap → (H a ≠ none → K.lookup a = none) →
      codeAny (model P w) callerA (.call (.ref fa) ⟨[.ref a], []⟩) (fun r s' => r = .ok (.ret (.bool true)) ∧ OldK s₁.heap s'.heap ∧ s'.os = s₁.os ∧ AllBare s'.gens) s₁ := by
    intro H hA hS hok hK
    have dictN : ∀ {b : Addr} {o : Obj} {es : Array DictEntry} {ep : Nat}, s₁.heap.get? b = some o → o.data = .dict es ep → H b = none := fun {b o es ep} e d => by
      cases q : H b with
      | none => rfl
      | some u =>
        obtain ⟨rfl, _⟩ := hA b u q
        rw [ha] at e
        cases e
        cases (show Data.seq vs.toArray _ = Data.dict es ep from d)
    have nsK : ∀ {b : Addr} {m : Str → Option Value}, s₁.heap.Ns b m → (hidT s₁.heap H).Ns b m := fun {b m} ⟨o, es, ep, e, d, r⟩ => ⟨o, es, ep, hidT_get e (dictN e d), d, r⟩
    have kb : K.In (hidT s₁.heap H) := fun b o e => by
      refine hidT_get (KX b o e) ?_
      cases q : H b with
      | none => rfl
      | some u =>
        obtain ⟨rfl, _⟩ := hA b u q
        rw [hK (by rw [q]; simp)] at e
        cases e
    have hM : Mod K mg (hidT s₁.heap H) := ⟨kb, nsK hns, ⟨mb, nsK hb, hbb⟩, let ⟨mc, h1, h2⟩ := hlim; ⟨mc, nsK h1, h2⟩⟩
    have e0 : Env0 P w K mg (hidT s₁.heap H) callerA [] s₁ H := ⟨rfl, hM, fun b o e => of_hidT e, Nat.le_of_eq (hidT_size _ _), trivial, fun b hb => absurd (show b ∈ ([] : List Addr) from hb) (by simp), hok, .of_eq hg⟩
    obtain ⟨h', em⟩ := hm
    have rcl : RCl K m [.ref a] H (fun v _ => v = .bl true) := by
      refine ⟨[.fl (ns.map .int)], [], [], ⟨.ref a, [], rfl, ⟨a, _, rfl, hS, RVs.ofInts ns⟩, rfl⟩, ⟨rfl, List.nodup_nil, fun n c b e _ => by simp at e⟩, ?_⟩
      rw [em]
      exact fun H' ρ' v _ _ r => r
    refine codeAny_mono ((F _ kb (nsK hns)).run callerA [] s₁ H ⟨[.ref a], []⟩ [.ref a] [.ref a] _ hr rfl e0 (hbind s₁ (.ref a)) (.cons rfl .nil) rcl) fun r s' h => ?_
    cases r with
    | error e => exact False.elim h
    | ok fl =>
      cases fl with
      | next => exact False.elim h
      | brk => exact False.elim h
      | cont => exact False.elim h
      | ret u =>
        obtain ⟨v, H', os, bare, un, hok', r', q⟩ := h
        obtain rfl : v = .bl true := q
        obtain rfl : u = Value.bool true := r'
        refine ⟨rfl, OldK.of_keep fun b o e => ?_, os, bare⟩
        cases q : H b with
        | none => exact un.keep b o e q (fun z => absurd (show b ∈ ([] : List Addr) from z) (by simp)) (by simp)
        | some u =>
          obtain ⟨rfl, rfl⟩ := hA b u q
          obtain ⟨e1, _⟩ := hok b _ q
          obtain ⟨e2, _⟩ := hok' b _ (un.frzs b _ _ q)
          rw [e] at e1
          cases e1
          exact e2
  cases hk : K.lookup a with
  | some o =>
    have e := KX a o hk
    rw [ha] at e
    cases e
    exact core (fun _ => none) (fun b u z => by cases (show (none : Option HO) = some u from z)) (.inr ⟨_, vs.toArray, _, hk, rfl, rfl, rfl, by rw [List.size_toArray, lenV]; exact hl, by simpa using rv⟩) (fun b u z => by cases (show (none : Option HO) = some u from z)) fun z => absurd rfl z
  | none =>
    have at1 : (fun b => if b = a then some (HO.frz { cls := .type "list", data := .seq vs.toArray } (.lst (ns.map V.int))) else none) a = some (HO.frz { cls := .type "list", data := .seq vs.toArray } (.lst (ns.map V.int))) := if_pos rfl
    have only : ∀ b u, (fun b => if b = a then some (HO.frz { cls := .type "list", data := .seq vs.toArray } (.lst (ns.map V.int))) else none) b = some u → b = a ∧ u = .frz { cls := .type "list", data := .seq vs.toArray } (.lst (ns.map V.int)) := fun b u z => by
      by_cases q : b = a
      · subst q
        exact ⟨rfl, Option.some.inj (z.symm.trans at1)⟩
      · have z' := (if_neg q).symm.trans z
        cases z'
    refine core _ only (.inl ⟨_, at1⟩) (fun b u z => ?_) fun _ => hk
    obtain ⟨rfl, rfl⟩ := only b u z
    exact ⟨ha, by rw [List.length_map]; exact hl, vs, _, rv, ha⟩

theorem walkG {l : PySem.W.OpenLaw} {n k : Nat} {q : Program} {loose : List Str} {XP : (Str → Option Value) → Heap → Prop} {YP : World → Heap → Prop} {d : DefRec} {K : Params → PySem.W.Frag} {m : List D → DHeap → Res D} {x : Str}
    (hn : l.most = some n) (hn2 : n ≤ sizeLine) (hdf : d.params.defaults = []) (hr : Room k callerA) (hY : ∀ (w : World) (h : Heap), YP w h → (K w.params).In h)
    (F : ∀ (w : World) (mg : Str → Option Value) (fa : Addr) (h : Heap), (K w.params).In h → h.Ns mainGlobals mg → mg d.name = some (.ref fa) →
      ∃ fd : FuncData, (∀ (s : Shared) (u : Value), BindsTo s fd ⟨[u], []⟩ [(x, u)]) ∧ ∀ base : Heap, (K w.params).In base → base.Ns mainGlobals mg → FnG l.prog w (K w.params) mg base k fa fd [x] m)
    (hm : ∀ ns : List Int, ns.length ≤ n → ∃ h', m [.fl (ns.map .int)] [] = .ok (.bl true) h') : PySem.W.WalkO q loose XP YP l.row.toRowW d [] (fun f vs => PySem.call f vs) := by
  refine Att.attach_call hn hdf fun w s₀ s₁ mg mb fa o pm cd doc a vs ns G Y ho hd hcd hmg hobj hints hlen hg => ?_
  have KX := hY w _ Y
  obtain ⟨fd, hb, hF⟩ := F w mg fa _ KX G.T.g hmg
  exact endG KX G.T.g G.T.b G.T.builtins G.T.nolimit hg hobj hints (Nat.le_trans hlen hn2) hr hF hb (hm ns hlen)
end DL

set_option Elab.async false
set_option linter.all false
set_option maxRecDepth 100000
namespace DL
open PySem PySem.Spec PyProof.Rows L2
mutual
theorem noDict : ∀ d : D, (toP d).hasDict = false
  | .non => rfl
  | .bl _ => rfl
  | .int _ => rfl
  | .str _ => rfl
  | .tup ds => by show PyData.hasDictAll (toPs ds) = false; exact noDicts ds
  | .fl ds => by show PyData.hasDictAll (toPs ds) = false; exact noDicts ds
  | .ref _ => rfl
theorem noDicts : ∀ ds : List D, PyData.hasDictAll (toPs ds) = false
  | [] => rfl
  | d :: ds => by
    show ((toP d).hasDict || PyData.hasDictAll (toPs ds)) = false
    rw [noDict d, noDicts ds]
    rfl
end
/-- what may be shown -/
def okR (d : D) : Prop := pureD d = true ∧ (toP d).showable = true ∧ (toP d).depth ≤ 128 ∧ (toP d).shown.length ≤ sizeLine
instance (d : D) : Decidable (okR d) := by unfold okR; infer_instance
def reprD : List D → DHeap → Res D
  | [d], h => match seen h d with
    | some d' => if okR d' then .ok (.str (toP d').shown) h else .bad
    | none => .bad
  | _, _ => .bad
section
variable {X : Cx}
theorem cd_repr (hgu : X.A.guards = some []) (hu : X.A.units + 200 < cLine) : CallR X (.builtin "repr") (RCl X.K reprD) := by
  intro pins s σ H vs us Q I rv q
  obtain ⟨ds, h, ρ, r, rh, p⟩ := q
  unfold reprD at p
  split at p
  case h_2 => exact p.elim
  case h_1 d =>
    obtain ⟨v, rfl, r1⟩ := r.inv1
    obtain ⟨u, rfl, ru⟩ := vals1 rv
    split at p
    case h_2 => exact p.elim
    rename_i d' hs
    split at p
    case isFalse => exact p.elim
    rename_i hok
    obtain ⟨o1, o2, o3, o4⟩ := hok
    have dp := dp_seen rh hs o1 r1
    have fin : Q (.str (toP d').shown) H := Post.ok p rh (rfl : RV X.K H ρ (.str _) _)
    obtain ⟨as, rd⟩ := Dp.reads I _ _ _ dp ru
    have onref : ∀ a, u = Value.ref a → wpAny (model X.prog X.w) X.A (call (.builtin "repr") [u]) (EP X pins σ Q) X.xe s := fun a e => by
      subst e
      exact repr_of_reads' rd o2 (PyData.noDict_hsm (noDict d')) hgu (by omega) (fun _ _ e => e) (fun h' tk tk2 kp => ⟨.str _, H, I.kept kp, ⟨_, rfl⟩, fin⟩) o4
    generalize toP d' = pd at *
    cases dp with
    | non => cases (show u = Value.none from ru); exact PySem.P.repr_of_none ⟨.str _, H, I.tok _, ⟨_, rfl⟩, fin⟩
    | bl b =>
      cases (show u = Value.bool b from ru)
      refine PySem.P.repr_of_bool ⟨.str _, H, I.tok _, ⟨_, rfl⟩, ?_⟩
      simp only [PyData.shown] at fin
      exact fin
    | int i =>
      obtain ⟨t, rfl⟩ := ru
      exact PySem.P.repr_of_int (by simpa [PyData.showable] using o2) ⟨.str _, H, I.tok _, ⟨_, rfl⟩, by simpa [PyData.shown] using fin⟩
    | str z =>
      obtain ⟨t, rfl⟩ := ru
      exact PySem.P.repr_of_str ⟨.str _, H, I.tok _, ⟨_, rfl⟩, by simpa [PyData.shown] using fin⟩ (by simpa [PyData.shown] using o4)
    | lst _ _ => exact onref _ ru
    | tup _ _ => exact onref _ ru
end
end DL
namespace DL
open PySem PySem.Spec PyProof.Rows L2
theorem u200 {A : Around} {k : Nat} (hr : Room k A) : A.units + 200 < cLine := by have := hr.un; omega
end DL

set_option Elab.async false
set_option linter.all false
set_option maxRecDepth 100000
namespace DL
open PySem PySem.Spec PyProof.Rows L2
/-! a value's truth -/
def truB (d : D) (h : DHeap) : Option Bool := match d with
  | .non => some false
  | .bl b => some b
  | .int i => some (i != 0)
  | .tup ds => some (!ds.isEmpty)
  | .fl ds => some (!ds.isEmpty)
  | .ref n => match h[n]? with | some (.lst ds) => some (!ds.isEmpty) | some (.dic kvs) => some (!kvs.isEmpty) | none => none
  | .str _ => none
def tru (f : M D) : M Bool := fun σ h => (f σ h).bind fun d h1 => match truB d h1 with | some b => .ok b h1 | none => .bad
theorem RVs.emp {K : PySem.W.Frag} {H : Hp} {ρ : List Addr} {ds : List D} {xs : List V} (r : RVs K H ρ ds xs) : ds.isEmpty = xs.isEmpty := by
  have := r.len
  cases ds <;> cases xs <;> first | rfl | (simp at this)
theorem RKVs.emp {K : PySem.W.Frag} {H : Hp} {ρ : List Addr} {ds : List (Key × D)} {xs : List (Key × V)} (r : RKVs K H ρ ds xs) : ds.isEmpty = xs.isEmpty := by
  have := r.len
  cases ds <;> cases xs <;> first | rfl | (simp at this)
section
variable {X : Cx} {pos p apos cpos : Pos} {x : Str} {e a b o i : Expr} {es : List Expr} {fa fb fc fo fi fe ff : M D} {f g : M (List D)}
theorem tru_of {K : PySem.W.Frag} {H : Hp} {ρ : List Addr} {h : DHeap} {d : D} {v : V} {k : Bool} (rh : RH K H ρ h) (r : RV K H ρ d v) (e : truB d h = some k) : TruV K v H k := by
  cases d with
  | non => cases (show v = _ from r); cases e; exact (rfl : _ = _)
  | bl b => cases (show v = _ from r); cases e; exact (rfl : _ = _)
  | int i => cases (show v = _ from r); cases e; exact (rfl : _ = _)
  | str z => cases e
  | tup ds =>
    obtain ⟨a, xs, rfl, hs, hr⟩ := r
    cases e
    exact .inr (.inl ⟨xs, hs, by rw [hr.emp]⟩)
  | fl ds =>
    obtain ⟨a, xs, rfl, hs, hr⟩ := r
    cases e
    exact .inl ⟨xs, hs.sq, by rw [hr.emp]⟩
  | ref n =>
    obtain ⟨a, rfl, ha⟩ := r
    unfold truB at e
    simp only at e
    split at e
    · rename_i ds hn
      cases e
      obtain ⟨xs, x1, x2⟩ := rh.at_ _ _ _ hn ha
      exact .inl ⟨xs, .of x1, by rw [x2.emp]⟩
    · rename_i kvs hn
      cases e
      obtain ⟨xs, x1, x2⟩ := rh.at_ _ _ _ hn ha
      exact .inr (.inr ⟨xs, x1, by rw [x2.emp]⟩)
    · cases e
theorem dt_tru {f : M D} (h : DE X e f) (he : ∀ whole, isTrue e X.env whole = (do let v ← whole; standAt e.pos; holding [v] (truthy v)) := by intro _; rfl) : DT X e (tru f) :=
  ⟨ptI (pt_truth h.run he) fun σ H Q q => by
    obtain ⟨σd, h, ρ, re, rh, p⟩ := q
    refine ⟨σd, h, ρ, re, rh, p.bind.mono fun x H1 ⟨d, h1, ρ1, e1, rh1, r1, p1⟩ => ?_⟩
    split at p1
    · rename_i k hk
      exact ⟨k, tru_of rh1 r1 hk, p1.ok rh1 (rfl : RB _ _ k k)⟩
    · exact p1.elim⟩
/-! x in l -/
def inB (x y : D) (h : DHeap) : Option Bool := match y with
  | .ref n => match h[n]? with
    | some (.dic kvs) => (keyD x).map fun k => (lookD kvs k).isSome
    | some (.lst ds) => match seen h x with | some x' => if okP x' = true ∧ okP (.fl ds) = true then some (ds.any fun z => eqvD z x') else none | none => none
    | none => none
  | .fl ds => match seen h x with | some x' => if okP x' = true ∧ okP (.fl ds) = true then some (ds.any fun z => eqvD z x') else none | none => none
  | _ => none
def inD : D → D → DHeap → Res D := fun x y h => match inB x y h with | some b => .ok (.bl b) h | none => .bad
def ninD : D → D → DHeap → Res D := fun x y h => match inB x y h with | some b => .ok (.bl (!b)) h | none => .bad
theorem any_toPs (f : PyData → Bool) : ∀ ds : List D, (toPs ds).any f = ds.any fun z => f (toP z)
  | [] => rfl
  | d :: ds => by rw [toPs, List.any_cons, List.any_cons, any_toPs f ds]
theorem op_in_dict (hu : X.A.units + 1 < cLine) : OpR X (compareOp .In) (fun x y H Q => ∃ a o, y = .ref a ∧ DGet H a x o ∧ Q (.bl o.isSome) H) := by
  intro pins s σ H x y v u Q I rx ry q
  obtain ⟨a, o, rfl, g, q⟩ := q
  cases ry
  exact d_in hu I g rx fun s' I' => ⟨.bl _, H, I', rfl, q⟩
theorem op_nin_dict (hu : X.A.units + 1 < cLine) : OpR X (compareOp .NotIn) (fun x y H Q => ∃ a o, y = .ref a ∧ DGet H a x o ∧ Q (.bl (!o.isSome)) H) := by
  intro pins s σ H x y v u Q I rx ry q
  obtain ⟨a, o, rfl, g, q⟩ := q
  cases ry
  exact d_notIn hu I g rx fun s' I' => ⟨.bl _, H, I', rfl, q⟩
theorem in_of {K : PySem.W.Frag} {H : Hp} {ρ : List Addr} {h : DHeap} {dx dy : D} {x y : V} {k : Bool} (rh : RH K H ρ h) (rx : RV K H ρ dx x) (ry : RV K H ρ dy y) (e : inB dx dy h = some k) :
    (∃ d ds, Dp K H x d ∧ Dp K H y (.list ds) ∧ SeqAt.shaped d = true ∧ SeqAt.shaped (.list ds) = true ∧ k = ds.any fun z => PyData.eqv z d) ∨ ∃ a o, y = .ref a ∧ DGet H a x o ∧ k = o.isSome := by
  have lst : ∀ (ds : List D), Dp K H y (.list (toPs ds)) ∨ pureDs ds = false → (match seen h dx with | some x' => if okP x' = true ∧ okP (.fl ds) = true then some (ds.any fun z => eqvD z x') else none | none => none) = some k →
      (∃ d ds, Dp K H x d ∧ Dp K H y (.list ds) ∧ SeqAt.shaped d = true ∧ SeqAt.shaped (.list ds) = true ∧ k = ds.any fun z => PyData.eqv z d) := fun ds hy e => by
    split at e
    · rename_i x' hx
      split at e
      · rename_i hc
        cases e
        obtain ⟨c1, c2⟩ := hc
        unfold okP at c1 c2
        rw [Bool.and_eq_true] at c1 c2
        have hp : pureDs ds = true := c2.1
        refine ⟨_, _, dp_seen rh hx c1.1 rx, ?_, c1.2, c2.2, (any_toPs (fun z => PyData.eqv z (toP x')) ds).symm⟩
        rcases hy with hy | hy
        · exact hy
        · rw [hp] at hy; cases hy
      · cases e
    · cases e
  cases dy with
  | ref n =>
    obtain ⟨a, rfl, ha⟩ := ry
    unfold inB at e
    simp only at e
    split at e
    · rename_i kvs hn
      obtain ⟨vs, x1, x2⟩ := rh.at_ _ _ _ hn ha
      cases ek : keyD dx with
      | none => rw [ek] at e; cases e
      | some key =>
        rw [ek] at e
        cases e
        have hv := key_rv ek rx
        subst hv
        refine .inr ⟨a, _, rfl, .k x1, ?_⟩
        have q := x2.look key
        cases el : lookD kvs key with
        | none => rw [el] at q; show (lookD kvs key).isSome = _; rw [el, q]; rfl
        | some d => rw [el] at q; obtain ⟨v, q1, _⟩ := q; show (lookD kvs key).isSome = _; rw [el, q1]; rfl
    · rename_i ds hn
      obtain ⟨xs, x1, x2⟩ := rh.at_ _ _ _ hn ha
      refine .inl (lst ds ?_ e)
      cases hp : pureDs ds with
      | true => exact .inl (.lst (.of x1) (dps_of ds xs hp x2))
      | false => exact .inr rfl
    · cases e
  | fl ds =>
    obtain ⟨a, xs, rfl, s, q⟩ := ry
    refine .inl (lst ds ?_ e)
    cases hp : pureDs ds with
    | true => exact .inl (.lst s.sq (dps_of ds xs hp q))
    | false => exact .inr rfl
  | _ => cases e
theorem od_in (hu : X.A.units + 200 < cLine) : OpR X (compareOp .In) (RO X.K inD) := opI ((op_inD (by omega)).or (op_in_dict (by omega))) fun x y H Q q => by
  obtain ⟨dx, dy, h, ρ, rx, ry, rh, p⟩ := q
  unfold inD at p
  split at p
  · rename_i k hk
    rcases in_of rh rx ry hk with ⟨d, ds, h1, h2, h3, h4, rfl⟩ | ⟨a, o, h1, h2, rfl⟩
    · exact .inl ⟨d, ds, h1, h2, h3, h4, Post.ok p rh (rfl : RV X.K H ρ (.bl _) _)⟩
    · exact .inr ⟨a, o, h1, h2, Post.ok p rh (rfl : RV X.K H ρ (.bl _) _)⟩
  · exact p.elim
theorem od_notin (hu : X.A.units + 200 < cLine) : OpR X (compareOp .NotIn) (RO X.K ninD) := opI ((op_notInD (by omega)).or (op_nin_dict (by omega))) fun x y H Q q => by
  obtain ⟨dx, dy, h, ρ, rx, ry, rh, p⟩ := q
  unfold ninD at p
  split at p
  · rename_i k hk
    rcases in_of rh rx ry hk with ⟨d, ds, h1, h2, h3, h4, rfl⟩ | ⟨a, o, h1, h2, rfl⟩
    · exact .inl ⟨d, ds, h1, h2, h3, h4, Post.ok p rh (rfl : RV X.K H ρ (.bl _) _)⟩
    · exact .inr ⟨a, o, h1, h2, Post.ok p rh (rfl : RV X.K H ρ (.bl _) _)⟩
  · exact p.elim
/-! d.get -/
def getM1 (fo fe : M D) : M D := fun σ h => (fo σ h).bind fun x h1 => match x with
  | .ref n => match h1[n]? with
    | some (.dic _) => (fe σ h1).bind fun y h2 => match h2[n]?, keyD y with
      | some (.dic kvs), some k => .ok ((lookD kvs k).getD .non) h2
      | _, _ => .bad
    | _ => .bad
  | _ => .bad
def getM2 (fo fe ff : M D) : M D := fun σ h => (fo σ h).bind fun x h1 => match x with
  | .ref n => match h1[n]? with
    | some (.dic _) => (fe σ h1).bind fun y h2 => (ff σ h2).bind fun z h3 => match h3[n]?, keyD y with
      | some (.dic kvs), some k => .ok ((lookD kvs k).getD z) h3
      | _, _ => .bad
    | _ => .bad
  | _ => .bad
theorem get_rv {K : PySem.W.Frag} {H : Hp} {ρ : List Addr} {kvs : List (Key × D)} {vs : List (Key × V)} {k : Key} {z : D} {w : V} (r : RKVs K H ρ kvs vs) (rz : RV K H ρ z w) : RV K H ρ ((lookD kvs k).getD z) ((valV vs k).getD w) := by
  have q := r.look k
  cases el : lookD kvs k with
  | none => rw [el] at q; rw [q]; exact rz
  | some d => rw [el] at q; obtain ⟨v, q1, q2⟩ := q; rw [q1]; exact q2
theorem de_get1 (hu : X.A.units + 1 < cLine) (ho : DE X o fo) (he : DE X e fe) (m : M1 X o "get" apos e cpos := by exact ⟨rfl, rfl, rfl, rfl⟩) : DE X (.Call (.Attribute o "get" apos) [e] [] cpos) (getM1 fo fe) :=
  ⟨peI (pe_dget1 hu ho.run he.run m) fun σ H Q q => by
    obtain ⟨σd, h, ρ, re, rh, p⟩ := q
    refine ⟨σd, h, ρ, re, rh, p.bind.mono fun v H1 ⟨x, h1, ρ1, e1, rh1, r1, p1⟩ => ?_⟩
    cases x with
    | ref n =>
      simp only at p1
      split at p1
      · rename_i kvs0 hn
        obtain ⟨a, rfl, ha⟩ := r1
        obtain ⟨vs0, x1, x2⟩ := rh1.at_ _ _ _ hn ha
        refine ⟨a, rfl, .inl ⟨vs0, .inl x1⟩, σd, h1, ρ1, re.mono e1, rh1, p1.bind.mono fun w H2 ⟨y, h2, ρ2, e2, rh2, r2, p2⟩ => ?_⟩
        split at p2
        · rename_i kvs k hn2 hk
          obtain ⟨vs, y1, y2⟩ := rh2.at_ _ _ _ hn2 (e2.pre _ _ ha)
          have hv := key_rv hk r2
          subst hv
          exact ⟨_, .k y1, Post.ok p2 rh2 (get_rv y2 (rfl : RV X.K H2 ρ2 .non .non))⟩
        · exact p2.elim
      · exact p1.elim
    | _ => exact p1.elim⟩
theorem de_get2 (hu : X.A.units + 1 < cLine) (ho : DE X o fo) (he : DE X e fe) (hf : DE X a ff) (m : M2 X o "get" apos e a cpos := by exact ⟨rfl, rfl, rfl, rfl⟩) : DE X (.Call (.Attribute o "get" apos) [e, a] [] cpos) (getM2 fo fe ff) :=
  ⟨peI (pe_dget2 hu ho.run he.run hf.run m) fun σ H Q q => by
    obtain ⟨σd, h, ρ, re, rh, p⟩ := q
    refine ⟨σd, h, ρ, re, rh, p.bind.mono fun v H1 ⟨x, h1, ρ1, e1, rh1, r1, p1⟩ => ?_⟩
    cases x with
    | ref n =>
      simp only at p1
      split at p1
      · rename_i kvs0 hn
        obtain ⟨a, rfl, ha⟩ := r1
        obtain ⟨vs0, x1, x2⟩ := rh1.at_ _ _ _ hn ha
        refine ⟨a, rfl, .inl ⟨vs0, .inl x1⟩, σd, h1, ρ1, re.mono e1, rh1, p1.bind.mono fun w H2 ⟨y, h2, ρ2, e2, rh2, r2, p2⟩ => ?_⟩
        refine ⟨σd, h2, ρ2, (re.mono e1).mono e2, rh2, p2.bind.mono fun u H3 ⟨z, h3, ρ3, e3, rh3, r3, p3⟩ => ?_⟩
        split at p3
        · rename_i kvs k hn2 hk
          obtain ⟨vs, y1, y2⟩ := rh3.at_ _ _ _ hn2 (e3.pre _ _ (e2.pre _ _ ha))
          have hv := key_rv hk r2
          subst hv
          exact ⟨_, .k y1, Post.ok p3 rh3 (get_rv y2 r3)⟩
        · exact p3.elim
      · exact p1.elim
    | _ => exact p1.elim⟩
/-! list(x), x a dict too -/
def keyV : Key → D
  | .inl i => .int i
  | .inr z => .str z
def lisD : List D → DHeap → Res D
  | [.ref n], h => match h[n]? with
    | some (.lst ds) => .ok (.ref h.length) (h ++ [.lst ds])
    | some (.dic kvs) => .ok (.ref h.length) (h ++ [.lst (kvs.map fun kv => keyV kv.1)])
    | none => .bad
  | [.tup ds], h => .ok (.ref h.length) (h ++ [.lst ds])
  | [.fl ds], h => .ok (.ref h.length) (h ++ [.lst ds])
  | _, _ => .bad
theorem RKVs.keys {K : PySem.W.Frag} {H : Hp} {ρ : List Addr} : ∀ {kvs : List (Key × D)} {vs : List (Key × V)}, RKVs K H ρ kvs vs → RVs K H ρ (kvs.map fun kv => keyV kv.1) (vs.map fun kv => kV kv.1)
  | [], vs, r => by rw [r.nil_inv]; exact rfl
  | kv :: kvs, vs, r => by
    obtain ⟨v, ws, rfl, h1, h2⟩ := r.cons_inv
    refine ⟨_, _, rfl, ?_, RKVs.keys h2⟩
    obtain ⟨k, d⟩ := kv
    cases k <;> exact (rfl : _ = _)
theorem clO {u : Value} {r1 r2 : List V → Hp → VK → Prop} (h1 : CallR X u r1) (h2 : CallR X u r2) : CallR X u (fun vs H Q => r1 vs H Q ∨ r2 vs H Q) := fun pins s σ H vs us Q I rv q => q.elim (h1 pins s σ H vs us Q I rv) (h2 pins s σ H vs us Q I rv)
theorem cd_lis (hc : X.calm = true) : CallR X (.type "list") (RCl X.K lisD) := clI (clO call_list_of (call_list_dK hc)) fun vs H Q q => by
  obtain ⟨ds, h, ρ, r, rh, p⟩ := q
  have seq : ∀ {d : D} {v : V} {es : List D}, seqOf h d = some es → RV X.K H ρ d v → Post X.K H ρ (RV X.K) (.ok (.ref h.length) (h ++ [.lst es])) Q → ∃ p ys, [v] = [.ref p] ∧ (SqL X.K H p ys ∨ SqT X.K H p ys) ∧ ∀ l, H l = none → Q (.ref l) (upd H l (.lst ys)) := fun {d v es} he r1 p => by
    obtain ⟨q, xs, rfl, hs, h3⟩ := seq_ok rh he r1
    refine ⟨q, xs, rfl, hs, fun l hl => ?_⟩
    obtain ⟨x1, x2⟩ := rh.push (c := .lst es) hl (o := .lst xs) rfl ⟨_, rfl, h3⟩
    exact p _ _ _ x1 x2 ⟨l, rfl, by rw [← rh.len]; simp⟩
  unfold lisD at p
  split at p
  · rename_i n
    obtain ⟨v, rfl, r1⟩ := r.inv1
    split at p
    · rename_i ds hn
      exact .inl (seq (d := .ref n) (by simp only [seqOf, hn]) r1 p)
    · rename_i kvs hn
      obtain ⟨a, rfl, ha⟩ := r1
      obtain ⟨vs, x1, x2⟩ := rh.at_ _ _ _ hn ha
      refine .inr ⟨a, vs, rfl, x1, fun l hl => ?_⟩
      obtain ⟨y1, y2⟩ := rh.push (c := .lst (kvs.map fun kv => keyV kv.1)) hl (o := .lst (vs.map fun kv => kV kv.1)) rfl ⟨_, rfl, x2.keys⟩
      exact p _ _ _ y1 y2 ⟨l, rfl, by rw [← rh.len]; simp⟩
    · exact p.elim
  · obtain ⟨v, rfl, r1⟩ := r.inv1
    exact .inl (seq rfl r1 p)
  · obtain ⟨v, rfl, r1⟩ := r.inv1
    exact .inl (seq rfl r1 p)
  · exact p.elim
/-! l.pop() -/
def popM (fo : M D) : M D := fun σ h => (fo σ h).bind fun x h1 => match x with
  | .ref n => match h1[n]? with
    | some (.lst ds) => (match ds[ds.length - 1]? with | some y => .ok y (h1.set n (.lst ds.dropLast)) | none => .bad)
    | _ => .bad
  | _ => .bad
theorem RVs.init {K : PySem.W.Frag} {H : Hp} {ρ : List Addr} {ds : List D} {xs : List V} (r : RVs K H ρ ds xs) : RVs K H ρ ds.dropLast xs.dropLast := by
  rw [List.dropLast_eq_take, List.dropLast_eq_take, ← r.len]
  exact r.take _
theorem de_pop (ho : DE X o fo) (hbase : attributeBase o "pop" X.env (eval o X.env) = eval o X.env := by rfl) (hline : (apos.endLine == cpos.line) = true := by rfl) : DE X (.Call (.Attribute o "pop" apos) [] [] cpos) (popM fo) :=
  ⟨peI (pe_bm0 PySem.F.plainAttrs_list PySem.F.slot_list_pop PySem.F.type_list_pop mt_pop ho.run hbase hline) fun σ H Q q => by
    obtain ⟨σd, h, ρ, re, rh, p⟩ := q
    refine ⟨σd, h, ρ, re, rh, p.bind.mono fun v H1 ⟨x, h1, ρ1, e1, rh1, r1, p1⟩ => ?_⟩
    cases x with
    | ref n =>
      simp only at p1
      split at p1
      · rename_i ds hn
        split at p1
        · rename_i y hy
          obtain ⟨a, rfl, ha⟩ := r1
          obtain ⟨xs, x1, x2⟩ := rh1.at_ _ _ _ hn ha
          refine ⟨Or.inl ⟨rfl, _, SqL.of x1⟩, ?_⟩
          obtain ⟨w, hw, rw'⟩ := x2.get hy
          obtain ⟨z1, z2⟩ := rh1.put ha (o := .lst xs.dropLast) rfl (c := .lst ds.dropLast) ⟨_, rfl, x2.init⟩
          exact ⟨a, xs, w, rfl, rfl, x1, by rw [← x2.len]; exact hw, p1 _ _ _ z1 z2 (RV.mono z1 _ _ rw')⟩
        · exact p1.elim
      · exact p1.elim
    | _ => exact p1.elim⟩
end
end DL

set_option Elab.async false
set_option linter.all false
set_option maxRecDepth 100000
namespace DL
open PySem PySem.Spec PyProof.Rows L2
/-- what holds of a result -/
def W {α : Type} (r : Res α) (Q : α → DHeap → Prop) : Prop := match r with | .ok a h => Q a h | .bad => False
theorem W_ok {α : Type} {a : α} {h : DHeap} {Q : α → DHeap → Prop} : W (.ok a h) Q = Q a h := rfl
theorem W_bad {α : Type} {Q : α → DHeap → Prop} : W (.bad) Q = False := rfl
theorem W_bind {α β : Type} {r : Res α} {k : α → DHeap → Res β} {Q : β → DHeap → Prop} : W (r.bind k) Q = W r (fun a h => W (k a h) Q) := by cases r <;> rfl
theorem W_mono {α : Type} {r : Res α} {Q Q' : α → DHeap → Prop} (h : W r Q) (i : ∀ a h, Q a h → Q' a h) : W r Q' := by
  cases r with
  | ok a h' => exact i _ _ h
  | bad => exact h
theorem W_get {α : Type} {r : Res α} {Q : α → DHeap → Prop} (h : W r Q) : ∃ a h', r = .ok a h' ∧ Q a h' := by
  cases r with
  | ok a h' => exact ⟨a, h', rfl, h⟩
  | bad => exact h.elim
theorem W_ite {α : Type} {c : Prop} [Decidable c] {a : α} {h : DHeap} {Q : α → DHeap → Prop} : W (if c then .ok a h else .bad) Q = (c ∧ Q a h) := by
  by_cases e : c <;> simp [e, W]
theorem W_ext {α : Type} {r : Res α} {Q Q' : α → DHeap → Prop} (e : ∀ a h, Q a h = Q' a h) : W r Q = W r Q' := by rw [show Q = Q' from funext fun a => funext fun h => e a h]
theorem W_b {α β : Type} {r : Res α} {k : α → DHeap → Res β} {Q : β → DHeap → Prop} {Q' : α → DHeap → Prop} (e : ∀ a h, W (k a h) Q = Q' a h) : W (r.bind k) Q = W r Q' := by rw [W_bind]; exact W_ext e
def kOpt {α : Type} (o : Option α) (Q : α → DHeap → Prop) (h : DHeap) : Prop := match o with | some a => Q a h | none => False
theorem e_opt {α : Type} {a : α} {Q : α → DHeap → Prop} {h : DHeap} : kOpt (some a) Q h = Q a h := rfl
def getV : DEnv → Nat → Option D
  | [], _ => none
  | a :: _, 0 => a
  | _ :: s, i + 1 => getV s i
theorem getV_eq : ∀ (σ : DEnv) (i : Nat), getV σ i = (σ[i]?).join
  | [], _ => rfl
  | a :: _, 0 => by cases a <;> rfl
  | _ :: s, i + 1 => by simp [getV, getV_eq s i]
theorem e_get0 {a : Option D} {s : DEnv} : getV (a :: s) 0 = a := rfl
theorem e_getS {a : Option D} {s : DEnv} {i : Nat} : getV (a :: s) (i + 1) = getV s i := rfl
abbrev QD := D → DHeap → Prop
abbrev QBl := Bool → DHeap → Prop
abbrev QFl := Fl → DHeap → Prop
abbrev QLs := List D → DHeap → Prop
abbrev QEn := DEnv → DHeap → Prop
abbrev QOp := Option Int → DHeap → Prop
abbrev QSr := Src → DHeap → Prop
section
variable {σ s : DEnv} {h : DHeap} {i j n np : Nat} {fa fb fc : M D} {ta tb : M Bool} {f g B : M Fl} {fs : M (List D)} {src : M Src} {m : D → D → DHeap → Res D} {ms : List D → DHeap → Res D} {Q : QD} {QB : QBl} {QF : QFl} {QS : QLs} {QE : QEn} {QO : QOp} {QI : QSr} {d x y o k v : D} {ds es ys : List D} {kvs : List (Key × D)} {b : Bool} {a c : Int} {z w' : Str} {fl : Fl} {gg : D → M DEnv} {gs : List D → M DEnv} {l u : M (Option Int)} {lo hi : Option Int} {T : String} {sr : Src}
theorem w_vr : W (vr i σ h) Q = kOpt (getV σ i) Q h := by
  rw [getV_eq]; unfold vr
  cases e : σ[i]? with
  | none => rfl
  | some o => cases o <;> rfl
theorem w_cst : W (cst d σ h) Q = Q d h := rfl
def kB2 (m : D → D → DHeap → Res D) (x : D) (Q : QD) : QD := fun y h => W (m x y h) Q
def kB1 (m : D → D → DHeap → Res D) (fb : M D) (σ : DEnv) (Q : QD) : QD := fun x h => W (fb σ h) (kB2 m x Q)
theorem w_bin2 : W (bin2 m fa fb σ h) Q = W (fa σ h) (kB1 m fb σ Q) := W_b fun _ _ => W_bind
theorem k_B1 : kB1 m fb σ Q x h = W (fb σ h) (kB2 m x Q) := rfl
theorem k_B2 : kB2 m x Q y h = W (m x y h) Q := rfl
def kT (QB : QBl) : QD := fun d h => match d with | .bl b => QB b h | _ => False
theorem w_tst : W (tst fa σ h) QB = W (fa σ h) (kT QB) := W_b fun d _ => by cases d <;> rfl
theorem k_T : kT QB (.bl b) h = QB b h := rfl
def kAn (tb : M Bool) (σ : DEnv) (QB : QBl) : QBl := fun b h => if b = true then W (tb σ h) QB else QB false h
theorem w_andT : W (andT ta tb σ h) QB = W (ta σ h) (kAn tb σ QB) := W_b fun b _ => by cases b <;> rfl
theorem k_AnT : kAn tb σ QB true h = W (tb σ h) QB := rfl
theorem k_AnF : kAn tb σ QB false h = QB false h := rfl
def kOr (tb : M Bool) (σ : DEnv) (QB : QBl) : QBl := fun b h => if b = true then QB true h else W (tb σ h) QB
theorem w_orT : W (orT ta tb σ h) QB = W (ta σ h) (kOr tb σ QB) := W_b fun b _ => by cases b <;> rfl
theorem k_OrT : kOr tb σ QB true h = QB true h := rfl
theorem k_OrF : kOr tb σ QB false h = W (tb σ h) QB := rfl
def kNo (QB : QBl) : QBl := fun b h => QB (!b) h
theorem w_notT : W (notT ta σ h) QB = W (ta σ h) (kNo QB) := W_b fun _ _ => rfl
theorem k_No : kNo QB b h = QB (!b) h := rfl
def kAnV (fb : M D) (σ : DEnv) (Q : QD) : QD := fun d h => match d with | .bl b => (if b = true then W (fb σ h) Q else Q (.bl false) h) | _ => False
theorem w_andV : W (andV fa fb σ h) Q = W (fa σ h) (kAnV fb σ Q) := W_b fun d _ => by
  cases d <;> try rfl
  rename_i b
  cases b <;> rfl
theorem k_AnVT : kAnV fb σ Q (.bl true) h = W (fb σ h) Q := rfl
theorem k_AnVF : kAnV fb σ Q (.bl false) h = Q (.bl false) h := rfl
def kOrV (fb : M D) (σ : DEnv) (Q : QD) : QD := fun d h => match d with | .bl b => (if b = true then Q (.bl true) h else W (fb σ h) Q) | _ => False
theorem w_orV : W (orV fa fb σ h) Q = W (fa σ h) (kOrV fb σ Q) := W_b fun d _ => by
  cases d <;> try rfl
  rename_i b
  cases b <;> rfl
theorem k_OrVT : kOrV fb σ Q (.bl true) h = Q (.bl true) h := rfl
theorem k_OrVF : kOrV fb σ Q (.bl false) h = W (fb σ h) Q := rfl
def kNoV (Q : QD) : QD := fun d h => match d with | .bl b => Q (.bl (!b)) h | _ => False
theorem w_notV : W (notV fa σ h) Q = W (fa σ h) (kNoV Q) := W_b fun d _ => by cases d <;> rfl
theorem k_NoV : kNoV Q (.bl b) h = Q (.bl (!b)) h := rfl
def kIfV (fa fb : M D) (σ : DEnv) (Q : QD) : QBl := fun b h => if b = true then W (fa σ h) Q else W (fb σ h) Q
theorem w_ifV : W (ifV ta fa fb σ h) Q = W (ta σ h) (kIfV fa fb σ Q) := W_b fun b _ => by cases b <;> rfl
theorem k_IfVT : kIfV fa fb σ Q true h = W (fa σ h) Q := rfl
theorem k_IfVF : kIfV fa fb σ Q false h = W (fb σ h) Q := rfl
theorem w_aNil : W (aNil σ h) QS = QS [] h := rfl
def kA2 (d : D) (QS : QLs) : QLs := fun ds h => QS (d :: ds) h
def kA1 (fs : M (List D)) (σ : DEnv) (QS : QLs) : QD := fun d h => W (fs σ h) (kA2 d QS)
theorem w_aCons : W (aCons fa fs σ h) QS = W (fa σ h) (kA1 fs σ QS) := W_b fun _ _ => W_b fun _ _ => rfl
theorem k_A1 : kA1 fs σ QS d h = W (fs σ h) (kA2 d QS) := rfl
theorem k_A2 : kA2 d QS ds h = QS (d :: ds) h := rfl
def kC (ms : List D → DHeap → Res D) (Q : QD) : QLs := fun ds h => W (ms ds h) Q
theorem w_callM : W (callM ms fs σ h) Q = W (fs σ h) (kC ms Q) := W_bind
theorem k_C : kC ms Q ds h = W (ms ds h) Q := rfl
def kTyR (T : String) (Q : QD) (o : Option Cell) (h : DHeap) : Prop := match o with | some (.lst _) => Q (.bl (T == "list")) h | some (.dic _) => Q (.bl (T == "dict")) h | none => False
def kTy (T : String) (Q : QD) : QD := fun d h => match d with
  | .non => Q (.bl false) h | .bl _ => Q (.bl (T == "int" || T == "bool")) h | .int _ => Q (.bl (T == "int")) h | .str _ => Q (.bl (T == "str")) h | .tup _ => Q (.bl (T == "tuple")) h | .fl _ => Q (.bl (T == "list")) h
  | .ref n => kTyR T Q (h[n]?) h
theorem w_isi : W (isiM T fa σ h) Q = W (fa σ h) (kTy T Q) := W_b fun d h1 => by
  cases d <;> try rfl
  rename_i n
  unfold isTy kTy kTyR
  simp only
  cases e : h1[n]? with
  | none => rfl
  | some c => cases c <;> rfl
theorem k_Ty_int_non : kTy "int" Q .non h = Q (.bl false) h := rfl
theorem k_Ty_int_bl : kTy "int" Q (.bl b) h = Q (.bl true) h := rfl
theorem k_Ty_int_int : kTy "int" Q (.int a) h = Q (.bl true) h := rfl
theorem k_Ty_int_str : kTy "int" Q (.str z) h = Q (.bl false) h := rfl
theorem k_Ty_int_tup : kTy "int" Q (.tup ds) h = Q (.bl false) h := rfl
theorem k_Ty_int_fl : kTy "int" Q (.fl ds) h = Q (.bl false) h := rfl
theorem k_Ty_int_ref : kTy "int" Q (.ref n) h = kTyR "int" Q (h[n]?) h := rfl
theorem k_TyR_int_l : kTyR "int" Q (some (.lst ds)) h = Q (.bl false) h := rfl
theorem k_TyR_int_d : kTyR "int" Q (some (.dic kvs)) h = Q (.bl false) h := rfl
theorem k_Ty_tuple_non : kTy "tuple" Q .non h = Q (.bl false) h := rfl
theorem k_Ty_tuple_bl : kTy "tuple" Q (.bl b) h = Q (.bl false) h := rfl
theorem k_Ty_tuple_int : kTy "tuple" Q (.int a) h = Q (.bl false) h := rfl
theorem k_Ty_tuple_str : kTy "tuple" Q (.str z) h = Q (.bl false) h := rfl
theorem k_Ty_tuple_tup : kTy "tuple" Q (.tup ds) h = Q (.bl true) h := rfl
theorem k_Ty_tuple_fl : kTy "tuple" Q (.fl ds) h = Q (.bl false) h := rfl
theorem k_Ty_tuple_ref : kTy "tuple" Q (.ref n) h = kTyR "tuple" Q (h[n]?) h := rfl
theorem k_TyR_tuple_l : kTyR "tuple" Q (some (.lst ds)) h = Q (.bl false) h := rfl
theorem k_TyR_tuple_d : kTyR "tuple" Q (some (.dic kvs)) h = Q (.bl false) h := rfl
theorem k_Ty_str_non : kTy "str" Q .non h = Q (.bl false) h := rfl
theorem k_Ty_str_bl : kTy "str" Q (.bl b) h = Q (.bl false) h := rfl
theorem k_Ty_str_int : kTy "str" Q (.int a) h = Q (.bl false) h := rfl
theorem k_Ty_str_str : kTy "str" Q (.str z) h = Q (.bl true) h := rfl
theorem k_Ty_str_tup : kTy "str" Q (.tup ds) h = Q (.bl false) h := rfl
theorem k_Ty_str_fl : kTy "str" Q (.fl ds) h = Q (.bl false) h := rfl
theorem k_Ty_str_ref : kTy "str" Q (.ref n) h = kTyR "str" Q (h[n]?) h := rfl
theorem k_TyR_str_l : kTyR "str" Q (some (.lst ds)) h = Q (.bl false) h := rfl
theorem k_TyR_str_d : kTyR "str" Q (some (.dic kvs)) h = Q (.bl false) h := rfl
theorem k_Ty_list_non : kTy "list" Q .non h = Q (.bl false) h := rfl
theorem k_Ty_list_bl : kTy "list" Q (.bl b) h = Q (.bl false) h := rfl
theorem k_Ty_list_int : kTy "list" Q (.int a) h = Q (.bl false) h := rfl
theorem k_Ty_list_str : kTy "list" Q (.str z) h = Q (.bl false) h := rfl
theorem k_Ty_list_tup : kTy "list" Q (.tup ds) h = Q (.bl false) h := rfl
theorem k_Ty_list_fl : kTy "list" Q (.fl ds) h = Q (.bl true) h := rfl
theorem k_Ty_list_ref : kTy "list" Q (.ref n) h = kTyR "list" Q (h[n]?) h := rfl
theorem k_TyR_list_l : kTyR "list" Q (some (.lst ds)) h = Q (.bl true) h := rfl
theorem k_TyR_list_d : kTyR "list" Q (some (.dic kvs)) h = Q (.bl false) h := rfl
theorem k_Ty_dict_non : kTy "dict" Q .non h = Q (.bl false) h := rfl
theorem k_Ty_dict_bl : kTy "dict" Q (.bl b) h = Q (.bl false) h := rfl
theorem k_Ty_dict_int : kTy "dict" Q (.int a) h = Q (.bl false) h := rfl
theorem k_Ty_dict_str : kTy "dict" Q (.str z) h = Q (.bl false) h := rfl
theorem k_Ty_dict_tup : kTy "dict" Q (.tup ds) h = Q (.bl false) h := rfl
theorem k_Ty_dict_fl : kTy "dict" Q (.fl ds) h = Q (.bl false) h := rfl
theorem k_Ty_dict_ref : kTy "dict" Q (.ref n) h = kTyR "dict" Q (h[n]?) h := rfl
theorem k_TyR_dict_l : kTyR "dict" Q (some (.lst ds)) h = Q (.bl false) h := rfl
theorem k_TyR_dict_d : kTyR "dict" Q (some (.dic kvs)) h = Q (.bl true) h := rfl
theorem k_Ty_bool_non : kTy "bool" Q .non h = Q (.bl false) h := rfl
theorem k_Ty_bool_bl : kTy "bool" Q (.bl b) h = Q (.bl true) h := rfl
theorem k_Ty_bool_int : kTy "bool" Q (.int a) h = Q (.bl false) h := rfl
theorem k_Ty_bool_str : kTy "bool" Q (.str z) h = Q (.bl false) h := rfl
theorem k_Ty_bool_tup : kTy "bool" Q (.tup ds) h = Q (.bl false) h := rfl
theorem k_Ty_bool_fl : kTy "bool" Q (.fl ds) h = Q (.bl false) h := rfl
theorem k_Ty_bool_ref : kTy "bool" Q (.ref n) h = kTyR "bool" Q (h[n]?) h := rfl
theorem k_TyR_bool_l : kTyR "bool" Q (some (.lst ds)) h = Q (.bl false) h := rfl
theorem k_TyR_bool_d : kTyR "bool" Q (some (.dic kvs)) h = Q (.bl false) h := rfl
theorem w_oNone : W (oNone σ h) QO = QO none h := rfl
def kO (QO : QOp) : QD := fun d h => match d with | .int i => QO (some i) h | _ => False
theorem w_oSome : W (oSome fa σ h) QO = W (fa σ h) (kO QO) := W_b fun d _ => by cases d <;> rfl
theorem k_O : kO QO (.int a) h = QO (some a) h := rfl
def kS3 (x : D) (lo : Option Int) (Q : QD) : QOp := fun hi h => W (slD x lo hi h) Q
def kS2 (u : M (Option Int)) (σ : DEnv) (x : D) (Q : QD) : QOp := fun lo h => W (u σ h) (kS3 x lo Q)
def kS1 (l u : M (Option Int)) (σ : DEnv) (Q : QD) : QD := fun x h => W (l σ h) (kS2 u σ x Q)
theorem w_slM : W (slM fa l u σ h) Q = W (fa σ h) (kS1 l u σ Q) := W_b fun _ _ => W_b fun _ _ => W_bind
theorem k_S1 : kS1 l u σ Q x h = W (l σ h) (kS2 u σ x Q) := rfl
theorem k_S2 : kS2 u σ x Q lo h = W (u σ h) (kS3 x lo Q) := rfl
theorem k_S3 : kS3 x lo Q hi h = W (slD x lo hi h) Q := rfl
def kTup (Q : QD) : QLs := fun ds h => ds.length ≤ 16777216 ∧ Q (.tup ds) h
def kLst (Q : QD) : QLs := fun ds h => ds.length ≤ 16777216 ∧ Q (.ref h.length) (h ++ [.lst ds])
theorem w_tupM : W (tupM fs σ h) Q = W (fs σ h) (kTup Q) := W_b fun _ _ => by rw [W_ite, sizeLine_eq]; rfl
theorem k_Tup : kTup Q ds h = (ds.length ≤ 16777216 ∧ Q (.tup ds) h) := rfl
theorem w_lstM : W (lstM fs σ h) Q = W (fs σ h) (kLst Q) := W_b fun _ _ => by rw [W_ite, sizeLine_eq]; rfl
theorem k_Lst : kLst Q ds h = (ds.length ≤ 16777216 ∧ Q (.ref h.length) (h ++ [.lst ds])) := rfl
theorem w_newDic : W (newDic σ h) Q = Q (.ref h.length) (h ++ [.dic []]) := rfl
def kAp4 (n : Nat) (y : D) (Q : QD) (o : Option Cell) (h : DHeap) : Prop := match o with | some (.lst ds) => ds.length < 16777216 ∧ Q .non (h.set n (.lst (ds ++ [y]))) | _ => False
def kAp3 (n : Nat) (Q : QD) : QD := fun y h => kAp4 n y Q (h[n]?) h
def kAp2 (n : Nat) (fb : M D) (σ : DEnv) (Q : QD) (o : Option Cell) (h : DHeap) : Prop := match o with | some (.lst _) => W (fb σ h) (kAp3 n Q) | _ => False
def kAp1 (fb : M D) (σ : DEnv) (Q : QD) : QD := fun d h => match d with | .ref n => kAp2 n fb σ Q (h[n]?) h | _ => False
theorem w_appM : W (appM fa fb σ h) Q = W (fa σ h) (kAp1 fb σ Q) := W_b fun x h1 => by
  cases x <;> try rfl
  rename_i n
  simp only [kAp1]
  cases e : h1[n]? with
  | none => rfl
  | some c =>
    cases c with
    | dic _ => rfl
    | lst ds =>
      refine W_b fun y h2 => ?_
      simp only [kAp3]
      cases e2 : h2[n]? with
      | none => rfl
      | some c => cases c with
        | dic _ => rfl
        | lst ds => simp only [W_ite, sizeLine_eq, kAp4]
theorem k_Ap1 : kAp1 fb σ Q (.ref n) h = kAp2 n fb σ Q (h[n]?) h := rfl
theorem k_Ap2 : kAp2 n fb σ Q (some (.lst ds)) h = W (fb σ h) (kAp3 n Q) := rfl
theorem k_Ap3 : kAp3 n Q y h = kAp4 n y Q (h[n]?) h := rfl
theorem k_Ap4 : kAp4 n y Q (some (.lst ds)) h = (ds.length < 16777216 ∧ Q .non (h.set n (.lst (ds ++ [y])))) := rfl
def kCL (Q : QD) : QLs := fun ys h => Q (.ref h.length) (h ++ [.lst ys])
theorem w_compL : W (compL fs σ h) Q = W (fs σ h) (kCL Q) := W_b fun _ _ => rfl
theorem k_CL : kCL Q ys h = Q (.ref h.length) (h ++ [.lst ys]) := rfl
theorem w_compCall : W (compCall ms fs σ h) Q = W (fs σ h) (kC ms Q) := W_bind
def maxOr (ns : List Int) (d : D) : D := match maxL ns with | some m => .int m | none => d
def kM3 (ns : List Int) (Q : QD) : QD := fun d h => Q (maxOr ns d) h
def kM2 (o : Option (List Int)) (fa : M D) (σ : DEnv) (Q : QD) (h : DHeap) : Prop := match o with | some ns => W (fa σ h) (kM3 ns Q) | none => False
def kM1 (fa : M D) (σ : DEnv) (Q : QD) : QLs := fun ys h => kM2 (intsOf ys) fa σ Q h
theorem w_compMaxD : W (compMaxD fs fa σ h) Q = W (fs σ h) (kM1 fa σ Q) := W_b fun ys h1 => by
  simp only [kM1]
  cases intsOf ys with
  | none => rfl
  | some ns => exact W_b fun d h2 => by unfold kM3 maxOr; cases maxL ns <;> rfl
theorem k_M1 : kM1 fa σ Q ys h = kM2 (intsOf ys) fa σ Q h := rfl
theorem k_M2 {ns : List Int} : kM2 (some ns) fa σ Q h = W (fa σ h) (kM3 ns Q) := rfl
theorem k_M3 {ns : List Int} : kM3 ns Q d h = Q (maxOr ns d) h := rfl
theorem w_sNil : W (sNil σ h) QF = QF (.nx σ) h := rfl
def kSq (g : M Fl) (QF : QFl) : QFl := fun fl h => match fl with | .nx s => W (g s h) QF | .rt d => QF (.rt d) h | .bk s => QF (.bk s) h | .ct s => QF (.ct s) h
theorem w_sSeq : W (sSeq f g σ h) QF = W (f σ h) (kSq g QF) := W_b fun fl _ => by cases fl <;> rfl
theorem k_SqN : kSq g QF (.nx s) h = W (g s h) QF := rfl
theorem k_SqR : kSq g QF (.rt d) h = QF (.rt d) h := rfl
theorem k_SqB : kSq g QF (.bk s) h = QF (.bk s) h := rfl
theorem k_SqC : kSq g QF (.ct s) h = QF (.ct s) h := rfl
def kEx (σ : DEnv) (QF : QFl) : QD := fun _ h => QF (.nx σ) h
theorem w_sExpr : W (sExpr fa σ h) QF = W (fa σ h) (kEx σ QF) := W_b fun _ _ => rfl
theorem k_Ex : kEx σ QF d h = QF (.nx σ) h := rfl
def kRe (QF : QFl) : QD := fun d h => QF (.rt d) h
theorem w_sRet : W (sRet fa σ h) QF = W (fa σ h) (kRe QF) := W_b fun _ _ => rfl
theorem k_Re : kRe QF d h = QF (.rt d) h := rfl
theorem w_sRetN : W (sRetN σ h) QF = QF (.rt .non) h := rfl
theorem w_sBrk : W (sBrk σ h) QF = QF (.bk σ) h := rfl
theorem w_sCt : W (sCt σ h) QF = QF (.ct σ) h := rfl
def kIf (f g : M Fl) (σ : DEnv) (QF : QFl) : QBl := fun b h => if b = true then W (f σ h) QF else W (g σ h) QF
theorem w_sIf : W (sIf ta f g σ h) QF = W (ta σ h) (kIf f g σ QF) := W_b fun b _ => by cases b <;> rfl
theorem k_IfT : kIf f g σ QF true h = W (f σ h) QF := rfl
theorem k_IfF : kIf f g σ QF false h = W (g σ h) QF := rfl
def kSt (i : Nat) (σ : DEnv) (QF : QFl) : QD := fun d h => QF (.nx (σ.set i (some d))) h
theorem w_sSet : W (sSet i fa σ h) QF = W (fa σ h) (kSt i σ QF) := W_b fun _ _ => rfl
theorem k_St : kSt i σ QF d h = QF (.nx (σ.set i (some d))) h := rfl
def kStC (i : Nat) (σ : DEnv) (QF : QFl) : QLs := fun ys h => QF (.nx (σ.set i (some (.ref h.length)))) (h ++ [.lst ys])
theorem w_sSetC : W (sSetC i fs σ h) QF = W (fs σ h) (kStC i σ QF) := W_b fun _ _ => rfl
theorem k_StC : kStC i σ QF ys h = QF (.nx (σ.set i (some (.ref h.length)))) (h ++ [.lst ys]) := rfl
def kAs2 (QF : QFl) : QEn := fun s h => QF (.nx s) h
def kAs (gg : D → M DEnv) (σ : DEnv) (QF : QFl) : QD := fun d h => W (gg d σ h) (kAs2 QF)
theorem w_sAsg : W (sAsg fa gg σ h) QF = W (fa σ h) (kAs gg σ QF) := W_b fun _ _ => W_b fun _ _ => rfl
theorem k_As : kAs gg σ QF d h = W (gg d σ h) (kAs2 QF) := rfl
theorem k_As2 : kAs2 QF s h = QF (.nx s) h := rfl
theorem w_gN : W (gN i d σ h) QE = QE (σ.set i (some d)) h := rfl
def kG3 (σ : DEnv) (QE : QEn) : Unit → DHeap → Prop := fun _ h => QE σ h
def kG2 (o d : D) (σ : DEnv) (QE : QEn) : QD := fun k h => W (setD o k d h) (kG3 σ QE)
def kG1 (fb : M D) (d : D) (σ : DEnv) (QE : QEn) : QD := fun o h => W (fb σ h) (kG2 o d σ QE)
theorem w_gSb : W (gSb fa fb d σ h) QE = W (fa σ h) (kG1 fb d σ QE) := W_b fun _ _ => W_b fun _ _ => W_b fun _ _ => rfl
theorem k_G1 : kG1 fb d σ QE o h = W (fb σ h) (kG2 o d σ QE) := rfl
theorem k_G2 : kG2 o d σ QE k h = W (setD o k d h) (kG3 σ QE) := rfl
theorem k_G3 {u : Unit} : kG3 σ QE u h = QE σ h := rfl
theorem w_gTp : W (gTp n gs (.tup ds) σ h) QE = (ds.length = n ∧ W (gs ds σ h) QE) := by unfold gTp; simp only; by_cases e : ds.length = n <;> simp [e, W]
theorem w_gsNil : W (gsNil [] σ h) QE = QE σ h := rfl
def kGs (gs : List D → M DEnv) (ds : List D) (QE : QEn) : QEn := fun s h => W (gs ds s h) QE
theorem w_gsCons : W (gsCons gg gs (d :: ds) σ h) QE = W (gg d σ h) (kGs gs ds QE) := W_bind
theorem k_Gs : kGs gs ds QE s h = W (gs ds s h) QE := rfl
def kRt (Q : QD) : QFl := fun fl h => match fl with | .rt d => Q d h | .nx _ => Q .non h | _ => False
theorem w_run : W (runDef np n B ds h) Q = (ds.length = np ∧ W (B (ds.map some ++ List.replicate (n - np) none) h) (kRt Q)) := by
  unfold runDef
  by_cases e : ds.length = np
  · rw [if_pos e]
    simp only [e, true_and]
    exact W_b fun fl _ => by cases fl <;> rfl
  · rw [if_neg e]; simp [e, W]
theorem k_RtR : kRt Q (.rt d) h = Q d h := rfl
theorem k_RtN : kRt Q (.nx s) h = Q .non h := rfl
def kSr (QI : QSr) : QD := fun d h => kOpt (srcD h d) QI h
theorem w_srcM : W (srcM fa σ h) QI = W (fa σ h) (kSr QI) := W_b fun d h => by unfold kSr; cases srcD h d <;> rfl
theorem k_Sr : kSr QI d h = kOpt (srcD h d) QI h := rfl
theorem s_T : srcD h (.tup ds) = some ⟨ds, none⟩ := rfl
theorem s_F : srcD h (.fl ds) = some ⟨ds, none⟩ := rfl
theorem s_S : srcD h (.str z) = some ⟨z.cps.toList.map fun c => .str ⟨#[c]⟩, none⟩ := rfl
def srcR (n : Nat) (o : Option Cell) : Option Src := match o with | some (.lst ds) => some ⟨ds, some n⟩ | _ => none
theorem s_R : srcD h (.ref n) = srcR n (h[n]?) := by unfold srcD srcR; cases e : h[n]? with | none => simp only [e] | some c => cases c <;> simp only [e]
theorem s_RL : srcR n (some (.lst ds)) = some ⟨ds, some n⟩ := rfl
def kR1 (QI : QSr) : QD := fun d h => match d with | .int j => (-4611686018427387904 ≤ j ∧ j < 4611686018427387904) ∧ QI ⟨rangeL 0 j.toNat, none⟩ h | _ => False
theorem w_rng1 : W (rng1 fa σ h) QI = W (fa σ h) (kR1 QI) := W_b fun d _ => by cases d <;> first | rfl | exact W_ite
theorem k_R1 : kR1 QI (.int a) h = ((-4611686018427387904 ≤ a ∧ a < 4611686018427387904) ∧ QI ⟨rangeL 0 a.toNat, none⟩ h) := rfl
def kR3 (x : D) (QI : QSr) : QD := fun y h => match x, y with | .int i, .int j => (-4611686018427387904 ≤ i ∧ i < 4611686018427387904 ∧ -4611686018427387904 ≤ j ∧ j < 4611686018427387904) ∧ QI ⟨rangeL i (j - i).toNat, none⟩ h | _, _ => False
def kR2 (fb : M D) (σ : DEnv) (QI : QSr) : QD := fun x h => W (fb σ h) (kR3 x QI)
theorem w_rng2 : W (rng2 fa fb σ h) QI = W (fa σ h) (kR2 fb σ QI) := W_b fun d _ => W_b fun e _ => by cases d <;> cases e <;> first | rfl | exact W_ite
theorem k_R2 : kR2 fb σ QI x h = W (fb σ h) (kR3 x QI) := rfl
theorem k_R3 : kR3 (.int a) QI (.int c) h = ((-4611686018427387904 ≤ a ∧ a < 4611686018427387904 ∧ -4611686018427387904 ≤ c ∧ c < 4611686018427387904) ∧ QI ⟨rangeL a (c - a).toNat, none⟩ h) := rfl
def kFo (gg : D → M DEnv) (body : M Fl) (σ : DEnv) (QF : QFl) : QSr := fun s h => W (loopS s gg body s.items σ h) QF
theorem w_sFor : W (sFor src gg f σ h) QF = W (src σ h) (kFo gg f σ QF) := W_bind
theorem k_Fo : kFo gg f σ QF sr h = W (loopS sr gg f sr.items σ h) QF := rfl
def kCo (i : Nat) (t : M Bool) (te : M D) (σ : DEnv) (QS : QLs) : QSr := fun s h => s.items.length ≤ 16777216 ∧ W (loopC s (stepC i t te σ) s.items h) QS
theorem w_compM : W (compM src i ta fa σ h) QS = W (src σ h) (kCo i ta fa σ QS) := W_b fun s h => by
  unfold kCo
  rw [← sizeLine_eq]
  by_cases e : s.items.length ≤ sizeLine <;> simp [e, W]
theorem k_Co : kCo i ta fa σ QS sr h = (sr.items.length ≤ 16777216 ∧ W (loopC sr (stepC i ta fa σ) sr.items h) QS) := rfl
abbrev QOD := Option D → DHeap → Prop
def kY (QY : QOD) : QD := fun y h => QY (some y) h
def kX (fa : M D) (σ : DEnv) (QY : QOD) : QBl := fun b h => if b = true then W (fa σ h) (kY QY) else QY none h
theorem w_stepC {QY : QOD} : W (stepC i ta fa σ x h) QY = W (ta (σ.set i (some x)) h) (kX fa (σ.set i (some x)) QY) := W_b fun b _ => by cases b <;> first | rfl | exact W_b fun _ _ => rfl
theorem k_XT {QY : QOD} : kX fa σ QY true h = W (fa σ h) (kY QY) := rfl
theorem k_XF {QY : QOD} : kX fa σ QY false h = QY none h := rfl
theorem k_Y {QY : QOD} : kY QY y h = QY (some y) h := rfl
theorem w_tTrue : W (tTrue σ h) QB = QB true h := rfl
theorem o_addI : W (addD (.int a) (.int c) h) Q = Q (.int (a + c)) h := rfl
theorem o_addS : W (addD (.str z) (.str w') h) Q = (z.length + w'.length ≤ 16777216 ∧ Q (.str (z ++ w')) h) := (by show W (if _ then _ else _) _ = _; rw [W_ite, sizeLine_eq])
theorem o_addT : W (addD (.tup ds) (.tup es) h) Q = (ds.length + es.length ≤ 16777216 ∧ Q (.tup (ds ++ es)) h) := (by show W (if _ then _ else _) _ = _; rw [W_ite, sizeLine_eq])
theorem o_sub : W (subD (.int a) (.int c) h) Q = Q (.int (a - c)) h := by unfold subD intOp; simp [W]
theorem o_mul : W (mulD (.int a) (.int c) h) Q = (((-18446744073709551616 < a ∧ a < 18446744073709551616) ∨ (-18446744073709551616 < c ∧ c < 18446744073709551616)) ∧ Q (.int (a * c)) h) := (by show W (if _ then _ else _) _ = _; rw [W_ite]; rfl)
theorem o_div : W (divD (.int a) (.int c) h) Q = ((0 < c ∧ c < 1073741824) ∧ Q (.int (a / c)) h) := (by show W (if _ then _ else _) _ = _; rw [W_ite]; rfl)
theorem o_mod : W (modD (.int a) (.int c) h) Q = (0 < c ∧ Q (.int (a % c)) h) := (by show W (if _ then _ else _) _ = _; rw [W_ite])
theorem o_pow : W (powD (.int a) (.int c) h) Q = ((0 ≤ c ∧ c ≤ 1000000 ∧ a.natAbs < 18446744073709551616) ∧ Q (.int (a ^ c.toNat)) h) := (by show W (if _ then _ else _) _ = _; rw [W_ite]; rfl)
theorem o_lt : W (ltD (.int a) (.int c) h) Q = Q (.bl (decide (a < c))) h := rfl
theorem o_le : W (leD (.int a) (.int c) h) Q = Q (.bl (decide (a ≤ c))) h := rfl
theorem o_gt : W (gtD (.int a) (.int c) h) Q = Q (.bl (decide (c < a))) h := rfl
theorem o_ge : W (geD (.int a) (.int c) h) Q = Q (.bl (decide (c ≤ a))) h := rfl
theorem o_eqI : W (eqD (.int a) (.int c) h) Q = Q (.bl (decide (a = c))) h := rfl
theorem o_eqS : W (eqD (.str z) (.str w') h) Q = Q (.bl (decide (z = w'))) h := rfl
theorem o_neI : W (neD (.int a) (.int c) h) Q = Q (.bl (!decide (a = c))) h := rfl
theorem o_neS : W (neD (.str z) (.str w') h) Q = Q (.bl (!decide (z = w'))) h := rfl
theorem o_eqB {p q : Bool} : W (eqD (.bl p) (.bl q) h) Q = Q (.bl (decide (p = q))) h := rfl
theorem o_isN : W (isD' x .non h) Q = Q (.bl (isNon x)) h := by unfold isD'; cases x <;> rfl
theorem o_notN : W (notD x .non h) Q = Q (.bl (!isNon x)) h := by unfold notD; cases x <;> rfl
theorem n_n : isNon .non = true := rfl
theorem n_b : isNon (.bl b) = false := rfl
theorem n_i : isNon (.int a) = false := rfl
theorem n_s : isNon (.str z) = false := rfl
theorem n_t : isNon (.tup ds) = false := rfl
theorem n_f : isNon (.fl ds) = false := rfl
theorem n_r : isNon (.ref n) = false := rfl
theorem o_ixT : W (ixD (.tup ds) (.int a) h) Q = kOpt (atI ds a) Q h := by unfold ixD; simp only [seqOf]; cases atI ds a <;> rfl
theorem o_ixF : W (ixD (.fl ds) (.int a) h) Q = kOpt (atI ds a) Q h := by unfold ixD; simp only [seqOf]; cases atI ds a <;> rfl
def kCh (Q : QD) : Nat → DHeap → Prop := fun c h => Q (.str ⟨#[c]⟩) h
theorem o_ixS : W (ixD (.str z) (.int a) h) Q = (z.length ≤ 16777216 ∧ kOpt (atI z.cps.toList a) (kCh Q) h) := by
  unfold ixD; simp only [seqOf]; rw [← sizeLine_eq]
  by_cases e : z.length ≤ sizeLine
  · rw [if_pos e]; simp only [e, true_and]; cases atI z.cps.toList a <;> rfl
  · rw [if_neg e]; simp [e, W]
theorem k_Ch {c : Nat} : kCh Q c h = Q (.str ⟨#[c]⟩) h := rfl
def kIx (a : Int) (Q : QD) (o : Option Cell) (h : DHeap) : Prop := match o with | some (.lst ds) => kOpt (atI ds a) Q h | some (.dic kvs) => kOpt (lookD kvs (.inl a)) Q h | none => False
theorem o_ixR : W (ixD (.ref n) (.int a) h) Q = kIx a Q (h[n]?) h := by
  unfold ixD; simp only [seqOf]
  cases e : h[n]? with
  | none => rfl
  | some c => cases c with
    | lst ds => simp only [kIx]; cases atI ds a <;> rfl
    | dic kvs => simp only [kIx]; cases lookD kvs (.inl a) <;> rfl
theorem k_IxL : kIx a Q (some (.lst ds)) h = kOpt (atI ds a) Q h := rfl
theorem k_IxD : kIx a Q (some (.dic kvs)) h = kOpt (lookD kvs (.inl a)) Q h := rfl
abbrev QUn := Unit → DHeap → Prop
def kSe (n : Nat) (k v : D) (QU : QUn) (o : Option Cell) (h : DHeap) : Prop := match o with
  | some (.lst ds) => (match k with | .int k => (match ixN ds.length k with | some j => QU () (h.set n (.lst (ds.set j v))) | none => False) | _ => False)
  | some (.dic kvs) => (match keyD k with | some k => kvs.length < 16777216 ∧ QU () (h.set n (.dic (putD kvs k v))) | none => False)
  | none => False
def kSeL (n : Nat) (ds : List D) (v : D) (QU : QUn) (o : Option Nat) (h : DHeap) : Prop := match o with | some j => QU () (h.set n (.lst (ds.set j v))) | none => False
theorem o_setR {QU : QUn} : W (setD (.ref n) k v h) QU = kSe n k v QU (h[n]?) h := by
  unfold setD
  simp only
  cases e : h[n]? with
  | none => rfl
  | some c => cases c with
    | lst ds =>
      simp only [kSe]
      cases k <;> try rfl
      rename_i k
      simp only
      cases ixN ds.length k <;> rfl
    | dic kvs =>
      simp only [kSe]
      cases keyD k with
      | none => rfl
      | some k => simp only [W_ite, sizeLine_eq]
theorem k_SeL {QU : QUn} : kSe n (.int a) v QU (some (.lst ds)) h = kSeL n ds v QU (ixN ds.length a) h := by unfold kSe kSeL; simp only
theorem k_SeJ {QU : QUn} : kSeL n ds v QU (some j) h = QU () (h.set n (.lst (ds.set j v))) := rfl
theorem k_SeI {QU : QUn} : kSe n (.int a) v QU (some (.dic kvs)) h = (kvs.length < 16777216 ∧ QU () (h.set n (.dic (putD kvs (.inl a) v)))) := rfl
theorem k_SeS {QU : QUn} : kSe n (.str z) v QU (some (.dic kvs)) h = (kvs.length < 16777216 ∧ QU () (h.set n (.dic (putD kvs (.inr z) v)))) := rfl
theorem o_lenT : W (lenD [.tup ds] h) Q = Q (.int ds.length) h := rfl
theorem o_lenF : W (lenD [.fl ds] h) Q = Q (.int ds.length) h := rfl
theorem o_lenS : W (lenD [.str z] h) Q = (z.length ≤ 16777216 ∧ Q (.int z.length) h) := (by show W (if _ then _ else _) _ = _; rw [W_ite, sizeLine_eq])
def kLe (Q : QD) (o : Option Cell) (h : DHeap) : Prop := match o with | some (.lst ds) => Q (.int ds.length) h | some (.dic kvs) => Q (.int kvs.length) h | none => False
theorem o_lenR : W (lenD [.ref n] h) Q = kLe Q (h[n]?) h := by
  unfold lenD
  cases e : h[n]? with
  | none => simp only [e]; rfl
  | some c => cases c <;> simp only [e] <;> rfl
theorem k_LeL : kLe Q (some (.lst ds)) h = Q (.int ds.length) h := rfl
theorem k_LeD : kLe Q (some (.dic kvs)) h = Q (.int kvs.length) h := rfl
theorem o_int : W (intD [.int a] h) Q = Q (.int a) h := rfl
theorem o_abs : W (absD [.int a] h) Q = Q (.int (if a < 0 then -a else a)) h := rfl
theorem o_max2 : W (max2D [.int a, .int c] h) Q = Q (.int (if c > a then c else a)) h := rfl
theorem o_min2 : W (min2D [.int a, .int c] h) Q = Q (.int (if c < a then c else a)) h := rfl
def kSeq (f : List D → D) (Q : QD) : List D → DHeap → Prop := fun ds h => Q (f ds) h
theorem o_tup : W (tupD [d] h) Q = kOpt (seqOf h d) (kSeq .tup Q) h := by unfold tupD; simp only; cases seqOf h d <;> rfl
theorem k_Seq {p : List D → D} : kSeq p Q ds h = Q (p ds) h := rfl
def kLs (Q : QD) : List D → DHeap → Prop := fun ds h => Q (.ref h.length) (h ++ [.lst ds])
theorem o_lst : W (lstD [d] h) Q = kOpt (seqOf h d) (kLs Q) h := by unfold lstD; simp only; cases seqOf h d <;> rfl
theorem k_Ls : kLs Q ds h = Q (.ref h.length) (h ++ [.lst ds]) := rfl
theorem q_T : seqOf h (.tup ds) = some ds := rfl
theorem q_F : seqOf h (.fl ds) = some ds := rfl
def seqR (o : Option Cell) : Option (List D) := match o with | some (.lst ds) => some ds | _ => none
theorem q_R : seqOf h (.ref n) = seqR (h[n]?) := by unfold seqOf seqR; cases e : h[n]? with | none => simp only [e] | some c => cases c <;> simp only [e]
theorem q_RL : seqR (some (.lst ds)) = some ds := rfl
theorem o_slT : W (slD (.tup ds) lo hi h) Q = Q (.tup (cutL ds lo hi)) h := rfl
theorem o_slS : W (slD (.str z) lo hi h) Q = (z.length ≤ 16777216 ∧ Q (.str (cutS z lo hi)) h) := (by show W (if _ then _ else _) _ = _; rw [W_ite, sizeLine_eq])
theorem o_slF : W (slD (.fl ds) lo hi h) Q = Q (.ref h.length) (h ++ [.lst (cutL ds lo hi)]) := rfl
def kSlR (lo hi : Option Int) (Q : QD) (o : Option Cell) (h : DHeap) : Prop := match o with | some (.lst ds) => Q (.ref h.length) (h ++ [.lst (cutL ds lo hi)]) | _ => False
theorem o_slR : W (slD (.ref n) lo hi h) Q = kSlR lo hi Q (h[n]?) h := by
  unfold slD seqOf
  cases e : h[n]? with
  | none => simp only [e]; rfl
  | some c => cases c <;> simp only [e] <;> rfl
theorem k_SlR : kSlR lo hi Q (some (.lst ds)) h = Q (.ref h.length) (h ++ [.lst (cutL ds lo hi)]) := rfl
theorem o_cTup : W (cTup ys h) Q = Q (.tup ys) h := rfl
def kIn (g : List Int → D) (Q : QD) : List Int → DHeap → Prop := fun ns h => Q (g ns) h
def kBs (g : List Bool → Bool) (Q : QD) : List Bool → DHeap → Prop := fun ns h => Q (.bl (g ns)) h
theorem k_In {p : List Int → D} {ns : List Int} : kIn p Q ns h = Q (p ns) h := rfl
theorem k_Bs {p : List Bool → Bool} {ns : List Bool} : kBs p Q ns h = Q (.bl (p ns)) h := rfl
theorem o_cSum : W (cSum ys h) Q = kOpt (intsOf ys) (kIn (fun ns => .int ns.sum) Q) h := by unfold cSum cInts; cases intsOf ys <;> rfl
theorem o_cAll : W (cAll ys h) Q = kOpt (blsOf ys) (kBs (fun ns => ns.all id) Q) h := by unfold cAll cBls; cases blsOf ys <;> rfl
theorem o_cAny : W (cAny ys h) Q = kOpt (blsOf ys) (kBs (fun ns => ns.any id) Q) h := by unfold cAny cBls; cases blsOf ys <;> rfl
end
theorem atI_n {α : Type} (l : List α) (k : Nat) : atI l (k : Int) = l[k]? := by
  unfold atI ixN
  rw [if_pos (by omega)]
  by_cases h : k < l.length
  · rw [if_pos (by omega)]; simp
  · rw [if_neg (by omega)]; simp; omega
theorem atI_0 {α : Type} (l : List α) : atI l 0 = l[0]? := atI_n l 0
theorem atI_1 {α : Type} (l : List α) : atI l 1 = l[1]? := atI_n l 1
theorem atI_2 {α : Type} (l : List α) : atI l 2 = l[2]? := atI_n l 2
theorem atI_3 {α : Type} (l : List α) : atI l 3 = l[3]? := atI_n l 3
theorem atI_4 {α : Type} (l : List α) : atI l 4 = l[4]? := atI_n l 4
theorem ixN_n (n k : Nat) : ixN n (k : Int) = if k < n then some k else none := by
  unfold ixN
  rw [if_pos (by omega)]
  by_cases h : k < n
  · rw [if_pos (by omega), if_pos h]; simp
  · rw [if_neg (by omega), if_neg h]
theorem ixN_0 (n : Nat) : ixN (n + 1) 0 = some 0 := by rw [show (0 : Int) = ((0 : Nat) : Int) from rfl, ixN_n, if_pos (by omega)]
theorem ixN_1 (n : Nat) : ixN (n + 2) 1 = some 1 := by rw [show (1 : Int) = ((1 : Nat) : Int) from rfl, ixN_n, if_pos (by omega)]
theorem ixN_2 (n : Nat) : ixN (n + 3) 2 = some 2 := by rw [show (2 : Int) = ((2 : Nat) : Int) from rfl, ixN_n, if_pos (by omega)]
theorem ixN_3 (n : Nat) : ixN (n + 4) 3 = some 3 := by rw [show (3 : Int) = ((3 : Nat) : Int) from rfl, ixN_n, if_pos (by omega)]
theorem atI_in {α : Type} {l : List α} {k : Int} (h0 : 0 ≤ k) (h1 : k < l.length) : ∃ d, atI l k = some d ∧ l[k.toNat]? = some d ∧ d ∈ l := by
  obtain ⟨n, rfl⟩ := Int.eq_ofNat_of_zero_le h0
  have hn : n < l.length := by omega
  refine ⟨l[n], by rw [atI_n]; exact List.getElem?_eq_getElem hn, by simp [hn], List.getElem_mem hn⟩
theorem set_at {h : DHeap} {i : Nat} {c d : Cell} (e : h[i]? = some c) : (h.set i d)[i]? = some d := by
  have hi := (List.getElem?_eq_some_iff.mp e).1
  exact List.getElem?_set_self hi
theorem set_no {h : DHeap} {i j : Nat} {d : Cell} (e : i ≠ j) : (h.set i d)[j]? = h[j]? := List.getElem?_set_ne e
theorem app_at {h g : DHeap} {i : Nat} {c : Cell} (e : h[i]? = some c) : (h ++ g)[i]? = some c := by
  rw [List.getElem?_append_left (List.getElem?_eq_some_iff.mp e).1]; exact e
theorem app_end {h : DHeap} {c : Cell} : (h ++ [c])[h.length]? = some c := by simp
/-- a branch whose test is open -/
theorem if_i {f g : M Fl} {σ : DEnv} {QF : QFl} {b : Bool} {h : DHeap} (h1 : b = true → W (f σ h) QF) (h2 : b = false → W (g σ h) QF) : kIf f g σ QF b h := by
  cases b with
  | true => exact h1 rfl
  | false => exact h2 rfl
theorem if_d {f g : M Fl} {σ : DEnv} {QF : QFl} {p : Prop} [Decidable p] {h : DHeap} (h1 : p → W (f σ h) QF) (h2 : ¬ p → W (g σ h) QF) : kIf f g σ QF (decide p) h := if_i (fun e => h1 (of_decide_eq_true e)) fun e => h2 (of_decide_eq_false e)
theorem if_nd {f g : M Fl} {σ : DEnv} {QF : QFl} {p : Prop} [Decidable p] {h : DHeap} (h1 : ¬ p → W (f σ h) QF) (h2 : p → W (g σ h) QF) : kIf f g σ QF (!decide p) h := if_i (fun e => h1 (by simpa using e)) fun e => h2 (by simpa using e)
/-- loops by what holds after i turns -/
theorem loopC_i {s : Src} {step : D → DHeap → Res (Option D)} {QS : QLs} (P : Nat → List D → DHeap → Prop) {l : List D} {h : DHeap} (h0 : P 0 [] h) (hc : ∀ i ys h, P i ys h → s.chk h)
    (hs : ∀ i ys h x, l[i]? = some x → P i ys h → W (step x h) (fun o h1 => P (i + 1) (ys ++ o.toList) h1)) (he : ∀ ys h, P l.length ys h → QS ys h) : W (loopC s step l h) QS := by
  have go : ∀ (r : List D) (i : Nat) (ys : List D) (h : DHeap), l.drop i = r → i ≤ l.length → P i ys h → W (loopC s step r h) (fun zs h' => P l.length (ys ++ zs) h') := by
    intro r
    induction r with
    | nil =>
      intro i ys h e hi p
      have ei : i = l.length := by
        have := List.drop_eq_nil_iff.mp e
        omega
      subst ei
      unfold loopC
      rw [if_pos (hc _ _ _ p)]
      show P l.length (ys ++ []) h
      rw [List.append_nil]
      exact p
    | cons x r ih =>
      intro i ys h e hi p
      have hlt : i < l.length := by
        rcases Nat.lt_or_ge i l.length with q | q
        · exact q
        · rw [List.drop_eq_nil_iff.mpr q] at e; cases e
      rw [List.drop_eq_getElem_cons hlt] at e
      obtain ⟨e1, e2⟩ := List.cons.inj e
      unfold loopC
      rw [if_pos (hc _ _ _ p), W_bind]
      refine W_mono (hs i ys h x (by rw [← e1]; exact List.getElem?_eq_getElem hlt) p) fun o h1 p1 => ?_
      rw [W_bind]
      refine W_mono (ih (i + 1) _ h1 e2 hlt p1) fun zs h2 p2 => ?_
      cases o with
      | none => show P l.length (ys ++ zs) h2; simpa using p2
      | some y => show P l.length (ys ++ y :: zs) h2; simpa using p2
  exact W_mono (go l 0 [] h rfl (Nat.zero_le _) h0) fun zs h' p => he _ _ (by simpa using p)
def kLp (P : Nat → DEnv → DHeap → Prop) (QF : QFl) (i : Nat) : QFl := fun fl h => match fl with | .nx s => P i s h | .ct s => P i s h | .bk s => QF (.nx s) h | .rt d => QF (.rt d) h
theorem k_LpN {P : Nat → DEnv → DHeap → Prop} {QF : QFl} {i : Nat} {s : DEnv} {h : DHeap} : kLp P QF i (.nx s) h = P i s h := rfl
theorem k_LpC {P : Nat → DEnv → DHeap → Prop} {QF : QFl} {i : Nat} {s : DEnv} {h : DHeap} : kLp P QF i (.ct s) h = P i s h := rfl
theorem k_LpB {P : Nat → DEnv → DHeap → Prop} {QF : QFl} {i : Nat} {s : DEnv} {h : DHeap} : kLp P QF i (.bk s) h = QF (.nx s) h := rfl
theorem k_LpR {P : Nat → DEnv → DHeap → Prop} {QF : QFl} {i : Nat} {d : D} {h : DHeap} : kLp P QF i (.rt d) h = QF (.rt d) h := rfl
theorem loopS_i {s : Src} {gg : D → M DEnv} {body : M Fl} {QF : QFl} (P : Nat → DEnv → DHeap → Prop) {l : List D} {σ : DEnv} {h : DHeap} (h0 : P 0 σ h) (hc : ∀ i σ h, P i σ h → s.chk h)
    (hs : ∀ i σ h x, l[i]? = some x → P i σ h → W (gg x σ h) (fun σ1 h1 => W (body σ1 h1) (kLp P QF (i + 1)))) (he : ∀ σ h, P l.length σ h → QF (.nx σ) h) : W (loopS s gg body l σ h) QF := by
  have go : ∀ (r : List D) (i : Nat) (σ : DEnv) (h : DHeap), l.drop i = r → i ≤ l.length → P i σ h → W (loopS s gg body r σ h) QF := by
    intro r
    induction r with
    | nil =>
      intro i σ h e hi p
      have ei : i = l.length := by
        have := List.drop_eq_nil_iff.mp e
        omega
      subst ei
      unfold loopS
      rw [if_pos (hc _ _ _ p)]
      exact he σ h p
    | cons x r ih =>
      intro i σ h e hi p
      have hlt : i < l.length := by
        rcases Nat.lt_or_ge i l.length with q | q
        · exact q
        · rw [List.drop_eq_nil_iff.mpr q] at e; cases e
      rw [List.drop_eq_getElem_cons hlt] at e
      obtain ⟨e1, e2⟩ := List.cons.inj e
      unfold loopS
      rw [if_pos (hc _ _ _ p), W_bind]
      refine W_mono (hs i σ h x (by rw [← e1]; exact List.getElem?_eq_getElem hlt) p) fun σ1 h1 p1 => ?_
      rw [W_bind]
      refine W_mono p1 fun fl h2 p2 => ?_
      cases fl with
      | nx s2 => exact ih (i + 1) s2 h2 e2 hlt p2
      | ct s2 => exact ih (i + 1) s2 h2 e2 hlt p2
      | bk s2 => exact p2
      | rt d => exact p2
  exact go l 0 σ h rfl (Nat.zero_le _) h0
end DL

set_option Elab.async false
set_option linter.all false
set_option maxRecDepth 100000
namespace DL
open PySem PySem.Spec PyProof.Rows L2
section
variable {σ s : DEnv} {h : DHeap} {i j n np : Nat} {fa fb fc fo fe : M D} {Q : QD} {QB : QBl} {d x y o k v z : D} {ds es ys : List D} {kvs : List (Key × D)} {b : Bool} {a c : Int} {w' : Str} {key : Key}
def kTB (o : Option Bool) (QB : QBl) (h : DHeap) : Prop := match o with | some b => QB b h | none => False
def kTru (QB : QBl) : QD := fun d h => kTB (truB d h) QB h
theorem w_tru : W (tru fa σ h) QB = W (fa σ h) (kTru QB) := W_b fun d h1 => by unfold kTru kTB; cases truB d h1 <;> rfl
theorem k_TruB : kTru QB (.bl b) h = QB b h := rfl
theorem k_TruI : kTru QB (.int a) h = QB (a != 0) h := rfl
theorem k_TruN : kTru QB .non h = QB false h := rfl
theorem k_TruT : kTru QB (.tup ds) h = QB (!ds.isEmpty) h := rfl
theorem k_TruF : kTru QB (.fl ds) h = QB (!ds.isEmpty) h := rfl
def kTruR (QB : QBl) (o : Option Cell) (h : DHeap) : Prop := match o with | some (.lst ds) => QB (!ds.isEmpty) h | some (.dic kvs) => QB (!kvs.isEmpty) h | none => False
theorem k_TruR : kTru QB (.ref n) h = kTruR QB (h[n]?) h := by
  unfold kTru kTB truB kTruR
  simp only
  cases e : h[n]? with
  | none => rfl
  | some c => cases c <;> rfl
theorem k_TruL : kTruR QB (some (.lst ds)) h = QB (!ds.isEmpty) h := rfl
theorem k_TruD : kTruR QB (some (.dic kvs)) h = QB (!kvs.isEmpty) h := rfl
theorem i_nil : ([] : List D).isEmpty = true := rfl
theorem i_cons : (d :: ds).isEmpty = false := rfl
def kInL (o : Option D) (ds : List D) (QB : QBl) (h : DHeap) : Prop := match o with | some x' => (okP x' = true ∧ okP (.fl ds) = true) ∧ QB (ds.any fun z => eqvD z x') h | none => False
def kIn0 (x : D) (QB : QBl) (o : Option Cell) (h : DHeap) : Prop := match o with
  | some (.dic kvs) => (match keyD x with | some k => QB (lookD kvs k).isSome h | none => False)
  | some (.lst ds) => kInL (seen h x) ds QB h
  | none => False
theorem inB_eq {x : D} {n : Nat} {h : DHeap} {QB : QBl} : kTB (inB x (.ref n) h) QB h = kIn0 x QB (h[n]?) h := by
  unfold inB kTB kIn0 kInL
  simp only
  cases e : h[n]? with
  | none => rfl
  | some c =>
    cases c with
    | lst ds =>
      simp only
      cases seen h x with
      | none => rfl
      | some x' =>
        simp only
        by_cases hc : okP x' = true ∧ okP (.fl ds) = true
        · rw [if_pos hc]; simp [hc]
        · rw [if_neg hc]; simp [hc]
    | dic kvs => simp only; cases keyD x <;> rfl
theorem inB_fl {x : D} {ds : List D} {h : DHeap} {QB : QBl} : kTB (inB x (.fl ds) h) QB h = kInL (seen h x) ds QB h := by
  unfold inB kTB kInL
  simp only
  cases seen h x with
  | none => rfl
  | some x' =>
    simp only
    by_cases hc : okP x' = true ∧ okP (.fl ds) = true
    · rw [if_pos hc]; simp [hc]
    · rw [if_neg hc]; simp [hc]
def kBl (Q : QD) : QBl := fun b h => Q (.bl b) h
def kBn (Q : QD) : QBl := fun b h => Q (.bl (!b)) h
theorem k_Bl : kBl Q b h = Q (.bl b) h := rfl
theorem k_Bn : kBn Q b h = Q (.bl (!b)) h := rfl
theorem o_inR : W (inD x (.ref n) h) Q = kIn0 x (kBl Q) (h[n]?) h := by rw [← inB_eq]; unfold inD kTB kBl; cases inB x (.ref n) h <;> rfl
theorem o_ninR : W (ninD x (.ref n) h) Q = kIn0 x (kBn Q) (h[n]?) h := by rw [← inB_eq]; unfold ninD kTB kBn; cases inB x (.ref n) h <;> rfl
theorem o_inF : W (inD x (.fl ds) h) Q = kInL (seen h x) ds (kBl Q) h := by rw [← inB_fl]; unfold inD kTB kBl; cases inB x (.fl ds) h <;> rfl
theorem o_ninF : W (ninD x (.fl ds) h) Q = kInL (seen h x) ds (kBn Q) h := by rw [← inB_fl]; unfold ninD kTB kBn; cases inB x (.fl ds) h <;> rfl
theorem k_In0L : kIn0 x QB (some (.lst ds)) h = kInL (seen h x) ds QB h := rfl
theorem k_In0Di : kIn0 (.int a) QB (some (.dic kvs)) h = QB (lookD kvs (.inl a)).isSome h := rfl
theorem k_In0Ds : kIn0 (.str w') QB (some (.dic kvs)) h = QB (lookD kvs (.inr w')).isSome h := rfl
theorem k_InL : kInL (some x) ds QB h = ((okP x = true ∧ okP (.fl ds) = true) ∧ QB (ds.any fun z => eqvD z x) h) := rfl
theorem sn_i : seen h (.int a) = some (.int a) := rfl
theorem sn_s : seen h (.str w') = some (.str w') := rfl
theorem sn_t : seen h (.tup ds) = some (.tup ds) := rfl
theorem sn_f : seen h (.fl ds) = some (.fl ds) := rfl
theorem sn_b : seen h (.bl b) = some (.bl b) := rfl
theorem sn_n : seen h .non = some .non := rfl
/-! get -/
def kGt4 (key : Key) (z : D) (Q : QD) (o : Option Cell) (h : DHeap) : Prop := match o with | some (.dic kvs) => Q ((lookD kvs key).getD z) h | _ => False
def kGt3 (n : Nat) (Q : QD) : QD := fun y h => match keyD y with | some k => kGt4 k .non Q (h[n]?) h | none => False
def kGt2 (n : Nat) (fe : M D) (σ : DEnv) (Q : QD) (o : Option Cell) (h : DHeap) : Prop := match o with | some (.dic _) => W (fe σ h) (kGt3 n Q) | _ => False
def kGt1 (fe : M D) (σ : DEnv) (Q : QD) : QD := fun d h => match d with | .ref n => kGt2 n fe σ Q (h[n]?) h | _ => False
theorem w_get1 : W (getM1 fo fe σ h) Q = W (fo σ h) (kGt1 fe σ Q) := W_b fun d h1 => by
  cases d <;> try rfl
  rename_i n
  unfold kGt1 kGt2
  simp only
  cases e : h1[n]? with
  | none => rfl
  | some c =>
    cases c with
    | lst ds => rfl
    | dic kvs =>
      simp only
      refine W_b fun y h2 => ?_
      unfold kGt3 kGt4
      cases e2 : h2[n]? with
      | none => cases keyD y <;> rfl
      | some c2 => cases c2 <;> cases keyD y <;> rfl
theorem k_Gt1 : kGt1 fe σ Q (.ref n) h = kGt2 n fe σ Q (h[n]?) h := rfl
theorem k_Gt2 : kGt2 n fe σ Q (some (.dic kvs)) h = W (fe σ h) (kGt3 n Q) := rfl
theorem k_Gt3i : kGt3 n Q (.int a) h = kGt4 (.inl a) .non Q (h[n]?) h := rfl
theorem k_Gt3s : kGt3 n Q (.str w') h = kGt4 (.inr w') .non Q (h[n]?) h := rfl
theorem k_Gt4 : kGt4 key z Q (some (.dic kvs)) h = Q ((lookD kvs key).getD z) h := rfl
def kHt4 (n : Nat) (y : D) (Q : QD) : QD := fun z h => match keyD y with | some k => kGt4 k z Q (h[n]?) h | none => False
def kHt3 (n : Nat) (fb : M D) (σ : DEnv) (Q : QD) : QD := fun y h => W (fb σ h) (kHt4 n y Q)
def kHt2 (n : Nat) (fe fb : M D) (σ : DEnv) (Q : QD) (o : Option Cell) (h : DHeap) : Prop := match o with | some (.dic _) => W (fe σ h) (kHt3 n fb σ Q) | _ => False
def kHt1 (fe fb : M D) (σ : DEnv) (Q : QD) : QD := fun d h => match d with | .ref n => kHt2 n fe fb σ Q (h[n]?) h | _ => False
theorem w_get2 : W (getM2 fo fe fb σ h) Q = W (fo σ h) (kHt1 fe fb σ Q) := W_b fun d h1 => by
  cases d <;> try rfl
  rename_i n
  unfold kHt1 kHt2
  simp only
  cases e : h1[n]? with
  | none => rfl
  | some c =>
    cases c with
    | lst ds => rfl
    | dic kvs =>
      simp only
      refine W_b fun y h2 => W_b fun z h3 => ?_
      unfold kHt4 kGt4
      cases e2 : h3[n]? with
      | none => cases keyD y <;> rfl
      | some c2 => cases c2 <;> cases keyD y <;> rfl
theorem k_Ht1 : kHt1 fe fb σ Q (.ref n) h = kHt2 n fe fb σ Q (h[n]?) h := rfl
theorem k_Ht2 : kHt2 n fe fb σ Q (some (.dic kvs)) h = W (fe σ h) (kHt3 n fb σ Q) := rfl
theorem k_Ht3 : kHt3 n fb σ Q y h = W (fb σ h) (kHt4 n y Q) := rfl
theorem k_Ht4i : kHt4 n (.int a) Q z h = kGt4 (.inl a) z Q (h[n]?) h := rfl
theorem k_Ht4s : kHt4 n (.str w') Q z h = kGt4 (.inr w') z Q (h[n]?) h := rfl
/-! list -/
def kLis (Q : QD) (o : Option Cell) (h : DHeap) : Prop := match o with | some (.lst ds) => Q (.ref h.length) (h ++ [.lst ds]) | some (.dic kvs) => Q (.ref h.length) (h ++ [.lst (kvs.map fun kv => keyV kv.1)]) | none => False
theorem o_lisR : W (lisD [.ref n] h) Q = kLis Q (h[n]?) h := by
  unfold lisD kLis
  simp only
  cases e : h[n]? with
  | none => rfl
  | some c => cases c <;> rfl
theorem k_LisL : kLis Q (some (.lst ds)) h = Q (.ref h.length) (h ++ [.lst ds]) := rfl
theorem k_LisD : kLis Q (some (.dic kvs)) h = Q (.ref h.length) (h ++ [.lst (kvs.map fun kv => keyV kv.1)]) := rfl
theorem o_lisT : W (lisD [.tup ds] h) Q = Q (.ref h.length) (h ++ [.lst ds]) := rfl
theorem o_lisF : W (lisD [.fl ds] h) Q = Q (.ref h.length) (h ++ [.lst ds]) := rfl
/-! pop -/
def kPo3 (n : Nat) (ds : List D) (Q : QD) (o : Option D) (h : DHeap) : Prop := match o with | some y => Q y (h.set n (.lst ds.dropLast)) | none => False
def kPo2 (n : Nat) (Q : QD) (o : Option Cell) (h : DHeap) : Prop := match o with | some (.lst ds) => kPo3 n ds Q (ds[ds.length - 1]?) h | _ => False
def kPo1 (Q : QD) : QD := fun d h => match d with | .ref n => kPo2 n Q (h[n]?) h | _ => False
theorem w_pop : W (popM fo σ h) Q = W (fo σ h) (kPo1 Q) := W_b fun d h1 => by
  cases d <;> try rfl
  rename_i n
  unfold kPo1 kPo2
  simp only
  cases e : h1[n]? with
  | none => rfl
  | some c =>
    cases c with
    | lst ds => simp only [kPo3]; cases ds[ds.length - 1]? <;> rfl
    | dic kvs => rfl
theorem k_Po1 : kPo1 Q (.ref n) h = kPo2 n Q (h[n]?) h := rfl
theorem k_Po2 : kPo2 n Q (some (.lst ds)) h = kPo3 n ds Q (ds[ds.length - 1]?) h := rfl
theorem k_Po3 : kPo3 n ds Q (some y) h = Q y (h.set n (.lst ds.dropLast)) := rfl
end
end DL

set_option Elab.async false
set_option linter.all false
set_option maxRecDepth 100000
set_option maxHeartbeats 4000000
namespace DL
open PySem PySem.Spec PyProof.Rows L2
/-! terms -/
inductive T where
  | v (i : Int) | a (f : Str) (as : List T)
theorem T.ind {P : T → Prop} (hv : ∀ i, P (.v i)) (ha : ∀ f as, (∀ t, t ∈ as → P t) → P (.a f as)) : ∀ t, P t := by
  intro t
  exact T.rec (motive_1 := P) (motive_2 := fun l => ∀ t, t ∈ l → P t) hv (fun f as ih => ha f as ih) (fun t h => absurd h List.not_mem_nil) (fun a l h1 h2 t h => by
    rcases List.mem_cons.mp h with e | e
    · rw [e]; exact h1
    · exact h2 t e) t
mutual
def T.toD : T → D
  | .v i => .int i
  | .a f as => .tup (.str f :: T.toDs as)
def T.toDs : List T → List D
  | [] => []
  | t :: r => t.toD :: T.toDs r
end
theorem toDs_map : ∀ l : List T, T.toDs l = l.map T.toD
  | [] => rfl
  | t :: r => by rw [T.toDs, toDs_map r]; rfl
theorem toD_v (i : Int) : (T.v i).toD = .int i := by rw [T.toD]
theorem toD_a (f : Str) (as : List T) : (T.a f as).toD = .tup (.str f :: as.map T.toD) := by rw [T.toD, toDs_map]
mutual
def T.size : T → Nat
  | .v _ => 1
  | .a _ as => 1 + T.sizes as
def T.sizes : List T → Nat
  | [] => 0
  | t :: r => t.size + T.sizes r
end
mutual
def T.dep : T → Nat
  | .v _ => 1
  | .a _ as => 1 + T.deps as
def T.deps : List T → Nat
  | [] => 0
  | t :: r => max t.dep (T.deps r)
end
theorem size_v (i : Int) : (T.v i).size = 1 := by rw [T.size]
theorem size_a (f : Str) (as : List T) : (T.a f as).size = 1 + T.sizes as := by rw [T.size]
theorem dep_v (i : Int) : (T.v i).dep = 1 := by rw [T.dep]
theorem dep_a (f : Str) (as : List T) : (T.a f as).dep = 1 + T.deps as := by rw [T.dep]
theorem deps_le {t : T} : ∀ {l : List T}, t ∈ l → t.dep ≤ T.deps l
  | a :: r, h => by
    rw [T.deps]
    rcases List.mem_cons.mp h with e | e
    · rw [e]; exact Nat.le_max_left _ _
    · exact Nat.le_trans (deps_le e) (Nat.le_max_right _ _)
theorem deps_of {n : Nat} : ∀ {l : List T}, (∀ t, t ∈ l → t.dep ≤ n) → T.deps l ≤ n
  | [], _ => by rw [T.deps]; exact Nat.zero_le _
  | a :: r, h => by
    rw [T.deps]
    exact Nat.max_le.mpr ⟨h a List.mem_cons_self, deps_of fun t q => h t (List.mem_cons_of_mem _ q)⟩
theorem sizes_of {n : Nat} : ∀ {l : List T}, (∀ t, t ∈ l → t.size ≤ n) → T.sizes l ≤ l.length * n
  | [], _ => by rw [T.sizes]; exact Nat.zero_le _
  | a :: r, h => by
    have h1 := h a List.mem_cons_self
    have h2 := sizes_of (l := r) fun t q => h t (List.mem_cons_of_mem _ q)
    rw [T.sizes, List.length_cons, Nat.succ_mul]
    omega
theorem dep_pos (t : T) : 1 ≤ t.dep := by
  cases t with
  | v i => rw [dep_v]; exact Nat.le_refl _
  | a f as => rw [dep_a]; omega
theorem size_pos (t : T) : 1 ≤ t.size := by
  cases t with
  | v i => rw [size_v]; exact Nat.le_refl _
  | a f as => rw [size_a]; omega
theorem sizes_int : ∀ l : List T, (l.map fun t => (t.size : Int)).sum = (T.sizes l : Int)
  | [] => by rw [T.sizes]; rfl
  | t :: r => by rw [List.map_cons, List.sum_cons, sizes_int r, T.sizes]; omega
theorem deps_int : ∀ l : List T, maxOr (l.map fun t => (t.dep : Int)) (.int 0) = .int (T.deps l : Int)
  | [] => by rw [T.deps]; rfl
  | t :: r => by
    have ih := deps_int r
    unfold maxOr at ih ⊢
    rw [List.map_cons, T.deps]
    simp only [maxL]
    have hd := dep_pos t
    cases e : maxL (r.map fun t => (t.dep : Int)) with
    | none =>
      rw [e] at ih
      simp only [D.int.injEq] at ih
      simp only [D.int.injEq]
      omega
    | some m =>
      rw [e] at ih
      simp only [D.int.injEq] at ih
      simp only [D.int.injEq]
      split <;> omega
theorem intsOf_map {α : Type} (g : α → Int) : ∀ l : List α, intsOf (l.map fun x => .int (g x)) = some (l.map g)
  | [] => rfl
  | x :: r => by simp only [List.map_cons, intsOf, intsOf_map g r, Option.map_some]
theorem blsOf_map {α : Type} (g : α → Bool) : ∀ l : List α, blsOf (l.map fun x => .bl (g x)) = some (l.map g)
  | [] => rfl
  | x :: r => by simp only [List.map_cons, blsOf, blsOf_map g r, Option.map_some]
/-- a comprehension that only reckons -/
theorem loopC_m {α : Type} {s : Src} {step : D → DHeap → Res (Option D)} (e g : α → D) (l : List α) (h : DHeap) (hs : s.at_ = none) (hx : ∀ x, x ∈ l → W (step (e x) h) (fun o h' => o = some (g x) ∧ h' = h)) :
    W (loopC s step (l.map e) h) (fun ys h' => ys = l.map g ∧ h' = h) := by
  refine loopC_i (fun i ys h' => ys = (l.take i).map g ∧ h' = h) ⟨rfl, rfl⟩ (fun _ _ _ _ => by unfold Src.chk; rw [hs]; trivial) (fun i ys h' x ex p => ?_) fun ys h' p => ?_
  · obtain ⟨rfl, rfl⟩ := p
    rw [List.getElem?_map] at ex
    cases ey : l[i]? with
    | none => rw [ey] at ex; cases ex
    | some y =>
      rw [ey] at ex
      cases ex
      refine W_mono (hx y (List.mem_of_getElem? ey)) fun o h1 q => ?_
      obtain ⟨rfl, rfl⟩ := q
      refine ⟨?_, rfl⟩
      rw [List.take_add_one, ey]
      simp
  · rw [List.length_map, List.take_length] at p
    exact p
theorem cutL_1 {α : Type} (a : α) (l : List α) : cutL (a :: l) (some 1) none = l := by
  unfold cutL
  rw [HT.sIx_none, show HT.sIx (a :: l).length 0 (some 1) = 1 by rw [show (1 : Int) = ((1 : Nat) : Int) from rfl, HT.sIx_nat, List.length_cons]; omega]
  simp
/-! the tape -/
/-- the tape at i: its script, place, rest, seed -/
def Tape (h : DHeap) (i : Nat) : Prop := ∃ (j : Nat) (ns : List Int) (a b c : Int), h[i]? = some (.lst [.ref j, .int a, .int b, .int c]) ∧ h[j]? = some (.lst (ns.map .int)) ∧ i = j + 1 ∧ ns.length ≤ 63 ∧ 0 ≤ a ∧ 0 ≤ b ∧ 0 ≤ c
/-- all but the tape stays -/
def Ev (i : Nat) (h h' : DHeap) : Prop := ∀ n c, n ≠ i → h[n]? = some c → h'[n]? = some c
theorem Ev.refl {i : Nat} {h : DHeap} : Ev i h h := fun _ _ _ e => e
theorem Ev.set {i : Nat} {h h' : DHeap} {c : Cell} (e : Ev i h h') : Ev i h (h'.set i c) := fun n d hn q => by
  rw [set_no (Ne.symm hn)]
  exact e n d hn q
theorem Ev.trans {i : Nat} {h h1 h2 : DHeap} (a : Ev i h h1) (b : Ev i h1 h2) : Ev i h h2 := fun n c hn q => b n c hn (a n c hn q)
theorem Ev.app {i : Nat} {h h' g : DHeap} (e : Ev i h h') : Ev i h (h' ++ g) := fun n c hn q => app_at (e n c hn q)
theorem Tape.app {i : Nat} {h g : DHeap} (t : Tape h i) : Tape (h ++ g) i := by
  obtain ⟨j, ns, a, b, c, h1, h2, r⟩ := t
  exact ⟨j, ns, a, b, c, app_at h1, app_at h2, r⟩
theorem Tape.lt {i : Nat} {h : DHeap} (t : Tape h i) : i < h.length := by
  obtain ⟨j, ns, a, b, c, h1, h2, r⟩ := t
  exact (List.getElem?_eq_some_iff.mp h1).1
theorem Ev.put {i s : Nat} {h h' : DHeap} {c : Cell} (e : Ev i h h') (hs : h.length ≤ s) : Ev i h (h'.set s c) := fun n d hn q => by
  rw [set_no (show s ≠ n from fun a => by have := (List.getElem?_eq_some_iff.mp q).1; omega)]
  exact e n d hn q
theorem Tape.put {i s : Nat} {h : DHeap} {c : Cell} (t : Tape h i) (hs : i < s) : Tape (h.set s c) i := by
  obtain ⟨j, ns, a, b, c, h1, h2, h3, r⟩ := t
  exact ⟨j, ns, a, b, c, by rw [set_no (by omega)]; exact h1, by rw [set_no (by omega)]; exact h2, h3, r⟩
theorem Ev.len {i : Nat} {h h' : DHeap} (e : Ev i h h') (ht : Tape h' i) : h.length ≤ h'.length := by
  refine Decidable.byContradiction fun hh => ?_
  have hl := ht.lt
  have h1 := e h'.length h[h'.length] (by omega) (by simp)
  have h2 := (List.getElem?_eq_some_iff.mp h1).1
  omega
/-! names -/
def lowers : List Nat := ("abcdefghijklmnopqrstuvwxyz" : Str).cps.toList
def glyphs : List Nat := ("abcdefghijklmnopqrstuvwxyzABCDEFGHIJKLMNOPQRSTUVWXYZ0123456789" : Str).cps.toList
def NmOk (x : Str) : Prop := ∃ c l, x.cps.toList = c :: l ∧ c ∈ lowers ∧ (∀ e, e ∈ l → e ∈ glyphs) ∧ l.length ≤ 15
theorem cps_app (x y : Str) : (x ++ y).cps.toList = x.cps.toList ++ y.cps.toList := by
  show (x.cps ++ y.cps).toList = _
  exact Array.toList_append
theorem len_cps (x : Str) : x.length = x.cps.toList.length := by
  unfold Str.length; simp
theorem cps_cut (z : Str) (n : Nat) : (cutS z none (some (n : Int))).cps.toList = z.cps.toList.take n := by
  unfold cutS
  rw [HT.sIx_none, HT.sIx_nat]
  simp only [List.drop_zero, Nat.sub_zero]
  rw [len_cps, List.take_eq_take_iff]
  omega
theorem lo_si : ∀ c, c ∈ lowers → c ∈ glyphs := by decide +kernel
theorem NmOk.len {x : Str} (h : NmOk x) : x.length ≤ 16 := by
  obtain ⟨c, l, e, _, _, q⟩ := h
  rw [len_cps, e, List.length_cons]
  omega
/-! symbols: a name and how many parts -/
def symD (p : Str × Int) : D := .tup [.str p.1, .int p.2]
def SymOk (l : List (Str × Int)) : Prop := ∀ p, p ∈ l → NmOk p.1 ∧ 0 ≤ p.2 ∧ p.2 ≤ 3
theorem SymOk.app {l r : List (Str × Int)} (a : SymOk l) (b : SymOk r) : SymOk (l ++ r) := fun p h => (List.mem_append.mp h).elim (a p) (b p)
theorem SymOk.one {x : Str} {k : Int} (a : NmOk x) (b : 0 ≤ k) (c : k ≤ 3) : SymOk [(x, k)] := fun p h => by
  rw [List.mem_singleton.mp h]
  exact ⟨a, b, c⟩
theorem atI_sym {l : List (Str × Int)} {k : Int} (h0 : 0 ≤ k) (h1 : k < l.length) (ok : SymOk l) : ∃ x a, atI (l.map symD) k = some (.tup [.str x, .int a]) ∧ NmOk x ∧ 0 ≤ a ∧ a ≤ 3 := by
  obtain ⟨d, e, _, m⟩ := atI_in (l := l.map symD) h0 (by simpa using h1)
  obtain ⟨p, hp, rfl⟩ := List.mem_map.mp m
  exact ⟨p.1, p.2, e, ok p hp⟩
theorem atI_ints {l : List Int} {k : Int} (h0 : 0 ≤ k) (h1 : k < l.length) : ∃ a, atI (l.map D.int) k = some (.int a) ∧ a ∈ l := by
  obtain ⟨d, e, _, m⟩ := atI_in (l := l.map D.int) h0 (by simpa using h1)
  obtain ⟨p, hp, rfl⟩ := List.mem_map.mp m
  exact ⟨p, e, hp⟩
theorem range_at {n k : Nat} {y : D} (e : (rangeL 0 n)[k]? = some y) : k < n ∧ y = .int k := by
  unfold rangeL at e
  rw [List.getElem?_map] at e
  cases e2 : (List.range n)[k]? with
  | none => rw [e2] at e; cases e
  | some j =>
    rw [e2] at e
    have h1 := List.getElem?_eq_some_iff.mp e2
    obtain ⟨h2, h3⟩ := h1
    rw [List.getElem_range] at h3
    rw [List.length_range] at h2
    subst h3
    refine ⟨h2, ?_⟩
    have := Option.some.inj e
    rw [← this]
    simp
theorem range_len (n : Nat) : (rangeL 0 n).length = n := by unfold rangeL; simp
theorem NmOk.cons {x : Str} (h : NmOk x) : ∃ c l, x.cps.toList = c :: l := by
  obtain ⟨c, l, e, _⟩ := h
  exact ⟨c, l, e⟩
theorem W_end {r : Res D} {Q : D → DHeap → Prop} (h : W r Q) (i : ∀ d h, Q d h → d = .bl true) : ∃ h', r = .ok (.bl true) h' := by
  obtain ⟨a, h', e, q⟩ := W_get h
  exact ⟨h', by rw [e, i _ _ q]⟩
theorem W_eq {α : Type} {r : Res α} {x : α} {h : DHeap} (w : W r (fun d h' => d = x ∧ h' = h)) : r = .ok x h := by
  obtain ⟨a, h', e, rfl, rfl⟩ := W_get w
  exact e
/-- what holds where a statement goes on -/
def onNx (R : DEnv → DHeap → Prop) : Fl → DHeap → Prop := fun fl h => match fl with | .nx σ => R σ h | _ => False
theorem k_onNx {R : DEnv → DHeap → Prop} {σ : DEnv} {h : DHeap} : onNx R (.nx σ) h = R σ h := rfl
theorem if_cut {f g : M Fl} {σ : DEnv} {QF : QFl} {b : Bool} {h : DHeap} (R : DEnv → DHeap → Prop) (h1 : b = true → W (f σ h) (onNx R)) (h2 : b = false → W (g σ h) (onNx R)) (h3 : ∀ σ' h', R σ' h' → QF (.nx σ') h') : kIf f g σ QF b h := by
  have m : ∀ fl h', onNx R fl h' → QF fl h' := fun fl h' q => by
    cases fl with
    | nx σ' => exact h3 _ _ q
    | _ => exact q.elim
  exact if_i (fun e => W_mono (h1 e) m) fun e => W_mono (h2 e) m
theorem cutL_map {α β : Type} (g : α → β) (l : List α) (a b : Option Int) : cutL (l.map g) a b = (cutL l a b).map g := by
  unfold cutL
  simp only [List.length_map, List.map_take, List.map_drop]
theorem cutL_len {α : Type} (l : List α) (a b : Option Int) : (cutL l a b).length ≤ l.length := by
  unfold cutL
  simp only [List.length_take, List.length_drop]
  omega
theorem cutL_mem {α : Type} {l : List α} {a b : Option Int} {x : α} (h : x ∈ cutL l a b) : x ∈ l := List.mem_of_mem_drop (List.mem_of_mem_take h)
theorem len_sizes : ∀ l : List T, l.length ≤ T.sizes l
  | [] => by rw [T.sizes]; exact Nat.le_refl _
  | t :: r => by
    have h1 := len_sizes r
    have h2 := size_pos t
    rw [T.sizes, List.length_cons]
    omega
theorem size_le {t : T} : ∀ {l : List T}, t ∈ l → t.size ≤ T.sizes l
  | a :: r, h => by
    rw [T.sizes]
    rcases List.mem_cons.mp h with e | e
    · rw [e]; omega
    · have := size_le e; omega
theorem deps_app : ∀ l r : List T, T.deps (l ++ r) = max (T.deps l) (T.deps r)
  | [], r => by rw [T.deps]; simp
  | t :: l, r => by
    rw [List.cons_append, T.deps, T.deps, deps_app l r]
    omega
theorem deps_one (t : T) : T.deps [t] = t.dep := by
  rw [T.deps, T.deps]
  exact Nat.max_eq_left (Nat.zero_le _)
theorem deps_take {l : List T} {k : Nat} {t : T} (e : l[k]? = some t) : T.deps (l.take (k + 1)) = max (T.deps (l.take k)) t.dep := by
  rw [List.take_add_one, e, Option.toList_some, deps_app, deps_one]
theorem map_at {α β : Type} {g : α → β} {l : List α} {k : Nat} {y : β} (e : (l.map g)[k]? = some y) : ∃ x, l[k]? = some x ∧ y = g x ∧ x ∈ l := by
  rw [List.getElem?_map] at e
  cases ey : l[k]? with
  | none => rw [ey] at e; cases e
  | some x =>
    rw [ey] at e
    cases e
    exact ⟨x, rfl, rfl, List.mem_of_getElem? ey⟩
mutual
theorem eqvD_self : ∀ d : D, PyData.eqv (toP d) (toP d) = true
  | .non => rfl
  | .bl b => by simp [toP, PyData.eqv]
  | .int b => by simp [toP, PyData.eqv]
  | .str b => by simp [toP, PyData.eqv]
  | .tup ds => by rw [toP, PyData.eqv]; exact eqvDs_self ds
  | .fl ds => by rw [toP, PyData.eqv]; exact eqvDs_self ds
  | .ref _ => rfl
theorem eqvDs_self : ∀ ds : List D, PyData.eqvAll (toPs ds) (toPs ds) = true
  | [] => rfl
  | d :: ds => by rw [toPs, PyData.eqvAll, eqvD_self d, eqvDs_self ds]; rfl
end
theorem o_eqSame {x y d : D} {h : DHeap} {Q : QD} (hs : scalD x y = none) (hx : seen h x = some d) (hy : seen h y = some d) (ok : okP d = true) : W (eqD x y h) Q = Q (.bl true) h := by
  unfold eqD
  rw [hs, hx, hy]
  simp only [ok, and_self, if_true]
  unfold eqvD
  rw [eqvD_self]
  rfl
theorem o_repr {x d : D} {h : DHeap} {Q : QD} (hx : seen h x = some d) (ok : okR d) : W (reprD [x] h) Q = Q (.str (toP d).shown) h := by
  unfold reprD
  simp only [hx, if_pos ok]
  rfl
theorem shown_int (a : Int) : (toP (.int a)).shown = ((toString a : String) : Str) := by rw [toP, PyData.shown]
theorem okR_int {a : Int} (h0 : 0 ≤ a) (h1 : a < 4294967296) : okR (.int a) := by
  obtain ⟨n, rfl⟩ : ∃ n : Nat, a = n := ⟨a.toNat, by omega⟩
  have hn : n < 2 ^ 32 := by omega
  refine ⟨rfl, ?_, ?_, ?_⟩
  · rw [toP, PyData.showable, Int.natAbs_natCast]
    refine decide_eq_true ?_
    have : n.log2 ≤ 32 := by
      rcases Nat.eq_zero_or_pos n with e | e
      · subst e; decide
      · exact Nat.le_of_lt ((Nat.log2_lt (by omega)).mpr hn)
    omega
  · rw [toP, PyData.depth]; decide
  · rw [shown_int]
    exact Nat.le_trans (toString_length_le h0 (k := 10) (by decide) (by omega)) (by decide +kernel)
/-- a term over these variables, with good names and at most three parts each -/
inductive T.Ok (vs : List Int) : T → Prop where
  | v {i : Int} : i ∈ vs → T.Ok vs (.v i)
  | a {f : Str} {as : List T} : NmOk f → as.length ≤ 3 → (∀ t, t ∈ as → T.Ok vs t) → T.Ok vs (.a f as)
end DL

set_option Elab.async false
set_option linter.all false
set_option maxRecDepth 100000
set_option maxHeartbeats 4000000
namespace DL
open PySem PySem.Spec PyProof.Rows L2
/-! data that may be compared and shown -/
mutual
def gdD : D → Bool
  | .non => true
  | .bl _ => true
  | .int i => decide (0 ≤ i) && decide (i < 4294967296)
  | .str x => x.cps.toList.all fun c => decide (c < 128)
  | .tup ds => gdDs ds
  | .fl ds => gdDs ds
  | .ref _ => false
def gdDs : List D → Bool
  | [] => true
  | d :: ds => gdD d && gdDs ds
end
mutual
/-- at least how long it is shown -/
def wD : D → Nat
  | .non => 5
  | .bl _ => 5
  | .int _ => 10
  | .str x => 10 * x.length + 2
  | .tup ds => 3 + wDs ds
  | .fl ds => 3 + wDs ds
  | .ref _ => 5
def wDs : List D → Nat
  | [] => 0
  | d :: ds => wD d + 2 + wDs ds
end
mutual
def hD : D → Nat
  | .tup ds => hDs ds + 1
  | .fl ds => hDs ds + 1
  | _ => 0
def hDs : List D → Nat
  | [] => 0
  | d :: ds => max (hD d) (hDs ds)
end
theorem gd_cons {d : D} {ds : List D} (h : gdDs (d :: ds) = true) : gdD d = true ∧ gdDs ds = true := by
  rw [gdDs, Bool.and_eq_true] at h
  exact h
mutual
theorem gd_pure : ∀ d : D, gdD d = true → pureD d = true
  | .non, _ => rfl
  | .bl _, _ => rfl
  | .int _, _ => rfl
  | .str _, _ => rfl
  | .tup ds, h => by rw [pureD]; exact gds_pure ds h
  | .fl ds, h => by rw [pureD]; exact gds_pure ds h
  | .ref _, h => by cases h
theorem gds_pure : ∀ ds : List D, gdDs ds = true → pureDs ds = true
  | [], _ => rfl
  | d :: ds, h => by rw [pureDs, gd_pure d (gd_cons h).1, gds_pure ds (gd_cons h).2]; rfl
end
mutual
theorem hD_eq : ∀ d : D, (toP d).depth = hD d
  | .non => rfl
  | .bl _ => rfl
  | .int _ => rfl
  | .str _ => rfl
  | .tup ds => by rw [toP, PyData.depth, hD, hDs_eq ds]
  | .fl ds => by rw [toP, PyData.depth, hD, hDs_eq ds]
  | .ref _ => rfl
theorem hDs_eq : ∀ ds : List D, PyData.depthAll (toPs ds) = hDs ds
  | [] => rfl
  | d :: ds => by rw [toPs, PyData.depthAll, hDs, hD_eq d, hDs_eq ds]
end
mutual
theorem gd_lay : ∀ d : D, gdD d = true → (toP d).canLay0 = true
  | .non, _ => rfl
  | .bl _, _ => rfl
  | .int _, _ => rfl
  | .str x, h => by
    rw [gdD] at h
    rw [toP, PyData.canLay0]
    unfold PyData.strOk
    rw [← Array.all_toList]
    refine List.all_eq_true.mpr fun c hc => ?_
    have := of_decide_eq_true (List.all_eq_true.mp h c hc)
    exact decide_eq_true (by omega)
  | .tup ds, h => by rw [toP, PyData.canLay0]; exact gds_lay ds h
  | .fl ds, h => by rw [toP, PyData.canLay0]; exact gds_lay ds h
  | .ref _, h => by cases h
theorem gds_lay : ∀ ds : List D, gdDs ds = true → PyData.canLayAll0 (toPs ds) = true
  | [], _ => rfl
  | d :: ds, h => by rw [toPs, PyData.canLayAll0, gd_lay d (gd_cons h).1, gds_lay ds (gd_cons h).2]; rfl
end
theorem int_log {i : Int} (h0 : 0 ≤ i) (h1 : i < 4294967296) : i.natAbs.log2 < 1920 := by
  have := (okR_int h0 h1).2.1
  rw [toP, PyData.showable] at this
  exact of_decide_eq_true this
mutual
theorem gd_show : ∀ d : D, gdD d = true → (toP d).showable = true
  | .non, _ => rfl
  | .bl _, _ => rfl
  | .int i, h => by
    rw [gdD, Bool.and_eq_true] at h
    rw [toP, PyData.showable]
    exact decide_eq_true (int_log (of_decide_eq_true h.1) (of_decide_eq_true h.2))
  | .str _, _ => rfl
  | .tup ds, h => by rw [toP, PyData.showable]; exact gds_show ds h
  | .fl ds, h => by rw [toP, PyData.showable]; exact gds_show ds h
  | .ref _, h => by cases h
theorem gds_show : ∀ ds : List D, gdDs ds = true → PyData.showableAll (toPs ds) = true
  | [], _ => rfl
  | d :: ds, h => by rw [toPs, PyData.showableAll, gd_show d (gd_cons h).1, gds_show ds (gd_cons h).2]; rfl
end
mutual
theorem gd_len : ∀ d : D, gdD d = true → (toP d).shown.length ≤ wD d
  | .non, _ => by decide +kernel
  | .bl b, _ => by cases b <;> decide +kernel
  | .int i, h => by
    rw [gdD, Bool.and_eq_true] at h
    rw [shown_int, wD]
    exact toString_length_le (of_decide_eq_true h.1) (k := 10) (by decide) (by have := of_decide_eq_true h.2; omega)
  | .str x, h => by
    rw [gdD] at h
    rw [toP, PyData.shown, wD]
    exact StrLaws.reprText_len x fun c hc => by
      have := of_decide_eq_true (List.all_eq_true.mp h c hc)
      omega
  | .tup ds, h => by
    rw [toP, PyData.shown, wD]
    have h1 := gds_len ds h
    have h2 := tupleText_len_le (PyData.shownAll (toPs ds))
    omega
  | .fl ds, h => by
    rw [toP, PyData.shown, wD]
    have h1 := gds_len ds h
    have h2 := listText_len_le (PyData.shownAll (toPs ds))
    omega
  | .ref _, h => by cases h
theorem gds_len : ∀ ds : List D, gdDs ds = true → ((PyData.shownAll (toPs ds)).map (·.length)).sum + 2 * (PyData.shownAll (toPs ds)).length ≤ wDs ds
  | [], _ => Nat.le_refl _
  | d :: ds, h => by
    have h1 := gd_len d (gd_cons h).1
    have h2 := gds_len ds (gd_cons h).2
    rw [toPs, PyData.shownAll, List.map_cons, List.sum_cons, List.length_cons, wDs]
    omega
end
theorem okP_of {d : D} (h : gdD d = true) (hd : hD d ≤ 64) : okP d = true := by
  unfold okP SeqAt.shaped
  rw [gd_pure d h, gd_lay d h, hD_eq, decide_eq_true hd]
  rfl
theorem okR_of {d : D} (h : gdD d = true) (hd : hD d ≤ 64) (hw : wD d ≤ 16777216) : okR d := ⟨gd_pure d h, gd_show d h, by rw [hD_eq]; omega, by rw [sizeLine_eq]; exact Nat.le_trans (gd_len d h) hw⟩
/-! terms -/
def NmG (f : Str) : Prop := (∀ c, c ∈ f.cps.toList → c < 128) ∧ f.length ≤ 16
inductive T.G : T → Prop where
  | v {i : Int} : 0 ≤ i → i < 4294967296 → T.G (.v i)
  | a {f : Str} {as : List T} : NmG f → (∀ t, t ∈ as → T.G t) → T.G (.a f as)
theorem glyph_lt : ∀ c, c ∈ glyphs → c < 128 := by decide +kernel
theorem NmOk.g {x : Str} (h : NmOk x) : NmG x := by
  refine ⟨fun c hc => ?_, h.len⟩
  obtain ⟨d, l, e, h1, h2, _⟩ := h
  rw [e] at hc
  rcases List.mem_cons.mp hc with rfl | hc
  · exact glyph_lt _ (lo_si _ h1)
  · exact glyph_lt _ (h2 c hc)
theorem T.Ok.g {vs : List Int} (hv : ∀ i, i ∈ vs → 0 ≤ i ∧ i < 4294967296) {t : T} (h : t.Ok vs) : t.G := by
  induction h with
  | v hi => exact .v (hv _ hi).1 (hv _ hi).2
  | a hf _ _ ih => exact .a hf.g ih
theorem T.G.nm {f : Str} {as : List T} (h : (T.a f as).G) : NmG f := by cases h; assumption
theorem T.G.parts {f : Str} {as : List T} (h : (T.a f as).G) : ∀ t, t ∈ as → t.G := by cases h; assumption
theorem gdDs_map {α : Type} {g : α → D} : ∀ {l : List α}, (∀ t, t ∈ l → gdD (g t) = true) → gdDs (l.map g) = true
  | [], _ => rfl
  | t :: l, h => by rw [List.map_cons, gdDs, h t List.mem_cons_self, gdDs_map fun t ht => h t (List.mem_cons_of_mem _ ht)]; rfl
theorem hDs_map {α : Type} {g : α → D} {n : Nat} : ∀ {l : List α}, (∀ t, t ∈ l → hD (g t) ≤ n) → hDs (l.map g) ≤ n
  | [], _ => Nat.zero_le _
  | t :: l, h => by
    rw [List.map_cons, hDs]
    exact Nat.max_le.mpr ⟨h t List.mem_cons_self, hDs_map fun t ht => h t (List.mem_cons_of_mem _ ht)⟩
theorem gd_str {f : Str} (h : NmG f) : gdD (.str f) = true := by
  rw [gdD]
  exact List.all_eq_true.mpr fun c hc => decide_eq_true (h.1 c hc)
theorem gd_T {t : T} : t.G → gdD t.toD = true := by
  refine T.ind (P := fun t => t.G → gdD t.toD = true) (fun i h => ?_) (fun f as ih h => ?_) t
  · cases h with
    | v h0 h1 => rw [toD_v, gdD, decide_eq_true h0, decide_eq_true h1]; rfl
  · rw [toD_a, gdD, gdDs, gd_str h.nm, gdDs_map fun t ht => ih t ht (h.parts t ht)]
    rfl
theorem hD_T (t : T) : hD t.toD ≤ t.dep := by
  refine T.ind (P := fun t => hD t.toD ≤ t.dep) (fun i => ?_) (fun f as ih => ?_) t
  · rw [toD_v]; exact Nat.zero_le _
  · rw [toD_a, hD, hDs, dep_a, show hD (.str f) = 0 from rfl]
    have := hDs_map (g := T.toD) (n := T.deps as) fun t ht => Nat.le_trans (ih t ht) (deps_le ht)
    omega
theorem wDs_T : ∀ {as : List T}, (∀ t, t ∈ as → wD t.toD + 2 ≤ 170 * t.size) → wDs (as.map T.toD) ≤ 170 * T.sizes as
  | [], _ => by rw [T.sizes]; exact Nat.le_refl _
  | t :: as, h => by
    have h1 := h t List.mem_cons_self
    have h2 := wDs_T fun t ht => h t (List.mem_cons_of_mem _ ht)
    rw [List.map_cons, wDs, T.sizes]
    omega
theorem wD_T {t : T} : t.G → wD t.toD + 2 ≤ 170 * t.size := by
  refine T.ind (P := fun t => t.G → wD t.toD + 2 ≤ 170 * t.size) (fun i h => ?_) (fun f as ih h => ?_) t
  · rw [toD_v, size_v, wD]; omega
  · have h1 := wDs_T fun t ht => ih t ht (h.parts t ht)
    have h2 := h.nm.2
    rw [toD_a, size_a, wD, wDs, wD]
    omega
/-- a tuple of terms -/
theorem okT {ts : List T} (h : ∀ t, t ∈ ts → t.G) (hd : ∀ t, t ∈ ts → t.dep ≤ 63) (hs : T.sizes ts ≤ 90000) : gdD (.tup (ts.map T.toD)) = true ∧ hD (.tup (ts.map T.toD)) ≤ 64 ∧ wD (.tup (ts.map T.toD)) ≤ 16777216 := by
  have h1 := wDs_T fun t ht => wD_T (h t ht)
  have h2 := hDs_map (g := T.toD) (n := 63) fun t ht => Nat.le_trans (hD_T t) (hd t ht)
  refine ⟨by rw [gdD]; exact gdDs_map fun t ht => gd_T (h t ht), by rw [hD]; omega, by rw [wD]; omega⟩
end DL

set_option Elab.async false
set_option linter.all false
set_option maxRecDepth 100000
set_option maxHeartbeats 4000000
namespace DL
open PySem PySem.Spec PyProof.Rows L2
theorem set_same {h : DHeap} {i : Nat} {c : Cell} (e : h[i]? = some c) : h.set i c = h := by
  apply List.ext_getElem?
  intro j
  by_cases hj : i = j
  · subst hj; rw [set_at e, e]
  · rw [set_no hj]
theorem set_set {h : DHeap} {i : Nat} {c d : Cell} : (h.set i c).set i d = h.set i d := List.set_set ..
/-! variables, as first met -/
def insI (i : Int) (l : List Int) : List Int := if i ∈ l then l else l ++ [i]
mutual
def noteV : T → List Int → List Int
  | .v i, l => insI i l
  | .a _ as, l => noteVs as l
def noteVs : List T → List Int → List Int
  | [], l => l
  | t :: r, l => noteVs r (noteV t l)
end
theorem noteV_v (i : Int) (l : List Int) : noteV (.v i) l = insI i l := by rw [noteV]
theorem noteV_a (f : Str) (as : List T) (l : List Int) : noteV (.a f as) l = noteVs as l := by rw [noteV]
theorem noteVs_app : ∀ (as bs : List T) (l : List Int), noteVs (as ++ bs) l = noteVs bs (noteVs as l)
  | [], _, _ => by rw [List.nil_append, noteVs]
  | t :: as, bs, l => by rw [List.cons_append, noteVs, noteVs, noteVs_app as bs]
theorem noteVs_take {as : List T} {k : Nat} {t : T} {l : List Int} (e : as[k]? = some t) : noteVs (as.take (k + 1)) l = noteV t (noteVs (as.take k) l) := by
  rw [List.take_add_one, e, Option.toList_some, noteVs_app, noteVs, noteVs]
theorem noteVs_0 (l : List Int) : noteVs [] l = l := by rw [noteVs]
def OkI (l : List Int) : Prop := ∀ i, i ∈ l → 0 ≤ i ∧ i < 4294967296
theorem insI_ok {i : Int} {l : List Int} (h0 : 0 ≤ i) (h1 : i < 4294967296) (h : OkI l) : OkI (insI i l) := by
  unfold insI
  split
  · exact h
  · intro j hj
    rcases List.mem_append.mp hj with hj | hj
    · exact h j hj
    · rw [List.mem_singleton.mp hj]; exact ⟨h0, h1⟩
theorem insI_len (i : Int) (l : List Int) : (insI i l).length ≤ l.length + 1 := by
  unfold insI
  split
  · omega
  · rw [List.length_append]; exact Nat.le_refl _
theorem noteVs_p {as : List T} (ih : ∀ t, t ∈ as → ∀ l, OkI l → OkI (noteV t l) ∧ (noteV t l).length ≤ l.length + t.size) : ∀ l, OkI l → OkI (noteVs as l) ∧ (noteVs as l).length ≤ l.length + T.sizes as := by
  induction as with
  | nil => intro l h; rw [noteVs, T.sizes]; exact ⟨h, Nat.le_refl _⟩
  | cons t r ihr =>
    intro l h
    have h1 := ih t List.mem_cons_self l h
    have h2 := ihr (fun t ht => ih t (List.mem_cons_of_mem _ ht)) _ h1.1
    rw [noteVs, T.sizes]
    exact ⟨h2.1, by omega⟩
theorem noteV_p {t : T} : t.G → ∀ l, OkI l → OkI (noteV t l) ∧ (noteV t l).length ≤ l.length + t.size := by
  refine T.ind (P := fun t => t.G → ∀ l, OkI l → OkI (noteV t l) ∧ (noteV t l).length ≤ l.length + t.size) (fun i g l h => ?_) (fun f as ih g l h => ?_) t
  · rw [noteV_v, size_v]
    cases g with
    | v h0 h1 => exact ⟨insI_ok h0 h1 h, insI_len i l⟩
  · rw [noteV_a, size_a]
    have := noteVs_p (fun t ht => ih t ht (g.parts t ht)) l h
    exact ⟨this.1, by omega⟩
theorem noteVs_ok {as : List T} (g : ∀ t, t ∈ as → t.G) (l : List Int) (h : OkI l) : OkI (noteVs as l) ∧ (noteVs as l).length ≤ l.length + T.sizes as := noteVs_p (fun t ht => noteV_p (g t ht)) l h
/-- a dict of these keys -/
def vDic (l : List Int) : List (Key × D) := l.map fun i => (Sum.inl i, D.bl true)
theorem vDic_any (i : Int) (l : List Int) : ((vDic l).any fun kv => decide (kv.1 = Sum.inl i)) = decide (i ∈ l) := by
  unfold vDic
  rw [List.any_map]
  induction l with
  | nil => rfl
  | cons j l ih =>
    rw [List.any_cons, ih]
    have : decide (i ∈ j :: l) = (decide (j = i) || decide (i ∈ l)) := by
      rw [← Bool.decide_or]
      simp [eq_comm]
    rw [this]
    simp [Function.comp]
theorem vDic_put (i : Int) (l : List Int) : putD (vDic l) (.inl i) (.bl true) = vDic (insI i l) := by
  unfold putD insI
  rw [vDic_any]
  by_cases e : i ∈ l
  · rw [if_pos e, decide_eq_true e, if_pos rfl]
    unfold vDic
    rw [List.map_map]
    refine List.map_congr_left fun j _ => ?_
    simp only [Function.comp]
    split
    · rename_i h; rw [h]
    · rfl
  · rw [if_neg e, decide_eq_false e, if_neg (by decide)]
    unfold vDic
    rw [List.map_append]
    rfl
theorem vDic_keys (l : List Int) : ((vDic l).map fun kv => keyV kv.1) = l.map D.int := by
  unfold vDic
  rw [List.map_map]
  rfl
theorem vDic_len (l : List Int) : (vDic l).length = l.length := by unfold vDic; rw [List.length_map]
theorem gd_ints {l : List Int} (h : OkI l) : gdD (.fl (l.map D.int)) = true := by
  rw [gdD]
  exact gdDs_map fun i hi => by rw [gdD, decide_eq_true (h i hi).1, decide_eq_true (h i hi).2]; rfl
theorem hD_ints (l : List Int) : hD (.fl (l.map D.int)) ≤ 1 := by
  rw [hD]
  have := hDs_map (g := D.int) (n := 0) (l := l) fun _ _ => Nat.le_refl _
  omega
theorem okP_ints {l : List Int} (h : OkI l) : okP (.fl (l.map D.int)) = true := okP_of (gd_ints h) (Nat.le_trans (hD_ints l) (by decide))
theorem okP_int {i : Int} (h0 : 0 ≤ i) (h1 : i < 4294967296) : okP (.int i) = true := okP_of (by rw [gdD, decide_eq_true h0, decide_eq_true h1]; rfl) (Nat.zero_le _)
theorem any_nums (i : Int) (l : List Int) : ((l.map D.int).any fun z => eqvD z (.int i)) = decide (i ∈ l) := by
  rw [List.any_map]
  induction l with
  | nil => rfl
  | cons j l ih =>
    rw [List.any_cons, ih]
    have : decide (i ∈ j :: l) = (decide (j = i) || decide (i ∈ l)) := by
      rw [← Bool.decide_or]
      simp [eq_comm]
    rw [this]
    have : (Function.comp (fun z => eqvD z (.int i)) D.int) j = decide (j = i) := by
      simp only [Function.comp, eqvD, toP, PyData.eqv]
      first | rfl | exact Bool.beq_eq_decide_eq _ _ | (by_cases e : j = i <;> simp [e])
    rw [this]
/-! subterms, as first met -/
def inT (t : T) (l : List T) : Bool := (l.map T.toD).any fun z => eqvD z t.toD
mutual
def noteS : T → List T → List T
  | .v i, l => if inT (.v i) l = true then l else l ++ [.v i]
  | .a f as, l => if inT (.a f as) l = true then l else noteSs as (l ++ [.a f as])
def noteSs : List T → List T → List T
  | [], l => l
  | t :: r, l => noteSs r (noteS t l)
end
theorem noteS_v (i : Int) (l : List T) : noteS (.v i) l = if inT (.v i) l = true then l else l ++ [.v i] := by rw [noteS]
theorem noteS_a (f : Str) (as : List T) (l : List T) : noteS (.a f as) l = if inT (.a f as) l = true then l else noteSs as (l ++ [.a f as]) := by rw [noteS]
theorem noteSs_0 (l : List T) : noteSs [] l = l := by rw [noteSs]
theorem noteSs_app : ∀ (as bs : List T) (l : List T), noteSs (as ++ bs) l = noteSs bs (noteSs as l)
  | [], _, _ => by rw [List.nil_append, noteSs]
  | t :: as, bs, l => by rw [List.cons_append, noteSs, noteSs, noteSs_app as bs]
theorem noteSs_take {as : List T} {k : Nat} {t : T} {l : List T} (e : as[k]? = some t) : noteSs (as.take (k + 1)) l = noteS t (noteSs (as.take k) l) := by
  rw [List.take_add_one, e, Option.toList_some, noteSs_app, noteSs, noteSs]
mutual
def T.wt : T → Nat
  | .v _ => 1
  | .a _ as => 1 + T.sizes as + T.wts as
def T.wts : List T → Nat
  | [] => 0
  | t :: r => t.wt + T.wts r
end
theorem wts_le {n : Nat} : ∀ {as : List T}, (∀ t, t ∈ as → t.wt ≤ t.size * n) → T.wts as ≤ T.sizes as * n
  | [], _ => by rw [T.wts]; exact Nat.zero_le _
  | t :: as, h => by
    have h1 := h t List.mem_cons_self
    have h2 := wts_le fun t ht => h t (List.mem_cons_of_mem _ ht)
    rw [T.wts, T.sizes, Nat.add_mul]
    omega
theorem wt_le (t : T) : ∀ n, t.dep ≤ n → t.wt ≤ t.size * n := by
  refine T.ind (P := fun t => ∀ n, t.dep ≤ n → t.wt ≤ t.size * n) (fun i n hn => ?_) (fun f as ih n hn => ?_) t
  · rw [dep_v] at hn
    rw [T.wt, size_v]; omega
  · rw [dep_a] at hn
    obtain ⟨m, rfl⟩ : ∃ m, n = m + 1 := ⟨n - 1, by omega⟩
    have h1 := wts_le (n := m) (as := as) fun t ht => ih t ht m (Nat.le_trans (deps_le ht) (by omega))
    rw [T.wt, size_a, Nat.mul_succ, Nat.add_mul]
    omega
/-- what is kept of a list of subterms -/
def OkS (l : List T) : Prop := ∀ t, t ∈ l → t.G ∧ t.dep ≤ 60
theorem OkS.app {l : List T} {t : T} (h : OkS l) (g : t.G) (d : t.dep ≤ 60) : OkS (l ++ [t]) := fun u hu => by
  rcases List.mem_append.mp hu with hu | hu
  · exact h u hu
  · rw [List.mem_singleton.mp hu]; exact ⟨g, d⟩
theorem sizes_app : ∀ l r : List T, T.sizes (l ++ r) = T.sizes l + T.sizes r
  | [], r => by rw [T.sizes]; simp
  | t :: l, r => by rw [List.cons_append, T.sizes, T.sizes, sizes_app l r]; omega
theorem sizes_one (t : T) : T.sizes [t] = t.size := by rw [T.sizes, T.sizes]; omega
theorem noteSs_p {as : List T} (ih : ∀ t, t ∈ as → ∀ l, OkS l → OkS (noteS t l) ∧ (noteS t l).length ≤ l.length + t.size ∧ T.sizes (noteS t l) ≤ T.sizes l + t.wt) : ∀ l, OkS l → OkS (noteSs as l) ∧ (noteSs as l).length ≤ l.length + T.sizes as ∧ T.sizes (noteSs as l) ≤ T.sizes l + T.wts as := by
  induction as with
  | nil => intro l h; rw [noteSs, T.sizes, T.wts]; exact ⟨h, Nat.le_refl _, Nat.le_refl _⟩
  | cons t r ihr =>
    intro l h
    have h1 := ih t List.mem_cons_self l h
    have h2 := ihr (fun t ht => ih t (List.mem_cons_of_mem _ ht)) _ h1.1
    rw [noteSs, T.sizes, T.wts]
    exact ⟨h2.1, by omega, by omega⟩
theorem noteS_p {t : T} : t.G → t.dep ≤ 60 → ∀ l, OkS l → OkS (noteS t l) ∧ (noteS t l).length ≤ l.length + t.size ∧ T.sizes (noteS t l) ≤ T.sizes l + t.wt := by
  refine T.ind (P := fun t => t.G → t.dep ≤ 60 → ∀ l, OkS l → OkS (noteS t l) ∧ (noteS t l).length ≤ l.length + t.size ∧ T.sizes (noteS t l) ≤ T.sizes l + t.wt) (fun i g d l h => ?_) (fun f as ih g d l h => ?_) t
  · rw [noteS_v, size_v, T.wt]
    split
    · exact ⟨h, by omega, by omega⟩
    · exact ⟨h.app g d, by rw [List.length_append]; exact Nat.le_refl _, by rw [sizes_app, sizes_one, size_v]; exact Nat.le_refl _⟩
  · rw [noteS_a, size_a, T.wt]
    split
    · exact ⟨h, by omega, by omega⟩
    · rw [dep_a] at d
      have h1 := noteSs_p (fun t ht => ih t ht (g.parts t ht) (Nat.le_trans (deps_le ht) (by omega))) _ (h.app g (by rw [dep_a]; exact d))
      rw [List.length_append, sizes_app, sizes_one, size_a] at h1
      refine ⟨h1.1, ?_, ?_⟩
      · have := h1.2.1
        simp only [List.length_cons, List.length_nil] at this
        omega
      · omega
theorem okP_T {t : T} (g : t.G) (d : t.dep ≤ 60) : okP t.toD = true := okP_of (gd_T g) (Nat.le_trans (hD_T t) (by omega))
theorem okP_Ts {l : List T} (h : OkS l) : okP (.fl (l.map T.toD)) = true := okP_of (by rw [gdD]; exact gdDs_map fun t ht => gd_T (h t ht).1) (by
  rw [hD]
  have := hDs_map (g := T.toD) (n := 60) (l := l) fun t ht => Nat.le_trans (hD_T t) (h t ht).2
  omega)
end DL
namespace DL
open PySem PySem.Spec PyProof.Rows L2
theorem set_end {h : DHeap} {c d : Cell} : (h ++ [c]).set h.length d = h ++ [d] := by simp
theorem set_app {h g : DHeap} {i : Nat} {d : Cell} (hi : i < h.length) : (h ++ g).set i d = h.set i d ++ g := List.set_append_left _ _ hi
theorem sizes_take {as : List T} {k : Nat} {t : T} (et : as[k]? = some t) : T.sizes (as.take k) + t.size ≤ T.sizes as := by
  have h1 := sizes_app (as.take (k + 1)) (as.drop (k + 1))
  rw [List.take_append_drop, List.take_add_one, et, Option.toList_some, sizes_app, sizes_one] at h1
  omega
theorem wts_app : ∀ l r : List T, T.wts (l ++ r) = T.wts l + T.wts r
  | [], r => by rw [T.wts]; simp
  | t :: l, r => by rw [List.cons_append, T.wts, T.wts, wts_app l r]; omega
theorem okT_v {l : List Int} (h : OkI l) (hl : l.length ≤ 90000) : gdD (.tup (l.map D.int)) = true ∧ hD (.tup (l.map D.int)) ≤ 64 ∧ wD (.tup (l.map D.int)) ≤ 16777216 := by
  have e : l.map D.int = (l.map T.v).map T.toD := by
    rw [List.map_map]
    exact List.map_congr_left fun i _ => (toD_v i).symm
  rw [e]
  have hs : ∀ l : List Int, T.sizes (l.map T.v) = l.length := fun l => by
    induction l with
    | nil => rw [List.map_nil, T.sizes]; rfl
    | cons i l ih => rw [List.map_cons, T.sizes, ih, size_v, List.length_cons]; omega
  refine okT (fun t ht => ?_) (fun t ht => ?_) (by rw [hs]; exact hl)
  · obtain ⟨i, hi, rfl⟩ := List.mem_map.mp ht
    exact .v (h i hi).1 (h i hi).2
  · obtain ⟨i, hi, rfl⟩ := List.mem_map.mp ht
    rw [dep_v]; decide
theorem okT_S {l : List T} (h : OkS l) (hs : T.sizes l ≤ 90000) : gdD (.tup (l.map T.toD)) = true ∧ hD (.tup (l.map T.toD)) ≤ 64 ∧ wD (.tup (l.map T.toD)) ≤ 16777216 := okT (fun t ht => (h t ht).1) (fun t ht => Nat.le_trans (h t ht).2 (by decide)) hs
end DL

set_option Elab.async false
set_option linter.all false
set_option maxRecDepth 100000
namespace DL
open PySem PySem.Spec PyProof.Rows L2
theorem srt_one : ∀ {l r : List Int}, l.Perm r → l.Pairwise (· ≤ ·) → r.Pairwise (· ≤ ·) → l = r
  | [], r, p, _, _ => p.nil_eq
  | a :: l, [], p, _, _ => absurd p.length_eq (by simp)
  | a :: l, b :: r, p, h1, h2 => by
    rw [List.pairwise_cons] at h1 h2
    have ha : a = b := by
      have m1 : a ∈ b :: r := p.mem_iff.mp List.mem_cons_self
      have m2 : b ∈ a :: l := p.mem_iff.mpr List.mem_cons_self
      rcases List.mem_cons.mp m1 with e | e
      · exact e
      · rcases List.mem_cons.mp m2 with f | f
        · exact f.symm
        · have := h1.1 b f
          have := h2.1 a e
          omega
    subst ha
    rw [srt_one (List.perm_cons a |>.mp p) h1.2 h2.2]
def srtI (ns : List Int) : List Int := ns.mergeSort fun a b => decide (a ≤ b)
theorem srtI_perm (ns : List Int) : (srtI ns).Perm ns := List.mergeSort_perm _ _
theorem srtI_sorted (ns : List Int) : (srtI ns).Pairwise (· ≤ ·) := by
  have h := List.pairwise_mergeSort (le := fun a b : Int => decide (a ≤ b)) (fun a b c h1 h2 => by simp only [decide_eq_true_eq] at *; omega) (fun a b => by simp only [Bool.or_eq_true, decide_eq_true_eq]; omega) ns
  exact h.imp fun h => of_decide_eq_true h
theorem srtI_is {ns l : List Int} (p : l.Perm ns) (h : l.Pairwise (· ≤ ·)) : l = srtI ns := srt_one (p.trans (srtI_perm ns).symm) h (srtI_sorted ns)
def srtD : List D → DHeap → Res D
  | [.ref n], h => match h[n]? with
    | some (.lst ds) => (match intsOf ds with | some ns => .ok (.ref h.length) (h ++ [.lst ((srtI ns).map D.int)]) | none => .bad)
    | some (.dic kvs) => (match intsOf (kvs.map fun kv => keyV kv.1) with | some ns => if ns.length < 64 then .ok (.ref h.length) (h ++ [.lst ((srtI ns).map D.int)]) else .bad | none => .bad)
    | none => .bad
  | _, _ => .bad
theorem ints_keys : ∀ {kvs : List (Key × D)} {ns : List Int}, intsOf (kvs.map fun kv => keyV kv.1) = some ns → kvs.map (·.1) = ns.map Sum.inl
  | [], ns, e => by cases e; rfl
  | (k, d) :: kvs, ns, e => by
    cases k with
    | inr z => cases e
    | inl i =>
      rw [List.map_cons, keyV, intsOf] at e
      cases e2 : intsOf (kvs.map fun kv => keyV kv.1) with
      | none => rw [e2] at e; cases e
      | some ms =>
        rw [e2] at e
        cases e
        rw [List.map_cons, ints_keys e2]
        rfl
theorem rv_ints {K : PySem.W.Frag} {H : Hp} {ρ : List Addr} : ∀ {ns : List Int}, RVs K H ρ (ns.map D.int) (ns.map V.int)
  | [] => rfl
  | n :: ns => ⟨_, _, rfl, rfl, rv_ints⟩
theorem ints_rv {K : PySem.W.Frag} {H : Hp} {ρ : List Addr} : ∀ {ds : List D} {ns : List Int} {xs : List V}, intsOf ds = some ns → RVs K H ρ ds xs → xs = ns.map V.int
  | [], ns, xs, e, r => by cases e; exact r
  | d :: ds, ns, xs, e, r => by
    obtain ⟨y, ys, rfl, h1, h2⟩ := r
    cases d with
    | int i =>
      rw [intsOf] at e
      cases e2 : intsOf ds with
      | none => rw [e2] at e; cases e
      | some ms =>
        rw [e2] at e
        cases e
        rw [ints_rv e2 h2, show y = V.int i from h1]
        rfl
    | _ => cases e
section
variable {X : Cx}
theorem cd_srt (hc : X.calm = true) : CallR X (.builtin "sorted") (RCl X.K srtD) := clI (clO cr_sortedI (call_sortedDI hc)) fun vs H Q q => by
  obtain ⟨ds, h, ρ, r, rh, p⟩ := q
  unfold srtD at p
  split at p
  · rename_i n
    obtain ⟨v, rfl, r1⟩ := r.inv1
    obtain ⟨a, rfl, ha⟩ := r1
    have fin : ∀ {ns : List Int}, Post X.K H ρ (RV X.K) (.ok (.ref h.length) (h ++ [.lst ((srtI ns).map D.int)])) Q → ∀ (ys : List Int) (p : Addr), ys.Perm ns → ys.Pairwise (· ≤ ·) → H p = none → Q (.ref p) (upd H p (.lst (ys.map V.int))) := fun {ns} p ys q h1 h2 hq => by
      cases srtI_is h1 h2
      obtain ⟨y1, y2⟩ := rh.push (c := .lst ((srtI ns).map D.int)) hq (o := .lst ((srtI ns).map V.int)) rfl ⟨_, rfl, rv_ints⟩
      exact p _ _ _ y1 y2 ⟨q, rfl, by rw [← rh.len]; simp⟩
    split at p
    · rename_i es hn
      split at p
      · rename_i ns hi
        obtain ⟨xs, x1, x2⟩ := rh.at_ _ _ _ hn ha
        have := ints_rv hi x2
        subst this
        exact .inl ⟨a, ns, rfl, .of x1, fin p⟩
      · exact p.elim
    · rename_i kvs hn
      split at p
      · rename_i ns hi
        split at p
        · rename_i hl
          obtain ⟨vs, x1, x2⟩ := rh.at_ _ _ _ hn ha
          exact .inr ⟨a, vs, ns, rfl, .inl x1, by rw [← x2.1]; exact ints_keys hi, hl, fin p⟩
        · exact p.elim
      · exact p.elim
    · exact p.elim
  · exact p.elim
end
end DL

set_option Elab.async false
set_option linter.all false
set_option maxRecDepth 100000
namespace DL
open PySem PySem.Spec PyProof.Rows L2
/-! str(n) -/
def strD : List D → DHeap → Res D
  | [.int i], h => if 0 ≤ i ∧ i < 4294967296 then .ok (.str (toString i : String)) h else .bad
  | _, _ => .bad
theorem log_lt {i : Int} (h0 : 0 ≤ i) (h1 : i < 4294967296) : i.natAbs.log2 < 1920 := by
  obtain ⟨n, rfl⟩ : ∃ n : Nat, i = n := ⟨i.toNat, by omega⟩
  rw [Int.natAbs_natCast]
  have : n.log2 ≤ 32 := by
    rcases Nat.eq_zero_or_pos n with e | e
    · subst e; decide
    · exact Nat.le_of_lt ((Nat.log2_lt (by omega)).mpr (show n < 2 ^ 32 by omega))
  omega
section
variable {X : Cx} {pos p apos cpos : Pos} {e o : Expr} {fo fe : M D}
theorem cd_str : CallR X (.type "str") (RCl X.K strD) := clI call_str_int fun vs H Q q => by
  obtain ⟨ds, h, ρ, r, rh, p⟩ := q
  unfold strD at p
  split at p
  · rename_i i
    obtain ⟨v, rfl, r1⟩ := r.inv1
    split at p
    · rename_i hc
      exact ⟨i, by rw [show v = V.int i from r1], log_lt hc.1 hc.2, Post.ok p rh (rfl : RV X.K H ρ (.str _) _)⟩
    · exact p.elim
  · exact p.elim
/-! l.pop(i) -/
def popAtM (fo fe : M D) : M D := fun σ h => (fo σ h).bind fun x h1 => match x with
  | .ref n => match h1[n]? with
    | some (.lst _) => (fe σ h1).bind fun y h2 => match y, h2[n]? with
      | .int i, some (.lst ds) => if 0 ≤ i ∧ i < 4294967296 then (match ds[i.toNat]? with | some d => .ok d (h2.set n (.lst (ds.eraseIdx i.toNat))) | none => .bad) else .bad
      | _, _ => .bad
    | _ => .bad
  | _ => .bad
theorem RVs.erase {K : PySem.W.Frag} {H : Hp} {ρ : List Addr} : ∀ {ds : List D} {xs : List V} (i : Nat), RVs K H ρ ds xs → RVs K H ρ (ds.eraseIdx i) (xs.eraseIdx i)
  | [], xs, i, r => by cases (show xs = [] from r); exact rfl
  | d :: ds, xs, i, r => by
    obtain ⟨y, ys, rfl, h1, h2⟩ := r
    cases i with
    | zero => exact h2
    | succ i => exact ⟨y, _, rfl, h1, RVs.erase i h2⟩
theorem de_popAt (ho : DE X o fo) (he : DE X e fe) (hbase : attributeBase o "pop" X.env (eval o X.env) = eval o X.env := by rfl)
    (hfew : ((backTo cpos (starEach (e :: []) X.env)).all (fun x => !x.1) && (backToKw cpos (keywordEach [] X.env)).all (fun x => x.1.isSome)
      && decide ((e :: []).length + ([] : List Keyword).length + (if ([] : List Keyword).isEmpty then 0 else 1) < 30)) = true := by rfl)
    (hline : (apos.endLine == cpos.line) = true := by rfl) (hs : starEach (e :: []) X.env = (false, eval e X.env) :: starEach [] X.env := by rfl) (hplain : (backTo cpos (starEach [] X.env)).any (·.1) = false := by rfl) :
    DE X (.Call (.Attribute o "pop" apos) [e] [] cpos) (popAtM fo fe) :=
  ⟨peI (pe_bm PySem.F.plainAttrs_list PySem.F.slot_list_pop PySem.F.type_list_pop mt_popAt ho.run (pa_cons he.run pa_nil hs) hbase hfew hline hs hplain) fun σ H Q q => by
    obtain ⟨σd, h, ρ, re, rh, p⟩ := q
    refine ⟨σd, h, ρ, re, rh, p.bind.mono fun v H1 ⟨x, h1, ρ1, e1, rh1, r1, p1⟩ => ?_⟩
    cases x with
    | ref n =>
      simp only at p1
      split at p1
      · rename_i es hn
        obtain ⟨a, rfl, ha⟩ := r1
        obtain ⟨xs, x1, x2⟩ := rh1.at_ _ _ _ hn ha
        refine ⟨Or.inl ⟨rfl, _, SqL.of x1⟩, σd, h1, ρ1, re.mono e1, rh1, p1.bind.mono fun w H2 ⟨y, h2, ρ2, e2, rh2, r2, p2⟩ => ?_⟩
        split at p2
        · rename_i i ds hn2
          split at p2
          · rename_i hi
            split at p2
            · rename_i d hd
              obtain ⟨ys, y1, y2⟩ := rh2.at_ _ _ _ hn2 (e2.pre _ _ ha)
              obtain ⟨u, hu, ru⟩ := y2.get hd
              have hlt : i.toNat < ys.length := (List.getElem?_eq_some_iff.mp hu).1
              obtain ⟨z1, z2⟩ := rh2.put (e2.pre _ _ ha) (o := .lst (ys.eraseIdx i.toNat)) rfl (c := .lst (ds.eraseIdx i.toNat)) ⟨_, rfl, y2.erase i.toNat⟩
              refine ⟨a, ys, i, i.toNat, u, rfl, by rw [show w = V.int i from r2], y1, by omega, by omega, ?_, hu, p2 _ _ _ z1 z2 (RV.mono z1 _ _ ru)⟩
              unfold seqIndex?
              have e0 : ¬ i < 0 := by omega
              simp only [e0, if_false]
              first | (rw [if_pos (by omega)]) | (simp; omega)
            · exact p2.elim
          · exact p2.elim
        · exact p2.elim
      · exact p1.elim
    | _ => exact p1.elim⟩
end
end DL

set_option Elab.async false
set_option linter.all false
set_option maxRecDepth 100000
namespace DL
open PySem PySem.Spec PyProof.Rows L2
def lexGeI : List Int → List Int → Bool
  | [], [] => true
  | [], _ :: _ => false
  | _ :: _, [] => true
  | x :: xs, y :: ys => if x = y then lexGeI xs ys else decide (y ≤ x)
theorem lex_shift {e r : Nat → Bool} {z : Bool} : ∀ (k i : Nat), Ob.lexAt e r z (i + 1) k = Ob.lexAt (fun j => e (j + 1)) (fun j => r (j + 1)) z i k
  | 0, i => rfl
  | k + 1, i => by rw [Ob.lexAt_succ, Ob.lexAt_succ, lex_shift k (i + 1)]
theorem lexGe_eq : ∀ ns ms : List Int, Ob.lexAt (fun j => decide (ns.getD j 0 = ms.getD j 0)) (fun j => decide (ms.getD j 0 ≤ ns.getD j 0)) (decide (ms.length ≤ ns.length)) 0 (min ns.length ms.length) = lexGeI ns ms
  | [], [] => rfl
  | [], _ :: _ => rfl
  | _ :: _, [] => rfl
  | x :: xs, y :: ys => by
    have h : min (x :: xs).length (y :: ys).length = min xs.length ys.length + 1 := by simp only [List.length_cons]; omega
    rw [h, Ob.lexAt_succ, lex_shift, lexGeI]
    have ih := lexGe_eq xs ys
    have e1 : decide ((y :: ys).length ≤ (x :: xs).length) = decide (ys.length ≤ xs.length) := decide_eq_decide.mpr (by simp only [List.length_cons]; omega)
    rw [e1]
    show (if decide (x = y) = true then Ob.lexAt (fun j => decide (xs.getD j 0 = ys.getD j 0)) (fun j => decide (ys.getD j 0 ≤ xs.getD j 0)) (decide (ys.length ≤ xs.length)) 0 (min xs.length ys.length) else decide (y ≤ x)) = _
    rw [ih]
    by_cases e : x = y
    · rw [if_pos (decide_eq_true e), if_pos e]
    · rw [if_neg (by rw [decide_eq_false e]; decide), if_neg e]
section
variable {X : Cx}
theorem op_geT (hu : X.A.units < cLine) : OpR X (compareOp .GtE) (fun x y H Q => ∃ (a b : Addr) (ns ms : List Int), x = .ref a ∧ y = .ref b ∧ SqT X.K H a (ns.map V.int) ∧ SqT X.K H b (ms.map V.int) ∧ Q (.bl (lexGeI ns ms)) H) := by
  intro pins s σ H x y v u Q I rx ry h
  obtain ⟨a, b, ns, ms, rfl, rfl, ha, hb, q⟩ := h
  cases rx
  cases ry
  obtain ⟨its, r1, p1, _⟩ := I.tuple ha
  obtain ⟨its2, r2, p2, _⟩ := I.tuple hb
  have i1 : IntsAre its ns := Vals.ints r1
  have i2 : IntsAre its2 ms := Vals.ints r2
  have e1 : its.toArray.size = ns.length := by rw [List.size_toArray]; exact i1.length
  have e2 : its2.toArray.size = ms.length := by rw [List.size_toArray]; exact i2.length
  have at1 : ∀ j (h1 : j < its.toArray.size), ∃ t, its.toArray[j] = .int (ns.getD j 0) t := fun j h1 => PyProof.Rows.IntsAre.int_at i1 _ _ (by simp at h1; simp [h1])
  have at2 : ∀ j (h1 : j < its2.toArray.size), ∃ t, its2.toArray[j] = .int (ms.getD j 0) t := fun j h1 => PyProof.Rows.IntsAre.int_at i2 _ _ (by simp at h1; simp [h1])
  have R := Ob.RcOp.tuples_ge (A := X.A) (s := s) (e := fun j => decide (ns.getD j 0 = ms.getD j 0)) (r := fun j => decide (ms.getD j 0 ≤ ns.getD j 0)) p1 p2 hu (fun j h1 h2 => by
    obtain ⟨t, et⟩ := at1 j h1
    obtain ⟨t', et'⟩ := at2 j h2
    rw [et, et']
    have z : (ns.getD j 0 == ms.getD j 0) = decide (ns.getD j 0 = ms.getD j 0) := by
      by_cases q : ns.getD j 0 = ms.getD j 0
      · rw [decide_eq_true q]; exact beq_iff_eq.mpr q
      · rw [decide_eq_false q]; exact beq_eq_false_iff_ne.mpr q
    rw [← z]
    exact SeqAt.EqAt.int_int _ _ _ _) (fun j h1 h2 _ => by
    obtain ⟨t, et⟩ := at1 j h1
    obtain ⟨t', et'⟩ := at2 j h2
    rw [et, et']
    exact Ob.RcOp.ge_int _ _ _ _)
  rw [e1, e2, lexGe_eq] at R
  have z : wpAny (model X.prog X.w) X.A (compareOp .GtE (.ref a) (.ref b)) (EP X pins σ Q) X.xe s := R X.prog X.w X.xe (EP X pins σ Q) ⟨.bl _, H, I, rfl, q⟩
  exact z
def geA : D → D → DHeap → Res D
  | .int i, .int j, h => .ok (.bl (decide (j ≤ i))) h
  | .tup xs, .tup ys, h => match intsOf xs, intsOf ys with | some ns, some ms => .ok (.bl (lexGeI ns ms)) h | _, _ => .bad
  | _, _, _ => .bad
theorem od_geA (hu : X.A.units < cLine) : OpR X (compareOp .GtE) (RO X.K geA) := opI (op_ge.or (op_geT hu)) fun x y H Q q => by
  obtain ⟨dx, dy, h, ρ, rx, ry, rh, p⟩ := q
  cases dx with
  | int i =>
    cases dy with
    | int j => exact .inl ⟨i, j, rx, ry, Post.ok p rh (rfl : RV X.K H ρ (.bl _) _)⟩
    | _ => exact p.elim
  | tup xs =>
    cases dy with
    | tup ys =>
      simp only [geA] at p
      split at p
      · rename_i ns ms h1 h2
        obtain ⟨a, vs, e1, s1, r1⟩ := rx
        obtain ⟨b, ws, e2, s2, r2⟩ := ry
        have k1 := ints_rv h1 r1
        have k2 := ints_rv h2 r2
        subst k1 k2
        exact .inr ⟨a, b, ns, ms, e1, e2, s1, s2, Post.ok p rh (rfl : RV X.K H ρ (.bl _) _)⟩
      · exact p.elim
    | _ => exact p.elim
  | _ => cases dy <;> exact p.elim
end
end DL

set_option Elab.async false
set_option linter.all false
set_option maxRecDepth 100000
set_option maxHeartbeats 4000000
namespace DL
open PySem PySem.Spec PyProof.Rows L2
/-! triples: a name, terms, parts -/
inductive V3 where
  | n (nm ts : D) (ps : List V3)
theorem V3.ind {P : V3 → Prop} (ha : ∀ nm ts ps, (∀ t, t ∈ ps → P t) → P (.n nm ts ps)) : ∀ t, P t := by
  intro t
  exact V3.rec (motive_1 := P) (motive_2 := fun l => ∀ t, t ∈ l → P t) (fun nm ts ps ih => ha nm ts ps ih) (fun t h => absurd h List.not_mem_nil) (fun a l h1 h2 t h => by
    rcases List.mem_cons.mp h with e | e
    · rw [e]; exact h1
    · exact h2 t e) t
mutual
def V3.toD : V3 → D
  | .n nm ts ps => .tup [nm, ts, .tup (V3.toDs ps)]
def V3.toDs : List V3 → List D
  | [] => []
  | t :: r => t.toD :: V3.toDs r
end
theorem v_toDs : ∀ l : List V3, V3.toDs l = l.map V3.toD
  | [] => rfl
  | t :: r => by rw [V3.toDs, v_toDs r]; rfl
theorem v_toD (nm ts : D) (ps : List V3) : (V3.n nm ts ps).toD = .tup [nm, ts, .tup (ps.map V3.toD)] := by rw [V3.toD, v_toDs]
mutual
def V3.size : V3 → Nat
  | .n _ _ ps => 1 + V3.sizes ps
def V3.sizes : List V3 → Nat
  | [] => 0
  | t :: r => t.size + V3.sizes r
end
mutual
def V3.dep : V3 → Nat
  | .n _ _ ps => 1 + V3.deps ps
def V3.deps : List V3 → Nat
  | [] => 0
  | t :: r => max t.dep (V3.deps r)
end
theorem v_size (nm ts : D) (ps : List V3) : (V3.n nm ts ps).size = 1 + V3.sizes ps := by rw [V3.size]
theorem v_dep (nm ts : D) (ps : List V3) : (V3.n nm ts ps).dep = 1 + V3.deps ps := by rw [V3.dep]
theorem v_size_pos (t : V3) : 1 ≤ t.size := by cases t; rw [v_size]; omega
theorem v_dep_pos (t : V3) : 1 ≤ t.dep := by cases t; rw [v_dep]; omega
theorem v_deps_le {t : V3} : ∀ {l : List V3}, t ∈ l → t.dep ≤ V3.deps l
  | a :: r, h => by
    rw [V3.deps]
    rcases List.mem_cons.mp h with e | e
    · rw [e]; exact Nat.le_max_left _ _
    · exact Nat.le_trans (v_deps_le e) (Nat.le_max_right _ _)
theorem v_size_le {t : V3} : ∀ {l : List V3}, t ∈ l → t.size ≤ V3.sizes l
  | a :: r, h => by
    rw [V3.sizes]
    rcases List.mem_cons.mp h with e | e
    · rw [e]; omega
    · have := v_size_le e; omega
theorem v_deps_of {n : Nat} : ∀ {l : List V3}, (∀ t, t ∈ l → t.dep ≤ n) → V3.deps l ≤ n
  | [], _ => by rw [V3.deps]; exact Nat.zero_le _
  | a :: r, h => by
    rw [V3.deps]
    exact Nat.max_le.mpr ⟨h a List.mem_cons_self, v_deps_of fun t q => h t (List.mem_cons_of_mem _ q)⟩
theorem v_sizes_of {n : Nat} : ∀ {l : List V3}, (∀ t, t ∈ l → t.size ≤ n) → V3.sizes l ≤ l.length * n
  | [], _ => by rw [V3.sizes]; exact Nat.zero_le _
  | a :: r, h => by
    have h1 := h a List.mem_cons_self
    have h2 := v_sizes_of (l := r) fun t q => h t (List.mem_cons_of_mem _ q)
    rw [V3.sizes, List.length_cons, Nat.succ_mul]
    omega
theorem v_len_sizes : ∀ l : List V3, l.length ≤ V3.sizes l
  | [] => by rw [V3.sizes]; exact Nat.le_refl _
  | t :: r => by
    have h1 := v_len_sizes r
    have h2 := v_size_pos t
    rw [V3.sizes, List.length_cons]
    omega
theorem v_sizes_int : ∀ l : List V3, (l.map fun t => (t.size : Int)).sum = (V3.sizes l : Int)
  | [] => by rw [V3.sizes]; rfl
  | t :: r => by rw [List.map_cons, List.sum_cons, v_sizes_int r, V3.sizes]; omega
theorem v_deps_int : ∀ l : List V3, maxOr (l.map fun t => (t.dep : Int)) (.int 0) = .int (V3.deps l : Int)
  | [] => by rw [V3.deps]; rfl
  | t :: r => by
    have ih := v_deps_int r
    unfold maxOr at ih ⊢
    rw [List.map_cons, V3.deps]
    simp only [maxL]
    have hd := v_dep_pos t
    cases e : maxL (r.map fun t => (t.dep : Int)) with
    | none =>
      rw [e] at ih
      simp only [D.int.injEq] at ih
      simp only [D.int.injEq]
      omega
    | some m =>
      rw [e] at ih
      simp only [D.int.injEq] at ih
      simp only [D.int.injEq]
      split <;> omega
theorem v_deps_app : ∀ l r : List V3, V3.deps (l ++ r) = max (V3.deps l) (V3.deps r)
  | [], r => by rw [V3.deps]; simp
  | t :: l, r => by
    rw [List.cons_append, V3.deps, V3.deps, v_deps_app l r]
    omega
theorem v_sizes_app : ∀ l r : List V3, V3.sizes (l ++ r) = V3.sizes l + V3.sizes r
  | [], r => by rw [V3.sizes]; simp
  | t :: l, r => by rw [List.cons_append, V3.sizes, V3.sizes, v_sizes_app l r]; omega
theorem v_deps_take {l : List V3} {k : Nat} {t : V3} (e : l[k]? = some t) : V3.deps (l.take (k + 1)) = max (V3.deps (l.take k)) t.dep := by
  have h1 : V3.deps [t] = t.dep := by rw [V3.deps, V3.deps]; exact Nat.max_eq_left (Nat.zero_le _)
  rw [List.take_add_one, e, Option.toList_some, v_deps_app, h1]
theorem v_sizes_take {l : List V3} {k : Nat} {t : V3} (e : l[k]? = some t) : V3.sizes (l.take (k + 1)) = V3.sizes (l.take k) + t.size := by
  have h1 : V3.sizes [t] = t.size := by rw [V3.sizes, V3.sizes]; omega
  rw [List.take_add_one, e, Option.toList_some, v_sizes_app, h1]
theorem an_i {tb : M Bool} {σ : DEnv} {QB : QBl} {b : Bool} {h : DHeap} (h1 : b = true → W (tb σ h) QB) (h2 : b = false → QB false h) : kAn tb σ QB b h := by
  cases b with
  | true => exact h1 rfl
  | false => exact h2 rfl
theorem or_i {tb : M Bool} {σ : DEnv} {QB : QBl} {b : Bool} {h : DHeap} (h1 : b = true → QB true h) (h2 : b = false → W (tb σ h) QB) : kOr tb σ QB b h := by
  cases b with
  | true => exact h1 rfl
  | false => exact h2 rfl
end DL

set_option Elab.async false
set_option linter.all false
set_option maxRecDepth 100000
namespace DL
open PySem PySem.Spec PyProof.Rows L2
section
variable {h : DHeap} {n : Nat} {Q : QD} {ds : List D} {kvs : List (Key × D)} {ns : List Int}
def kSrtL (Q : QD) (o : Option (List Int)) (h : DHeap) : Prop := match o with | some ns => Q (.ref h.length) (h ++ [.lst ((srtI ns).map D.int)]) | none => False
def kSrtD (Q : QD) (o : Option (List Int)) (h : DHeap) : Prop := match o with | some ns => ns.length < 64 ∧ Q (.ref h.length) (h ++ [.lst ((srtI ns).map D.int)]) | none => False
def kSrt (Q : QD) (o : Option Cell) (h : DHeap) : Prop := match o with | some (.lst ds) => kSrtL Q (intsOf ds) h | some (.dic kvs) => kSrtD Q (intsOf (kvs.map fun kv => keyV kv.1)) h | none => False
theorem o_srtR : W (srtD [.ref n] h) Q = kSrt Q (h[n]?) h := by
  unfold srtD kSrt kSrtL kSrtD
  simp only
  cases e : h[n]? with
  | none => rfl
  | some c =>
    cases c with
    | lst ds => simp only; cases intsOf ds <;> rfl
    | dic kvs =>
      simp only
      cases intsOf (kvs.map fun kv => keyV kv.1) with
      | none => rfl
      | some ns => simp only [W_ite]
theorem k_SrtL : kSrt Q (some (.lst ds)) h = kSrtL Q (intsOf ds) h := rfl
theorem k_SrtD : kSrt Q (some (.dic kvs)) h = kSrtD Q (intsOf (kvs.map fun kv => keyV kv.1)) h := rfl
theorem k_SrtLs : kSrtL Q (some ns) h = Q (.ref h.length) (h ++ [.lst ((srtI ns).map D.int)]) := rfl
theorem k_SrtDs : kSrtD Q (some ns) h = (ns.length < 64 ∧ Q (.ref h.length) (h ++ [.lst ((srtI ns).map D.int)])) := rfl
theorem ints_nums (l : List Int) : intsOf (l.map D.int) = some l := by
  have := intsOf_map (fun i : Int => i) l
  rw [List.map_id'] at this
  exact this
end
end DL

set_option Elab.async false
set_option linter.all false
set_option maxRecDepth 100000
set_option maxHeartbeats 4000000
namespace DL
open PySem PySem.Spec PyProof.Rows L2
theorem ifv_i {fa fb : M D} {σ : DEnv} {Q : QD} {b : Bool} {h : DHeap} (h1 : b = true → W (fa σ h) Q) (h2 : b = false → W (fb σ h) Q) : kIfV fa fb σ Q b h := by
  cases b with
  | true => exact h1 rfl
  | false => exact h2 rfl
theorem loopC_r {α : Type} {s : Src} {step : D → DHeap → Res (Option D)} (e g : α → D) (l : List α) (h : DHeap) (hs : s.chk h) (hx : ∀ x, x ∈ l → W (step (e x) h) (fun o h' => o = some (g x) ∧ h' = h)) :
    W (loopC s step (l.map e) h) (fun ys h' => ys = l.map g ∧ h' = h) := by
  refine loopC_i (fun i ys h' => ys = (l.take i).map g ∧ h' = h) ⟨rfl, rfl⟩ (fun _ _ _ p => by rw [p.2]; exact hs) (fun i ys h' x ex p => ?_) fun ys h' p => ?_
  · obtain ⟨rfl, rfl⟩ := p
    obtain ⟨y, ey, rfl, hy⟩ := map_at ex
    refine W_mono (hx y hy) fun o h1 q => ?_
    obtain ⟨rfl, rfl⟩ := q
    refine ⟨?_, rfl⟩
    rw [List.take_add_one, ey]
    simp
  · rw [List.length_map, List.take_length] at p
    exact p
/-! tables: variables and terms -/
abbrev Tab := List (Int × T)
def tD (l : Tab) : List (Key × D) := l.map fun p => (Sum.inl p.1, p.2.toD)
def lookT (l : Tab) (i : Int) : Option T := (l.find? fun p => decide (p.1 = i)).map (·.2)
theorem lookT_c (p : Int × T) (l : Tab) (i : Int) : lookT (p :: l) i = if p.1 = i then some p.2 else lookT l i := by
  unfold lookT
  rw [List.find?_cons]
  by_cases e : p.1 = i
  · rw [if_pos e, decide_eq_true e]; rfl
  · rw [if_neg e, decide_eq_false e]
theorem lookD_c (kv : Key × D) (l : List (Key × D)) (k : Key) : lookD (kv :: l) k = if kv.1 = k then some kv.2 else lookD l k := by
  unfold lookD
  rw [List.find?_cons]
  by_cases e : kv.1 = k
  · rw [if_pos e, decide_eq_true e]; rfl
  · rw [if_neg e, decide_eq_false e]
theorem lookD_t (i : Int) : ∀ l : Tab, lookD (tD l) (.inl i) = (lookT l i).map T.toD
  | [] => rfl
  | p :: l => by
    show lookD ((Sum.inl p.1, p.2.toD) :: tD l) (.inl i) = _
    rw [lookT_c, lookD_c, lookD_t i l]
    by_cases e : p.1 = i
    · rw [if_pos e, if_pos (by rw [e])]; rfl
    · rw [if_neg e, if_neg (fun h => e (Sum.inl.inj h))]
theorem lookT_none {i : Int} : ∀ {l : Tab}, lookT l i = none → ∀ p, p ∈ l → p.1 ≠ i
  | [], _, p, h => (List.not_mem_nil h).elim
  | q :: l, e, p, h => by
    rw [lookT_c] at e
    by_cases c : q.1 = i
    · rw [if_pos c] at e; cases e
    · rw [if_neg c] at e
      rcases List.mem_cons.mp h with rfl | h
      · exact c
      · exact lookT_none e p h
theorem lookT_some {i : Int} {t : T} : ∀ {l : Tab}, lookT l i = some t → (i, t) ∈ l
  | q :: l, e => by
    rw [lookT_c] at e
    by_cases c : q.1 = i
    · rw [if_pos c] at e
      cases e
      rw [← c]
      exact List.mem_cons_self
    · rw [if_neg c] at e
      exact List.mem_cons_of_mem _ (lookT_some e)
theorem tD_put {i : Int} {t : T} {l : Tab} (e : lookT l i = none) : putD (tD l) (.inl i) t.toD = tD (l ++ [(i, t)]) := by
  unfold putD
  rw [if_neg]
  · unfold tD; rw [List.map_append]; rfl
  · intro h
    rw [List.any_eq_true] at h
    obtain ⟨kv, hk, e2⟩ := h
    obtain ⟨p, hp, rfl⟩ := List.mem_map.mp hk
    exact lookT_none e p hp (Sum.inl.inj (of_decide_eq_true e2))
theorem tD_len (l : Tab) : (tD l).length = l.length := by unfold tD; rw [List.length_map]
def keysT (l : Tab) : List Int := l.map (·.1)
theorem tD_keys (l : Tab) : ((tD l).map fun kv => keyV kv.1) = (keysT l).map D.int := by unfold tD keysT; rw [List.map_map, List.map_map]; rfl
theorem look_mem {i : Int} : ∀ {l : Tab}, i ∈ keysT l → ∃ t, lookT l i = some t
  | p :: l, h => by
    rw [lookT_c]
    by_cases c : p.1 = i
    · rw [if_pos c]; exact ⟨_, rfl⟩
    · rw [if_neg c]
      rcases List.mem_cons.mp h with e | h
      · exact absurd e.symm c
      · exact look_mem h
theorem look_no {i : Int} {l : Tab} (h : lookT l i = none) : i ∉ keysT l := fun hm => by
  obtain ⟨t, e⟩ := look_mem hm
  rw [e] at h; cases h
theorem look_yes {i : Int} {t : T} {l : Tab} (h : lookT l i = some t) : i ∈ keysT l := List.mem_map.mpr ⟨_, lookT_some h, rfl⟩
def eqB (u t : T) : Bool := eqvD u.toD t.toD
theorem o_eqT {u t : T} {h : DHeap} {Q : QD} (hu : okP u.toD = true) (ht : okP t.toD = true) : W (eqD u.toD t.toD h) Q = Q (.bl (eqB u t)) h := by
  unfold eqB
  have go : ∀ x y : D, scalD x y = none → seen h x = some x → seen h y = some y → okP x = true → okP y = true → W (eqD x y h) Q = Q (.bl (eqvD x y)) h := fun x y e1 e2 e3 h1 h2 => by
    unfold eqD
    rw [e1, e2, e3]
    simp only [h1, h2, and_self, if_true]
    rfl
  cases u with
  | v i =>
    cases t with
    | v j =>
      rw [toD_v, toD_v]
      show Q (.bl (decide (i = j))) h = _
      have : eqvD (.int i) (.int j) = decide (i = j) := by
        simp only [eqvD, toP, PyData.eqv]
        by_cases e : i = j <;> simp [e]
      rw [this]
    | a g bs =>
      rw [toD_v, toD_a] at *
      exact go _ _ rfl rfl rfl hu ht
  | a f as =>
    rw [toD_a] at *
    cases t with
    | v j =>
      rw [toD_v] at *
      exact go _ _ rfl rfl rfl hu ht
    | a g bs =>
      rw [toD_a] at *
      exact go _ _ rfl rfl rfl hu ht
/-! one term onto another -/
mutual
def mt : T → T → Tab → Bool × Tab
  | .v i, t, l => match lookT l i with | some u => (eqB u t, l) | none => (true, l ++ [(i, t)])
  | .a _ _, .v _, l => (false, l)
  | .a f as, .a g bs, l => if f = g ∧ as.length = bs.length then mts as bs l else (false, l)
def mts : List T → List T → Tab → Bool × Tab
  | a :: as, b :: bs, l => if (mt a b l).1 = true then mts as bs (mt a b l).2 else (false, (mt a b l).2)
  | _, _, l => (true, l)
end
theorem mt_v (i : Int) (t : T) (l : Tab) : mt (.v i) t l = match lookT l i with | some u => (eqB u t, l) | none => (true, l ++ [(i, t)]) := by rw [mt]
theorem mt_av (f : Str) (as : List T) (j : Int) (l : Tab) : mt (.a f as) (.v j) l = (false, l) := by rw [mt]
theorem mt_aa (f g : Str) (as bs : List T) (l : Tab) : mt (.a f as) (.a g bs) l = if f = g ∧ as.length = bs.length then mts as bs l else (false, l) := by rw [mt]
theorem mts_c (a b : T) (as bs : List T) (l : Tab) : mts (a :: as) (b :: bs) l = if (mt a b l).1 = true then mts as bs (mt a b l).2 else (false, (mt a b l).2) := by rw [mts]
theorem mts_0 (l : Tab) : mts [] [] l = (true, l) := by rw [mts]; simp
def OkTab (l : Tab) : Prop := ∀ p, p ∈ l → p.2.G ∧ p.2.dep ≤ 60 ∧ 0 ≤ p.1 ∧ p.1 < 4294967296
def sumT (l : Tab) : Nat := T.sizes (l.map (·.2))
theorem sumT_app (l r : Tab) : sumT (l ++ r) = sumT l + sumT r := by unfold sumT; rw [List.map_append, sizes_app]
/-- what the walk keeps -/
def MtP (p t : T) (l : Tab) (r : Bool × Tab) : Prop := OkTab r.2 ∧ r.2.length ≤ l.length + p.size ∧ sumT r.2 ≤ sumT l + t.size ∧ (r.1 = true → keysT r.2 = noteV p (keysT l))
def MtsP (ps ts : List T) (l : Tab) (r : Bool × Tab) : Prop := OkTab r.2 ∧ r.2.length ≤ l.length + T.sizes ps ∧ sumT r.2 ≤ sumT l + T.sizes ts ∧ (r.1 = true → keysT r.2 = noteVs ps (keysT l))
theorem mts_p : ∀ {ps ts : List T} {l : Tab}, ps.length = ts.length → (∀ p, p ∈ ps → ∀ t l, t.G → t.dep ≤ 60 → OkTab l → MtP p t l (mt p t l)) → (∀ t, t ∈ ts → t.G ∧ t.dep ≤ 60) → OkTab l → MtsP ps ts l (mts ps ts l)
  | [], [], l, _, _, _, ol => by rw [mts_0]; exact ⟨ol, Nat.le_add_right _ _, Nat.le_add_right _ _, fun _ => (noteVs_0 _).symm⟩
  | p :: ps, t :: ts, l, hl, ih, ht, ol => by
    obtain ⟨h1, h2, h3, h4⟩ := ih p List.mem_cons_self t l (ht t List.mem_cons_self).1 (ht t List.mem_cons_self).2 ol
    rw [mts_c]
    by_cases c : (mt p t l).1 = true
    · rw [if_pos c]
      obtain ⟨k1, k2, k3, k4⟩ := mts_p (by simpa using hl) (fun q hq => ih q (List.mem_cons_of_mem _ hq)) (fun u hu => ht u (List.mem_cons_of_mem _ hu)) h1
      refine ⟨k1, by rw [T.sizes]; omega, by rw [T.sizes]; omega, fun e => ?_⟩
      rw [k4 e, h4 c, noteVs]
    · rw [if_neg c]
      exact ⟨h1, by rw [T.sizes]; show (mt p t l).2.length ≤ _; omega, by rw [T.sizes]; show sumT (mt p t l).2 ≤ _; omega, fun e => by cases e⟩
  | [], _ :: _, _, hl, _, _, _ => by simp at hl
  | _ :: _, [], _, hl, _, _, _ => by simp at hl
theorem mt_p {p : T} : p.G → ∀ t l, t.G → t.dep ≤ 60 → OkTab l → MtP p t l (mt p t l) := by
  refine T.ind (P := fun p => p.G → ∀ t l, t.G → t.dep ≤ 60 → OkTab l → MtP p t l (mt p t l)) (fun i g t l tg td ol => ?_) (fun f as ih g t l tg td ol => ?_) p
  · rw [mt_v]
    cases e : lookT l i with
    | some u => exact ⟨ol, Nat.le_add_right _ _, Nat.le_add_right _ _, fun _ => by rw [noteV_v, insI, if_pos (look_yes e)]⟩
    | none =>
      cases g with
      | v h0 h1 =>
        refine ⟨fun p hp => ?_, ?_, ?_, fun _ => ?_⟩
        · rcases List.mem_append.mp hp with hp | hp
          · exact ol p hp
          · rw [List.mem_singleton.mp hp]; exact ⟨tg, td, h0, h1⟩
        · rw [size_v]; show (l ++ [(i, t)]).length ≤ _; rw [List.length_append]; exact Nat.le_refl _
        · show sumT (l ++ [(i, t)]) ≤ _
          rw [sumT_app]
          have : sumT [(i, t)] = t.size := sizes_one t
          omega
        · show keysT (l ++ [(i, t)]) = _
          rw [noteV_v, insI, if_neg (look_no e)]
          unfold keysT
          rw [List.map_append]
          rfl
  · cases t with
    | v j =>
      rw [mt_av]
      exact ⟨ol, Nat.le_add_right _ _, Nat.le_add_right _ _, fun e => by cases e⟩
    | a h bs =>
      rw [mt_aa]
      by_cases c : f = h ∧ as.length = bs.length
      · rw [if_pos c]
        rw [dep_a] at td
        obtain ⟨k1, k2, k3, k4⟩ := mts_p (l := l) c.2 (fun p hp => ih p hp (g.parts p hp)) (fun t ht => ⟨tg.parts t ht, Nat.le_trans (deps_le ht) (by omega)⟩) ol
        exact ⟨k1, by rw [size_a]; omega, by rw [size_a]; omega, fun e => by rw [k4 e, noteV_a]⟩
      · rw [if_neg c]
        exact ⟨ol, Nat.le_add_right _ _, Nat.le_add_right _ _, fun e => by cases e⟩
end DL
namespace DL
open PySem PySem.Spec PyProof.Rows L2
def putT (l : Tab) (i : Int) (t : T) : Tab := if (l.any fun p => decide (p.1 = i)) = true then l.map fun p => if p.1 = i then (p.1, t) else p else l ++ [(i, t)]
theorem tD_any (i : Int) : ∀ l : Tab, ((tD l).any fun kv => decide (kv.1 = Sum.inl i)) = l.any fun p => decide (p.1 = i)
  | [] => rfl
  | p :: l => by
    show (decide (Sum.inl p.1 = (Sum.inl i : Key)) || (tD l).any fun kv => decide (kv.1 = Sum.inl i)) = _
    rw [tD_any i l, List.any_cons]
    have : decide (Sum.inl p.1 = (Sum.inl i : Key)) = decide (p.1 = i) := decide_eq_decide.mpr ⟨Sum.inl.inj, fun e => by rw [e]⟩
    rw [this]
theorem tD_putT (l : Tab) (i : Int) (t : T) : putD (tD l) (.inl i) t.toD = tD (putT l i t) := by
  unfold putD putT
  rw [tD_any]
  split
  · unfold tD
    rw [List.map_map, List.map_map]
    refine List.map_congr_left fun p _ => ?_
    simp only [Function.comp]
    by_cases e : p.1 = i
    · rw [if_pos e, if_pos (by rw [e])]
    · rw [if_neg e, if_neg (fun h => e (Sum.inl.inj h))]
  · unfold tD; rw [List.map_append]; rfl
theorem putT_mem {l : Tab} {i : Int} {t : T} {p : Int × T} (h : p ∈ putT l i t) : p ∈ l ∨ p.2 = t := by
  unfold putT at h
  split at h
  · obtain ⟨q, hq, e⟩ := List.mem_map.mp h
    split at e
    · right; rw [← e]
    · left; rw [← e]; exact hq
  · rcases List.mem_append.mp h with h | h
    · exact .inl h
    · rw [List.mem_singleton.mp h]; exact .inr rfl
theorem putT_len (l : Tab) (i : Int) (t : T) : (putT l i t).length ≤ l.length + 1 := by
  unfold putT
  split
  · rw [List.length_map]; omega
  · rw [List.length_append]; exact Nat.le_refl _
/-! replacing -/
mutual
def rep (l : Tab) : T → T
  | .v i => (lookT l i).getD (.v i)
  | .a f as => .a f (reps l as)
def reps (l : Tab) : List T → List T
  | [] => []
  | t :: r => rep l t :: reps l r
end
theorem reps_map (l : Tab) : ∀ as : List T, reps l as = as.map (rep l)
  | [] => by rw [reps]; rfl
  | t :: r => by rw [reps, reps_map l r]; rfl
theorem rep_v (l : Tab) (i : Int) : rep l (.v i) = (lookT l i).getD (.v i) := by rw [rep]
theorem rep_a (l : Tab) (f : Str) (as : List T) : rep l (.a f as) = .a f (as.map (rep l)) := by rw [rep, reps_map]
theorem sizes_map {g : T → T} {B : Nat} : ∀ {as : List T}, (∀ t, t ∈ as → (g t).size ≤ t.size * B) → T.sizes (as.map g) ≤ T.sizes as * B
  | [], _ => by rw [List.map_nil, T.sizes]; exact Nat.zero_le _
  | t :: r, h => by
    have h1 := h t List.mem_cons_self
    have h2 := sizes_map (g := g) fun t ht => h t (List.mem_cons_of_mem _ ht)
    rw [List.map_cons, T.sizes, T.sizes, Nat.add_mul]
    omega
theorem rep_p {l : Tab} {B c : Nat} (hB : 1 ≤ B) (hl : ∀ p, p ∈ l → p.2.G ∧ p.2.dep ≤ c + 1 ∧ p.2.size ≤ B) {t : T} : t.G → (rep l t).G ∧ (rep l t).dep ≤ t.dep + c ∧ (rep l t).size ≤ t.size * B := by
  refine T.ind (P := fun t => t.G → (rep l t).G ∧ (rep l t).dep ≤ t.dep + c ∧ (rep l t).size ≤ t.size * B) (fun i g => ?_) (fun f as ih g => ?_) t
  · rw [rep_v, dep_v, size_v]
    cases e : lookT l i with
    | none => exact ⟨g, by show (T.v i).dep ≤ _; rw [dep_v]; omega, by show (T.v i).size ≤ _; rw [size_v]; omega⟩
    | some u =>
      obtain ⟨h1, h2, h3⟩ := hl _ (lookT_some e)
      have h2 : u.dep ≤ c + 1 := h2
      have h3 : u.size ≤ B := h3
      exact ⟨h1, by show u.dep ≤ _; omega, by show u.size ≤ _; omega⟩
  · rw [rep_a]
    refine ⟨.a g.nm fun u hu => ?_, ?_, ?_⟩
    · obtain ⟨w, hw, rfl⟩ := List.mem_map.mp hu
      exact (ih w hw (g.parts w hw)).1
    · rw [dep_a, dep_a]
      have := deps_of (l := as.map (rep l)) (n := T.deps as + c) fun u hu => by
        obtain ⟨w, hw, rfl⟩ := List.mem_map.mp hu
        have := (ih w hw (g.parts w hw)).2.1
        have := deps_le hw
        omega
      omega
    · rw [size_a, size_a, Nat.add_mul]
      have := sizes_map (g := rep l) (B := B) (as := as) fun w hw => (ih w hw (g.parts w hw)).2.2
      omega
end DL
namespace DL
open PySem PySem.Spec PyProof.Rows L2
theorem atI_s {α : Type} (d : α) (l : List α) (k : Nat) : atI (d :: l) (1 + (k : Int)) = l[k]? := by
  rw [show (1 : Int) + (k : Int) = ((k + 1 : Nat) : Int) by omega, atI_n]
  rfl
theorem rangeA_at {a : Int} {n k : Nat} {y : D} (e : (rangeL a n)[k]? = some y) : k < n ∧ y = .int (a + k) := by
  unfold rangeL at e
  rw [List.getElem?_map] at e
  cases e2 : (List.range n)[k]? with
  | none => rw [e2] at e; cases e
  | some j =>
    rw [e2] at e
    obtain ⟨h2, h3⟩ := List.getElem?_eq_some_iff.mp e2
    rw [List.getElem_range] at h3
    rw [List.length_range] at h2
    subst h3
    exact ⟨h2, (Option.some.inj e).symm⟩
theorem rangeA_len (a : Int) (n : Nat) : (rangeL a n).length = n := by unfold rangeL; simp
theorem drop_at {α : Type} {l : List α} {k : Nat} {x : α} (e : l[k]? = some x) : l.drop k = x :: l.drop (k + 1) := by
  obtain ⟨h, rfl⟩ := List.getElem?_eq_some_iff.mp e
  exact List.drop_eq_getElem_cons h
theorem get_at {α : Type} {l : List α} {k : Nat} (h : k < l.length) : ∃ x, l[k]? = some x ∧ x ∈ l := ⟨l[k], List.getElem?_eq_getElem h, List.getElem_mem h⟩
theorem sizes_drop {as : List T} {k : Nat} {t : T} (e : as[k]? = some t) : T.sizes (as.drop k) = t.size + T.sizes (as.drop (k + 1)) := by rw [drop_at e, T.sizes]
end DL
namespace DL
open PySem PySem.Spec PyProof.Rows L2
theorem get_mid {h g : DHeap} {c : Cell} : (h ++ c :: g)[h.length]? = some c := by simp
theorem set_mid {h g : DHeap} {c d : Cell} : (h ++ c :: g).set h.length d = h ++ d :: g := by simp
theorem ite_len {as bs : List T} (c : (!decide (((as.map T.toD).length + 1 : Nat) = (((bs.map T.toD).length + 1 : Nat) : Int))) = true) : ¬ as.length = bs.length := fun q => by
  rw [List.length_map, List.length_map, q] at c
  simp at c
theorem ite_len' {as bs : List T} (c : (!decide (((as.map T.toD).length + 1 : Nat) = (((bs.map T.toD).length + 1 : Nat) : Int))) = false) : as.length = bs.length := by
  rw [List.length_map, List.length_map] at c
  simp at c
  omega
end DL
namespace DL
open PySem PySem.Spec PyProof.Rows L2
/-- its variables are among these -/
inductive T.In (vs : List Int) : T → Prop where
  | v {i : Int} : i ∈ vs → T.In vs (.v i)
  | a {f : Str} {as : List T} : (∀ t, t ∈ as → T.In vs t) → T.In vs (.a f as)
theorem T.Ok.inn {vs : List Int} {t : T} (h : t.Ok vs) : t.In vs := by
  induction h with
  | v hi => exact .v hi
  | a _ _ _ ih => exact .a ih
theorem T.In.parts {vs : List Int} {f : Str} {as : List T} (h : (T.a f as).In vs) : ∀ t, t ∈ as → t.In vs := by cases h; assumption
def NdIn (vs l : List Int) : Prop := l.Nodup ∧ ∀ i, i ∈ l → i ∈ vs
theorem insI_nd {vs l : List Int} {i : Int} (hi : i ∈ vs) (h : NdIn vs l) : NdIn vs (insI i l) := by
  unfold insI
  split
  · exact h
  · rename_i c
    refine ⟨?_, fun j hj => ?_⟩
    · rw [List.nodup_append]
      refine ⟨h.1, by simp, fun a ha b hb => ?_⟩
      rw [List.mem_singleton.mp hb]
      intro e
      exact c (e ▸ ha)
    · rcases List.mem_append.mp hj with hj | hj
      · exact h.2 j hj
      · rw [List.mem_singleton.mp hj]; exact hi
theorem noteVs_nd {vs : List Int} : ∀ {as : List T}, (∀ t, t ∈ as → ∀ l, NdIn vs l → NdIn vs (noteV t l)) → ∀ l, NdIn vs l → NdIn vs (noteVs as l)
  | [], _, l, h => by rw [noteVs]; exact h
  | t :: r, ih, l, h => by
    rw [noteVs]
    exact noteVs_nd (fun t ht => ih t (List.mem_cons_of_mem _ ht)) _ (ih t List.mem_cons_self l h)
theorem noteV_nd {vs : List Int} {t : T} : t.In vs → ∀ l, NdIn vs l → NdIn vs (noteV t l) := by
  refine T.ind (P := fun t => t.In vs → ∀ l, NdIn vs l → NdIn vs (noteV t l)) (fun i g l h => ?_) (fun f as ih g l h => ?_) t
  · rw [noteV_v]
    cases g with
    | v hi => exact insI_nd hi h
  · rw [noteV_a]
    exact noteVs_nd (fun t ht => ih t ht (g.parts t ht)) l h
theorem nd_len : ∀ {l vs : List Int}, NdIn vs l → l.length ≤ vs.length
  | [], _, _ => Nat.zero_le _
  | i :: l, vs, h => by
    have hi := h.2 i List.mem_cons_self
    have hn := List.nodup_cons.mp h.1
    have := nd_len (l := l) (vs := vs.erase i) ⟨hn.2, fun j hj => (List.mem_erase_of_ne (show j ≠ i from fun e => hn.1 (by rw [← e]; exact hj))).mpr (h.2 j (List.mem_cons_of_mem _ hj))⟩
    rw [List.length_erase_of_mem hi] at this
    have := List.length_pos_of_mem hi
    rw [List.length_cons]
    omega
theorem wDs_le {α : Type} {g : α → D} {B : Nat} : ∀ {l : List α}, (∀ x, x ∈ l → wD (g x) ≤ B) → wDs (l.map g) ≤ l.length * (B + 2)
  | [], _ => Nat.zero_le _
  | x :: l, h => by
    have h1 := h x List.mem_cons_self
    have h2 := wDs_le fun x hx => h x (List.mem_cons_of_mem _ hx)
    rw [List.map_cons, wDs, List.length_cons, Nat.add_mul]
    omega
theorem sum_le {l : Tab} {i : Int} {u : T} (e : lookT l i = some u) : u.size ≤ sumT l := size_le (List.mem_map.mpr ⟨_, lookT_some e, rfl⟩)
theorem okRows {l : Tab} {vs : List Int} (hl : OkTab l) (hv : ∀ v, v ∈ vs → ∃ u, lookT l v = some u) (h4 : vs.length ≤ 4) (hs : sumT l ≤ 20000) (r : List D) (hr : r = vs.map fun v => .tup [.int v, ((lookT l v).getD (.v v)).toD]) : gdD (.tup r) = true ∧ hD (.tup r) ≤ 64 ∧ wD (.tup r) ≤ 16777216 := by
  subst hr
  have hg : ∀ v, v ∈ vs → ∃ u, lookT l v = some u ∧ u.G ∧ u.dep ≤ 60 ∧ 0 ≤ v ∧ v < 4294967296 ∧ u.size ≤ 20000 := fun v m => by
    obtain ⟨u, e⟩ := hv v m
    obtain ⟨h1, h2, h3, h5⟩ := hl _ (lookT_some e)
    exact ⟨u, e, h1, h2, h3, h5, Nat.le_trans (sum_le e) hs⟩
  refine ⟨?_, ?_, ?_⟩
  · rw [gdD]
    refine gdDs_map fun v m => ?_
    obtain ⟨u, e, h1, h2, h3, h5, h6⟩ := hg v m
    rw [e, gdD, gdDs, gdDs, gdDs, gdD, decide_eq_true h3, decide_eq_true h5]
    show (true && (gdD u.toD && true)) = true
    rw [gd_T h1]
    rfl
  · have := hDs_map (g := fun v => D.tup [.int v, ((lookT l v).getD (.v v)).toD]) (n := 62) (l := vs) fun v m => by
      obtain ⟨u, e, h1, h2, h3, h5, h6⟩ := hg v m
      show hD (D.tup [.int v, ((lookT l v).getD (.v v)).toD]) ≤ 62
      rw [e, hD, hDs, hDs, hDs]
      have : hD (Option.getD (some u) (.v v)).toD ≤ 60 := Nat.le_trans (hD_T u) h2
      have e0 : hD (.int v) = 0 := rfl
      omega
    rw [hD]
    omega
  · have := wDs_le (g := fun v => D.tup [.int v, ((lookT l v).getD (.v v)).toD]) (B := 3500000) (l := vs) fun v m => by
      obtain ⟨u, e, h1, h2, h3, h5, h6⟩ := hg v m
      show wD (D.tup [.int v, ((lookT l v).getD (.v v)).toD]) ≤ 3500000
      rw [e, wD, wDs, wDs, wDs, wD]
      have : wD (Option.getD (some u) (.v v)).toD + 2 ≤ 170 * u.size := wD_T h1
      omega
    rw [wD]
    have : vs.length * (3500000 + 2) ≤ 4 * (3500000 + 2) := Nat.mul_le_mul_right _ h4
    omega
end DL
namespace DL
open PySem PySem.Spec PyProof.Rows L2
theorem an_cut {tb : M Bool} {f g : M Fl} {σ : DEnv} {QF : QFl} {b : Bool} {h : DHeap} (R : DEnv → DHeap → Prop) (h1 : b = true → W (tb σ h) (kIf f g σ (onNx R))) (h2 : b = false → W (g σ h) (onNx R)) (h3 : ∀ σ' h', R σ' h' → QF (.nx σ') h') : kAn tb σ (kIf f g σ QF) b h := by
  have m : ∀ fl h', onNx R fl h' → QF fl h' := fun fl h' q => by
    cases fl with
    | nx σ' => exact h3 _ _ q
    | _ => exact q.elim
  cases b with
  | true =>
    refine W_mono (h1 rfl) fun b' h' q => ?_
    cases b' with
    | true => exact W_mono (show W (f σ h') (onNx R) from q) m
    | false => exact W_mono (show W (g σ h') (onNx R) from q) m
  | false => exact W_mono (h2 rfl) m
theorem OkI.three : OkI [0, 3, 10] := by
  show ∀ i, i ∈ ([0, 3, 10] : List Int) → 0 ≤ i ∧ i < 4294967296
  decide
end DL

set_option Elab.async false
set_option linter.all false
set_option maxRecDepth 100000
namespace DL
open PySem PySem.Spec PyProof.Rows L2
section
variable {σ : DEnv} {h : DHeap} {n : Nat} {Q : QD} {ds : List D} {kvs : List (Key × D)} {fo fe : M D} {a : Int} {d : D}
def kAdd (Q : QD) (a b : Option Cell) (h : DHeap) : Prop := match a, b with | some (.lst xs), some (.lst ys) => xs.length + ys.length ≤ 16777216 ∧ Q (.ref h.length) (h ++ [.lst (xs ++ ys)]) | _, _ => False
theorem o_addR {m : Nat} : W (addD (.ref m) (.ref n) h) Q = kAdd Q (h[m]?) (h[n]?) h := by
  unfold addD kAdd
  cases e1 : h[m]? with
  | none => cases e2 : h[n]? <;> simp [e1, W]
  | some c =>
    cases c with
    | dic _ => cases e2 : h[n]? <;> simp [e1, W]
    | lst xs =>
      cases e2 : h[n]? with
      | none => simp [e1, e2, W]
      | some c2 =>
        cases c2 with
        | dic _ => simp [e1, e2, W]
        | lst ys => simp only [e1, e2, W_ite, sizeLine_eq]
theorem k_AddL {es : List D} : kAdd Q (some (.lst ds)) (some (.lst es)) h = (ds.length + es.length ≤ 16777216 ∧ Q (.ref h.length) (h ++ [.lst (ds ++ es)])) := rfl
theorem o_str : W (strD [.int a] h) Q = ((0 ≤ a ∧ a < 4294967296) ∧ Q (.str (toString a : String)) h) := by show W (if _ then _ else _) _ = _; rw [W_ite]
def kPa4 (n : Nat) (i : Nat) (ds : List D) (Q : QD) (o : Option D) (h : DHeap) : Prop := match o with | some d => Q d (h.set n (.lst (ds.eraseIdx i))) | none => False
def kPa3 (n : Nat) (a : Int) (Q : QD) (o : Option Cell) (h : DHeap) : Prop := match o with | some (.lst ds) => (0 ≤ a ∧ a < 4294967296) ∧ kPa4 n a.toNat ds Q (ds[a.toNat]?) h | _ => False
def kPa2 (n : Nat) (Q : QD) : QD := fun y h => match y with | .int a => kPa3 n a Q (h[n]?) h | _ => False
def kPa1 (n : Nat) (fe : M D) (σ : DEnv) (Q : QD) (o : Option Cell) (h : DHeap) : Prop := match o with | some (.lst _) => W (fe σ h) (kPa2 n Q) | _ => False
def kPa (fe : M D) (σ : DEnv) (Q : QD) : QD := fun x h => match x with | .ref n => kPa1 n fe σ Q (h[n]?) h | _ => False
theorem w_popAt : W (popAtM fo fe σ h) Q = W (fo σ h) (kPa fe σ Q) := W_b fun d h1 => by
  cases d <;> try rfl
  rename_i n
  unfold kPa kPa1
  simp only
  cases e : h1[n]? with
  | none => rfl
  | some c =>
    cases c with
    | dic kvs => rfl
    | lst ds =>
      refine W_b fun y h2 => ?_
      unfold kPa2 kPa3 kPa4
      cases y <;> try rfl
      rename_i i
      simp only
      cases e2 : h2[n]? with
      | none => rfl
      | some c2 =>
        cases c2 with
        | dic kvs => rfl
        | lst es =>
          simp only
          by_cases hc : 0 ≤ i ∧ i < 4294967296
          · rw [if_pos hc]
            cases es[i.toNat]? <;> simp [W, hc]
          · rw [if_neg hc]
            simp [W, hc]
theorem k_Pa : kPa fe σ Q (.ref n) h = kPa1 n fe σ Q (h[n]?) h := rfl
theorem k_Pa1 : kPa1 n fe σ Q (some (.lst ds)) h = W (fe σ h) (kPa2 n Q) := rfl
theorem k_Pa2 : kPa2 n Q (.int a) h = kPa3 n a Q (h[n]?) h := rfl
theorem k_Pa3 : kPa3 n a Q (some (.lst ds)) h = ((0 ≤ a ∧ a < 4294967296) ∧ kPa4 n a.toNat ds Q (ds[a.toNat]?) h) := rfl
theorem k_Pa4 {i : Nat} : kPa4 n i ds Q (some d) h = Q d (h.set n (.lst (ds.eraseIdx i))) := rfl
end
end DL

set_option Elab.async false
set_option linter.all false
set_option maxRecDepth 100000
set_option maxHeartbeats 4000000
namespace DL
open PySem PySem.Spec PyProof.Rows L2
/-! arguments: open places, or a step with labelled parts; each keeps the label by which it is a part -/
inductive A3 where
  | hole (lab : D)
  | n (lab st : D) (ps : List A3)
theorem A3.ind {P : A3 → Prop} (hh : ∀ l, P (.hole l)) (ha : ∀ l st ps, (∀ t, t ∈ ps → P t) → P (.n l st ps)) : ∀ t, P t := by
  intro t
  exact A3.rec (motive_1 := P) (motive_2 := fun l => ∀ t, t ∈ l → P t) hh (fun l st ps ih => ha l st ps ih) (fun t h => absurd h List.not_mem_nil) (fun a l h1 h2 t h => by
    rcases List.mem_cons.mp h with e | e
    · rw [e]; exact h1
    · exact h2 t e) t
def A3.lab : A3 → D
  | .hole l => l
  | .n l _ _ => l
def A3.re (l : D) : A3 → A3
  | .hole _ => .hole l
  | .n _ st ps => .n l st ps
mutual
def A3.toD : A3 → D
  | .hole _ => .non
  | .n _ st ps => .tup [st, .tup (A3.rows ps)]
def A3.rows : List A3 → List D
  | [] => []
  | a :: r => .tup [a.lab, a.toD] :: A3.rows r
end
def A3.row (a : A3) : D := .tup [a.lab, a.toD]
theorem rows_map : ∀ l : List A3, A3.rows l = l.map A3.row
  | [] => rfl
  | a :: r => by rw [A3.rows, rows_map r]; rfl
theorem a_hole (l : D) : (A3.hole l).toD = .non := by rw [A3.toD]
theorem a_n (l st : D) (ps : List A3) : (A3.n l st ps).toD = .tup [st, .tup (ps.map A3.row)] := by rw [A3.toD, rows_map]
theorem re_toD (l : D) (a : A3) : (a.re l).toD = a.toD := by
  cases a with
  | hole m => rw [A3.re, a_hole, a_hole]
  | n m st ps => rw [A3.re, a_n, a_n]
theorem re_lab (l : D) (a : A3) : (a.re l).lab = l := by cases a <;> rfl
mutual
def A3.size : A3 → Nat
  | .hole _ => 1
  | .n _ _ ps => 1 + A3.sizes ps
def A3.sizes : List A3 → Nat
  | [] => 0
  | a :: r => a.size + A3.sizes r
end
mutual
def A3.dep : A3 → Nat
  | .hole _ => 1
  | .n _ _ ps => 1 + A3.deps ps
def A3.deps : List A3 → Nat
  | [] => 0
  | a :: r => max a.dep (A3.deps r)
end
mutual
def A3.opn : A3 → Nat
  | .hole _ => 1
  | .n _ _ ps => A3.opns ps
def A3.opns : List A3 → Nat
  | [] => 0
  | a :: r => a.opn + A3.opns r
end
theorem a_size (l st : D) (ps : List A3) : (A3.n l st ps).size = 1 + A3.sizes ps := by rw [A3.size]
theorem a_dep (l st : D) (ps : List A3) : (A3.n l st ps).dep = 1 + A3.deps ps := by rw [A3.dep]
theorem a_opn (l st : D) (ps : List A3) : (A3.n l st ps).opn = A3.opns ps := by rw [A3.opn]
theorem h_size (l : D) : (A3.hole l).size = 1 := by rw [A3.size]
theorem h_dep (l : D) : (A3.hole l).dep = 1 := by rw [A3.dep]
theorem h_opn (l : D) : (A3.hole l).opn = 1 := by rw [A3.opn]
theorem re_size (l : D) (a : A3) : (a.re l).size = a.size := by cases a <;> (rw [A3.re]; first | rw [h_size, h_size] | rw [a_size, a_size])
theorem re_dep (l : D) (a : A3) : (a.re l).dep = a.dep := by cases a <;> (rw [A3.re]; first | rw [h_dep, h_dep] | rw [a_dep, a_dep])
theorem re_opn (l : D) (a : A3) : (a.re l).opn = a.opn := by cases a <;> (rw [A3.re]; first | rw [h_opn, h_opn] | rw [a_opn, a_opn])
theorem a_pos (a : A3) : 1 ≤ a.size ∧ 1 ≤ a.dep := by
  cases a with
  | hole l => rw [h_size, h_dep]; exact ⟨Nat.le_refl _, Nat.le_refl _⟩
  | n l st ps => rw [a_size, a_dep]; omega
theorem a_deps_le {t : A3} : ∀ {l : List A3}, t ∈ l → t.dep ≤ A3.deps l
  | a :: r, h => by
    rw [A3.deps]
    rcases List.mem_cons.mp h with e | e
    · rw [e]; exact Nat.le_max_left _ _
    · exact Nat.le_trans (a_deps_le e) (Nat.le_max_right _ _)
theorem a_size_le {t : A3} : ∀ {l : List A3}, t ∈ l → t.size ≤ A3.sizes l
  | a :: r, h => by
    rw [A3.sizes]
    rcases List.mem_cons.mp h with e | e
    · rw [e]; omega
    · have := a_size_le e; omega
theorem a_deps_of {n : Nat} : ∀ {l : List A3}, (∀ t, t ∈ l → t.dep ≤ n) → A3.deps l ≤ n
  | [], _ => by rw [A3.deps]; exact Nat.zero_le _
  | a :: r, h => by
    rw [A3.deps]
    exact Nat.max_le.mpr ⟨h a List.mem_cons_self, a_deps_of fun t q => h t (List.mem_cons_of_mem _ q)⟩
theorem a_sizes_of {n : Nat} : ∀ {l : List A3}, (∀ t, t ∈ l → t.size ≤ n) → A3.sizes l ≤ l.length * n
  | [], _ => by rw [A3.sizes]; exact Nat.zero_le _
  | a :: r, h => by
    have h1 := h a List.mem_cons_self
    have h2 := a_sizes_of (l := r) fun t q => h t (List.mem_cons_of_mem _ q)
    rw [A3.sizes, List.length_cons, Nat.succ_mul]
    omega
theorem a_opns_of {n : Nat} : ∀ {l : List A3}, (∀ t, t ∈ l → t.opn ≤ n) → A3.opns l ≤ l.length * n
  | [], _ => by rw [A3.opns]; exact Nat.zero_le _
  | a :: r, h => by
    have h1 := h a List.mem_cons_self
    have h2 := a_opns_of (l := r) fun t q => h t (List.mem_cons_of_mem _ q)
    rw [A3.opns, List.length_cons, Nat.succ_mul]
    omega
theorem a_len : ∀ l : List A3, l.length ≤ A3.sizes l
  | [] => by rw [A3.sizes]; exact Nat.le_refl _
  | t :: r => by
    have h1 := a_len r
    have h2 := (a_pos t).1
    rw [A3.sizes, List.length_cons]
    omega
theorem opns_app : ∀ l r : List A3, A3.opns (l ++ r) = A3.opns l + A3.opns r
  | [], r => by rw [A3.opns]; simp
  | t :: l, r => by rw [List.cons_append, A3.opns, A3.opns, opns_app l r]; omega
theorem opns_one (a : A3) : A3.opns [a] = a.opn := by rw [A3.opns, A3.opns]; omega
theorem opns_take {l : List A3} {k : Nat} {a : A3} (e : l[k]? = some a) : A3.opns (l.take (k + 1)) = A3.opns (l.take k) + a.opn := by
  rw [List.take_add_one, e, Option.toList_some, opns_app, opns_one]
theorem opns_le {l : List A3} {k : Nat} {a : A3} (e : l[k]? = some a) : A3.opns (l.take k) + a.opn ≤ A3.opns l := by
  have h := opns_app (l.take (k + 1)) (l.drop (k + 1))
  rw [List.take_append_drop, opns_take e] at h
  omega
theorem opns_int : ∀ l : List A3, (l.map fun t => (t.opn : Int)).sum = (A3.opns l : Int)
  | [] => by rw [A3.opns]; rfl
  | t :: r => by rw [List.map_cons, List.sum_cons, opns_int r, A3.opns]; omega
/-! filling -/
mutual
def fl : A3 → List A3 → A3
  | .hole l, w => match w with | v :: _ => v.re l | [] => .hole l
  | .n l st ps, w => .n l st (fls ps w)
def fls : List A3 → List A3 → List A3
  | [], _ => []
  | a :: r, w => fl a w :: fls r (w.drop a.opn)
end
theorem fl_h (l : D) (v : A3) (w : List A3) : fl (.hole l) (v :: w) = v.re l := by rw [fl]
theorem fl_n (l st : D) (ps w : List A3) : fl (.n l st ps) w = .n l st (fls ps w) := by rw [fl]
theorem fls_0 (w : List A3) : fls [] w = [] := by rw [fls]
theorem fls_app : ∀ (l r w : List A3), fls (l ++ r) w = fls l w ++ fls r (w.drop (A3.opns l))
  | [], r, w => by rw [List.nil_append, fls_0, A3.opns]; rfl
  | a :: l, r, w => by
    rw [List.cons_append, fls, fls, fls_app l r, A3.opns, List.drop_drop]
    rfl
theorem fls_take {l w : List A3} {k : Nat} {a : A3} (e : l[k]? = some a) : fls (l.take (k + 1)) w = fls (l.take k) w ++ [fl a (w.drop (A3.opns (l.take k)))] := by
  rw [List.take_add_one, e, Option.toList_some, fls_app, fls, fls_0]
theorem fl_lab (a : A3) (w : List A3) : (fl a w).lab = a.lab := by
  cases a with
  | hole l =>
    cases w with
    | nil => rw [fl]
    | cons v w => rw [fl_h, re_lab]; rfl
  | n l st ps => rw [fl_n]; rfl
/-! bounds -/
def GL (d : D) : Prop := gdD d = true ∧ hD d ≤ 0 ∧ wD d ≤ 170
def GS (d : D) : Prop := gdD d = true ∧ hD d ≤ 4 ∧ wD d ≤ 6000
inductive A3.Ok : A3 → Prop where
  | hole {l : D} : GL l → A3.Ok (.hole l)
  | n {l st : D} {ps : List A3} : GL l → GS st → (∀ t, t ∈ ps → A3.Ok t) → A3.Ok (.n l st ps)
theorem A3.Ok.gl {a : A3} (h : a.Ok) : GL a.lab := by cases h <;> assumption
theorem A3.Ok.re {a : A3} {l : D} (h : a.Ok) (hl : GL l) : (a.re l).Ok := by
  cases h with
  | hole _ => exact .hole hl
  | n _ hs hp => exact .n hl hs hp
theorem A3.Ok.st {l st : D} {ps : List A3} (h : (A3.n l st ps).Ok) : GS st := by cases h; assumption
theorem A3.Ok.parts {l st : D} {ps : List A3} (h : (A3.n l st ps).Ok) : ∀ t, t ∈ ps → t.Ok := by cases h; assumption
theorem fls_all {P : A3 → Prop} : ∀ {ps w : List A3}, (∀ t, t ∈ ps → ∀ w', (∀ v, v ∈ w' → v ∈ w) → P (fl t w')) → ∀ t, t ∈ fls ps w → P t
  | [], w, h, t, ht => by rw [fls_0] at ht; exact (List.not_mem_nil ht).elim
  | a :: r, w, h, t, ht => by
    rw [fls] at ht
    rcases List.mem_cons.mp ht with rfl | ht
    · exact h a List.mem_cons_self w fun _ h => h
    · exact fls_all (fun t ht w' hw => h t (List.mem_cons_of_mem _ ht) w' fun v hv => List.mem_of_mem_drop (hw v hv)) t ht
theorem fls_sizes {M : Nat} : ∀ {ps w : List A3}, (∀ t, t ∈ ps → ∀ w', (∀ v, v ∈ w' → v ∈ w) → (fl t w').size ≤ t.size * M) → A3.sizes (fls ps w) ≤ A3.sizes ps * M
  | [], w, h => by rw [fls_0, A3.sizes]; exact Nat.zero_le _
  | a :: r, w, h => by
    have h1 := h a List.mem_cons_self w fun _ h => h
    have h2 := fls_sizes (ps := r) (w := w.drop a.opn) fun t ht w' hw => h t (List.mem_cons_of_mem _ ht) w' fun v hv => List.mem_of_mem_drop (hw v hv)
    rw [fls, A3.sizes, A3.sizes, Nat.add_mul]
    omega
theorem fl_p {M m : Nat} (hM : 1 ≤ M) {a : A3} : a.Ok → ∀ w, (∀ v, v ∈ w → v.Ok ∧ v.size ≤ M ∧ v.dep ≤ m + 1) → (fl a w).Ok ∧ (fl a w).size ≤ a.size * M ∧ (fl a w).dep ≤ a.dep + m := by
  refine A3.ind (P := fun a => a.Ok → ∀ w, (∀ v, v ∈ w → v.Ok ∧ v.size ≤ M ∧ v.dep ≤ m + 1) → (fl a w).Ok ∧ (fl a w).size ≤ a.size * M ∧ (fl a w).dep ≤ a.dep + m) (fun l g w hw => ?_) (fun l st ps ih g w hw => ?_) a
  · rw [h_size, h_dep]
    cases w with
    | nil => rw [fl, h_size, h_dep]; exact ⟨g, by omega, by omega⟩
    | cons v w =>
      obtain ⟨h1, h2, h3⟩ := hw v List.mem_cons_self
      rw [fl_h, re_size, re_dep]
      exact ⟨h1.re g.gl, by omega, by omega⟩
  · have hp : ∀ t, t ∈ ps → ∀ w', (∀ v, v ∈ w' → v ∈ w) → (fl t w').Ok ∧ (fl t w').size ≤ t.size * M ∧ (fl t w').dep ≤ t.dep + m := fun t ht w' hw' => ih t ht (g.parts t ht) w' fun v hv => hw v (hw' v hv)
    rw [fl_n, a_size, a_size, a_dep, a_dep]
    refine ⟨.n g.gl g.st (fls_all fun t ht w' hw' => (hp t ht w' hw').1), ?_, ?_⟩
    · have := fls_sizes (M := M) (ps := ps) (w := w) fun t ht w' hw' => (hp t ht w' hw').2.1
      rw [Nat.add_mul]
      omega
    · have := a_deps_of (l := fls ps w) (n := A3.deps ps + m) (fls_all (P := fun t => t.dep ≤ A3.deps ps + m) fun t ht w' hw' => by
        have h1 := (hp t ht w' hw').2.2
        have h2 := a_deps_le ht
        omega)
      omega
theorem rows_gd : ∀ {ps : List A3}, (∀ t, t ∈ ps → gdD t.lab = true ∧ gdD t.toD = true) → gdDs (ps.map A3.row) = true
  | ps, h => gdDs_map fun t ht => by
    show gdD (.tup [t.lab, t.toD]) = true
    rw [gdD, gdDs, gdDs, gdDs, (h t ht).1, (h t ht).2]
    rfl
theorem gd_A {a : A3} : a.Ok → gdD a.toD = true := by
  refine A3.ind (P := fun a => a.Ok → gdD a.toD = true) (fun l g => by rw [a_hole]; rfl) (fun l st ps ih g => ?_) a
  rw [a_n, gdD, gdDs, gdDs, gdDs, g.st.1, gdD, rows_gd fun t ht => ⟨(g.parts t ht).gl.1, ih t ht (g.parts t ht)⟩]
  rfl
theorem hD_A {a : A3} : a.Ok → hD a.toD ≤ 3 * a.dep + 4 := by
  refine A3.ind (P := fun a => a.Ok → hD a.toD ≤ 3 * a.dep + 4) (fun l g => by rw [a_hole]; exact Nat.zero_le _) (fun l st ps ih g => ?_) a
  have := hDs_map (g := A3.row) (n := 3 * A3.deps ps + 5) (l := ps) fun t ht => by
    have h1 := ih t ht (g.parts t ht)
    have h2 := a_deps_le ht
    have h3 := (g.parts t ht).gl.2.1
    show hD (.tup [t.lab, t.toD]) ≤ _
    rw [hD, hDs, hDs, hDs]
    omega
  have hs := g.st.2.1
  rw [a_n, a_dep, hD, hDs, hDs, hDs, hD]
  omega
theorem rows_w : ∀ {ps : List A3}, (∀ t, t ∈ ps → wD t.lab ≤ 170 ∧ wD t.toD + 200 ≤ 7000 * t.size) → wDs (ps.map A3.row) ≤ 7000 * A3.sizes ps
  | [], _ => by rw [A3.sizes]; exact Nat.le_refl _
  | t :: ps, h => by
    have h1 := h t List.mem_cons_self
    have h2 := rows_w fun t ht => h t (List.mem_cons_of_mem _ ht)
    rw [List.map_cons, wDs, A3.sizes]
    have : wD t.row = 3 + (wD t.lab + 2 + (wD t.toD + 2 + 0)) := by show wD (.tup [t.lab, t.toD]) = _; rw [wD, wDs, wDs, wDs]
    omega
theorem wD_A {a : A3} : a.Ok → wD a.toD + 200 ≤ 7000 * a.size := by
  refine A3.ind (P := fun a => a.Ok → wD a.toD + 200 ≤ 7000 * a.size) (fun l g => by rw [a_hole, h_size]; decide) (fun l st ps ih g => ?_) a
  have h1 := rows_w fun t ht => ⟨(g.parts t ht).gl.2.2, ih t ht (g.parts t ht)⟩
  have h2 := g.st.2.2
  rw [a_n, a_size, wD, wDs, wDs, wDs, wD]
  omega
end DL
namespace DL
open PySem PySem.Spec PyProof.Rows L2
theorem gl_str {x : Str} (h : NmG x) : GL (.str x) := ⟨gd_str h, Nat.zero_le _, by have := h.2; rw [wD]; omega⟩
theorem gl_empty : GL (.str (Str.ofString "")) := gl_str ⟨by decide +kernel, by decide +kernel⟩
theorem gd_int {r : Int} (h0 : 0 ≤ r) (h1 : r < 4294967296) : gdD (.int r) = true := by rw [gdD, decide_eq_true h0, decide_eq_true h1]; rfl
theorem gs_done {r : Int} (h0 : 0 ≤ r) (h1 : r < 100) : GS (.tup [.str (Str.ofString "done"), .int r, .tup []]) := by
  refine ⟨?_, ?_, ?_⟩
  · rw [gdD, gdDs, gdDs, gdDs, gd_int h0 (by omega), show gdD (.str (Str.ofString "done")) = true by decide +kernel]
    rfl
  · rw [hD, hDs, hDs, hDs, hDs, hD, hDs]
    have e1 : hD (.int r) = 0 := rfl
    have e2 : hD (.str (Str.ofString "done")) = 0 := rfl
    omega
  · rw [wD, wDs, wDs, wDs, wDs, wD, show wD (.str (Str.ofString "done")) = 42 by decide +kernel, wD, wDs]
    omega
theorem gs_invert : GS (.tup [.str (Str.ofString "invert"), .int 3]) := by unfold GS; decide +kernel
theorem gs_step {y x : Str} {ts : List T} {is : List Int} (hy : NmG y) (hx : NmG x) (ht : ∀ t, t ∈ ts → t.G ∧ t.dep ≤ 2 ∧ t.size ≤ 16) (hl : ts.length ≤ 2) (hi : ∀ i, i ∈ is → 0 ≤ i ∧ i < 100) (hl2 : is.length ≤ 2) : GS (.tup [.str y, .str x, .tup (ts.map T.toD), .tup (is.map D.int)]) := by
  have g1 : gdDs (ts.map T.toD) = true := gdDs_map fun t h => gd_T (ht t h).1
  have g2 : gdDs (is.map D.int) = true := gdDs_map fun i h => gd_int (hi i h).1 (by have := (hi i h).2; omega)
  have h1 : hDs (ts.map T.toD) ≤ 2 := hDs_map fun t h => Nat.le_trans (hD_T t) (ht t h).2.1
  have h2 : hDs (is.map D.int) ≤ 0 := hDs_map fun t h => Nat.le_refl _
  have w1 := wDs_T (as := ts) fun t h => wD_T (ht t h).1
  have w2 := wDs_le (g := D.int) (B := 10) (l := is) fun t h => Nat.le_refl _
  have w3 := sizes_of (l := ts) (n := 16) fun t h => (ht t h).2.2
  refine ⟨?_, ?_, ?_⟩
  · rw [gdD, gdDs, gdDs, gdDs, gdDs, gdDs, gd_str hy, gd_str hx, gdD, gdD, g1, g2]
    rfl
  · rw [hD, hDs, hDs, hDs, hDs, hDs, hD, hD]
    have e1 : hD (.str x) = 0 := rfl
    have e2 : hD (.str y) = 0 := rfl
    omega
  · have := hx.2
    have := hy.2
    rw [wD, wDs, wDs, wDs, wDs, wDs, wD, wD, wD, wD]
    omega
theorem atI_strs {l : List Str} {k : Int} (h0 : 0 ≤ k) (h1 : k < l.length) : ∃ x, atI (l.map D.str) k = some (.str x) ∧ x ∈ l := by
  obtain ⟨d, e, _, m⟩ := atI_in (l := l.map D.str) h0 (by simpa using h1)
  obtain ⟨p, hp, rfl⟩ := List.mem_map.mp m
  exact ⟨p, e, hp⟩
end DL

set_option Elab.async false
set_option linter.all false
set_option maxRecDepth 100000
namespace DL
open PySem PySem.Spec PyProof.Rows L2
section
variable {h : DHeap} {Q : QD} {a c : Int} {ns ms : List Int}
theorem o_intB {k : Bool} : W (intD [.bl k] h) Q = Q (.int (if k = true then 1 else 0)) h := rfl
theorem o_geA : W (geA (.int a) (.int c) h) Q = Q (.bl (decide (c ≤ a))) h := rfl
theorem o_geT : W (geA (.tup (ns.map D.int)) (.tup (ms.map D.int)) h) Q = Q (.bl (lexGeI ns ms)) h := by unfold geA; simp only [ints_nums]; rfl
end
end DL

set_option Elab.async false
set_option linter.all false
set_option maxRecDepth 100000
set_option maxHeartbeats 4000000
namespace DL
open PySem PySem.Spec PyProof.Rows L2
abbrev Bd := Option (Nat × Bool)
def bdD : Bd → D
  | none => .non
  | some (j, s) => .tup [.int j, .bl s]
def low : Nat → List Bd → Bool
  | _, [] => false
  | k, b :: r => if b = some (k, true) then true else if b = some (k, false) then low (k + 1) r else false
def respB (x : Int) (b : Bd) (R : List Int) : Bool := match b with | none => true | some (j, s) => decide (x ≤ R.getD j 0 - (if s = true then 1 else 0))
def resp : List Int → List Bd → List Int → Bool
  | x :: xs, b :: bs, R => respB x b R && resp xs bs R
  | _, _, _ => true
def chs {α : Type} (ts : List α) : Nat → List (List α)
  | 0 => [[]]
  | n + 1 => (chs ts n).flatMap fun row => ts.map fun t => row ++ [t]
theorem chs_mem {α : Type} {ts : List α} : ∀ {n : Nat} {x : List α}, x ∈ chs ts n ↔ x.length = n ∧ ∀ i, i ∈ x → i ∈ ts
  | 0, x => by
    rw [chs, List.mem_singleton]
    constructor
    · rintro rfl; exact ⟨rfl, fun _ h => (List.not_mem_nil h).elim⟩
    · rintro ⟨h, _⟩; exact List.length_eq_zero_iff.mp h
  | n + 1, x => by
    rw [chs, List.mem_flatMap]
    constructor
    · rintro ⟨r, hr, hx⟩
      obtain ⟨t, ht, rfl⟩ := List.mem_map.mp hx
      obtain ⟨h1, h2⟩ := chs_mem.mp hr
      refine ⟨by rw [List.length_append, h1]; rfl, fun i hi => ?_⟩
      rcases List.mem_append.mp hi with hi | hi
      · exact h2 i hi
      · rw [List.mem_singleton.mp hi]; exact ht
    · rintro ⟨h1, h2⟩
      have hne : x ≠ [] := fun e => by rw [e] at h1; cases h1
      refine ⟨x.dropLast, chs_mem.mpr ⟨by rw [List.length_dropLast, h1]; rfl, fun i hi => h2 i (List.dropLast_subset x hi)⟩, List.mem_map.mpr ⟨x.getLast hne, h2 _ (List.getLast_mem hne), List.dropLast_concat_getLast hne⟩⟩
theorem chs_len {α : Type} (ts : List α) : ∀ n, (chs ts n).length = ts.length ^ n
  | 0 => rfl
  | n + 1 => by
    rw [chs, List.length_flatMap, Nat.pow_succ, ← chs_len ts n]
    have : ∀ l : List (List α), (l.map fun row => (ts.map fun t => row ++ [t]).length).sum = l.length * ts.length := fun l => by
      induction l with
      | nil => simp
      | cons a r ih => rw [List.map_cons, List.sum_cons, ih, List.length_map, List.length_cons, Nat.succ_mul, Nat.add_comm]
    exact this _
/-- bounds from place p on, the ranks from place p on -/
theorem low_sound : ∀ (bs : List Bd) (p : Nat) (xs R : List Int), xs.length = bs.length → p + bs.length ≤ R.length → low p bs = true → resp xs bs R = true → lexGeI xs ((R.drop p).take bs.length) = false
  | [], p, xs, R, _, _, h, _ => by cases h
  | b :: bs, p, [], R, hl, _, _, _ => by simp at hl
  | b :: bs, p, x :: xs, R, hl, hR, h, hr => by
    rw [List.length_cons] at hR
    obtain ⟨y, ey, _⟩ := get_at (l := R) (k := p) (by omega)
    have gy : R.getD p 0 = y := by rw [List.getD_eq_getElem?_getD, ey]; rfl
    rw [drop_at ey, List.length_cons, List.take_succ_cons, lexGeI]
    rw [resp, Bool.and_eq_true] at hr
    rw [low] at h
    by_cases c1 : b = some (p, true)
    · subst c1
      have h1 := hr.1
      unfold respB at h1
      simp only [if_true] at h1
      have h1 := of_decide_eq_true h1
      rw [gy] at h1
      rw [if_neg (by omega)]
      exact decide_eq_false (by omega)
    · rw [if_neg c1] at h
      by_cases c2 : b = some (p, false)
      · rw [if_pos c2] at h
        subst c2
        have h1 := hr.1
        unfold respB at h1
        have h1 := of_decide_eq_true h1
        rw [gy] at h1
        simp only [Bool.false_eq_true, if_false] at h1
        by_cases c3 : x = y
        · rw [if_pos c3]
          exact low_sound bs (p + 1) xs R (by simpa using hl) (by omega) h hr.2
        · rw [if_neg c3]
          exact decide_eq_false (by omega)
      · rw [if_neg c2] at h; cases h
def opts : List Bd := [none, some (0, true), some (0, false), some (1, true), some (1, false), some (2, true), some (2, false), some (3, true), some (3, false)]
def firstBad : Nat → List Bd → Nat
  | p, [] => p
  | p, b :: r => if b = some (p, false) then firstBad (p + 1) r else p
def witR (bs : List Bd) : List Int := [0, 1, 2, 3].map fun i => if i = firstBad 0 bs then 1 else 3
def witX (bs : List Bd) : List Int := (List.range bs.length).map fun i => if i < firstBad 0 bs then 3 else if i = firstBad 0 bs then 2 else 0
def okW (bs : List Bd) : Bool := low 0 bs || (lexGeI (witX bs) ((witR bs).take bs.length) && resp (witX bs) bs (witR bs))
theorem all_ok : ∀ n, n ≤ 4 → ((chs opts n).all okW) = true := by decide +kernel
theorem low_complete {bs : List Bd} (hn : bs.length ≤ 4) (hb : ∀ b, b ∈ bs → b ∈ opts) (h : low 0 bs = false) : ∃ R x, R ∈ chs [1, 3] 4 ∧ x ∈ chs [0, 1, 2, 3] bs.length ∧ lexGeI x (R.take bs.length) = true ∧ resp x bs R = true := by
  have q := List.all_eq_true.mp (all_ok bs.length hn) bs (chs_mem.mpr ⟨rfl, hb⟩)
  unfold okW at q
  rw [h, Bool.false_or, Bool.and_eq_true] at q
  refine ⟨witR bs, witX bs, chs_mem.mpr ⟨rfl, fun i hi => ?_⟩, chs_mem.mpr ⟨by unfold witX; simp, fun i hi => ?_⟩, q.1, q.2⟩
  · obtain ⟨j, _, rfl⟩ := List.mem_map.mp hi
    split <;> simp
  · obtain ⟨j, _, rfl⟩ := List.mem_map.mp hi
    split
    · simp
    · split <;> simp
/-- what the law finds -/
def found (bs : List Bd) : Bool := (chs [1, 3] 4).any fun R => (chs [0, 1, 2, 3] bs.length).any fun x => lexGeI x (R.take bs.length) && resp x bs R
theorem found_low {bs : List Bd} (hn : bs.length ≤ 4) (hb : ∀ b, b ∈ bs → b ∈ opts) : found bs = !low 0 bs := by
  cases h : low 0 bs with
  | false =>
    obtain ⟨R, x, h1, h2, h3, h4⟩ := low_complete hn hb h
    exact List.any_eq_true.mpr ⟨R, h1, List.any_eq_true.mpr ⟨x, h2, by rw [h3, h4]; rfl⟩⟩
  | true =>
    refine Bool.eq_false_iff.mpr fun e => ?_
    obtain ⟨R, h1, e⟩ := List.any_eq_true.mp e
    obtain ⟨x, h2, e⟩ := List.any_eq_true.mp e
    rw [Bool.and_eq_true] at e
    have hR := (chs_mem.mp h1).1
    have := low_sound bs 0 x R (chs_mem.mp h2).1 (by omega) h e.2
    rw [List.drop_zero, e.1] at this
    cases this
end DL

set_option Elab.async false
set_option linter.all false
set_option maxRecDepth 100000
set_option maxHeartbeats 4000000
namespace Qk47
open PySem PySem.Spec PyProof.Rows L2 DL
def topS (i : Nat) : Stmt := PySem.Challenge.pw_openrules_k47_lower_bounds.main.body.getD i (.Pass ⟨0, 0, 0, 0⟩)
abbrev i_is_lower : Nat := 0
abbrev i__law_tape : Nat := 1
abbrev i__law_draw : Nat := 2
abbrev i__law_choices : Nat := 3
abbrev i__law_respects : Nat := 4
abbrev i_law : Nat := 5
section
variable {P : Program} {w : World} {K : PySem.W.Frag} {mg : Str → Option Value} {base : Heap} {k : Nat}
abbrev s_is_lower : Stmt := topS 1
theorem sc_is_lower : FnScope ["bounds", "position"] ["bounds"] (defScope s_is_lower) := ⟨rfl, rfl, rfl, by decide +kernel, rfl, by decide +kernel, by decide +kernel⟩
noncomputable def B_is_lower (C : Nat → List D → DHeap → Res D) : M Fl :=
  sSeq (sFor (rng1 (callM lenD (aCons (vr 0) (aNil)))) (gN 1) (sSeq (sIf (tst (bin2 eqD (bin2 ixD (vr 0) (vr 1)) (tupM (aCons (vr 1) (aCons (cst (.bl true)) (aNil)))))) (sRet (cst (.bl true))) (sNil)) (sIf (tst (bin2 neD (bin2 ixD (vr 0) (vr 1)) (tupM (aCons (vr 1) (aCons (cst (.bl false)) (aNil)))))) (sRet (cst (.bl false))) (sNil)))) (sRet (cst (.bl false)))
theorem ok_is_lower {f : Addr} {fd : FuncData} {C : Nat → List D → DHeap → Res D} (F : Fun K "is_lower" "is_lower" s_is_lower f fd)  (z_len : mg "len" = none) (z_range : mg "range" = none) : FnG P w K mg base (k + 1) f fd ["bounds"] (runDef 1 2 (B_is_lower C)) :=
  okG F sc_is_lower fun cdv A outer s H hr hg => have nd := sc_is_lower.nd
  dss_cons (ds_for PassesOwn.never rfl (di_rng1 (by rfl) z_range (de_callB cd_len (by rfl) z_len (by decide +kernel) (da_cons (de_vr 0) (da_nil)))) (dg_name (i := 1) nd rfl (by first | exact Or.inl rfl | exact Or.inr rfl)) (dss_cons (ds_if (dt_cmp (od_eq hr.units) (de_ix (hu_of hr) (de_vr 0) (de_vr 1) (fun _ _ => rfl)) (de_tup (da_cons (de_vr 1) (da_cons (de_bl) (da_nil)))) (nomark _)) (dss_one (ds_ret (de_bl))) (dss_nil)) (dss_one (ds_if (dt_cmp (od_ne hr.units) (de_ix (hu_of hr) (de_vr 0) (de_vr 1) (fun _ _ => rfl)) (de_tup (da_cons (de_vr 1) (da_cons (de_bl) (da_nil)))) (nomark _)) (dss_one (ds_ret (de_bl))) (dss_nil))))) (dss_one (ds_ret (de_bl)))
abbrev s__law_tape : Stmt := topS 3
theorem sc__law_tape : FnScope ["_law_script", "_law_total", "_law_cell"] ["_law_script"] (defScope s__law_tape) := ⟨rfl, rfl, rfl, by decide +kernel, rfl, by decide +kernel, by decide +kernel⟩
noncomputable def B__law_tape (C : Nat → List D → DHeap → Res D) : M Fl :=
  sSeq (sSet 1 (cst (.int 7))) (sSeq (sFor (srcM (vr 0)) (gN 2) (sSet 1 (bin2 modD (callM intD (aCons (bin2 addD (bin2 mulD (vr 1) (cst (.int 31))) (callM absD (aCons (callM intD (aCons (vr 2) (aNil))) (aNil)))) (aNil))) (cst (.int 2147483647))))) (sRet (lstM (aCons (callM lisD (aCons (vr 0) (aNil))) (aCons (cst (.int 0)) (aCons (cst (.int 0)) (aCons (vr 1) (aNil))))))))
theorem ok__law_tape {f : Addr} {fd : FuncData} {C : Nat → List D → DHeap → Res D} (F : Fun K "_law_tape" "_law_tape" s__law_tape f fd)  (z_abs : mg "abs" = none) (z_int : mg "int" = none) (z_list : mg "list" = none) : FnG P w K mg base (k + 1) f fd ["_law_script"] (runDef 1 3 (B__law_tape C)) :=
  okG F sc__law_tape fun cdv A outer s H hr hg => have nd := sc__law_tape.nd
  dss_cons (ds_set (i := 1) nd rfl (by first | exact Or.inl rfl | exact Or.inr rfl) (de_int)) (dss_cons (ds_for PassesOwn.never rfl (di_val (de_vr 0)) (dg_name (i := 2) nd rfl (by first | exact Or.inl rfl | exact Or.inr rfl)) (dss_one (ds_set (i := 1) nd rfl (by first | exact Or.inl rfl | exact Or.inr rfl) (de_op od_mod (de_callTy cd_int (by rfl) z_int (by decide +kernel) (da_cons (de_op od_add (de_op od_mul (de_vr 1) (de_int)) (de_callB cd_abs (by rfl) z_abs (by decide +kernel) (da_cons (de_callTy cd_int (by rfl) z_int (by decide +kernel) (da_cons (de_vr 2) (da_nil))) (da_nil)))) (da_nil))) (de_int))))) (dss_one (ds_ret (de_lst (da_cons (de_callTy (cd_lis rfl) (by rfl) z_list (by decide +kernel) (da_cons (de_vr 0) (da_nil))) (da_cons (de_int) (da_cons (de_int) (da_cons (de_vr 1) (da_nil)))))))))
abbrev s__law_draw : Stmt := topS 4
theorem sc__law_draw : FnScope ["_law_tape_here", "_law_many", "_law_place", "_law_number"] ["_law_tape_here", "_law_many"] (defScope s__law_draw) := ⟨rfl, rfl, rfl, by decide +kernel, rfl, by decide +kernel, by decide +kernel⟩
noncomputable def B__law_draw (C : Nat → List D → DHeap → Res D) : M Fl :=
  sSeq (sIf (tst (bin2 eqD (bin2 ixD (vr 0) (cst (.int 2))) (cst (.int 0)))) (sSeq (sSet 2 (bin2 ixD (vr 0) (cst (.int 1)))) (sSeq (sSet 3 (cst (.int 0))) (sSeq (sIf (tst (bin2 ltD (vr 2) (callM lenD (aCons (bin2 ixD (vr 0) (cst (.int 0))) (aNil))))) (sSet 3 (callM absD (aCons (callM intD (aCons (bin2 ixD (bin2 ixD (vr 0) (cst (.int 0))) (vr 2)) (aNil))) (aNil)))) (sSeq (sAsg (bin2 modD (callM intD (aCons (bin2 addD (bin2 addD (bin2 mulD (bin2 ixD (vr 0) (cst (.int 3))) (cst (.int 48271))) (vr 2)) (cst (.int 1))) (aNil))) (cst (.int 2147483647))) (gSb (vr 0) (cst (.int 3)))) (sSet 3 (bin2 ixD (vr 0) (cst (.int 3)))))) (sSeq (sAsg (bin2 addD (vr 2) (cst (.int 1))) (gSb (vr 0) (cst (.int 1)))) (sSeq (sIf (tst (bin2 ltD (vr 3) (bin2 powD (cst (.int 10)) (cst (.int 18))))) (sSeq (sSet 3 (bin2 modD (callM intD (aCons (bin2 addD (bin2 addD (bin2 mulD (vr 3) (cst (.int 48271))) (bin2 mulD (vr 2) (cst (.int 69621)))) (cst (.int 5))) (aNil))) (cst (.int 2147483647)))) (sSeq (sSet 3 (bin2 modD (callM intD (aCons (bin2 mulD (vr 3) (cst (.int 69621))) (aNil))) (cst (.int 2147483629)))) (sRet (bin2 modD (callM intD (aCons (vr 3) (aNil))) (callM max2D (aCons (vr 1) (aCons (cst (.int 1)) (aNil)))))))) (sNil)) (sAsg (vr 3) (gSb (vr 0) (cst (.int 2))))))))) (sNil)) (sSeq (sSet 3 (bin2 ixD (vr 0) (cst (.int 2)))) (sSeq (sAsg (bin2 divD (vr 3) (callM max2D (aCons (vr 1) (aCons (cst (.int 2)) (aNil))))) (gSb (vr 0) (cst (.int 2)))) (sRet (bin2 modD (callM intD (aCons (vr 3) (aNil))) (callM max2D (aCons (vr 1) (aCons (cst (.int 1)) (aNil))))))))
theorem ok__law_draw {f : Addr} {fd : FuncData} {C : Nat → List D → DHeap → Res D} (F : Fun K "_law_draw" "_law_draw" s__law_draw f fd)  (z_abs : mg "abs" = none) (z_int : mg "int" = none) (z_len : mg "len" = none) (z_max : mg "max" = none) : FnG P w K mg base (k + 1) f fd ["_law_tape_here", "_law_many"] (runDef 2 4 (B__law_draw C)) :=
  okG F sc__law_draw fun cdv A outer s H hr hg => have nd := sc__law_draw.nd
  dss_cons (ds_if (dt_cmp (od_eq hr.units) (de_ix (hu_of hr) (de_vr 0) (de_int) (fun _ _ => rfl)) (de_int) (nomark _)) (dss_cons (ds_set (i := 2) nd rfl (by first | exact Or.inl rfl | exact Or.inr rfl) (de_ix (hu_of hr) (de_vr 0) (de_int) (fun _ _ => rfl))) (dss_cons (ds_set (i := 3) nd rfl (by first | exact Or.inl rfl | exact Or.inr rfl) (de_int)) (dss_cons (ds_if (dt_cmp od_lt (de_vr 2) (de_callB cd_len (by rfl) z_len (by decide +kernel) (da_cons (de_ix (hu_of hr) (de_vr 0) (de_int) (fun _ _ => rfl)) (da_nil))) (nomark _)) (dss_one (ds_set (i := 3) nd rfl (by first | exact Or.inl rfl | exact Or.inr rfl) (de_callB cd_abs (by rfl) z_abs (by decide +kernel) (da_cons (de_callTy cd_int (by rfl) z_int (by decide +kernel) (da_cons (de_ix (hu_of hr) (de_ix (hu_of hr) (de_vr 0) (de_int) (fun _ _ => rfl)) (de_vr 2) (fun _ _ => rfl)) (da_nil))) (da_nil))))) (dss_cons (ds_asg (de_op od_mod (de_callTy cd_int (by rfl) z_int (by decide +kernel) (da_cons (de_op od_add (de_op od_add (de_op od_mul (de_ix (hu_of hr) (de_vr 0) (de_int) (fun _ _ => rfl)) (de_int)) (de_vr 2)) (de_int)) (da_nil))) (de_int)) (dg_sub (hu_of hr) (de_vr 0) (de_int))) (dss_one (ds_set (i := 3) nd rfl (by first | exact Or.inl rfl | exact Or.inr rfl) (de_ix (hu_of hr) (de_vr 0) (de_int) (fun _ _ => rfl)))))) (dss_cons (ds_asg (de_op od_add (de_vr 2) (de_int)) (dg_sub (hu_of hr) (de_vr 0) (de_int))) (dss_cons (ds_if (dt_cmp od_lt (de_vr 3) (de_op od_pow (de_int) (de_int)) (nomark _)) (dss_cons (ds_set (i := 3) nd rfl (by first | exact Or.inl rfl | exact Or.inr rfl) (de_op od_mod (de_callTy cd_int (by rfl) z_int (by decide +kernel) (da_cons (de_op od_add (de_op od_add (de_op od_mul (de_vr 3) (de_int)) (de_op od_mul (de_vr 2) (de_int))) (de_int)) (da_nil))) (de_int))) (dss_cons (ds_set (i := 3) nd rfl (by first | exact Or.inl rfl | exact Or.inr rfl) (de_op od_mod (de_callTy cd_int (by rfl) z_int (by decide +kernel) (da_cons (de_op od_mul (de_vr 3) (de_int)) (da_nil))) (de_int))) (dss_one (ds_ret (de_op od_mod (de_callTy cd_int (by rfl) z_int (by decide +kernel) (da_cons (de_vr 3) (da_nil))) (de_callB (cd_max2 rfl) (by rfl) z_max (by decide +kernel) (da_cons (de_vr 1) (da_cons (de_int) (da_nil))))))))) (dss_nil)) (dss_one (ds_asg (de_vr 3) (dg_sub (hu_of hr) (de_vr 0) (de_int))))))))) (dss_nil)) (dss_cons (ds_set (i := 3) nd rfl (by first | exact Or.inl rfl | exact Or.inr rfl) (de_ix (hu_of hr) (de_vr 0) (de_int) (fun _ _ => rfl))) (dss_cons (ds_asg (de_op od_div (de_vr 3) (de_callB (cd_max2 rfl) (by rfl) z_max (by decide +kernel) (da_cons (de_vr 1) (da_cons (de_int) (da_nil))))) (dg_sub (hu_of hr) (de_vr 0) (de_int))) (dss_one (ds_ret (de_op od_mod (de_callTy cd_int (by rfl) z_int (by decide +kernel) (da_cons (de_vr 3) (da_nil))) (de_callB (cd_max2 rfl) (by rfl) z_max (by decide +kernel) (da_cons (de_vr 1) (da_cons (de_int) (da_nil)))))))))
abbrev s__law_choices : Stmt := topS 5
theorem sc__law_choices : FnScope ["_law_terms", "_law_many", "_law_rows", "_law_k", "_law_longer", "_law_row", "_law_term"] ["_law_terms", "_law_many"] (defScope s__law_choices) := ⟨rfl, rfl, rfl, by decide +kernel, rfl, by decide +kernel, by decide +kernel⟩
noncomputable def B__law_choices (C : Nat → List D → DHeap → Res D) : M Fl :=
  sSeq (sSet 2 (lstM (aCons (tupM (aNil)) (aNil)))) (sSeq (sFor (rng1 (vr 1)) (gN 3) (sSeq (sSet 4 (lstM (aNil))) (sSeq (sFor (srcM (callM lisD (aCons (vr 2) (aNil)))) (gN 5) (sFor (srcM (vr 0)) (gN 6) (sExpr (appM (vr 4) (bin2 addD (vr 5) (tupM (aCons (vr 6) (aNil)))))))) (sSet 2 (callM lisD (aCons (vr 4) (aNil))))))) (sRet (vr 2)))
theorem ok__law_choices {f : Addr} {fd : FuncData} {C : Nat → List D → DHeap → Res D} (F : Fun K "_law_choices" "_law_choices" s__law_choices f fd)  (z_list : mg "list" = none) (z_range : mg "range" = none) : FnG P w K mg base (k + 1) f fd ["_law_terms", "_law_many"] (runDef 2 7 (B__law_choices C)) :=
  okG F sc__law_choices fun cdv A outer s H hr hg => have nd := sc__law_choices.nd
  dss_cons (ds_set (i := 2) nd rfl (by first | exact Or.inl rfl | exact Or.inr rfl) (de_lst (da_cons (de_tup (da_nil)) (da_nil)))) (dss_cons (ds_for PassesOwn.never rfl (di_rng1 (by rfl) z_range (de_vr 1)) (dg_name (i := 3) nd rfl (by first | exact Or.inl rfl | exact Or.inr rfl)) (dss_cons (ds_set (i := 4) nd rfl (by first | exact Or.inl rfl | exact Or.inr rfl) (de_lst (da_nil))) (dss_cons (ds_for PassesOwn.never rfl (di_val (de_callTy (cd_lis rfl) (by rfl) z_list (by decide +kernel) (da_cons (de_vr 2) (da_nil)))) (dg_name (i := 5) nd rfl (by first | exact Or.inl rfl | exact Or.inr rfl)) (dss_one (ds_for PassesOwn.never rfl (di_val (de_vr 0)) (dg_name (i := 6) nd rfl (by first | exact Or.inl rfl | exact Or.inr rfl)) (dss_one (ds_expr (de_app (de_vr 4) (de_op od_add (de_vr 5) (de_tup (da_cons (de_vr 6) (da_nil)))))))))) (dss_one (ds_set (i := 2) nd rfl (by first | exact Or.inl rfl | exact Or.inr rfl) (de_callTy (cd_lis rfl) (by rfl) z_list (by decide +kernel) (da_cons (de_vr 4) (da_nil)))))))) (dss_one (ds_ret (de_vr 2))))
abbrev s__law_respects : Stmt := topS 6
theorem sc__law_respects : FnScope ["_law_numbers", "_law_bounds", "_law_ranks", "_law_k"] ["_law_numbers", "_law_bounds", "_law_ranks"] (defScope s__law_respects) := ⟨rfl, rfl, rfl, by decide +kernel, rfl, by decide +kernel, by decide +kernel⟩
noncomputable def B__law_respects (C : Nat → List D → DHeap → Res D) : M Fl :=
  sSeq (sFor (rng1 (callM lenD (aCons (vr 1) (aNil)))) (gN 3) (sIf (andT (tst (bin2 notD (bin2 ixD (vr 1) (vr 3)) (cst .non))) (tst (bin2 gtD (bin2 ixD (vr 0) (vr 3)) (bin2 subD (bin2 ixD (vr 2) (bin2 ixD (bin2 ixD (vr 1) (vr 3)) (cst (.int 0)))) (callM intD (aCons (bin2 ixD (bin2 ixD (vr 1) (vr 3)) (cst (.int 1))) (aNil))))))) (sRet (cst (.bl false))) (sNil))) (sRet (cst (.bl true)))
theorem ok__law_respects {f : Addr} {fd : FuncData} {C : Nat → List D → DHeap → Res D} (F : Fun K "_law_respects" "_law_respects" s__law_respects f fd)  (z_int : mg "int" = none) (z_len : mg "len" = none) (z_range : mg "range" = none) : FnG P w K mg base (k + 1) f fd ["_law_numbers", "_law_bounds", "_law_ranks"] (runDef 3 4 (B__law_respects C)) :=
  okG F sc__law_respects fun cdv A outer s H hr hg => have nd := sc__law_respects.nd
  dss_cons (ds_for PassesOwn.never rfl (di_rng1 (by rfl) z_range (de_callB cd_len (by rfl) z_len (by decide +kernel) (da_cons (de_vr 1) (da_nil)))) (dg_name (i := 3) nd rfl (by first | exact Or.inl rfl | exact Or.inr rfl)) (dss_one (ds_if (dt_w (dw_and (dt_cmp od_isnot (de_ix (hu_of hr) (de_vr 1) (de_vr 3) (fun _ _ => rfl)) (de_non) (nomark _)) (dw_and1 (dt_cmp od_gt (de_ix (hu_of hr) (de_vr 0) (de_vr 3) (fun _ _ => rfl)) (de_op od_sub (de_ix (hu_of hr) (de_vr 2) (de_ix (hu_of hr) (de_ix (hu_of hr) (de_vr 1) (de_vr 3) (fun _ _ => rfl)) (de_int) (fun _ _ => rfl)) (fun _ _ => rfl)) (de_callTy cd_int (by rfl) z_int (by decide +kernel) (da_cons (de_ix (hu_of hr) (de_ix (hu_of hr) (de_vr 1) (de_vr 3) (fun _ _ => rfl)) (de_int) (fun _ _ => rfl)) (da_nil)))) (nomark _))))) (dss_one (ds_ret (de_bl))) (dss_nil)))) (dss_one (ds_ret (de_bl)))
abbrev s_law : Stmt := topS 7
theorem sc_law : FnScope ["_law_script", "_law_tape_here", "_law_bounds", "_law_k", "_law_choice", "_law_lower", "_law_rows", "_law_ranks", "_law_numbers", "_law_told"] ["_law_script"] (defScope s_law) := ⟨rfl, rfl, rfl, by decide +kernel, rfl, by decide +kernel, by decide +kernel⟩
noncomputable def B_law (C : Nat → List D → DHeap → Res D) : M Fl :=
  sSeq (sSet 1 (callM (C i__law_tape) (aCons (vr 0) (aNil)))) (sSeq (sSet 2 (lstM (aNil))) (sSeq (sFor (rng1 (bin2 ixD (lstM (aCons (cst (.int 0)) (aCons (cst (.int 1)) (aCons (cst (.int 2)) (aCons (cst (.int 3)) (aCons (cst (.int 1)) (aCons (cst (.int 2)) (aCons (cst (.int 3)) (aCons (cst (.int 4)) (aNil)))))))))) (callM (C i__law_draw) (aCons (vr 1) (aCons (cst (.int 8)) (aNil)))))) (gN 3) (sSeq (sSet 4 (callM (C i__law_draw) (aCons (vr 1) (aCons (cst (.int 6)) (aNil))))) (sIf (tst (bin2 ltD (vr 4) (cst (.int 4)))) (sExpr (appM (vr 2) (tupM (aCons (vr 3) (aCons (bin2 eqD (vr 4) (cst (.int 0))) (aNil)))))) (sIf (tst (bin2 eqD (vr 4) (cst (.int 4)))) (sExpr (appM (vr 2) (tupM (aCons (callM (C i__law_draw) (aCons (vr 1) (aCons (cst (.int 4)) (aNil)))) (aCons (bin2 eqD (callM (C i__law_draw) (aCons (vr 1) (aCons (cst (.int 2)) (aNil)))) (cst (.int 0))) (aNil)))))) (sExpr (appM (vr 2) (cst .non))))))) (sSeq (sSet 5 (cst (.bl true))) (sSeq (sSet 6 (callM (C i__law_choices) (aCons (lstM (aCons (cst (.int 0)) (aCons (cst (.int 1)) (aCons (cst (.int 2)) (aCons (cst (.int 3)) (aNil)))))) (aCons (callM lenD (aCons (vr 2) (aNil))) (aNil))))) (sSeq (sFor (srcM (callM (C i__law_choices) (aCons (lstM (aCons (cst (.int 1)) (aCons (cst (.int 3)) (aNil)))) (aCons (cst (.int 4)) (aNil))))) (gN 7) (sFor (srcM (vr 6)) (gN 8) (sIf (andT (tst (bin2 geA (vr 8) (slM (vr 7) (oNone) (oSome (callM lenD (aCons (vr 2) (aNil))))))) (tst (callM (C i__law_respects) (aCons (vr 8) (aCons (vr 2) (aCons (vr 7) (aNil))))))) (sSet 5 (cst (.bl false))) (sNil)))) (sSeq (sSet 9 (callM (C i_is_lower) (aCons (callM tupD (aCons (vr 2) (aNil))) (aNil)))) (sRet (andV (isiM "bool" (vr 9)) (bin2 eqD (vr 9) (vr 5))))))))))
theorem ok_law {f : Addr} {fd : FuncData} {C : Nat → List D → DHeap → Res D} (F : Fun K "law" "law" s_law f fd) (D_is_lower : Defn P w K mg base k "is_lower" (C i_is_lower)) (D__law_tape : Defn P w K mg base k "_law_tape" (C i__law_tape)) (D__law_draw : Defn P w K mg base k "_law_draw" (C i__law_draw)) (D__law_choices : Defn P w K mg base k "_law_choices" (C i__law_choices)) (D__law_respects : Defn P w K mg base k "_law_respects" (C i__law_respects)) (z_bool : mg "bool" = none) (z_isinstance : mg "isinstance" = none) (z_len : mg "len" = none) (z_range : mg "range" = none) (z_tuple : mg "tuple" = none) : FnG P w K mg base (k + 1) f fd ["_law_script"] (runDef 1 10 (B_law C)) :=
  okG F sc_law fun cdv A outer s H hr hg => have nd := sc_law.nd
  dss_cons (ds_set (i := 1) nd rfl (by first | exact Or.inl rfl | exact Or.inr rfl) (de_call D__law_tape hr hg (by rfl) (da_cons (de_vr 0) (da_nil)))) (dss_cons (ds_set (i := 2) nd rfl (by first | exact Or.inl rfl | exact Or.inr rfl) (de_lst (da_nil))) (dss_cons (ds_for PassesOwn.never rfl (di_rng1 (by rfl) z_range (de_ix (hu_of hr) (de_lst (da_cons (de_int) (da_cons (de_int) (da_cons (de_int) (da_cons (de_int) (da_cons (de_int) (da_cons (de_int) (da_cons (de_int) (da_cons (de_int) (da_nil)))))))))) (de_call D__law_draw hr hg (by rfl) (da_cons (de_vr 1) (da_cons (de_int) (da_nil)))) (fun _ _ => rfl))) (dg_name (i := 3) nd rfl (by first | exact Or.inl rfl | exact Or.inr rfl)) (dss_cons (ds_set (i := 4) nd rfl (by first | exact Or.inl rfl | exact Or.inr rfl) (de_call D__law_draw hr hg (by rfl) (da_cons (de_vr 1) (da_cons (de_int) (da_nil))))) (dss_one (ds_if (dt_cmp od_lt (de_vr 4) (de_int) (nomark _)) (dss_one (ds_expr (de_app (de_vr 2) (de_tup (da_cons (de_vr 3) (da_cons (de_cmp (od_eq hr.units) (de_vr 4) (de_int) (nomark _)) (da_nil))))))) (dss_one (ds_if (dt_cmp (od_eq hr.units) (de_vr 4) (de_int) (nomark _)) (dss_one (ds_expr (de_app (de_vr 2) (de_tup (da_cons (de_call D__law_draw hr hg (by rfl) (da_cons (de_vr 1) (da_cons (de_int) (da_nil)))) (da_cons (de_cmp (od_eq hr.units) (de_call D__law_draw hr hg (by rfl) (da_cons (de_vr 1) (da_cons (de_int) (da_nil)))) (de_int) (nomark _)) (da_nil))))))) (dss_one (ds_expr (de_app (de_vr 2) (de_non)))))))))) (dss_cons (ds_set (i := 5) nd rfl (by first | exact Or.inl rfl | exact Or.inr rfl) (de_bl)) (dss_cons (ds_set (i := 6) nd rfl (by first | exact Or.inl rfl | exact Or.inr rfl) (de_call D__law_choices hr hg (by rfl) (da_cons (de_lst (da_cons (de_int) (da_cons (de_int) (da_cons (de_int) (da_cons (de_int) (da_nil)))))) (da_cons (de_callB cd_len (by rfl) z_len (by decide +kernel) (da_cons (de_vr 2) (da_nil))) (da_nil))))) (dss_cons (ds_for PassesOwn.never rfl (di_val (de_call D__law_choices hr hg (by rfl) (da_cons (de_lst (da_cons (de_int) (da_cons (de_int) (da_nil)))) (da_cons (de_int) (da_nil))))) (dg_name (i := 7) nd rfl (by first | exact Or.inl rfl | exact Or.inr rfl)) (dss_one (ds_for PassesOwn.never rfl (di_val (de_vr 6)) (dg_name (i := 8) nd rfl (by first | exact Or.inl rfl | exact Or.inr rfl)) (dss_one (ds_if (dt_w (dw_and (dt_cmp (od_geA hr.units0) (de_vr 8) (de_sl (de_vr 7) (do_none) (do_some (de_callB cd_len (by rfl) z_len (by decide +kernel) (da_cons (de_vr 2) (da_nil))))) (nomark _)) (dw_and1 (dt_val (de_call D__law_respects hr hg (by rfl) (da_cons (de_vr 8) (da_cons (de_vr 2) (da_cons (de_vr 7) (da_nil))))))))) (dss_one (ds_set (i := 5) nd rfl (by first | exact Or.inl rfl | exact Or.inr rfl) (de_bl))) (dss_nil)))))) (dss_cons (ds_set (i := 9) nd rfl (by first | exact Or.inl rfl | exact Or.inr rfl) (de_call D_is_lower hr hg (by rfl) (da_cons (de_callTy cd_tup (by rfl) z_tuple (by decide +kernel) (da_cons (de_vr 2) (da_nil))) (da_nil)))) (dss_one (ds_ret (de_and (de_isi (n := "bool") (.inr (.inr (.inr (.inr (.inr (rfl)))))) (by rfl) z_isinstance (by rfl) z_bool (by decide +kernel) (de_vr 9)) (de_one (de_cmp (od_eq hr.units) (de_vr 9) (de_vr 5) (nomark _))))))))))))
end
noncomputable def run : Nat → Nat → List D → DHeap → Res D
  | 0, _ => fun _ _ => .bad
  | n + 1, 0 => runDef 1 2 (B_is_lower (run n))
  | n + 1, 1 => runDef 1 3 (B__law_tape (run n))
  | n + 1, 2 => runDef 2 4 (B__law_draw (run n))
  | n + 1, 3 => runDef 2 7 (B__law_choices (run n))
  | n + 1, 4 => runDef 3 4 (B__law_respects (run n))
  | n + 1, 5 => runDef 1 10 (B_law (run n))
  | _ + 1, _ => fun _ _ => .bad
theorem r_is_lower (n : Nat) : run (n + 1) i_is_lower = runDef 1 2 (B_is_lower (run n)) := rfl
theorem r__law_tape (n : Nat) : run (n + 1) i__law_tape = runDef 1 3 (B__law_tape (run n)) := rfl
theorem r__law_draw (n : Nat) : run (n + 1) i__law_draw = runDef 2 4 (B__law_draw (run n)) := rfl
theorem r__law_choices (n : Nat) : run (n + 1) i__law_choices = runDef 2 7 (B__law_choices (run n)) := rfl
theorem r__law_respects (n : Nat) : run (n + 1) i__law_respects = runDef 3 4 (B__law_respects (run n)) := rfl
theorem r_law (n : Nat) : run (n + 1) i_law = runDef 1 10 (B_law (run n)) := rfl
end Qk47

set_option Elab.async false
set_option linter.all false
set_option maxRecDepth 100000
set_option maxHeartbeats 4000000
namespace Qk47
open PySem PySem.Spec PyProof.Rows L2 DL
theorem draw_ok (n i : Nat) (m : Int) (h : DHeap) (ht : Tape h i) (hm : m < 2 ^ 29) :
    W (run (n + 1) i__law_draw [.ref i, .int m] h) (fun d h' => ∃ r : Int, d = .int r ∧ 0 ≤ r ∧ (r < m ∨ r < 1) ∧ Tape h' i ∧ Ev i h h') := by
  obtain ⟨j, ns, a, b, c, h1, h2, hij, hl, ha, hb, hc⟩ := ht
  have fin : ∀ (x : Int) (a' b' c' : Int) (h' : DHeap), 0 ≤ x → 0 ≤ a' → 0 ≤ b' → 0 ≤ c' → Ev i h h' → h'[i]? = some (.lst [.ref j, .int a', .int b', .int c']) → ∃ r : Int, D.int (x % (if 1 > m then 1 else m)) = .int r ∧ 0 ≤ r ∧ (r < m ∨ r < 1) ∧ Tape h' i ∧ Ev i h h' := by
    intro x a' b' c' h' hx ha' hb' hc' ev e1
    refine ⟨_, rfl, ?_, ?_, ⟨j, ns, a', b', c', e1, ev j _ (by omega) h2, hij, hl, ha', hb', hc'⟩, ev⟩
    · apply Int.emod_nonneg; split <;> omega
    · split
      · right; exact Int.emod_lt_of_pos _ (by omega)
      · left; exact Int.emod_lt_of_pos _ (by omega)
  rw [r__law_draw]
  unfold B__law_draw
  simp -implicitDefEqProofs only [w_vr, w_cst, w_bin2, k_B1, k_B2, w_tst, k_T, w_andT, k_AnT, k_AnF, w_orT, k_OrT, k_OrF, w_notT, k_No, w_andV, k_AnVT, k_AnVF, w_orV, k_OrVT, k_OrVF, w_notV, k_NoV, w_ifV, k_IfVT, k_IfVF, w_aNil, w_aCons, k_A1, k_A2, w_callM, k_C, w_isi, k_Ty_int_non, k_Ty_int_bl, k_Ty_int_int, k_Ty_int_str, k_Ty_int_tup, k_Ty_int_fl, k_Ty_int_ref, k_TyR_int_l, k_TyR_int_d, k_Ty_tuple_non, k_Ty_tuple_bl, k_Ty_tuple_int, k_Ty_tuple_str, k_Ty_tuple_tup, k_Ty_tuple_fl, k_Ty_tuple_ref, k_TyR_tuple_l, k_TyR_tuple_d, k_Ty_str_non, k_Ty_str_bl, k_Ty_str_int, k_Ty_str_str, k_Ty_str_tup, k_Ty_str_fl, k_Ty_str_ref, k_TyR_str_l, k_TyR_str_d, k_Ty_list_non, k_Ty_list_bl, k_Ty_list_int, k_Ty_list_str, k_Ty_list_tup, k_Ty_list_fl, k_Ty_list_ref, k_TyR_list_l, k_TyR_list_d, k_Ty_dict_non, k_Ty_dict_bl, k_Ty_dict_int, k_Ty_dict_str, k_Ty_dict_tup, k_Ty_dict_fl, k_Ty_dict_ref, k_TyR_dict_l, k_TyR_dict_d, k_Ty_bool_non, k_Ty_bool_bl, k_Ty_bool_int, k_Ty_bool_str, k_Ty_bool_tup, k_Ty_bool_fl, k_Ty_bool_ref, k_TyR_bool_l, k_TyR_bool_d, w_oNone, w_oSome, k_O, w_slM, k_S1, k_S2, k_S3, w_tupM, k_Tup, w_lstM, k_Lst, w_newDic, w_appM, k_Ap1, k_Ap2, k_Ap3, k_Ap4, w_compL, k_CL, w_compCall, w_compMaxD, k_M1, k_M2, k_M3, w_sNil, w_sSeq, k_SqN, k_SqR, k_SqB, k_SqC, w_sExpr, k_Ex, w_sRet, k_Re, w_sRetN, w_sBrk, w_sCt, w_sIf, k_IfT, k_IfF, w_sSet, k_St, w_sSetC, k_StC, w_sAsg, k_As, k_As2, w_gN, w_gSb, k_G1, k_G2, k_G3, w_gTp, w_gsNil, w_gsCons, k_Gs, w_run, k_RtR, k_RtN, w_srcM, k_Sr, s_T, s_F, s_S, s_R, s_RL, w_rng1, k_R1, w_rng2, k_R2, k_R3, w_sFor, k_Fo, w_compM, k_Co, w_stepC, k_XT, k_XF, k_Y, w_tTrue, o_addI, o_addS, o_addT, o_sub, o_mul, o_div, o_mod, o_pow, o_lt, o_le, o_gt, o_ge, o_eqI, o_eqS, o_neI, o_neS, o_eqB, o_isN, o_notN, n_n, n_b, n_i, n_s, n_t, n_f, n_r, o_ixT, o_ixF, o_ixS, k_Ch, o_ixR, k_IxL, k_IxD, o_setR, k_SeL, k_SeJ, k_SeI, k_SeS, o_lenT, o_lenF, o_lenS, o_lenR, k_LeL, k_LeD, o_int, o_abs, o_max2, o_min2, o_tup, k_Seq, o_lst, k_Ls, q_T, q_F, q_R, q_RL, o_slT, o_slS, o_slF, o_slR, k_SlR, o_cTup, k_In, k_Bs, o_cSum, o_cAll, o_cAny, e_opt, e_get0, e_getS, k_LpN, k_LpC, k_LpB, k_LpR, atI_0, atI_1, atI_2, atI_3, atI_4, ixN_0, ixN_1, ixN_2, ixN_3, List.set_cons_zero, List.set_cons_succ, List.getElem?_cons_zero, List.getElem?_cons_succ, List.map_cons, List.map_nil, List.cons_append, List.nil_append, List.length_cons, List.length_nil, List.replicate_succ, List.replicate_zero, decide_true, decide_false, Bool.not_true, Bool.not_false, true_and, and_true, Nat.sub_self, Nat.zero_add, k_onNx, decide_eq_true_eq, W_ok, w_tru, k_TruB, k_TruI, k_TruN, k_TruT, k_TruF, k_TruR, k_TruL, k_TruD, i_nil, i_cons, k_Bl, k_Bn, o_inR, o_ninR, o_inF, o_ninF, k_In0L, k_In0Di, k_In0Ds, k_InL, sn_i, sn_s, sn_t, sn_f, sn_b, sn_n, w_get1, k_Gt1, k_Gt2, k_Gt3i, k_Gt3s, k_Gt4, w_get2, k_Ht1, k_Ht2, k_Ht3, k_Ht4i, k_Ht4s, o_lisR, k_LisL, k_LisD, o_lisT, o_lisF, w_pop, k_Po1, k_Po2, k_Po3, o_srtR, k_SrtL, k_SrtD, k_SrtLs, k_SrtDs, ints_nums, o_str, w_popAt, k_Pa, k_Pa1, k_Pa2, k_Pa3, k_Pa4, o_addR, k_AddL, o_geA, o_geT, o_intB, h1, h2]
  refine if_d (fun e => ?_) (fun e => ?_)
  · subst e
    simp -implicitDefEqProofs only [w_vr, w_cst, w_bin2, k_B1, k_B2, w_tst, k_T, w_andT, k_AnT, k_AnF, w_orT, k_OrT, k_OrF, w_notT, k_No, w_andV, k_AnVT, k_AnVF, w_orV, k_OrVT, k_OrVF, w_notV, k_NoV, w_ifV, k_IfVT, k_IfVF, w_aNil, w_aCons, k_A1, k_A2, w_callM, k_C, w_isi, k_Ty_int_non, k_Ty_int_bl, k_Ty_int_int, k_Ty_int_str, k_Ty_int_tup, k_Ty_int_fl, k_Ty_int_ref, k_TyR_int_l, k_TyR_int_d, k_Ty_tuple_non, k_Ty_tuple_bl, k_Ty_tuple_int, k_Ty_tuple_str, k_Ty_tuple_tup, k_Ty_tuple_fl, k_Ty_tuple_ref, k_TyR_tuple_l, k_TyR_tuple_d, k_Ty_str_non, k_Ty_str_bl, k_Ty_str_int, k_Ty_str_str, k_Ty_str_tup, k_Ty_str_fl, k_Ty_str_ref, k_TyR_str_l, k_TyR_str_d, k_Ty_list_non, k_Ty_list_bl, k_Ty_list_int, k_Ty_list_str, k_Ty_list_tup, k_Ty_list_fl, k_Ty_list_ref, k_TyR_list_l, k_TyR_list_d, k_Ty_dict_non, k_Ty_dict_bl, k_Ty_dict_int, k_Ty_dict_str, k_Ty_dict_tup, k_Ty_dict_fl, k_Ty_dict_ref, k_TyR_dict_l, k_TyR_dict_d, k_Ty_bool_non, k_Ty_bool_bl, k_Ty_bool_int, k_Ty_bool_str, k_Ty_bool_tup, k_Ty_bool_fl, k_Ty_bool_ref, k_TyR_bool_l, k_TyR_bool_d, w_oNone, w_oSome, k_O, w_slM, k_S1, k_S2, k_S3, w_tupM, k_Tup, w_lstM, k_Lst, w_newDic, w_appM, k_Ap1, k_Ap2, k_Ap3, k_Ap4, w_compL, k_CL, w_compCall, w_compMaxD, k_M1, k_M2, k_M3, w_sNil, w_sSeq, k_SqN, k_SqR, k_SqB, k_SqC, w_sExpr, k_Ex, w_sRet, k_Re, w_sRetN, w_sBrk, w_sCt, w_sIf, k_IfT, k_IfF, w_sSet, k_St, w_sSetC, k_StC, w_sAsg, k_As, k_As2, w_gN, w_gSb, k_G1, k_G2, k_G3, w_gTp, w_gsNil, w_gsCons, k_Gs, w_run, k_RtR, k_RtN, w_srcM, k_Sr, s_T, s_F, s_S, s_R, s_RL, w_rng1, k_R1, w_rng2, k_R2, k_R3, w_sFor, k_Fo, w_compM, k_Co, w_stepC, k_XT, k_XF, k_Y, w_tTrue, o_addI, o_addS, o_addT, o_sub, o_mul, o_div, o_mod, o_pow, o_lt, o_le, o_gt, o_ge, o_eqI, o_eqS, o_neI, o_neS, o_eqB, o_isN, o_notN, n_n, n_b, n_i, n_s, n_t, n_f, n_r, o_ixT, o_ixF, o_ixS, k_Ch, o_ixR, k_IxL, k_IxD, o_setR, k_SeL, k_SeJ, k_SeI, k_SeS, o_lenT, o_lenF, o_lenS, o_lenR, k_LeL, k_LeD, o_int, o_abs, o_max2, o_min2, o_tup, k_Seq, o_lst, k_Ls, q_T, q_F, q_R, q_RL, o_slT, o_slS, o_slF, o_slR, k_SlR, o_cTup, k_In, k_Bs, o_cSum, o_cAll, o_cAny, e_opt, e_get0, e_getS, k_LpN, k_LpC, k_LpB, k_LpR, atI_0, atI_1, atI_2, atI_3, atI_4, ixN_0, ixN_1, ixN_2, ixN_3, List.set_cons_zero, List.set_cons_succ, List.getElem?_cons_zero, List.getElem?_cons_succ, List.map_cons, List.map_nil, List.cons_append, List.nil_append, List.length_cons, List.length_nil, List.replicate_succ, List.replicate_zero, decide_true, decide_false, Bool.not_true, Bool.not_false, true_and, and_true, Nat.sub_self, Nat.zero_add, k_onNx, decide_eq_true_eq, W_ok, w_tru, k_TruB, k_TruI, k_TruN, k_TruT, k_TruF, k_TruR, k_TruL, k_TruD, i_nil, i_cons, k_Bl, k_Bn, o_inR, o_ninR, o_inF, o_ninF, k_In0L, k_In0Di, k_In0Ds, k_InL, sn_i, sn_s, sn_t, sn_f, sn_b, sn_n, w_get1, k_Gt1, k_Gt2, k_Gt3i, k_Gt3s, k_Gt4, w_get2, k_Ht1, k_Ht2, k_Ht3, k_Ht4i, k_Ht4s, o_lisR, k_LisL, k_LisD, o_lisT, o_lisF, w_pop, k_Po1, k_Po2, k_Po3, o_srtR, k_SrtL, k_SrtD, k_SrtLs, k_SrtDs, ints_nums, o_str, w_popAt, k_Pa, k_Pa1, k_Pa2, k_Pa3, k_Pa4, o_addR, k_AddL, o_geA, o_geT, o_intB, h1, h2, List.length_map]
    refine if_d (fun ea => ?_) (fun ea => ?_)
    · obtain ⟨d, hd, _, hm'⟩ := atI_in (l := ns.map D.int) (k := a) ha (by simpa using ea)
      obtain ⟨v, _, rfl⟩ := List.mem_map.mp hm'
      simp -implicitDefEqProofs only [w_vr, w_cst, w_bin2, k_B1, k_B2, w_tst, k_T, w_andT, k_AnT, k_AnF, w_orT, k_OrT, k_OrF, w_notT, k_No, w_andV, k_AnVT, k_AnVF, w_orV, k_OrVT, k_OrVF, w_notV, k_NoV, w_ifV, k_IfVT, k_IfVF, w_aNil, w_aCons, k_A1, k_A2, w_callM, k_C, w_isi, k_Ty_int_non, k_Ty_int_bl, k_Ty_int_int, k_Ty_int_str, k_Ty_int_tup, k_Ty_int_fl, k_Ty_int_ref, k_TyR_int_l, k_TyR_int_d, k_Ty_tuple_non, k_Ty_tuple_bl, k_Ty_tuple_int, k_Ty_tuple_str, k_Ty_tuple_tup, k_Ty_tuple_fl, k_Ty_tuple_ref, k_TyR_tuple_l, k_TyR_tuple_d, k_Ty_str_non, k_Ty_str_bl, k_Ty_str_int, k_Ty_str_str, k_Ty_str_tup, k_Ty_str_fl, k_Ty_str_ref, k_TyR_str_l, k_TyR_str_d, k_Ty_list_non, k_Ty_list_bl, k_Ty_list_int, k_Ty_list_str, k_Ty_list_tup, k_Ty_list_fl, k_Ty_list_ref, k_TyR_list_l, k_TyR_list_d, k_Ty_dict_non, k_Ty_dict_bl, k_Ty_dict_int, k_Ty_dict_str, k_Ty_dict_tup, k_Ty_dict_fl, k_Ty_dict_ref, k_TyR_dict_l, k_TyR_dict_d, k_Ty_bool_non, k_Ty_bool_bl, k_Ty_bool_int, k_Ty_bool_str, k_Ty_bool_tup, k_Ty_bool_fl, k_Ty_bool_ref, k_TyR_bool_l, k_TyR_bool_d, w_oNone, w_oSome, k_O, w_slM, k_S1, k_S2, k_S3, w_tupM, k_Tup, w_lstM, k_Lst, w_newDic, w_appM, k_Ap1, k_Ap2, k_Ap3, k_Ap4, w_compL, k_CL, w_compCall, w_compMaxD, k_M1, k_M2, k_M3, w_sNil, w_sSeq, k_SqN, k_SqR, k_SqB, k_SqC, w_sExpr, k_Ex, w_sRet, k_Re, w_sRetN, w_sBrk, w_sCt, w_sIf, k_IfT, k_IfF, w_sSet, k_St, w_sSetC, k_StC, w_sAsg, k_As, k_As2, w_gN, w_gSb, k_G1, k_G2, k_G3, w_gTp, w_gsNil, w_gsCons, k_Gs, w_run, k_RtR, k_RtN, w_srcM, k_Sr, s_T, s_F, s_S, s_R, s_RL, w_rng1, k_R1, w_rng2, k_R2, k_R3, w_sFor, k_Fo, w_compM, k_Co, w_stepC, k_XT, k_XF, k_Y, w_tTrue, o_addI, o_addS, o_addT, o_sub, o_mul, o_div, o_mod, o_pow, o_lt, o_le, o_gt, o_ge, o_eqI, o_eqS, o_neI, o_neS, o_eqB, o_isN, o_notN, n_n, n_b, n_i, n_s, n_t, n_f, n_r, o_ixT, o_ixF, o_ixS, k_Ch, o_ixR, k_IxL, k_IxD, o_setR, k_SeL, k_SeJ, k_SeI, k_SeS, o_lenT, o_lenF, o_lenS, o_lenR, k_LeL, k_LeD, o_int, o_abs, o_max2, o_min2, o_tup, k_Seq, o_lst, k_Ls, q_T, q_F, q_R, q_RL, o_slT, o_slS, o_slF, o_slR, k_SlR, o_cTup, k_In, k_Bs, o_cSum, o_cAll, o_cAny, e_opt, e_get0, e_getS, k_LpN, k_LpC, k_LpB, k_LpR, atI_0, atI_1, atI_2, atI_3, atI_4, ixN_0, ixN_1, ixN_2, ixN_3, List.set_cons_zero, List.set_cons_succ, List.getElem?_cons_zero, List.getElem?_cons_succ, List.map_cons, List.map_nil, List.cons_append, List.nil_append, List.length_cons, List.length_nil, List.replicate_succ, List.replicate_zero, decide_true, decide_false, Bool.not_true, Bool.not_false, true_and, and_true, Nat.sub_self, Nat.zero_add, k_onNx, decide_eq_true_eq, W_ok, w_tru, k_TruB, k_TruI, k_TruN, k_TruT, k_TruF, k_TruR, k_TruL, k_TruD, i_nil, i_cons, k_Bl, k_Bn, o_inR, o_ninR, o_inF, o_ninF, k_In0L, k_In0Di, k_In0Ds, k_InL, sn_i, sn_s, sn_t, sn_f, sn_b, sn_n, w_get1, k_Gt1, k_Gt2, k_Gt3i, k_Gt3s, k_Gt4, w_get2, k_Ht1, k_Ht2, k_Ht3, k_Ht4i, k_Ht4s, o_lisR, k_LisL, k_LisD, o_lisT, o_lisF, w_pop, k_Po1, k_Po2, k_Po3, o_srtR, k_SrtL, k_SrtD, k_SrtLs, k_SrtDs, ints_nums, o_str, w_popAt, k_Pa, k_Pa1, k_Pa2, k_Pa3, k_Pa4, o_addR, k_AddL, o_geA, o_geT, o_intB, h1, h2, hd]
      have hx : 0 ≤ (if v < 0 then -v else v) := by split <;> omega
      generalize (if v < 0 then -v else v) = x at hx ⊢
      refine ⟨by decide, if_d (fun ex => ?_) (fun ex => ?_)⟩
      · simp -implicitDefEqProofs only [w_vr, w_cst, w_bin2, k_B1, k_B2, w_tst, k_T, w_andT, k_AnT, k_AnF, w_orT, k_OrT, k_OrF, w_notT, k_No, w_andV, k_AnVT, k_AnVF, w_orV, k_OrVT, k_OrVF, w_notV, k_NoV, w_ifV, k_IfVT, k_IfVF, w_aNil, w_aCons, k_A1, k_A2, w_callM, k_C, w_isi, k_Ty_int_non, k_Ty_int_bl, k_Ty_int_int, k_Ty_int_str, k_Ty_int_tup, k_Ty_int_fl, k_Ty_int_ref, k_TyR_int_l, k_TyR_int_d, k_Ty_tuple_non, k_Ty_tuple_bl, k_Ty_tuple_int, k_Ty_tuple_str, k_Ty_tuple_tup, k_Ty_tuple_fl, k_Ty_tuple_ref, k_TyR_tuple_l, k_TyR_tuple_d, k_Ty_str_non, k_Ty_str_bl, k_Ty_str_int, k_Ty_str_str, k_Ty_str_tup, k_Ty_str_fl, k_Ty_str_ref, k_TyR_str_l, k_TyR_str_d, k_Ty_list_non, k_Ty_list_bl, k_Ty_list_int, k_Ty_list_str, k_Ty_list_tup, k_Ty_list_fl, k_Ty_list_ref, k_TyR_list_l, k_TyR_list_d, k_Ty_dict_non, k_Ty_dict_bl, k_Ty_dict_int, k_Ty_dict_str, k_Ty_dict_tup, k_Ty_dict_fl, k_Ty_dict_ref, k_TyR_dict_l, k_TyR_dict_d, k_Ty_bool_non, k_Ty_bool_bl, k_Ty_bool_int, k_Ty_bool_str, k_Ty_bool_tup, k_Ty_bool_fl, k_Ty_bool_ref, k_TyR_bool_l, k_TyR_bool_d, w_oNone, w_oSome, k_O, w_slM, k_S1, k_S2, k_S3, w_tupM, k_Tup, w_lstM, k_Lst, w_newDic, w_appM, k_Ap1, k_Ap2, k_Ap3, k_Ap4, w_compL, k_CL, w_compCall, w_compMaxD, k_M1, k_M2, k_M3, w_sNil, w_sSeq, k_SqN, k_SqR, k_SqB, k_SqC, w_sExpr, k_Ex, w_sRet, k_Re, w_sRetN, w_sBrk, w_sCt, w_sIf, k_IfT, k_IfF, w_sSet, k_St, w_sSetC, k_StC, w_sAsg, k_As, k_As2, w_gN, w_gSb, k_G1, k_G2, k_G3, w_gTp, w_gsNil, w_gsCons, k_Gs, w_run, k_RtR, k_RtN, w_srcM, k_Sr, s_T, s_F, s_S, s_R, s_RL, w_rng1, k_R1, w_rng2, k_R2, k_R3, w_sFor, k_Fo, w_compM, k_Co, w_stepC, k_XT, k_XF, k_Y, w_tTrue, o_addI, o_addS, o_addT, o_sub, o_mul, o_div, o_mod, o_pow, o_lt, o_le, o_gt, o_ge, o_eqI, o_eqS, o_neI, o_neS, o_eqB, o_isN, o_notN, n_n, n_b, n_i, n_s, n_t, n_f, n_r, o_ixT, o_ixF, o_ixS, k_Ch, o_ixR, k_IxL, k_IxD, o_setR, k_SeL, k_SeJ, k_SeI, k_SeS, o_lenT, o_lenF, o_lenS, o_lenR, k_LeL, k_LeD, o_int, o_abs, o_max2, o_min2, o_tup, k_Seq, o_lst, k_Ls, q_T, q_F, q_R, q_RL, o_slT, o_slS, o_slF, o_slR, k_SlR, o_cTup, k_In, k_Bs, o_cSum, o_cAll, o_cAny, e_opt, e_get0, e_getS, k_LpN, k_LpC, k_LpB, k_LpR, atI_0, atI_1, atI_2, atI_3, atI_4, ixN_0, ixN_1, ixN_2, ixN_3, List.set_cons_zero, List.set_cons_succ, List.getElem?_cons_zero, List.getElem?_cons_succ, List.map_cons, List.map_nil, List.cons_append, List.nil_append, List.length_cons, List.length_nil, List.replicate_succ, List.replicate_zero, decide_true, decide_false, Bool.not_true, Bool.not_false, true_and, and_true, Nat.sub_self, Nat.zero_add, k_onNx, decide_eq_true_eq, W_ok, w_tru, k_TruB, k_TruI, k_TruN, k_TruT, k_TruF, k_TruR, k_TruL, k_TruD, i_nil, i_cons, k_Bl, k_Bn, o_inR, o_ninR, o_inF, o_ninF, k_In0L, k_In0Di, k_In0Ds, k_InL, sn_i, sn_s, sn_t, sn_f, sn_b, sn_n, w_get1, k_Gt1, k_Gt2, k_Gt3i, k_Gt3s, k_Gt4, w_get2, k_Ht1, k_Ht2, k_Ht3, k_Ht4i, k_Ht4s, o_lisR, k_LisL, k_LisD, o_lisT, o_lisF, w_pop, k_Po1, k_Po2, k_Po3, o_srtR, k_SrtL, k_SrtD, k_SrtLs, k_SrtDs, ints_nums, o_str, w_popAt, k_Pa, k_Pa1, k_Pa2, k_Pa3, k_Pa4, o_addR, k_AddL, o_geA, o_geT, o_intB, set_at h1]
        repeat (refine And.intro (by first | omega | decide | (split <;> omega) | (simp only [List.length_map, List.length_append, List.length_cons, List.length_nil]; omega)) ?_)
        exact fin _ _ _ _ _ (Int.emod_nonneg _ (by decide)) (by omega) (by decide) hc Ev.refl.set (set_at h1)
      · simp -implicitDefEqProofs only [w_vr, w_cst, w_bin2, k_B1, k_B2, w_tst, k_T, w_andT, k_AnT, k_AnF, w_orT, k_OrT, k_OrF, w_notT, k_No, w_andV, k_AnVT, k_AnVF, w_orV, k_OrVT, k_OrVF, w_notV, k_NoV, w_ifV, k_IfVT, k_IfVF, w_aNil, w_aCons, k_A1, k_A2, w_callM, k_C, w_isi, k_Ty_int_non, k_Ty_int_bl, k_Ty_int_int, k_Ty_int_str, k_Ty_int_tup, k_Ty_int_fl, k_Ty_int_ref, k_TyR_int_l, k_TyR_int_d, k_Ty_tuple_non, k_Ty_tuple_bl, k_Ty_tuple_int, k_Ty_tuple_str, k_Ty_tuple_tup, k_Ty_tuple_fl, k_Ty_tuple_ref, k_TyR_tuple_l, k_TyR_tuple_d, k_Ty_str_non, k_Ty_str_bl, k_Ty_str_int, k_Ty_str_str, k_Ty_str_tup, k_Ty_str_fl, k_Ty_str_ref, k_TyR_str_l, k_TyR_str_d, k_Ty_list_non, k_Ty_list_bl, k_Ty_list_int, k_Ty_list_str, k_Ty_list_tup, k_Ty_list_fl, k_Ty_list_ref, k_TyR_list_l, k_TyR_list_d, k_Ty_dict_non, k_Ty_dict_bl, k_Ty_dict_int, k_Ty_dict_str, k_Ty_dict_tup, k_Ty_dict_fl, k_Ty_dict_ref, k_TyR_dict_l, k_TyR_dict_d, k_Ty_bool_non, k_Ty_bool_bl, k_Ty_bool_int, k_Ty_bool_str, k_Ty_bool_tup, k_Ty_bool_fl, k_Ty_bool_ref, k_TyR_bool_l, k_TyR_bool_d, w_oNone, w_oSome, k_O, w_slM, k_S1, k_S2, k_S3, w_tupM, k_Tup, w_lstM, k_Lst, w_newDic, w_appM, k_Ap1, k_Ap2, k_Ap3, k_Ap4, w_compL, k_CL, w_compCall, w_compMaxD, k_M1, k_M2, k_M3, w_sNil, w_sSeq, k_SqN, k_SqR, k_SqB, k_SqC, w_sExpr, k_Ex, w_sRet, k_Re, w_sRetN, w_sBrk, w_sCt, w_sIf, k_IfT, k_IfF, w_sSet, k_St, w_sSetC, k_StC, w_sAsg, k_As, k_As2, w_gN, w_gSb, k_G1, k_G2, k_G3, w_gTp, w_gsNil, w_gsCons, k_Gs, w_run, k_RtR, k_RtN, w_srcM, k_Sr, s_T, s_F, s_S, s_R, s_RL, w_rng1, k_R1, w_rng2, k_R2, k_R3, w_sFor, k_Fo, w_compM, k_Co, w_stepC, k_XT, k_XF, k_Y, w_tTrue, o_addI, o_addS, o_addT, o_sub, o_mul, o_div, o_mod, o_pow, o_lt, o_le, o_gt, o_ge, o_eqI, o_eqS, o_neI, o_neS, o_eqB, o_isN, o_notN, n_n, n_b, n_i, n_s, n_t, n_f, n_r, o_ixT, o_ixF, o_ixS, k_Ch, o_ixR, k_IxL, k_IxD, o_setR, k_SeL, k_SeJ, k_SeI, k_SeS, o_lenT, o_lenF, o_lenS, o_lenR, k_LeL, k_LeD, o_int, o_abs, o_max2, o_min2, o_tup, k_Seq, o_lst, k_Ls, q_T, q_F, q_R, q_RL, o_slT, o_slS, o_slF, o_slR, k_SlR, o_cTup, k_In, k_Bs, o_cSum, o_cAll, o_cAny, e_opt, e_get0, e_getS, k_LpN, k_LpC, k_LpB, k_LpR, atI_0, atI_1, atI_2, atI_3, atI_4, ixN_0, ixN_1, ixN_2, ixN_3, List.set_cons_zero, List.set_cons_succ, List.getElem?_cons_zero, List.getElem?_cons_succ, List.map_cons, List.map_nil, List.cons_append, List.nil_append, List.length_cons, List.length_nil, List.replicate_succ, List.replicate_zero, decide_true, decide_false, Bool.not_true, Bool.not_false, true_and, and_true, Nat.sub_self, Nat.zero_add, k_onNx, decide_eq_true_eq, W_ok, w_tru, k_TruB, k_TruI, k_TruN, k_TruT, k_TruF, k_TruR, k_TruL, k_TruD, i_nil, i_cons, k_Bl, k_Bn, o_inR, o_ninR, o_inF, o_ninF, k_In0L, k_In0Di, k_In0Ds, k_InL, sn_i, sn_s, sn_t, sn_f, sn_b, sn_n, w_get1, k_Gt1, k_Gt2, k_Gt3i, k_Gt3s, k_Gt4, w_get2, k_Ht1, k_Ht2, k_Ht3, k_Ht4i, k_Ht4s, o_lisR, k_LisL, k_LisD, o_lisT, o_lisF, w_pop, k_Po1, k_Po2, k_Po3, o_srtR, k_SrtL, k_SrtD, k_SrtLs, k_SrtDs, ints_nums, o_str, w_popAt, k_Pa, k_Pa1, k_Pa2, k_Pa3, k_Pa4, o_addR, k_AddL, o_geA, o_geT, o_intB, set_at h1, set_at (set_at h1)]
        repeat (refine And.intro (by first | omega | decide | (split <;> omega) | (simp only [List.length_map, List.length_append, List.length_cons, List.length_nil]; omega)) ?_)
        exact fin _ _ _ _ _ hx (by omega) (Int.ediv_nonneg hx (by split <;> omega)) hc Ev.refl.set.set.set (set_at (set_at (set_at h1)))
    · simp -implicitDefEqProofs only [w_vr, w_cst, w_bin2, k_B1, k_B2, w_tst, k_T, w_andT, k_AnT, k_AnF, w_orT, k_OrT, k_OrF, w_notT, k_No, w_andV, k_AnVT, k_AnVF, w_orV, k_OrVT, k_OrVF, w_notV, k_NoV, w_ifV, k_IfVT, k_IfVF, w_aNil, w_aCons, k_A1, k_A2, w_callM, k_C, w_isi, k_Ty_int_non, k_Ty_int_bl, k_Ty_int_int, k_Ty_int_str, k_Ty_int_tup, k_Ty_int_fl, k_Ty_int_ref, k_TyR_int_l, k_TyR_int_d, k_Ty_tuple_non, k_Ty_tuple_bl, k_Ty_tuple_int, k_Ty_tuple_str, k_Ty_tuple_tup, k_Ty_tuple_fl, k_Ty_tuple_ref, k_TyR_tuple_l, k_TyR_tuple_d, k_Ty_str_non, k_Ty_str_bl, k_Ty_str_int, k_Ty_str_str, k_Ty_str_tup, k_Ty_str_fl, k_Ty_str_ref, k_TyR_str_l, k_TyR_str_d, k_Ty_list_non, k_Ty_list_bl, k_Ty_list_int, k_Ty_list_str, k_Ty_list_tup, k_Ty_list_fl, k_Ty_list_ref, k_TyR_list_l, k_TyR_list_d, k_Ty_dict_non, k_Ty_dict_bl, k_Ty_dict_int, k_Ty_dict_str, k_Ty_dict_tup, k_Ty_dict_fl, k_Ty_dict_ref, k_TyR_dict_l, k_TyR_dict_d, k_Ty_bool_non, k_Ty_bool_bl, k_Ty_bool_int, k_Ty_bool_str, k_Ty_bool_tup, k_Ty_bool_fl, k_Ty_bool_ref, k_TyR_bool_l, k_TyR_bool_d, w_oNone, w_oSome, k_O, w_slM, k_S1, k_S2, k_S3, w_tupM, k_Tup, w_lstM, k_Lst, w_newDic, w_appM, k_Ap1, k_Ap2, k_Ap3, k_Ap4, w_compL, k_CL, w_compCall, w_compMaxD, k_M1, k_M2, k_M3, w_sNil, w_sSeq, k_SqN, k_SqR, k_SqB, k_SqC, w_sExpr, k_Ex, w_sRet, k_Re, w_sRetN, w_sBrk, w_sCt, w_sIf, k_IfT, k_IfF, w_sSet, k_St, w_sSetC, k_StC, w_sAsg, k_As, k_As2, w_gN, w_gSb, k_G1, k_G2, k_G3, w_gTp, w_gsNil, w_gsCons, k_Gs, w_run, k_RtR, k_RtN, w_srcM, k_Sr, s_T, s_F, s_S, s_R, s_RL, w_rng1, k_R1, w_rng2, k_R2, k_R3, w_sFor, k_Fo, w_compM, k_Co, w_stepC, k_XT, k_XF, k_Y, w_tTrue, o_addI, o_addS, o_addT, o_sub, o_mul, o_div, o_mod, o_pow, o_lt, o_le, o_gt, o_ge, o_eqI, o_eqS, o_neI, o_neS, o_eqB, o_isN, o_notN, n_n, n_b, n_i, n_s, n_t, n_f, n_r, o_ixT, o_ixF, o_ixS, k_Ch, o_ixR, k_IxL, k_IxD, o_setR, k_SeL, k_SeJ, k_SeI, k_SeS, o_lenT, o_lenF, o_lenS, o_lenR, k_LeL, k_LeD, o_int, o_abs, o_max2, o_min2, o_tup, k_Seq, o_lst, k_Ls, q_T, q_F, q_R, q_RL, o_slT, o_slS, o_slF, o_slR, k_SlR, o_cTup, k_In, k_Bs, o_cSum, o_cAll, o_cAny, e_opt, e_get0, e_getS, k_LpN, k_LpC, k_LpB, k_LpR, atI_0, atI_1, atI_2, atI_3, atI_4, ixN_0, ixN_1, ixN_2, ixN_3, List.set_cons_zero, List.set_cons_succ, List.getElem?_cons_zero, List.getElem?_cons_succ, List.map_cons, List.map_nil, List.cons_append, List.nil_append, List.length_cons, List.length_nil, List.replicate_succ, List.replicate_zero, decide_true, decide_false, Bool.not_true, Bool.not_false, true_and, and_true, Nat.sub_self, Nat.zero_add, k_onNx, decide_eq_true_eq, W_ok, w_tru, k_TruB, k_TruI, k_TruN, k_TruT, k_TruF, k_TruR, k_TruL, k_TruD, i_nil, i_cons, k_Bl, k_Bn, o_inR, o_ninR, o_inF, o_ninF, k_In0L, k_In0Di, k_In0Ds, k_InL, sn_i, sn_s, sn_t, sn_f, sn_b, sn_n, w_get1, k_Gt1, k_Gt2, k_Gt3i, k_Gt3s, k_Gt4, w_get2, k_Ht1, k_Ht2, k_Ht3, k_Ht4i, k_Ht4s, o_lisR, k_LisL, k_LisD, o_lisT, o_lisF, w_pop, k_Po1, k_Po2, k_Po3, o_srtR, k_SrtL, k_SrtD, k_SrtLs, k_SrtDs, ints_nums, o_str, w_popAt, k_Pa, k_Pa1, k_Pa2, k_Pa3, k_Pa4, o_addR, k_AddL, o_geA, o_geT, o_intB, h1, h2, set_at h1]
      repeat (refine And.intro (by first | omega | decide | (split <;> omega) | (simp only [List.length_map, List.length_append, List.length_cons, List.length_nil]; omega)) ?_)
      have hx : 0 ≤ (c * 48271 + a + 1) % 2147483647 := Int.emod_nonneg _ (by decide)
      generalize (c * 48271 + a + 1) % 2147483647 = x at hx ⊢
      refine if_d (fun ex => ?_) (fun ex => ?_)
      · simp -implicitDefEqProofs only [w_vr, w_cst, w_bin2, k_B1, k_B2, w_tst, k_T, w_andT, k_AnT, k_AnF, w_orT, k_OrT, k_OrF, w_notT, k_No, w_andV, k_AnVT, k_AnVF, w_orV, k_OrVT, k_OrVF, w_notV, k_NoV, w_ifV, k_IfVT, k_IfVF, w_aNil, w_aCons, k_A1, k_A2, w_callM, k_C, w_isi, k_Ty_int_non, k_Ty_int_bl, k_Ty_int_int, k_Ty_int_str, k_Ty_int_tup, k_Ty_int_fl, k_Ty_int_ref, k_TyR_int_l, k_TyR_int_d, k_Ty_tuple_non, k_Ty_tuple_bl, k_Ty_tuple_int, k_Ty_tuple_str, k_Ty_tuple_tup, k_Ty_tuple_fl, k_Ty_tuple_ref, k_TyR_tuple_l, k_TyR_tuple_d, k_Ty_str_non, k_Ty_str_bl, k_Ty_str_int, k_Ty_str_str, k_Ty_str_tup, k_Ty_str_fl, k_Ty_str_ref, k_TyR_str_l, k_TyR_str_d, k_Ty_list_non, k_Ty_list_bl, k_Ty_list_int, k_Ty_list_str, k_Ty_list_tup, k_Ty_list_fl, k_Ty_list_ref, k_TyR_list_l, k_TyR_list_d, k_Ty_dict_non, k_Ty_dict_bl, k_Ty_dict_int, k_Ty_dict_str, k_Ty_dict_tup, k_Ty_dict_fl, k_Ty_dict_ref, k_TyR_dict_l, k_TyR_dict_d, k_Ty_bool_non, k_Ty_bool_bl, k_Ty_bool_int, k_Ty_bool_str, k_Ty_bool_tup, k_Ty_bool_fl, k_Ty_bool_ref, k_TyR_bool_l, k_TyR_bool_d, w_oNone, w_oSome, k_O, w_slM, k_S1, k_S2, k_S3, w_tupM, k_Tup, w_lstM, k_Lst, w_newDic, w_appM, k_Ap1, k_Ap2, k_Ap3, k_Ap4, w_compL, k_CL, w_compCall, w_compMaxD, k_M1, k_M2, k_M3, w_sNil, w_sSeq, k_SqN, k_SqR, k_SqB, k_SqC, w_sExpr, k_Ex, w_sRet, k_Re, w_sRetN, w_sBrk, w_sCt, w_sIf, k_IfT, k_IfF, w_sSet, k_St, w_sSetC, k_StC, w_sAsg, k_As, k_As2, w_gN, w_gSb, k_G1, k_G2, k_G3, w_gTp, w_gsNil, w_gsCons, k_Gs, w_run, k_RtR, k_RtN, w_srcM, k_Sr, s_T, s_F, s_S, s_R, s_RL, w_rng1, k_R1, w_rng2, k_R2, k_R3, w_sFor, k_Fo, w_compM, k_Co, w_stepC, k_XT, k_XF, k_Y, w_tTrue, o_addI, o_addS, o_addT, o_sub, o_mul, o_div, o_mod, o_pow, o_lt, o_le, o_gt, o_ge, o_eqI, o_eqS, o_neI, o_neS, o_eqB, o_isN, o_notN, n_n, n_b, n_i, n_s, n_t, n_f, n_r, o_ixT, o_ixF, o_ixS, k_Ch, o_ixR, k_IxL, k_IxD, o_setR, k_SeL, k_SeJ, k_SeI, k_SeS, o_lenT, o_lenF, o_lenS, o_lenR, k_LeL, k_LeD, o_int, o_abs, o_max2, o_min2, o_tup, k_Seq, o_lst, k_Ls, q_T, q_F, q_R, q_RL, o_slT, o_slS, o_slF, o_slR, k_SlR, o_cTup, k_In, k_Bs, o_cSum, o_cAll, o_cAny, e_opt, e_get0, e_getS, k_LpN, k_LpC, k_LpB, k_LpR, atI_0, atI_1, atI_2, atI_3, atI_4, ixN_0, ixN_1, ixN_2, ixN_3, List.set_cons_zero, List.set_cons_succ, List.getElem?_cons_zero, List.getElem?_cons_succ, List.map_cons, List.map_nil, List.cons_append, List.nil_append, List.length_cons, List.length_nil, List.replicate_succ, List.replicate_zero, decide_true, decide_false, Bool.not_true, Bool.not_false, true_and, and_true, Nat.sub_self, Nat.zero_add, k_onNx, decide_eq_true_eq, W_ok, w_tru, k_TruB, k_TruI, k_TruN, k_TruT, k_TruF, k_TruR, k_TruL, k_TruD, i_nil, i_cons, k_Bl, k_Bn, o_inR, o_ninR, o_inF, o_ninF, k_In0L, k_In0Di, k_In0Ds, k_InL, sn_i, sn_s, sn_t, sn_f, sn_b, sn_n, w_get1, k_Gt1, k_Gt2, k_Gt3i, k_Gt3s, k_Gt4, w_get2, k_Ht1, k_Ht2, k_Ht3, k_Ht4i, k_Ht4s, o_lisR, k_LisL, k_LisD, o_lisT, o_lisF, w_pop, k_Po1, k_Po2, k_Po3, o_srtR, k_SrtL, k_SrtD, k_SrtLs, k_SrtDs, ints_nums, o_str, w_popAt, k_Pa, k_Pa1, k_Pa2, k_Pa3, k_Pa4, o_addR, k_AddL, o_geA, o_geT, o_intB, set_at (set_at h1)]
        repeat (refine And.intro (by first | omega | decide | (split <;> omega) | (simp only [List.length_map, List.length_append, List.length_cons, List.length_nil]; omega)) ?_)
        exact fin _ _ _ _ _ (Int.emod_nonneg _ (by decide)) (by omega) (by decide) hx Ev.refl.set.set (set_at (set_at h1))
      · simp -implicitDefEqProofs only [w_vr, w_cst, w_bin2, k_B1, k_B2, w_tst, k_T, w_andT, k_AnT, k_AnF, w_orT, k_OrT, k_OrF, w_notT, k_No, w_andV, k_AnVT, k_AnVF, w_orV, k_OrVT, k_OrVF, w_notV, k_NoV, w_ifV, k_IfVT, k_IfVF, w_aNil, w_aCons, k_A1, k_A2, w_callM, k_C, w_isi, k_Ty_int_non, k_Ty_int_bl, k_Ty_int_int, k_Ty_int_str, k_Ty_int_tup, k_Ty_int_fl, k_Ty_int_ref, k_TyR_int_l, k_TyR_int_d, k_Ty_tuple_non, k_Ty_tuple_bl, k_Ty_tuple_int, k_Ty_tuple_str, k_Ty_tuple_tup, k_Ty_tuple_fl, k_Ty_tuple_ref, k_TyR_tuple_l, k_TyR_tuple_d, k_Ty_str_non, k_Ty_str_bl, k_Ty_str_int, k_Ty_str_str, k_Ty_str_tup, k_Ty_str_fl, k_Ty_str_ref, k_TyR_str_l, k_TyR_str_d, k_Ty_list_non, k_Ty_list_bl, k_Ty_list_int, k_Ty_list_str, k_Ty_list_tup, k_Ty_list_fl, k_Ty_list_ref, k_TyR_list_l, k_TyR_list_d, k_Ty_dict_non, k_Ty_dict_bl, k_Ty_dict_int, k_Ty_dict_str, k_Ty_dict_tup, k_Ty_dict_fl, k_Ty_dict_ref, k_TyR_dict_l, k_TyR_dict_d, k_Ty_bool_non, k_Ty_bool_bl, k_Ty_bool_int, k_Ty_bool_str, k_Ty_bool_tup, k_Ty_bool_fl, k_Ty_bool_ref, k_TyR_bool_l, k_TyR_bool_d, w_oNone, w_oSome, k_O, w_slM, k_S1, k_S2, k_S3, w_tupM, k_Tup, w_lstM, k_Lst, w_newDic, w_appM, k_Ap1, k_Ap2, k_Ap3, k_Ap4, w_compL, k_CL, w_compCall, w_compMaxD, k_M1, k_M2, k_M3, w_sNil, w_sSeq, k_SqN, k_SqR, k_SqB, k_SqC, w_sExpr, k_Ex, w_sRet, k_Re, w_sRetN, w_sBrk, w_sCt, w_sIf, k_IfT, k_IfF, w_sSet, k_St, w_sSetC, k_StC, w_sAsg, k_As, k_As2, w_gN, w_gSb, k_G1, k_G2, k_G3, w_gTp, w_gsNil, w_gsCons, k_Gs, w_run, k_RtR, k_RtN, w_srcM, k_Sr, s_T, s_F, s_S, s_R, s_RL, w_rng1, k_R1, w_rng2, k_R2, k_R3, w_sFor, k_Fo, w_compM, k_Co, w_stepC, k_XT, k_XF, k_Y, w_tTrue, o_addI, o_addS, o_addT, o_sub, o_mul, o_div, o_mod, o_pow, o_lt, o_le, o_gt, o_ge, o_eqI, o_eqS, o_neI, o_neS, o_eqB, o_isN, o_notN, n_n, n_b, n_i, n_s, n_t, n_f, n_r, o_ixT, o_ixF, o_ixS, k_Ch, o_ixR, k_IxL, k_IxD, o_setR, k_SeL, k_SeJ, k_SeI, k_SeS, o_lenT, o_lenF, o_lenS, o_lenR, k_LeL, k_LeD, o_int, o_abs, o_max2, o_min2, o_tup, k_Seq, o_lst, k_Ls, q_T, q_F, q_R, q_RL, o_slT, o_slS, o_slF, o_slR, k_SlR, o_cTup, k_In, k_Bs, o_cSum, o_cAll, o_cAny, e_opt, e_get0, e_getS, k_LpN, k_LpC, k_LpB, k_LpR, atI_0, atI_1, atI_2, atI_3, atI_4, ixN_0, ixN_1, ixN_2, ixN_3, List.set_cons_zero, List.set_cons_succ, List.getElem?_cons_zero, List.getElem?_cons_succ, List.map_cons, List.map_nil, List.cons_append, List.nil_append, List.length_cons, List.length_nil, List.replicate_succ, List.replicate_zero, decide_true, decide_false, Bool.not_true, Bool.not_false, true_and, and_true, Nat.sub_self, Nat.zero_add, k_onNx, decide_eq_true_eq, W_ok, w_tru, k_TruB, k_TruI, k_TruN, k_TruT, k_TruF, k_TruR, k_TruL, k_TruD, i_nil, i_cons, k_Bl, k_Bn, o_inR, o_ninR, o_inF, o_ninF, k_In0L, k_In0Di, k_In0Ds, k_InL, sn_i, sn_s, sn_t, sn_f, sn_b, sn_n, w_get1, k_Gt1, k_Gt2, k_Gt3i, k_Gt3s, k_Gt4, w_get2, k_Ht1, k_Ht2, k_Ht3, k_Ht4i, k_Ht4s, o_lisR, k_LisL, k_LisD, o_lisT, o_lisF, w_pop, k_Po1, k_Po2, k_Po3, o_srtR, k_SrtL, k_SrtD, k_SrtLs, k_SrtDs, ints_nums, o_str, w_popAt, k_Pa, k_Pa1, k_Pa2, k_Pa3, k_Pa4, o_addR, k_AddL, o_geA, o_geT, o_intB, set_at (set_at h1), set_at (set_at (set_at h1))]
        repeat (refine And.intro (by first | omega | decide | (split <;> omega) | (simp only [List.length_map, List.length_append, List.length_cons, List.length_nil]; omega)) ?_)
        exact fin _ _ _ _ _ hx (by omega) (Int.ediv_nonneg hx (by split <;> omega)) hx Ev.refl.set.set.set.set (set_at (set_at (set_at (set_at h1))))
  · simp -implicitDefEqProofs only [w_vr, w_cst, w_bin2, k_B1, k_B2, w_tst, k_T, w_andT, k_AnT, k_AnF, w_orT, k_OrT, k_OrF, w_notT, k_No, w_andV, k_AnVT, k_AnVF, w_orV, k_OrVT, k_OrVF, w_notV, k_NoV, w_ifV, k_IfVT, k_IfVF, w_aNil, w_aCons, k_A1, k_A2, w_callM, k_C, w_isi, k_Ty_int_non, k_Ty_int_bl, k_Ty_int_int, k_Ty_int_str, k_Ty_int_tup, k_Ty_int_fl, k_Ty_int_ref, k_TyR_int_l, k_TyR_int_d, k_Ty_tuple_non, k_Ty_tuple_bl, k_Ty_tuple_int, k_Ty_tuple_str, k_Ty_tuple_tup, k_Ty_tuple_fl, k_Ty_tuple_ref, k_TyR_tuple_l, k_TyR_tuple_d, k_Ty_str_non, k_Ty_str_bl, k_Ty_str_int, k_Ty_str_str, k_Ty_str_tup, k_Ty_str_fl, k_Ty_str_ref, k_TyR_str_l, k_TyR_str_d, k_Ty_list_non, k_Ty_list_bl, k_Ty_list_int, k_Ty_list_str, k_Ty_list_tup, k_Ty_list_fl, k_Ty_list_ref, k_TyR_list_l, k_TyR_list_d, k_Ty_dict_non, k_Ty_dict_bl, k_Ty_dict_int, k_Ty_dict_str, k_Ty_dict_tup, k_Ty_dict_fl, k_Ty_dict_ref, k_TyR_dict_l, k_TyR_dict_d, k_Ty_bool_non, k_Ty_bool_bl, k_Ty_bool_int, k_Ty_bool_str, k_Ty_bool_tup, k_Ty_bool_fl, k_Ty_bool_ref, k_TyR_bool_l, k_TyR_bool_d, w_oNone, w_oSome, k_O, w_slM, k_S1, k_S2, k_S3, w_tupM, k_Tup, w_lstM, k_Lst, w_newDic, w_appM, k_Ap1, k_Ap2, k_Ap3, k_Ap4, w_compL, k_CL, w_compCall, w_compMaxD, k_M1, k_M2, k_M3, w_sNil, w_sSeq, k_SqN, k_SqR, k_SqB, k_SqC, w_sExpr, k_Ex, w_sRet, k_Re, w_sRetN, w_sBrk, w_sCt, w_sIf, k_IfT, k_IfF, w_sSet, k_St, w_sSetC, k_StC, w_sAsg, k_As, k_As2, w_gN, w_gSb, k_G1, k_G2, k_G3, w_gTp, w_gsNil, w_gsCons, k_Gs, w_run, k_RtR, k_RtN, w_srcM, k_Sr, s_T, s_F, s_S, s_R, s_RL, w_rng1, k_R1, w_rng2, k_R2, k_R3, w_sFor, k_Fo, w_compM, k_Co, w_stepC, k_XT, k_XF, k_Y, w_tTrue, o_addI, o_addS, o_addT, o_sub, o_mul, o_div, o_mod, o_pow, o_lt, o_le, o_gt, o_ge, o_eqI, o_eqS, o_neI, o_neS, o_eqB, o_isN, o_notN, n_n, n_b, n_i, n_s, n_t, n_f, n_r, o_ixT, o_ixF, o_ixS, k_Ch, o_ixR, k_IxL, k_IxD, o_setR, k_SeL, k_SeJ, k_SeI, k_SeS, o_lenT, o_lenF, o_lenS, o_lenR, k_LeL, k_LeD, o_int, o_abs, o_max2, o_min2, o_tup, k_Seq, o_lst, k_Ls, q_T, q_F, q_R, q_RL, o_slT, o_slS, o_slF, o_slR, k_SlR, o_cTup, k_In, k_Bs, o_cSum, o_cAll, o_cAny, e_opt, e_get0, e_getS, k_LpN, k_LpC, k_LpB, k_LpR, atI_0, atI_1, atI_2, atI_3, atI_4, ixN_0, ixN_1, ixN_2, ixN_3, List.set_cons_zero, List.set_cons_succ, List.getElem?_cons_zero, List.getElem?_cons_succ, List.map_cons, List.map_nil, List.cons_append, List.nil_append, List.length_cons, List.length_nil, List.replicate_succ, List.replicate_zero, decide_true, decide_false, Bool.not_true, Bool.not_false, true_and, and_true, Nat.sub_self, Nat.zero_add, k_onNx, decide_eq_true_eq, W_ok, w_tru, k_TruB, k_TruI, k_TruN, k_TruT, k_TruF, k_TruR, k_TruL, k_TruD, i_nil, i_cons, k_Bl, k_Bn, o_inR, o_ninR, o_inF, o_ninF, k_In0L, k_In0Di, k_In0Ds, k_InL, sn_i, sn_s, sn_t, sn_f, sn_b, sn_n, w_get1, k_Gt1, k_Gt2, k_Gt3i, k_Gt3s, k_Gt4, w_get2, k_Ht1, k_Ht2, k_Ht3, k_Ht4i, k_Ht4s, o_lisR, k_LisL, k_LisD, o_lisT, o_lisF, w_pop, k_Po1, k_Po2, k_Po3, o_srtR, k_SrtL, k_SrtD, k_SrtLs, k_SrtDs, ints_nums, o_str, w_popAt, k_Pa, k_Pa1, k_Pa2, k_Pa3, k_Pa4, o_addR, k_AddL, o_geA, o_geT, o_intB, h1, h2, set_at h1]
    repeat (refine And.intro (by first | omega | decide | (split <;> omega) | (simp only [List.length_map, List.length_append, List.length_cons, List.length_nil]; omega)) ?_)
    exact fin b a _ c _ hb ha (Int.ediv_nonneg hb (by split <;> omega)) hc Ev.refl.set (set_at h1)

theorem tape_ok (n : Nat) (ns : List Int) (h : DHeap) (hl : ns.length ≤ 63) :
    W (run (n + 1) i__law_tape [.fl (ns.map .int)] h) (fun d h' => d = .ref (h.length + 1) ∧ Tape h' (h.length + 1) ∧ ∀ (k : Nat) (c : Cell), h[k]? = some c → h'[k]? = some c) := by
  rw [r__law_tape]
  unfold B__law_tape
  simp -implicitDefEqProofs only [w_vr, w_cst, w_bin2, k_B1, k_B2, w_tst, k_T, w_andT, k_AnT, k_AnF, w_orT, k_OrT, k_OrF, w_notT, k_No, w_andV, k_AnVT, k_AnVF, w_orV, k_OrVT, k_OrVF, w_notV, k_NoV, w_ifV, k_IfVT, k_IfVF, w_aNil, w_aCons, k_A1, k_A2, w_callM, k_C, w_isi, k_Ty_int_non, k_Ty_int_bl, k_Ty_int_int, k_Ty_int_str, k_Ty_int_tup, k_Ty_int_fl, k_Ty_int_ref, k_TyR_int_l, k_TyR_int_d, k_Ty_tuple_non, k_Ty_tuple_bl, k_Ty_tuple_int, k_Ty_tuple_str, k_Ty_tuple_tup, k_Ty_tuple_fl, k_Ty_tuple_ref, k_TyR_tuple_l, k_TyR_tuple_d, k_Ty_str_non, k_Ty_str_bl, k_Ty_str_int, k_Ty_str_str, k_Ty_str_tup, k_Ty_str_fl, k_Ty_str_ref, k_TyR_str_l, k_TyR_str_d, k_Ty_list_non, k_Ty_list_bl, k_Ty_list_int, k_Ty_list_str, k_Ty_list_tup, k_Ty_list_fl, k_Ty_list_ref, k_TyR_list_l, k_TyR_list_d, k_Ty_dict_non, k_Ty_dict_bl, k_Ty_dict_int, k_Ty_dict_str, k_Ty_dict_tup, k_Ty_dict_fl, k_Ty_dict_ref, k_TyR_dict_l, k_TyR_dict_d, k_Ty_bool_non, k_Ty_bool_bl, k_Ty_bool_int, k_Ty_bool_str, k_Ty_bool_tup, k_Ty_bool_fl, k_Ty_bool_ref, k_TyR_bool_l, k_TyR_bool_d, w_oNone, w_oSome, k_O, w_slM, k_S1, k_S2, k_S3, w_tupM, k_Tup, w_lstM, k_Lst, w_newDic, w_appM, k_Ap1, k_Ap2, k_Ap3, k_Ap4, w_compL, k_CL, w_compCall, w_compMaxD, k_M1, k_M2, k_M3, w_sNil, w_sSeq, k_SqN, k_SqR, k_SqB, k_SqC, w_sExpr, k_Ex, w_sRet, k_Re, w_sRetN, w_sBrk, w_sCt, w_sIf, k_IfT, k_IfF, w_sSet, k_St, w_sSetC, k_StC, w_sAsg, k_As, k_As2, w_gN, w_gSb, k_G1, k_G2, k_G3, w_gTp, w_gsNil, w_gsCons, k_Gs, w_run, k_RtR, k_RtN, w_srcM, k_Sr, s_T, s_F, s_S, s_R, s_RL, w_rng1, k_R1, w_rng2, k_R2, k_R3, w_sFor, k_Fo, w_compM, k_Co, w_stepC, k_XT, k_XF, k_Y, w_tTrue, o_addI, o_addS, o_addT, o_sub, o_mul, o_div, o_mod, o_pow, o_lt, o_le, o_gt, o_ge, o_eqI, o_eqS, o_neI, o_neS, o_eqB, o_isN, o_notN, n_n, n_b, n_i, n_s, n_t, n_f, n_r, o_ixT, o_ixF, o_ixS, k_Ch, o_ixR, k_IxL, k_IxD, o_setR, k_SeL, k_SeJ, k_SeI, k_SeS, o_lenT, o_lenF, o_lenS, o_lenR, k_LeL, k_LeD, o_int, o_abs, o_max2, o_min2, o_tup, k_Seq, o_lst, k_Ls, q_T, q_F, q_R, q_RL, o_slT, o_slS, o_slF, o_slR, k_SlR, o_cTup, k_In, k_Bs, o_cSum, o_cAll, o_cAny, e_opt, e_get0, e_getS, k_LpN, k_LpC, k_LpB, k_LpR, atI_0, atI_1, atI_2, atI_3, atI_4, ixN_0, ixN_1, ixN_2, ixN_3, List.set_cons_zero, List.set_cons_succ, List.getElem?_cons_zero, List.getElem?_cons_succ, List.map_cons, List.map_nil, List.cons_append, List.nil_append, List.length_cons, List.length_nil, List.replicate_succ, List.replicate_zero, decide_true, decide_false, Bool.not_true, Bool.not_false, true_and, and_true, Nat.sub_self, Nat.zero_add, k_onNx, decide_eq_true_eq, W_ok, w_tru, k_TruB, k_TruI, k_TruN, k_TruT, k_TruF, k_TruR, k_TruL, k_TruD, i_nil, i_cons, k_Bl, k_Bn, o_inR, o_ninR, o_inF, o_ninF, k_In0L, k_In0Di, k_In0Ds, k_InL, sn_i, sn_s, sn_t, sn_f, sn_b, sn_n, w_get1, k_Gt1, k_Gt2, k_Gt3i, k_Gt3s, k_Gt4, w_get2, k_Ht1, k_Ht2, k_Ht3, k_Ht4i, k_Ht4s, o_lisR, k_LisL, k_LisD, o_lisT, o_lisF, w_pop, k_Po1, k_Po2, k_Po3, o_srtR, k_SrtL, k_SrtD, k_SrtLs, k_SrtDs, ints_nums, o_str, w_popAt, k_Pa, k_Pa1, k_Pa2, k_Pa3, k_Pa4, o_addR, k_AddL, o_geA, o_geT, o_intB]
  refine loopS_i (fun _ σ h' => h' = h ∧ ∃ t y, σ = [some (.fl (ns.map .int)), some (.int t), y] ∧ 0 ≤ t) ⟨rfl, 7, none, rfl, by decide⟩ (fun _ _ _ _ => trivial) (fun i σ h' x ex p => ?_) fun σ h' p => ?_
  · obtain ⟨rfl, t, y, rfl, ht⟩ := p
    obtain ⟨v, _, rfl⟩ := List.mem_map.mp (List.mem_of_getElem? ex)
    simp -implicitDefEqProofs only [w_vr, w_cst, w_bin2, k_B1, k_B2, w_tst, k_T, w_andT, k_AnT, k_AnF, w_orT, k_OrT, k_OrF, w_notT, k_No, w_andV, k_AnVT, k_AnVF, w_orV, k_OrVT, k_OrVF, w_notV, k_NoV, w_ifV, k_IfVT, k_IfVF, w_aNil, w_aCons, k_A1, k_A2, w_callM, k_C, w_isi, k_Ty_int_non, k_Ty_int_bl, k_Ty_int_int, k_Ty_int_str, k_Ty_int_tup, k_Ty_int_fl, k_Ty_int_ref, k_TyR_int_l, k_TyR_int_d, k_Ty_tuple_non, k_Ty_tuple_bl, k_Ty_tuple_int, k_Ty_tuple_str, k_Ty_tuple_tup, k_Ty_tuple_fl, k_Ty_tuple_ref, k_TyR_tuple_l, k_TyR_tuple_d, k_Ty_str_non, k_Ty_str_bl, k_Ty_str_int, k_Ty_str_str, k_Ty_str_tup, k_Ty_str_fl, k_Ty_str_ref, k_TyR_str_l, k_TyR_str_d, k_Ty_list_non, k_Ty_list_bl, k_Ty_list_int, k_Ty_list_str, k_Ty_list_tup, k_Ty_list_fl, k_Ty_list_ref, k_TyR_list_l, k_TyR_list_d, k_Ty_dict_non, k_Ty_dict_bl, k_Ty_dict_int, k_Ty_dict_str, k_Ty_dict_tup, k_Ty_dict_fl, k_Ty_dict_ref, k_TyR_dict_l, k_TyR_dict_d, k_Ty_bool_non, k_Ty_bool_bl, k_Ty_bool_int, k_Ty_bool_str, k_Ty_bool_tup, k_Ty_bool_fl, k_Ty_bool_ref, k_TyR_bool_l, k_TyR_bool_d, w_oNone, w_oSome, k_O, w_slM, k_S1, k_S2, k_S3, w_tupM, k_Tup, w_lstM, k_Lst, w_newDic, w_appM, k_Ap1, k_Ap2, k_Ap3, k_Ap4, w_compL, k_CL, w_compCall, w_compMaxD, k_M1, k_M2, k_M3, w_sNil, w_sSeq, k_SqN, k_SqR, k_SqB, k_SqC, w_sExpr, k_Ex, w_sRet, k_Re, w_sRetN, w_sBrk, w_sCt, w_sIf, k_IfT, k_IfF, w_sSet, k_St, w_sSetC, k_StC, w_sAsg, k_As, k_As2, w_gN, w_gSb, k_G1, k_G2, k_G3, w_gTp, w_gsNil, w_gsCons, k_Gs, w_run, k_RtR, k_RtN, w_srcM, k_Sr, s_T, s_F, s_S, s_R, s_RL, w_rng1, k_R1, w_rng2, k_R2, k_R3, w_sFor, k_Fo, w_compM, k_Co, w_stepC, k_XT, k_XF, k_Y, w_tTrue, o_addI, o_addS, o_addT, o_sub, o_mul, o_div, o_mod, o_pow, o_lt, o_le, o_gt, o_ge, o_eqI, o_eqS, o_neI, o_neS, o_eqB, o_isN, o_notN, n_n, n_b, n_i, n_s, n_t, n_f, n_r, o_ixT, o_ixF, o_ixS, k_Ch, o_ixR, k_IxL, k_IxD, o_setR, k_SeL, k_SeJ, k_SeI, k_SeS, o_lenT, o_lenF, o_lenS, o_lenR, k_LeL, k_LeD, o_int, o_abs, o_max2, o_min2, o_tup, k_Seq, o_lst, k_Ls, q_T, q_F, q_R, q_RL, o_slT, o_slS, o_slF, o_slR, k_SlR, o_cTup, k_In, k_Bs, o_cSum, o_cAll, o_cAny, e_opt, e_get0, e_getS, k_LpN, k_LpC, k_LpB, k_LpR, atI_0, atI_1, atI_2, atI_3, atI_4, ixN_0, ixN_1, ixN_2, ixN_3, List.set_cons_zero, List.set_cons_succ, List.getElem?_cons_zero, List.getElem?_cons_succ, List.map_cons, List.map_nil, List.cons_append, List.nil_append, List.length_cons, List.length_nil, List.replicate_succ, List.replicate_zero, decide_true, decide_false, Bool.not_true, Bool.not_false, true_and, and_true, Nat.sub_self, Nat.zero_add, k_onNx, decide_eq_true_eq, W_ok, w_tru, k_TruB, k_TruI, k_TruN, k_TruT, k_TruF, k_TruR, k_TruL, k_TruD, i_nil, i_cons, k_Bl, k_Bn, o_inR, o_ninR, o_inF, o_ninF, k_In0L, k_In0Di, k_In0Ds, k_InL, sn_i, sn_s, sn_t, sn_f, sn_b, sn_n, w_get1, k_Gt1, k_Gt2, k_Gt3i, k_Gt3s, k_Gt4, w_get2, k_Ht1, k_Ht2, k_Ht3, k_Ht4i, k_Ht4s, o_lisR, k_LisL, k_LisD, o_lisT, o_lisF, w_pop, k_Po1, k_Po2, k_Po3, o_srtR, k_SrtL, k_SrtD, k_SrtLs, k_SrtDs, ints_nums, o_str, w_popAt, k_Pa, k_Pa1, k_Pa2, k_Pa3, k_Pa4, o_addR, k_AddL, o_geA, o_geT, o_intB]
    repeat (refine And.intro (by first | omega | decide | (split <;> omega) | (simp only [List.length_map, List.length_append, List.length_cons, List.length_nil]; omega)) ?_)
    exact ⟨_, _, rfl, Int.emod_nonneg _ (by decide)⟩
  · obtain ⟨rfl, t, y, rfl, ht⟩ := p
    simp -implicitDefEqProofs only [w_vr, w_cst, w_bin2, k_B1, k_B2, w_tst, k_T, w_andT, k_AnT, k_AnF, w_orT, k_OrT, k_OrF, w_notT, k_No, w_andV, k_AnVT, k_AnVF, w_orV, k_OrVT, k_OrVF, w_notV, k_NoV, w_ifV, k_IfVT, k_IfVF, w_aNil, w_aCons, k_A1, k_A2, w_callM, k_C, w_isi, k_Ty_int_non, k_Ty_int_bl, k_Ty_int_int, k_Ty_int_str, k_Ty_int_tup, k_Ty_int_fl, k_Ty_int_ref, k_TyR_int_l, k_TyR_int_d, k_Ty_tuple_non, k_Ty_tuple_bl, k_Ty_tuple_int, k_Ty_tuple_str, k_Ty_tuple_tup, k_Ty_tuple_fl, k_Ty_tuple_ref, k_TyR_tuple_l, k_TyR_tuple_d, k_Ty_str_non, k_Ty_str_bl, k_Ty_str_int, k_Ty_str_str, k_Ty_str_tup, k_Ty_str_fl, k_Ty_str_ref, k_TyR_str_l, k_TyR_str_d, k_Ty_list_non, k_Ty_list_bl, k_Ty_list_int, k_Ty_list_str, k_Ty_list_tup, k_Ty_list_fl, k_Ty_list_ref, k_TyR_list_l, k_TyR_list_d, k_Ty_dict_non, k_Ty_dict_bl, k_Ty_dict_int, k_Ty_dict_str, k_Ty_dict_tup, k_Ty_dict_fl, k_Ty_dict_ref, k_TyR_dict_l, k_TyR_dict_d, k_Ty_bool_non, k_Ty_bool_bl, k_Ty_bool_int, k_Ty_bool_str, k_Ty_bool_tup, k_Ty_bool_fl, k_Ty_bool_ref, k_TyR_bool_l, k_TyR_bool_d, w_oNone, w_oSome, k_O, w_slM, k_S1, k_S2, k_S3, w_tupM, k_Tup, w_lstM, k_Lst, w_newDic, w_appM, k_Ap1, k_Ap2, k_Ap3, k_Ap4, w_compL, k_CL, w_compCall, w_compMaxD, k_M1, k_M2, k_M3, w_sNil, w_sSeq, k_SqN, k_SqR, k_SqB, k_SqC, w_sExpr, k_Ex, w_sRet, k_Re, w_sRetN, w_sBrk, w_sCt, w_sIf, k_IfT, k_IfF, w_sSet, k_St, w_sSetC, k_StC, w_sAsg, k_As, k_As2, w_gN, w_gSb, k_G1, k_G2, k_G3, w_gTp, w_gsNil, w_gsCons, k_Gs, w_run, k_RtR, k_RtN, w_srcM, k_Sr, s_T, s_F, s_S, s_R, s_RL, w_rng1, k_R1, w_rng2, k_R2, k_R3, w_sFor, k_Fo, w_compM, k_Co, w_stepC, k_XT, k_XF, k_Y, w_tTrue, o_addI, o_addS, o_addT, o_sub, o_mul, o_div, o_mod, o_pow, o_lt, o_le, o_gt, o_ge, o_eqI, o_eqS, o_neI, o_neS, o_eqB, o_isN, o_notN, n_n, n_b, n_i, n_s, n_t, n_f, n_r, o_ixT, o_ixF, o_ixS, k_Ch, o_ixR, k_IxL, k_IxD, o_setR, k_SeL, k_SeJ, k_SeI, k_SeS, o_lenT, o_lenF, o_lenS, o_lenR, k_LeL, k_LeD, o_int, o_abs, o_max2, o_min2, o_tup, k_Seq, o_lst, k_Ls, q_T, q_F, q_R, q_RL, o_slT, o_slS, o_slF, o_slR, k_SlR, o_cTup, k_In, k_Bs, o_cSum, o_cAll, o_cAny, e_opt, e_get0, e_getS, k_LpN, k_LpC, k_LpB, k_LpR, atI_0, atI_1, atI_2, atI_3, atI_4, ixN_0, ixN_1, ixN_2, ixN_3, List.set_cons_zero, List.set_cons_succ, List.getElem?_cons_zero, List.getElem?_cons_succ, List.map_cons, List.map_nil, List.cons_append, List.nil_append, List.length_cons, List.length_nil, List.replicate_succ, List.replicate_zero, decide_true, decide_false, Bool.not_true, Bool.not_false, true_and, and_true, Nat.sub_self, Nat.zero_add, k_onNx, decide_eq_true_eq, W_ok, w_tru, k_TruB, k_TruI, k_TruN, k_TruT, k_TruF, k_TruR, k_TruL, k_TruD, i_nil, i_cons, k_Bl, k_Bn, o_inR, o_ninR, o_inF, o_ninF, k_In0L, k_In0Di, k_In0Ds, k_InL, sn_i, sn_s, sn_t, sn_f, sn_b, sn_n, w_get1, k_Gt1, k_Gt2, k_Gt3i, k_Gt3s, k_Gt4, w_get2, k_Ht1, k_Ht2, k_Ht3, k_Ht4i, k_Ht4s, o_lisR, k_LisL, k_LisD, o_lisT, o_lisF, w_pop, k_Po1, k_Po2, k_Po3, o_srtR, k_SrtL, k_SrtD, k_SrtLs, k_SrtDs, ints_nums, o_str, w_popAt, k_Pa, k_Pa1, k_Pa2, k_Pa3, k_Pa4, o_addR, k_AddL, o_geA, o_geT, o_intB]
    repeat (refine And.intro (by first | omega | decide | (split <;> omega) | (simp only [List.length_map, List.length_append, List.length_cons, List.length_nil]; omega)) ?_)
    refine ⟨by simp, ⟨h'.length, ns, 0, 0, t, ?_, ?_, rfl, hl, by decide, by decide, ht⟩, fun k c e => app_at (app_at e)⟩
    · rw [show h'.length + 1 = (h' ++ [Cell.lst (ns.map .int)]).length by simp]
      exact app_end
    · exact app_at app_end

def rowD (r : List Int) : D := .tup (r.map D.int)
theorem choices_ok (n tr : Nat) (ts : List Int) (m : Nat) (mi : Int) (hmi : mi = m) (h : DHeap) (ht : h[tr]? = some (.lst (ts.map D.int))) (h4 : m ≤ 4) (h5 : ts.length ≤ 4) :
    W (run (n + 1) i__law_choices [.ref tr, .int mi] h) (fun d h' => ∃ r, d = .ref r ∧ h'[r]? = some (.lst ((chs ts m).map rowD)) ∧ ∀ (k : Nat) (c : Cell), h[k]? = some c → h'[k]? = some c) := by
  have big : ∀ k, k ≤ 4 → (chs ts k).length ≤ 256 := fun k hk => by
    rw [chs_len]
    exact Nat.le_trans (Nat.pow_le_pow_left h5 k) (Nat.le_trans (Nat.pow_le_pow_right (by decide) hk) (by decide))
  rw [r__law_choices]
  unfold B__law_choices
  simp -implicitDefEqProofs only [w_vr, w_cst, w_bin2, k_B1, k_B2, w_tst, k_T, w_andT, k_AnT, k_AnF, w_orT, k_OrT, k_OrF, w_notT, k_No, w_andV, k_AnVT, k_AnVF, w_orV, k_OrVT, k_OrVF, w_notV, k_NoV, w_ifV, k_IfVT, k_IfVF, w_aNil, w_aCons, k_A1, k_A2, w_callM, k_C, w_isi, k_Ty_int_non, k_Ty_int_bl, k_Ty_int_int, k_Ty_int_str, k_Ty_int_tup, k_Ty_int_fl, k_Ty_int_ref, k_TyR_int_l, k_TyR_int_d, k_Ty_tuple_non, k_Ty_tuple_bl, k_Ty_tuple_int, k_Ty_tuple_str, k_Ty_tuple_tup, k_Ty_tuple_fl, k_Ty_tuple_ref, k_TyR_tuple_l, k_TyR_tuple_d, k_Ty_str_non, k_Ty_str_bl, k_Ty_str_int, k_Ty_str_str, k_Ty_str_tup, k_Ty_str_fl, k_Ty_str_ref, k_TyR_str_l, k_TyR_str_d, k_Ty_list_non, k_Ty_list_bl, k_Ty_list_int, k_Ty_list_str, k_Ty_list_tup, k_Ty_list_fl, k_Ty_list_ref, k_TyR_list_l, k_TyR_list_d, k_Ty_dict_non, k_Ty_dict_bl, k_Ty_dict_int, k_Ty_dict_str, k_Ty_dict_tup, k_Ty_dict_fl, k_Ty_dict_ref, k_TyR_dict_l, k_TyR_dict_d, k_Ty_bool_non, k_Ty_bool_bl, k_Ty_bool_int, k_Ty_bool_str, k_Ty_bool_tup, k_Ty_bool_fl, k_Ty_bool_ref, k_TyR_bool_l, k_TyR_bool_d, w_oNone, w_oSome, k_O, w_slM, k_S1, k_S2, k_S3, w_tupM, k_Tup, w_lstM, k_Lst, w_newDic, w_appM, k_Ap1, k_Ap2, k_Ap3, k_Ap4, w_compL, k_CL, w_compCall, w_compMaxD, k_M1, k_M2, k_M3, w_sNil, w_sSeq, k_SqN, k_SqR, k_SqB, k_SqC, w_sExpr, k_Ex, w_sRet, k_Re, w_sRetN, w_sBrk, w_sCt, w_sIf, k_IfT, k_IfF, w_sSet, k_St, w_sSetC, k_StC, w_sAsg, k_As, k_As2, w_gN, w_gSb, k_G1, k_G2, k_G3, w_gTp, w_gsNil, w_gsCons, k_Gs, w_run, k_RtR, k_RtN, w_srcM, k_Sr, s_T, s_F, s_S, s_R, s_RL, w_rng1, k_R1, w_rng2, k_R2, k_R3, w_sFor, k_Fo, w_compM, k_Co, w_stepC, k_XT, k_XF, k_Y, w_tTrue, o_addI, o_addS, o_addT, o_sub, o_mul, o_div, o_mod, o_pow, o_lt, o_le, o_gt, o_ge, o_eqI, o_eqS, o_neI, o_neS, o_eqB, o_isN, o_notN, n_n, n_b, n_i, n_s, n_t, n_f, n_r, o_ixT, o_ixF, o_ixS, k_Ch, o_ixR, k_IxL, k_IxD, o_setR, k_SeL, k_SeJ, k_SeI, k_SeS, o_lenT, o_lenF, o_lenS, o_lenR, k_LeL, k_LeD, o_int, o_abs, o_max2, o_min2, o_tup, k_Seq, o_lst, k_Ls, q_T, q_F, q_R, q_RL, o_slT, o_slS, o_slF, o_slR, k_SlR, o_cTup, k_In, k_Bs, o_cSum, o_cAll, o_cAny, e_opt, e_get0, e_getS, k_LpN, k_LpC, k_LpB, k_LpR, atI_0, atI_1, atI_2, atI_3, atI_4, ixN_0, ixN_1, ixN_2, ixN_3, List.set_cons_zero, List.set_cons_succ, List.getElem?_cons_zero, List.getElem?_cons_succ, List.map_cons, List.map_nil, List.cons_append, List.nil_append, List.length_cons, List.length_nil, List.replicate_succ, List.replicate_zero, decide_true, decide_false, Bool.not_true, Bool.not_false, true_and, and_true, Nat.sub_self, Nat.zero_add, k_onNx, decide_eq_true_eq, W_ok, w_tru, k_TruB, k_TruI, k_TruN, k_TruT, k_TruF, k_TruR, k_TruL, k_TruD, i_nil, i_cons, k_Bl, k_Bn, o_inR, o_ninR, o_inF, o_ninF, k_In0L, k_In0Di, k_In0Ds, k_InL, sn_i, sn_s, sn_t, sn_f, sn_b, sn_n, w_get1, k_Gt1, k_Gt2, k_Gt3i, k_Gt3s, k_Gt4, w_get2, k_Ht1, k_Ht2, k_Ht3, k_Ht4i, k_Ht4s, o_lisR, k_LisL, k_LisD, o_lisT, o_lisF, w_pop, k_Po1, k_Po2, k_Po3, o_srtR, k_SrtL, k_SrtD, k_SrtLs, k_SrtDs, ints_nums, o_str, w_popAt, k_Pa, k_Pa1, k_Pa2, k_Pa3, k_Pa4, o_addR, k_AddL, o_geA, o_geT, o_intB]
  repeat (refine And.intro (by first | omega | decide | (split <;> omega) | (simp only [List.length_map, List.length_append, List.length_cons, List.length_nil]; omega)) ?_)
  refine loopS_i (fun k σ h' => ∃ (r : Nat) (x3 x4 x5 x6 : Option D), σ = [some (.ref tr), some (.int mi), some (.ref r), x3, x4, x5, x6] ∧ h'[r]? = some (.lst ((chs ts k).map rowD)) ∧ ∀ (k : Nat) (c : Cell), h[k]? = some c → h'[k]? = some c) ⟨_, none, none, none, none, rfl, app_end, fun k c e => app_at e⟩ (fun _ _ _ _ => by trivial) (fun k σ h' y ey p => ?_) fun σ h' p => ?_
  · obtain ⟨r, x3, x4, x5, x6, rfl, cr, kp⟩ := p
    obtain ⟨hk, rfl⟩ := range_at ey
    have hk4 : k + 1 ≤ 4 := by omega
    have b1 := big k (by omega)
    have b2 := big (k + 1) hk4
    simp -implicitDefEqProofs only [w_vr, w_cst, w_bin2, k_B1, k_B2, w_tst, k_T, w_andT, k_AnT, k_AnF, w_orT, k_OrT, k_OrF, w_notT, k_No, w_andV, k_AnVT, k_AnVF, w_orV, k_OrVT, k_OrVF, w_notV, k_NoV, w_ifV, k_IfVT, k_IfVF, w_aNil, w_aCons, k_A1, k_A2, w_callM, k_C, w_isi, k_Ty_int_non, k_Ty_int_bl, k_Ty_int_int, k_Ty_int_str, k_Ty_int_tup, k_Ty_int_fl, k_Ty_int_ref, k_TyR_int_l, k_TyR_int_d, k_Ty_tuple_non, k_Ty_tuple_bl, k_Ty_tuple_int, k_Ty_tuple_str, k_Ty_tuple_tup, k_Ty_tuple_fl, k_Ty_tuple_ref, k_TyR_tuple_l, k_TyR_tuple_d, k_Ty_str_non, k_Ty_str_bl, k_Ty_str_int, k_Ty_str_str, k_Ty_str_tup, k_Ty_str_fl, k_Ty_str_ref, k_TyR_str_l, k_TyR_str_d, k_Ty_list_non, k_Ty_list_bl, k_Ty_list_int, k_Ty_list_str, k_Ty_list_tup, k_Ty_list_fl, k_Ty_list_ref, k_TyR_list_l, k_TyR_list_d, k_Ty_dict_non, k_Ty_dict_bl, k_Ty_dict_int, k_Ty_dict_str, k_Ty_dict_tup, k_Ty_dict_fl, k_Ty_dict_ref, k_TyR_dict_l, k_TyR_dict_d, k_Ty_bool_non, k_Ty_bool_bl, k_Ty_bool_int, k_Ty_bool_str, k_Ty_bool_tup, k_Ty_bool_fl, k_Ty_bool_ref, k_TyR_bool_l, k_TyR_bool_d, w_oNone, w_oSome, k_O, w_slM, k_S1, k_S2, k_S3, w_tupM, k_Tup, w_lstM, k_Lst, w_newDic, w_appM, k_Ap1, k_Ap2, k_Ap3, k_Ap4, w_compL, k_CL, w_compCall, w_compMaxD, k_M1, k_M2, k_M3, w_sNil, w_sSeq, k_SqN, k_SqR, k_SqB, k_SqC, w_sExpr, k_Ex, w_sRet, k_Re, w_sRetN, w_sBrk, w_sCt, w_sIf, k_IfT, k_IfF, w_sSet, k_St, w_sSetC, k_StC, w_sAsg, k_As, k_As2, w_gN, w_gSb, k_G1, k_G2, k_G3, w_gTp, w_gsNil, w_gsCons, k_Gs, w_run, k_RtR, k_RtN, w_srcM, k_Sr, s_T, s_F, s_S, s_R, s_RL, w_rng1, k_R1, w_rng2, k_R2, k_R3, w_sFor, k_Fo, w_compM, k_Co, w_stepC, k_XT, k_XF, k_Y, w_tTrue, o_addI, o_addS, o_addT, o_sub, o_mul, o_div, o_mod, o_pow, o_lt, o_le, o_gt, o_ge, o_eqI, o_eqS, o_neI, o_neS, o_eqB, o_isN, o_notN, n_n, n_b, n_i, n_s, n_t, n_f, n_r, o_ixT, o_ixF, o_ixS, k_Ch, o_ixR, k_IxL, k_IxD, o_setR, k_SeL, k_SeJ, k_SeI, k_SeS, o_lenT, o_lenF, o_lenS, o_lenR, k_LeL, k_LeD, o_int, o_abs, o_max2, o_min2, o_tup, k_Seq, o_lst, k_Ls, q_T, q_F, q_R, q_RL, o_slT, o_slS, o_slF, o_slR, k_SlR, o_cTup, k_In, k_Bs, o_cSum, o_cAll, o_cAny, e_opt, e_get0, e_getS, k_LpN, k_LpC, k_LpB, k_LpR, atI_0, atI_1, atI_2, atI_3, atI_4, ixN_0, ixN_1, ixN_2, ixN_3, List.set_cons_zero, List.set_cons_succ, List.getElem?_cons_zero, List.getElem?_cons_succ, List.map_cons, List.map_nil, List.cons_append, List.nil_append, List.length_cons, List.length_nil, List.replicate_succ, List.replicate_zero, decide_true, decide_false, Bool.not_true, Bool.not_false, true_and, and_true, Nat.sub_self, Nat.zero_add, k_onNx, decide_eq_true_eq, W_ok, w_tru, k_TruB, k_TruI, k_TruN, k_TruT, k_TruF, k_TruR, k_TruL, k_TruD, i_nil, i_cons, k_Bl, k_Bn, o_inR, o_ninR, o_inF, o_ninF, k_In0L, k_In0Di, k_In0Ds, k_InL, sn_i, sn_s, sn_t, sn_f, sn_b, sn_n, w_get1, k_Gt1, k_Gt2, k_Gt3i, k_Gt3s, k_Gt4, w_get2, k_Ht1, k_Ht2, k_Ht3, k_Ht4i, k_Ht4s, o_lisR, k_LisL, k_LisD, o_lisT, o_lisF, w_pop, k_Po1, k_Po2, k_Po3, o_srtR, k_SrtL, k_SrtD, k_SrtLs, k_SrtDs, ints_nums, o_str, w_popAt, k_Pa, k_Pa1, k_Pa2, k_Pa3, k_Pa4, o_addR, k_AddL, o_geA, o_geT, o_intB, app_at cr, app_end]
    repeat (refine And.intro (by first | omega | decide | (split <;> omega) | (simp only [List.length_map, List.length_append, List.length_cons, List.length_nil]; omega)) ?_)
    have lg := fun g => app_at (g := g) (app_end (h := h') (c := .lst []))
    have hr := app_end (h := h' ++ [Cell.lst []]) (c := .lst ((chs ts k).map rowD))
    refine loopS_i (fun j σ h2 => ∃ (x5 x6 : Option D), σ = [some (.ref tr), some (.int mi), some (.ref r), some (.int k), some (.ref h'.length), x5, x6] ∧ h2[h'.length]? = some (.lst ((((chs ts k).take j).flatMap fun row => ts.map fun t => row ++ [t]).map rowD)) ∧ h2[(h' ++ [Cell.lst []]).length]? = some (.lst ((chs ts k).map rowD)) ∧ (∀ (k : Nat) (c : Cell), h[k]? = some c → h2[k]? = some c)) ⟨x5, x6, rfl, lg _, hr, fun k c e => app_at (app_at (kp k c e))⟩ (fun _ _ _ q => by obtain ⟨_, _, _, _, q, _⟩ := q; exact q) (fun j σ h2 y ey2 p => ?_) fun σ h2 p => ?_
    · obtain ⟨x5, x6, rfl, c2, s2, k2⟩ := p
      obtain ⟨row, er, rfl, hrow⟩ := map_at ey2
      have hj : j < (chs ts k).length := (List.getElem?_eq_some_iff.mp er).1
      have lrow := (chs_mem.mp hrow).1
      have hlt : h.length ≤ h'.length := by
        refine Decidable.byContradiction fun hh => ?_
        have h1 := kp h'.length h[h'.length] (by simp)
        have h2 := (List.getElem?_eq_some_iff.mp h1).1
        omega
      have pl : ((((chs ts k).take j).flatMap fun row => ts.map fun t => row ++ [t]).map rowD).length + ts.length ≤ 2000 := by
        rw [List.length_map, List.length_flatMap]
        have : ∀ l : List (List Int), (l.map fun row => (ts.map fun t => row ++ [t]).length).sum = l.length * ts.length := fun l => by
          induction l with
          | nil => simp
          | cons a r ih => rw [List.map_cons, List.sum_cons, ih, List.length_map, List.length_cons, Nat.succ_mul, Nat.add_comm]
        rw [this, List.length_take]
        have : min j (chs ts k).length * ts.length ≤ 256 * 4 := Nat.mul_le_mul (by omega) h5
        omega
      generalize hP : (((chs ts k).take j).flatMap fun row => ts.map fun t => row ++ [t]) = pre at c2 pl
      simp -implicitDefEqProofs only [w_vr, w_cst, w_bin2, k_B1, k_B2, w_tst, k_T, w_andT, k_AnT, k_AnF, w_orT, k_OrT, k_OrF, w_notT, k_No, w_andV, k_AnVT, k_AnVF, w_orV, k_OrVT, k_OrVF, w_notV, k_NoV, w_ifV, k_IfVT, k_IfVF, w_aNil, w_aCons, k_A1, k_A2, w_callM, k_C, w_isi, k_Ty_int_non, k_Ty_int_bl, k_Ty_int_int, k_Ty_int_str, k_Ty_int_tup, k_Ty_int_fl, k_Ty_int_ref, k_TyR_int_l, k_TyR_int_d, k_Ty_tuple_non, k_Ty_tuple_bl, k_Ty_tuple_int, k_Ty_tuple_str, k_Ty_tuple_tup, k_Ty_tuple_fl, k_Ty_tuple_ref, k_TyR_tuple_l, k_TyR_tuple_d, k_Ty_str_non, k_Ty_str_bl, k_Ty_str_int, k_Ty_str_str, k_Ty_str_tup, k_Ty_str_fl, k_Ty_str_ref, k_TyR_str_l, k_TyR_str_d, k_Ty_list_non, k_Ty_list_bl, k_Ty_list_int, k_Ty_list_str, k_Ty_list_tup, k_Ty_list_fl, k_Ty_list_ref, k_TyR_list_l, k_TyR_list_d, k_Ty_dict_non, k_Ty_dict_bl, k_Ty_dict_int, k_Ty_dict_str, k_Ty_dict_tup, k_Ty_dict_fl, k_Ty_dict_ref, k_TyR_dict_l, k_TyR_dict_d, k_Ty_bool_non, k_Ty_bool_bl, k_Ty_bool_int, k_Ty_bool_str, k_Ty_bool_tup, k_Ty_bool_fl, k_Ty_bool_ref, k_TyR_bool_l, k_TyR_bool_d, w_oNone, w_oSome, k_O, w_slM, k_S1, k_S2, k_S3, w_tupM, k_Tup, w_lstM, k_Lst, w_newDic, w_appM, k_Ap1, k_Ap2, k_Ap3, k_Ap4, w_compL, k_CL, w_compCall, w_compMaxD, k_M1, k_M2, k_M3, w_sNil, w_sSeq, k_SqN, k_SqR, k_SqB, k_SqC, w_sExpr, k_Ex, w_sRet, k_Re, w_sRetN, w_sBrk, w_sCt, w_sIf, k_IfT, k_IfF, w_sSet, k_St, w_sSetC, k_StC, w_sAsg, k_As, k_As2, w_gN, w_gSb, k_G1, k_G2, k_G3, w_gTp, w_gsNil, w_gsCons, k_Gs, w_run, k_RtR, k_RtN, w_srcM, k_Sr, s_T, s_F, s_S, s_R, s_RL, w_rng1, k_R1, w_rng2, k_R2, k_R3, w_sFor, k_Fo, w_compM, k_Co, w_stepC, k_XT, k_XF, k_Y, w_tTrue, o_addI, o_addS, o_addT, o_sub, o_mul, o_div, o_mod, o_pow, o_lt, o_le, o_gt, o_ge, o_eqI, o_eqS, o_neI, o_neS, o_eqB, o_isN, o_notN, n_n, n_b, n_i, n_s, n_t, n_f, n_r, o_ixT, o_ixF, o_ixS, k_Ch, o_ixR, k_IxL, k_IxD, o_setR, k_SeL, k_SeJ, k_SeI, k_SeS, o_lenT, o_lenF, o_lenS, o_lenR, k_LeL, k_LeD, o_int, o_abs, o_max2, o_min2, o_tup, k_Seq, o_lst, k_Ls, q_T, q_F, q_R, q_RL, o_slT, o_slS, o_slF, o_slR, k_SlR, o_cTup, k_In, k_Bs, o_cSum, o_cAll, o_cAny, e_opt, e_get0, e_getS, k_LpN, k_LpC, k_LpB, k_LpR, atI_0, atI_1, atI_2, atI_3, atI_4, ixN_0, ixN_1, ixN_2, ixN_3, List.set_cons_zero, List.set_cons_succ, List.getElem?_cons_zero, List.getElem?_cons_succ, List.map_cons, List.map_nil, List.cons_append, List.nil_append, List.length_cons, List.length_nil, List.replicate_succ, List.replicate_zero, decide_true, decide_false, Bool.not_true, Bool.not_false, true_and, and_true, Nat.sub_self, Nat.zero_add, k_onNx, decide_eq_true_eq, W_ok, w_tru, k_TruB, k_TruI, k_TruN, k_TruT, k_TruF, k_TruR, k_TruL, k_TruD, i_nil, i_cons, k_Bl, k_Bn, o_inR, o_ninR, o_inF, o_ninF, k_In0L, k_In0Di, k_In0Ds, k_InL, sn_i, sn_s, sn_t, sn_f, sn_b, sn_n, w_get1, k_Gt1, k_Gt2, k_Gt3i, k_Gt3s, k_Gt4, w_get2, k_Ht1, k_Ht2, k_Ht3, k_Ht4i, k_Ht4s, o_lisR, k_LisL, k_LisD, o_lisT, o_lisF, w_pop, k_Po1, k_Po2, k_Po3, o_srtR, k_SrtL, k_SrtD, k_SrtLs, k_SrtDs, ints_nums, o_str, w_popAt, k_Pa, k_Pa1, k_Pa2, k_Pa3, k_Pa4, o_addR, k_AddL, o_geA, o_geT, o_intB, k2 _ _ ht]
      refine loopS_i (fun i σ h3 => ∃ (x6 : Option D), σ = [some (.ref tr), some (.int mi), some (.ref r), some (.int k), some (.ref h'.length), some (rowD row), x6] ∧ h3 = h2.set h'.length (.lst ((pre ++ (ts.take i).map fun t => row ++ [t]).map rowD))) ⟨x6, rfl, by rw [List.take_zero, List.map_nil, List.append_nil, set_same c2]⟩ (fun _ _ _ q => by
        obtain ⟨_, _, rfl⟩ := q
        show (h2.set _ _)[tr]? = _
        have hne : h'.length ≠ tr := by
          have := (List.getElem?_eq_some_iff.mp ht).1
          omega
        rw [set_no hne]
        exact k2 _ _ ht) (fun i σ h3 y ey3 p => ?_) fun σ h3 p => ?_
      · obtain ⟨x6, rfl, rfl⟩ := p
        obtain ⟨t, et, rfl, htm⟩ := map_at ey3
        have hi : i < ts.length := (List.getElem?_eq_some_iff.mp et).1
        simp -implicitDefEqProofs only [w_vr, w_cst, w_bin2, k_B1, k_B2, w_tst, k_T, w_andT, k_AnT, k_AnF, w_orT, k_OrT, k_OrF, w_notT, k_No, w_andV, k_AnVT, k_AnVF, w_orV, k_OrVT, k_OrVF, w_notV, k_NoV, w_ifV, k_IfVT, k_IfVF, w_aNil, w_aCons, k_A1, k_A2, w_callM, k_C, w_isi, k_Ty_int_non, k_Ty_int_bl, k_Ty_int_int, k_Ty_int_str, k_Ty_int_tup, k_Ty_int_fl, k_Ty_int_ref, k_TyR_int_l, k_TyR_int_d, k_Ty_tuple_non, k_Ty_tuple_bl, k_Ty_tuple_int, k_Ty_tuple_str, k_Ty_tuple_tup, k_Ty_tuple_fl, k_Ty_tuple_ref, k_TyR_tuple_l, k_TyR_tuple_d, k_Ty_str_non, k_Ty_str_bl, k_Ty_str_int, k_Ty_str_str, k_Ty_str_tup, k_Ty_str_fl, k_Ty_str_ref, k_TyR_str_l, k_TyR_str_d, k_Ty_list_non, k_Ty_list_bl, k_Ty_list_int, k_Ty_list_str, k_Ty_list_tup, k_Ty_list_fl, k_Ty_list_ref, k_TyR_list_l, k_TyR_list_d, k_Ty_dict_non, k_Ty_dict_bl, k_Ty_dict_int, k_Ty_dict_str, k_Ty_dict_tup, k_Ty_dict_fl, k_Ty_dict_ref, k_TyR_dict_l, k_TyR_dict_d, k_Ty_bool_non, k_Ty_bool_bl, k_Ty_bool_int, k_Ty_bool_str, k_Ty_bool_tup, k_Ty_bool_fl, k_Ty_bool_ref, k_TyR_bool_l, k_TyR_bool_d, w_oNone, w_oSome, k_O, w_slM, k_S1, k_S2, k_S3, w_tupM, k_Tup, w_lstM, k_Lst, w_newDic, w_appM, k_Ap1, k_Ap2, k_Ap3, k_Ap4, w_compL, k_CL, w_compCall, w_compMaxD, k_M1, k_M2, k_M3, w_sNil, w_sSeq, k_SqN, k_SqR, k_SqB, k_SqC, w_sExpr, k_Ex, w_sRet, k_Re, w_sRetN, w_sBrk, w_sCt, w_sIf, k_IfT, k_IfF, w_sSet, k_St, w_sSetC, k_StC, w_sAsg, k_As, k_As2, w_gN, w_gSb, k_G1, k_G2, k_G3, w_gTp, w_gsNil, w_gsCons, k_Gs, w_run, k_RtR, k_RtN, w_srcM, k_Sr, s_T, s_F, s_S, s_R, s_RL, w_rng1, k_R1, w_rng2, k_R2, k_R3, w_sFor, k_Fo, w_compM, k_Co, w_stepC, k_XT, k_XF, k_Y, w_tTrue, o_addI, o_addS, o_addT, o_sub, o_mul, o_div, o_mod, o_pow, o_lt, o_le, o_gt, o_ge, o_eqI, o_eqS, o_neI, o_neS, o_eqB, o_isN, o_notN, n_n, n_b, n_i, n_s, n_t, n_f, n_r, o_ixT, o_ixF, o_ixS, k_Ch, o_ixR, k_IxL, k_IxD, o_setR, k_SeL, k_SeJ, k_SeI, k_SeS, o_lenT, o_lenF, o_lenS, o_lenR, k_LeL, k_LeD, o_int, o_abs, o_max2, o_min2, o_tup, k_Seq, o_lst, k_Ls, q_T, q_F, q_R, q_RL, o_slT, o_slS, o_slF, o_slR, k_SlR, o_cTup, k_In, k_Bs, o_cSum, o_cAll, o_cAny, e_opt, e_get0, e_getS, k_LpN, k_LpC, k_LpB, k_LpR, atI_0, atI_1, atI_2, atI_3, atI_4, ixN_0, ixN_1, ixN_2, ixN_3, List.set_cons_zero, List.set_cons_succ, List.getElem?_cons_zero, List.getElem?_cons_succ, List.map_cons, List.map_nil, List.cons_append, List.nil_append, List.length_cons, List.length_nil, List.replicate_succ, List.replicate_zero, decide_true, decide_false, Bool.not_true, Bool.not_false, true_and, and_true, Nat.sub_self, Nat.zero_add, k_onNx, decide_eq_true_eq, W_ok, w_tru, k_TruB, k_TruI, k_TruN, k_TruT, k_TruF, k_TruR, k_TruL, k_TruD, i_nil, i_cons, k_Bl, k_Bn, o_inR, o_ninR, o_inF, o_ninF, k_In0L, k_In0Di, k_In0Ds, k_InL, sn_i, sn_s, sn_t, sn_f, sn_b, sn_n, w_get1, k_Gt1, k_Gt2, k_Gt3i, k_Gt3s, k_Gt4, w_get2, k_Ht1, k_Ht2, k_Ht3, k_Ht4i, k_Ht4s, o_lisR, k_LisL, k_LisD, o_lisT, o_lisF, w_pop, k_Po1, k_Po2, k_Po3, o_srtR, k_SrtL, k_SrtD, k_SrtLs, k_SrtDs, ints_nums, o_str, w_popAt, k_Pa, k_Pa1, k_Pa2, k_Pa3, k_Pa4, o_addR, k_AddL, o_geA, o_geT, o_intB, rowD, set_at c2]
        rw [List.length_map] at pl
        refine ⟨by decide, by rw [List.length_map]; omega, by rw [List.length_map, List.length_append, List.length_map, List.length_take]; omega, _, rfl, ?_⟩
        rw [set_set, List.take_add_one, et]
        simp [rowD]
      · obtain ⟨x6, rfl, rfl⟩ := p
        rw [List.length_map, List.take_length]
        simp -implicitDefEqProofs only [w_vr, w_cst, w_bin2, k_B1, k_B2, w_tst, k_T, w_andT, k_AnT, k_AnF, w_orT, k_OrT, k_OrF, w_notT, k_No, w_andV, k_AnVT, k_AnVF, w_orV, k_OrVT, k_OrVF, w_notV, k_NoV, w_ifV, k_IfVT, k_IfVF, w_aNil, w_aCons, k_A1, k_A2, w_callM, k_C, w_isi, k_Ty_int_non, k_Ty_int_bl, k_Ty_int_int, k_Ty_int_str, k_Ty_int_tup, k_Ty_int_fl, k_Ty_int_ref, k_TyR_int_l, k_TyR_int_d, k_Ty_tuple_non, k_Ty_tuple_bl, k_Ty_tuple_int, k_Ty_tuple_str, k_Ty_tuple_tup, k_Ty_tuple_fl, k_Ty_tuple_ref, k_TyR_tuple_l, k_TyR_tuple_d, k_Ty_str_non, k_Ty_str_bl, k_Ty_str_int, k_Ty_str_str, k_Ty_str_tup, k_Ty_str_fl, k_Ty_str_ref, k_TyR_str_l, k_TyR_str_d, k_Ty_list_non, k_Ty_list_bl, k_Ty_list_int, k_Ty_list_str, k_Ty_list_tup, k_Ty_list_fl, k_Ty_list_ref, k_TyR_list_l, k_TyR_list_d, k_Ty_dict_non, k_Ty_dict_bl, k_Ty_dict_int, k_Ty_dict_str, k_Ty_dict_tup, k_Ty_dict_fl, k_Ty_dict_ref, k_TyR_dict_l, k_TyR_dict_d, k_Ty_bool_non, k_Ty_bool_bl, k_Ty_bool_int, k_Ty_bool_str, k_Ty_bool_tup, k_Ty_bool_fl, k_Ty_bool_ref, k_TyR_bool_l, k_TyR_bool_d, w_oNone, w_oSome, k_O, w_slM, k_S1, k_S2, k_S3, w_tupM, k_Tup, w_lstM, k_Lst, w_newDic, w_appM, k_Ap1, k_Ap2, k_Ap3, k_Ap4, w_compL, k_CL, w_compCall, w_compMaxD, k_M1, k_M2, k_M3, w_sNil, w_sSeq, k_SqN, k_SqR, k_SqB, k_SqC, w_sExpr, k_Ex, w_sRet, k_Re, w_sRetN, w_sBrk, w_sCt, w_sIf, k_IfT, k_IfF, w_sSet, k_St, w_sSetC, k_StC, w_sAsg, k_As, k_As2, w_gN, w_gSb, k_G1, k_G2, k_G3, w_gTp, w_gsNil, w_gsCons, k_Gs, w_run, k_RtR, k_RtN, w_srcM, k_Sr, s_T, s_F, s_S, s_R, s_RL, w_rng1, k_R1, w_rng2, k_R2, k_R3, w_sFor, k_Fo, w_compM, k_Co, w_stepC, k_XT, k_XF, k_Y, w_tTrue, o_addI, o_addS, o_addT, o_sub, o_mul, o_div, o_mod, o_pow, o_lt, o_le, o_gt, o_ge, o_eqI, o_eqS, o_neI, o_neS, o_eqB, o_isN, o_notN, n_n, n_b, n_i, n_s, n_t, n_f, n_r, o_ixT, o_ixF, o_ixS, k_Ch, o_ixR, k_IxL, k_IxD, o_setR, k_SeL, k_SeJ, k_SeI, k_SeS, o_lenT, o_lenF, o_lenS, o_lenR, k_LeL, k_LeD, o_int, o_abs, o_max2, o_min2, o_tup, k_Seq, o_lst, k_Ls, q_T, q_F, q_R, q_RL, o_slT, o_slS, o_slF, o_slR, k_SlR, o_cTup, k_In, k_Bs, o_cSum, o_cAll, o_cAny, e_opt, e_get0, e_getS, k_LpN, k_LpC, k_LpB, k_LpR, atI_0, atI_1, atI_2, atI_3, atI_4, ixN_0, ixN_1, ixN_2, ixN_3, List.set_cons_zero, List.set_cons_succ, List.getElem?_cons_zero, List.getElem?_cons_succ, List.map_cons, List.map_nil, List.cons_append, List.nil_append, List.length_cons, List.length_nil, List.replicate_succ, List.replicate_zero, decide_true, decide_false, Bool.not_true, Bool.not_false, true_and, and_true, Nat.sub_self, Nat.zero_add, k_onNx, decide_eq_true_eq, W_ok, w_tru, k_TruB, k_TruI, k_TruN, k_TruT, k_TruF, k_TruR, k_TruL, k_TruD, i_nil, i_cons, k_Bl, k_Bn, o_inR, o_ninR, o_inF, o_ninF, k_In0L, k_In0Di, k_In0Ds, k_InL, sn_i, sn_s, sn_t, sn_f, sn_b, sn_n, w_get1, k_Gt1, k_Gt2, k_Gt3i, k_Gt3s, k_Gt4, w_get2, k_Ht1, k_Ht2, k_Ht3, k_Ht4i, k_Ht4s, o_lisR, k_LisL, k_LisD, o_lisT, o_lisF, w_pop, k_Po1, k_Po2, k_Po3, o_srtR, k_SrtL, k_SrtD, k_SrtLs, k_SrtDs, ints_nums, o_str, w_popAt, k_Pa, k_Pa1, k_Pa2, k_Pa3, k_Pa4, o_addR, k_AddL, o_geA, o_geT, o_intB]
        have ne2 : h'.length ≠ (h' ++ [Cell.lst []]).length := by rw [List.length_append]; simp
        refine ⟨_, _, rfl, ?_, ?_, fun k c e => ?_⟩
        · rw [List.take_add_one, er, Option.toList_some, List.flatMap_append, hP, List.flatMap_cons, List.flatMap_nil, List.append_nil]
          exact set_at c2
        · rw [set_no ne2]
          exact s2
        · have hne : h'.length ≠ k := by
            have := (List.getElem?_eq_some_iff.mp e).1
            omega
          rw [set_no hne]
          exact k2 k c e
    · obtain ⟨x5, x6, rfl, c2, s2, k2⟩ := p
      rw [List.length_map, List.take_length] at c2
      simp -implicitDefEqProofs only [w_vr, w_cst, w_bin2, k_B1, k_B2, w_tst, k_T, w_andT, k_AnT, k_AnF, w_orT, k_OrT, k_OrF, w_notT, k_No, w_andV, k_AnVT, k_AnVF, w_orV, k_OrVT, k_OrVF, w_notV, k_NoV, w_ifV, k_IfVT, k_IfVF, w_aNil, w_aCons, k_A1, k_A2, w_callM, k_C, w_isi, k_Ty_int_non, k_Ty_int_bl, k_Ty_int_int, k_Ty_int_str, k_Ty_int_tup, k_Ty_int_fl, k_Ty_int_ref, k_TyR_int_l, k_TyR_int_d, k_Ty_tuple_non, k_Ty_tuple_bl, k_Ty_tuple_int, k_Ty_tuple_str, k_Ty_tuple_tup, k_Ty_tuple_fl, k_Ty_tuple_ref, k_TyR_tuple_l, k_TyR_tuple_d, k_Ty_str_non, k_Ty_str_bl, k_Ty_str_int, k_Ty_str_str, k_Ty_str_tup, k_Ty_str_fl, k_Ty_str_ref, k_TyR_str_l, k_TyR_str_d, k_Ty_list_non, k_Ty_list_bl, k_Ty_list_int, k_Ty_list_str, k_Ty_list_tup, k_Ty_list_fl, k_Ty_list_ref, k_TyR_list_l, k_TyR_list_d, k_Ty_dict_non, k_Ty_dict_bl, k_Ty_dict_int, k_Ty_dict_str, k_Ty_dict_tup, k_Ty_dict_fl, k_Ty_dict_ref, k_TyR_dict_l, k_TyR_dict_d, k_Ty_bool_non, k_Ty_bool_bl, k_Ty_bool_int, k_Ty_bool_str, k_Ty_bool_tup, k_Ty_bool_fl, k_Ty_bool_ref, k_TyR_bool_l, k_TyR_bool_d, w_oNone, w_oSome, k_O, w_slM, k_S1, k_S2, k_S3, w_tupM, k_Tup, w_lstM, k_Lst, w_newDic, w_appM, k_Ap1, k_Ap2, k_Ap3, k_Ap4, w_compL, k_CL, w_compCall, w_compMaxD, k_M1, k_M2, k_M3, w_sNil, w_sSeq, k_SqN, k_SqR, k_SqB, k_SqC, w_sExpr, k_Ex, w_sRet, k_Re, w_sRetN, w_sBrk, w_sCt, w_sIf, k_IfT, k_IfF, w_sSet, k_St, w_sSetC, k_StC, w_sAsg, k_As, k_As2, w_gN, w_gSb, k_G1, k_G2, k_G3, w_gTp, w_gsNil, w_gsCons, k_Gs, w_run, k_RtR, k_RtN, w_srcM, k_Sr, s_T, s_F, s_S, s_R, s_RL, w_rng1, k_R1, w_rng2, k_R2, k_R3, w_sFor, k_Fo, w_compM, k_Co, w_stepC, k_XT, k_XF, k_Y, w_tTrue, o_addI, o_addS, o_addT, o_sub, o_mul, o_div, o_mod, o_pow, o_lt, o_le, o_gt, o_ge, o_eqI, o_eqS, o_neI, o_neS, o_eqB, o_isN, o_notN, n_n, n_b, n_i, n_s, n_t, n_f, n_r, o_ixT, o_ixF, o_ixS, k_Ch, o_ixR, k_IxL, k_IxD, o_setR, k_SeL, k_SeJ, k_SeI, k_SeS, o_lenT, o_lenF, o_lenS, o_lenR, k_LeL, k_LeD, o_int, o_abs, o_max2, o_min2, o_tup, k_Seq, o_lst, k_Ls, q_T, q_F, q_R, q_RL, o_slT, o_slS, o_slF, o_slR, k_SlR, o_cTup, k_In, k_Bs, o_cSum, o_cAll, o_cAny, e_opt, e_get0, e_getS, k_LpN, k_LpC, k_LpB, k_LpR, atI_0, atI_1, atI_2, atI_3, atI_4, ixN_0, ixN_1, ixN_2, ixN_3, List.set_cons_zero, List.set_cons_succ, List.getElem?_cons_zero, List.getElem?_cons_succ, List.map_cons, List.map_nil, List.cons_append, List.nil_append, List.length_cons, List.length_nil, List.replicate_succ, List.replicate_zero, decide_true, decide_false, Bool.not_true, Bool.not_false, true_and, and_true, Nat.sub_self, Nat.zero_add, k_onNx, decide_eq_true_eq, W_ok, w_tru, k_TruB, k_TruI, k_TruN, k_TruT, k_TruF, k_TruR, k_TruL, k_TruD, i_nil, i_cons, k_Bl, k_Bn, o_inR, o_ninR, o_inF, o_ninF, k_In0L, k_In0Di, k_In0Ds, k_InL, sn_i, sn_s, sn_t, sn_f, sn_b, sn_n, w_get1, k_Gt1, k_Gt2, k_Gt3i, k_Gt3s, k_Gt4, w_get2, k_Ht1, k_Ht2, k_Ht3, k_Ht4i, k_Ht4s, o_lisR, k_LisL, k_LisD, o_lisT, o_lisF, w_pop, k_Po1, k_Po2, k_Po3, o_srtR, k_SrtL, k_SrtD, k_SrtLs, k_SrtDs, ints_nums, o_str, w_popAt, k_Pa, k_Pa1, k_Pa2, k_Pa3, k_Pa4, o_addR, k_AddL, o_geA, o_geT, o_intB, c2]
      exact ⟨_, _, _, _, _, rfl, by rw [chs]; exact app_end, fun k c e => app_at (k2 k c e)⟩
  · obtain ⟨r, x3, x4, x5, x6, rfl, cr, kp⟩ := p
    rw [range_len] at cr
    simp -implicitDefEqProofs only [w_vr, w_cst, w_bin2, k_B1, k_B2, w_tst, k_T, w_andT, k_AnT, k_AnF, w_orT, k_OrT, k_OrF, w_notT, k_No, w_andV, k_AnVT, k_AnVF, w_orV, k_OrVT, k_OrVF, w_notV, k_NoV, w_ifV, k_IfVT, k_IfVF, w_aNil, w_aCons, k_A1, k_A2, w_callM, k_C, w_isi, k_Ty_int_non, k_Ty_int_bl, k_Ty_int_int, k_Ty_int_str, k_Ty_int_tup, k_Ty_int_fl, k_Ty_int_ref, k_TyR_int_l, k_TyR_int_d, k_Ty_tuple_non, k_Ty_tuple_bl, k_Ty_tuple_int, k_Ty_tuple_str, k_Ty_tuple_tup, k_Ty_tuple_fl, k_Ty_tuple_ref, k_TyR_tuple_l, k_TyR_tuple_d, k_Ty_str_non, k_Ty_str_bl, k_Ty_str_int, k_Ty_str_str, k_Ty_str_tup, k_Ty_str_fl, k_Ty_str_ref, k_TyR_str_l, k_TyR_str_d, k_Ty_list_non, k_Ty_list_bl, k_Ty_list_int, k_Ty_list_str, k_Ty_list_tup, k_Ty_list_fl, k_Ty_list_ref, k_TyR_list_l, k_TyR_list_d, k_Ty_dict_non, k_Ty_dict_bl, k_Ty_dict_int, k_Ty_dict_str, k_Ty_dict_tup, k_Ty_dict_fl, k_Ty_dict_ref, k_TyR_dict_l, k_TyR_dict_d, k_Ty_bool_non, k_Ty_bool_bl, k_Ty_bool_int, k_Ty_bool_str, k_Ty_bool_tup, k_Ty_bool_fl, k_Ty_bool_ref, k_TyR_bool_l, k_TyR_bool_d, w_oNone, w_oSome, k_O, w_slM, k_S1, k_S2, k_S3, w_tupM, k_Tup, w_lstM, k_Lst, w_newDic, w_appM, k_Ap1, k_Ap2, k_Ap3, k_Ap4, w_compL, k_CL, w_compCall, w_compMaxD, k_M1, k_M2, k_M3, w_sNil, w_sSeq, k_SqN, k_SqR, k_SqB, k_SqC, w_sExpr, k_Ex, w_sRet, k_Re, w_sRetN, w_sBrk, w_sCt, w_sIf, k_IfT, k_IfF, w_sSet, k_St, w_sSetC, k_StC, w_sAsg, k_As, k_As2, w_gN, w_gSb, k_G1, k_G2, k_G3, w_gTp, w_gsNil, w_gsCons, k_Gs, w_run, k_RtR, k_RtN, w_srcM, k_Sr, s_T, s_F, s_S, s_R, s_RL, w_rng1, k_R1, w_rng2, k_R2, k_R3, w_sFor, k_Fo, w_compM, k_Co, w_stepC, k_XT, k_XF, k_Y, w_tTrue, o_addI, o_addS, o_addT, o_sub, o_mul, o_div, o_mod, o_pow, o_lt, o_le, o_gt, o_ge, o_eqI, o_eqS, o_neI, o_neS, o_eqB, o_isN, o_notN, n_n, n_b, n_i, n_s, n_t, n_f, n_r, o_ixT, o_ixF, o_ixS, k_Ch, o_ixR, k_IxL, k_IxD, o_setR, k_SeL, k_SeJ, k_SeI, k_SeS, o_lenT, o_lenF, o_lenS, o_lenR, k_LeL, k_LeD, o_int, o_abs, o_max2, o_min2, o_tup, k_Seq, o_lst, k_Ls, q_T, q_F, q_R, q_RL, o_slT, o_slS, o_slF, o_slR, k_SlR, o_cTup, k_In, k_Bs, o_cSum, o_cAll, o_cAny, e_opt, e_get0, e_getS, k_LpN, k_LpC, k_LpB, k_LpR, atI_0, atI_1, atI_2, atI_3, atI_4, ixN_0, ixN_1, ixN_2, ixN_3, List.set_cons_zero, List.set_cons_succ, List.getElem?_cons_zero, List.getElem?_cons_succ, List.map_cons, List.map_nil, List.cons_append, List.nil_append, List.length_cons, List.length_nil, List.replicate_succ, List.replicate_zero, decide_true, decide_false, Bool.not_true, Bool.not_false, true_and, and_true, Nat.sub_self, Nat.zero_add, k_onNx, decide_eq_true_eq, W_ok, w_tru, k_TruB, k_TruI, k_TruN, k_TruT, k_TruF, k_TruR, k_TruL, k_TruD, i_nil, i_cons, k_Bl, k_Bn, o_inR, o_ninR, o_inF, o_ninF, k_In0L, k_In0Di, k_In0Ds, k_InL, sn_i, sn_s, sn_t, sn_f, sn_b, sn_n, w_get1, k_Gt1, k_Gt2, k_Gt3i, k_Gt3s, k_Gt4, w_get2, k_Ht1, k_Ht2, k_Ht3, k_Ht4i, k_Ht4s, o_lisR, k_LisL, k_LisD, o_lisT, o_lisF, w_pop, k_Po1, k_Po2, k_Po3, o_srtR, k_SrtL, k_SrtD, k_SrtLs, k_SrtDs, ints_nums, o_str, w_popAt, k_Pa, k_Pa1, k_Pa2, k_Pa3, k_Pa4, o_addR, k_AddL, o_geA, o_geT, o_intB]
    exact ⟨r, rfl, by rw [show mi.toNat = m by omega] at cr; exact cr, kp⟩
theorem choices_at (N tr : Nat) (ts : List Int) (m : Nat) (mi : Int) (hmi : mi = m) (h : DHeap) (hN : 1 ≤ N) (ht : h[tr]? = some (.lst (ts.map D.int))) (h4 : m ≤ 4) (h5 : ts.length ≤ 4) (Q : D → DHeap → Prop)
    (hQ : ∀ r h', h'[r]? = some (.lst ((chs ts m).map rowD)) → (∀ (k : Nat) (c : Cell), h[k]? = some c → h'[k]? = some c) → Q (.ref r) h') : W (run N i__law_choices [.ref tr, .int mi] h) Q := by
  obtain ⟨n, rfl⟩ : ∃ n, N = n + 1 := ⟨N - 1, by omega⟩
  refine W_mono (choices_ok n tr ts m mi hmi h ht h4 h5) fun _ h' q => ?_
  obtain ⟨r, rfl, h1, h2⟩ := q
  exact hQ r h' h1 h2
theorem o_eqBd {b : Bd} {k : Nat} {t : Bool} {h : DHeap} {Q : QD} (hb : b ∈ opts) (hk : k < 100) : W (eqD (bdD b) (.tup [.int k, .bl t]) h) Q = Q (.bl (decide (b = some (k, t)))) h ∧ W (neD (bdD b) (.tup [.int k, .bl t]) h) Q = Q (.bl (!decide (b = some (k, t)))) h := by
  have ok2 : okP (.tup [.int k, .bl t]) = true := okP_of (by rw [gdD, gdDs, gdDs, gdDs, gd_int (by omega) (by omega), gdD]; rfl) (by
    have e : hD (.tup [.int (k : Int), .bl t]) = 1 := rfl
    omega)
  have e1 : scalD (bdD b) (.tup [.int k, .bl t]) = none := by cases b <;> rfl
  have e2 : seen h (bdD b) = some (bdD b) := by cases b <;> rfl
  have ok1 : okP (bdD b) = true := (show ∀ b, b ∈ opts → okP (bdD b) = true by decide +kernel) b hb
  have ev1 : eqvD (bdD b) (.tup [.int k, .bl t]) = decide (b = some (k, t)) := by
    cases b with
    | none => rfl
    | some p =>
      obtain ⟨j, s⟩ := p
      simp only [bdD, eqvD, toP, toPs, PyData.eqv, PyData.eqvAll]
      by_cases c1 : j = k
      · subst c1
        cases s <;> cases t <;> simp
      · have c2 : ¬ ((j : Int) = (k : Int)) := by omega
        simp [c1, c2]
  unfold eqD neD
  rw [e1, e2]
  have e3 : seen h (.tup [.int k, .bl t]) = some (.tup [.int k, .bl t]) := rfl
  rw [e3]
  simp only [ok1, ok2, and_self, if_true, ev1]
  exact ⟨rfl, rfl⟩
theorem lower_ok (n : Nat) (bs : List Bd) (tb : D) (htb : tb = .tup (bs.map bdD)) (h : DHeap) (hb : ∀ b, b ∈ bs → b ∈ opts) (hl : bs.length ≤ 4) : W (run (n + 1) i_is_lower [tb] h) (fun d h' => d = .bl (low 0 bs) ∧ h' = h) := by
  subst htb
  rw [r_is_lower]
  unfold B_is_lower
  simp -implicitDefEqProofs only [w_vr, w_cst, w_bin2, k_B1, k_B2, w_tst, k_T, w_andT, k_AnT, k_AnF, w_orT, k_OrT, k_OrF, w_notT, k_No, w_andV, k_AnVT, k_AnVF, w_orV, k_OrVT, k_OrVF, w_notV, k_NoV, w_ifV, k_IfVT, k_IfVF, w_aNil, w_aCons, k_A1, k_A2, w_callM, k_C, w_isi, k_Ty_int_non, k_Ty_int_bl, k_Ty_int_int, k_Ty_int_str, k_Ty_int_tup, k_Ty_int_fl, k_Ty_int_ref, k_TyR_int_l, k_TyR_int_d, k_Ty_tuple_non, k_Ty_tuple_bl, k_Ty_tuple_int, k_Ty_tuple_str, k_Ty_tuple_tup, k_Ty_tuple_fl, k_Ty_tuple_ref, k_TyR_tuple_l, k_TyR_tuple_d, k_Ty_str_non, k_Ty_str_bl, k_Ty_str_int, k_Ty_str_str, k_Ty_str_tup, k_Ty_str_fl, k_Ty_str_ref, k_TyR_str_l, k_TyR_str_d, k_Ty_list_non, k_Ty_list_bl, k_Ty_list_int, k_Ty_list_str, k_Ty_list_tup, k_Ty_list_fl, k_Ty_list_ref, k_TyR_list_l, k_TyR_list_d, k_Ty_dict_non, k_Ty_dict_bl, k_Ty_dict_int, k_Ty_dict_str, k_Ty_dict_tup, k_Ty_dict_fl, k_Ty_dict_ref, k_TyR_dict_l, k_TyR_dict_d, k_Ty_bool_non, k_Ty_bool_bl, k_Ty_bool_int, k_Ty_bool_str, k_Ty_bool_tup, k_Ty_bool_fl, k_Ty_bool_ref, k_TyR_bool_l, k_TyR_bool_d, w_oNone, w_oSome, k_O, w_slM, k_S1, k_S2, k_S3, w_tupM, k_Tup, w_lstM, k_Lst, w_newDic, w_appM, k_Ap1, k_Ap2, k_Ap3, k_Ap4, w_compL, k_CL, w_compCall, w_compMaxD, k_M1, k_M2, k_M3, w_sNil, w_sSeq, k_SqN, k_SqR, k_SqB, k_SqC, w_sExpr, k_Ex, w_sRet, k_Re, w_sRetN, w_sBrk, w_sCt, w_sIf, k_IfT, k_IfF, w_sSet, k_St, w_sSetC, k_StC, w_sAsg, k_As, k_As2, w_gN, w_gSb, k_G1, k_G2, k_G3, w_gTp, w_gsNil, w_gsCons, k_Gs, w_run, k_RtR, k_RtN, w_srcM, k_Sr, s_T, s_F, s_S, s_R, s_RL, w_rng1, k_R1, w_rng2, k_R2, k_R3, w_sFor, k_Fo, w_compM, k_Co, w_stepC, k_XT, k_XF, k_Y, w_tTrue, o_addI, o_addS, o_addT, o_sub, o_mul, o_div, o_mod, o_pow, o_lt, o_le, o_gt, o_ge, o_eqI, o_eqS, o_neI, o_neS, o_eqB, o_isN, o_notN, n_n, n_b, n_i, n_s, n_t, n_f, n_r, o_ixT, o_ixF, o_ixS, k_Ch, o_ixR, k_IxL, k_IxD, o_setR, k_SeL, k_SeJ, k_SeI, k_SeS, o_lenT, o_lenF, o_lenS, o_lenR, k_LeL, k_LeD, o_int, o_abs, o_max2, o_min2, o_tup, k_Seq, o_lst, k_Ls, q_T, q_F, q_R, q_RL, o_slT, o_slS, o_slF, o_slR, k_SlR, o_cTup, k_In, k_Bs, o_cSum, o_cAll, o_cAny, e_opt, e_get0, e_getS, k_LpN, k_LpC, k_LpB, k_LpR, atI_0, atI_1, atI_2, atI_3, atI_4, ixN_0, ixN_1, ixN_2, ixN_3, List.set_cons_zero, List.set_cons_succ, List.getElem?_cons_zero, List.getElem?_cons_succ, List.map_cons, List.map_nil, List.cons_append, List.nil_append, List.length_cons, List.length_nil, List.replicate_succ, List.replicate_zero, decide_true, decide_false, Bool.not_true, Bool.not_false, true_and, and_true, Nat.sub_self, Nat.zero_add, k_onNx, decide_eq_true_eq, W_ok, w_tru, k_TruB, k_TruI, k_TruN, k_TruT, k_TruF, k_TruR, k_TruL, k_TruD, i_nil, i_cons, k_Bl, k_Bn, o_inR, o_ninR, o_inF, o_ninF, k_In0L, k_In0Di, k_In0Ds, k_InL, sn_i, sn_s, sn_t, sn_f, sn_b, sn_n, w_get1, k_Gt1, k_Gt2, k_Gt3i, k_Gt3s, k_Gt4, w_get2, k_Ht1, k_Ht2, k_Ht3, k_Ht4i, k_Ht4s, o_lisR, k_LisL, k_LisD, o_lisT, o_lisF, w_pop, k_Po1, k_Po2, k_Po3, o_srtR, k_SrtL, k_SrtD, k_SrtLs, k_SrtDs, ints_nums, o_str, w_popAt, k_Pa, k_Pa1, k_Pa2, k_Pa3, k_Pa4, o_addR, k_AddL, o_geA, o_geT, o_intB, List.length_map]
  repeat (refine And.intro (by first | omega | decide | (split <;> omega) | (simp only [List.length_map, List.length_append, List.length_cons, List.length_nil]; omega)) ?_)
  refine loopS_i (fun k σ h' => ∃ x1 : Option D, σ = [some (.tup (bs.map bdD)), x1] ∧ h' = h ∧ low 0 bs = low k (bs.drop k)) ⟨none, rfl, rfl, by rw [List.drop_zero]⟩ (fun _ _ _ _ => by trivial) (fun k σ h' y ey p => ?_) fun σ h' p => ?_
  · obtain ⟨x1, rfl, rfl, el⟩ := p
    obtain ⟨hk, rfl⟩ := range_at ey
    have hk : k < bs.length := by omega
    obtain ⟨b, eb, mb⟩ := get_at hk
    have e1 : (List.map bdD bs)[k]? = some (bdD b) := by rw [List.getElem?_map, eb]; rfl
    rw [drop_at eb, low] at el
    simp -implicitDefEqProofs only [w_vr, w_cst, w_bin2, k_B1, k_B2, w_tst, k_T, w_andT, k_AnT, k_AnF, w_orT, k_OrT, k_OrF, w_notT, k_No, w_andV, k_AnVT, k_AnVF, w_orV, k_OrVT, k_OrVF, w_notV, k_NoV, w_ifV, k_IfVT, k_IfVF, w_aNil, w_aCons, k_A1, k_A2, w_callM, k_C, w_isi, k_Ty_int_non, k_Ty_int_bl, k_Ty_int_int, k_Ty_int_str, k_Ty_int_tup, k_Ty_int_fl, k_Ty_int_ref, k_TyR_int_l, k_TyR_int_d, k_Ty_tuple_non, k_Ty_tuple_bl, k_Ty_tuple_int, k_Ty_tuple_str, k_Ty_tuple_tup, k_Ty_tuple_fl, k_Ty_tuple_ref, k_TyR_tuple_l, k_TyR_tuple_d, k_Ty_str_non, k_Ty_str_bl, k_Ty_str_int, k_Ty_str_str, k_Ty_str_tup, k_Ty_str_fl, k_Ty_str_ref, k_TyR_str_l, k_TyR_str_d, k_Ty_list_non, k_Ty_list_bl, k_Ty_list_int, k_Ty_list_str, k_Ty_list_tup, k_Ty_list_fl, k_Ty_list_ref, k_TyR_list_l, k_TyR_list_d, k_Ty_dict_non, k_Ty_dict_bl, k_Ty_dict_int, k_Ty_dict_str, k_Ty_dict_tup, k_Ty_dict_fl, k_Ty_dict_ref, k_TyR_dict_l, k_TyR_dict_d, k_Ty_bool_non, k_Ty_bool_bl, k_Ty_bool_int, k_Ty_bool_str, k_Ty_bool_tup, k_Ty_bool_fl, k_Ty_bool_ref, k_TyR_bool_l, k_TyR_bool_d, w_oNone, w_oSome, k_O, w_slM, k_S1, k_S2, k_S3, w_tupM, k_Tup, w_lstM, k_Lst, w_newDic, w_appM, k_Ap1, k_Ap2, k_Ap3, k_Ap4, w_compL, k_CL, w_compCall, w_compMaxD, k_M1, k_M2, k_M3, w_sNil, w_sSeq, k_SqN, k_SqR, k_SqB, k_SqC, w_sExpr, k_Ex, w_sRet, k_Re, w_sRetN, w_sBrk, w_sCt, w_sIf, k_IfT, k_IfF, w_sSet, k_St, w_sSetC, k_StC, w_sAsg, k_As, k_As2, w_gN, w_gSb, k_G1, k_G2, k_G3, w_gTp, w_gsNil, w_gsCons, k_Gs, w_run, k_RtR, k_RtN, w_srcM, k_Sr, s_T, s_F, s_S, s_R, s_RL, w_rng1, k_R1, w_rng2, k_R2, k_R3, w_sFor, k_Fo, w_compM, k_Co, w_stepC, k_XT, k_XF, k_Y, w_tTrue, o_addI, o_addS, o_addT, o_sub, o_mul, o_div, o_mod, o_pow, o_lt, o_le, o_gt, o_ge, o_eqI, o_eqS, o_neI, o_neS, o_eqB, o_isN, o_notN, n_n, n_b, n_i, n_s, n_t, n_f, n_r, o_ixT, o_ixF, o_ixS, k_Ch, o_ixR, k_IxL, k_IxD, o_setR, k_SeL, k_SeJ, k_SeI, k_SeS, o_lenT, o_lenF, o_lenS, o_lenR, k_LeL, k_LeD, o_int, o_abs, o_max2, o_min2, o_tup, k_Seq, o_lst, k_Ls, q_T, q_F, q_R, q_RL, o_slT, o_slS, o_slF, o_slR, k_SlR, o_cTup, k_In, k_Bs, o_cSum, o_cAll, o_cAny, e_opt, e_get0, e_getS, k_LpN, k_LpC, k_LpB, k_LpR, atI_0, atI_1, atI_2, atI_3, atI_4, ixN_0, ixN_1, ixN_2, ixN_3, List.set_cons_zero, List.set_cons_succ, List.getElem?_cons_zero, List.getElem?_cons_succ, List.map_cons, List.map_nil, List.cons_append, List.nil_append, List.length_cons, List.length_nil, List.replicate_succ, List.replicate_zero, decide_true, decide_false, Bool.not_true, Bool.not_false, true_and, and_true, Nat.sub_self, Nat.zero_add, k_onNx, decide_eq_true_eq, W_ok, w_tru, k_TruB, k_TruI, k_TruN, k_TruT, k_TruF, k_TruR, k_TruL, k_TruD, i_nil, i_cons, k_Bl, k_Bn, o_inR, o_ninR, o_inF, o_ninF, k_In0L, k_In0Di, k_In0Ds, k_InL, sn_i, sn_s, sn_t, sn_f, sn_b, sn_n, w_get1, k_Gt1, k_Gt2, k_Gt3i, k_Gt3s, k_Gt4, w_get2, k_Ht1, k_Ht2, k_Ht3, k_Ht4i, k_Ht4s, o_lisR, k_LisL, k_LisD, o_lisT, o_lisF, w_pop, k_Po1, k_Po2, k_Po3, o_srtR, k_SrtL, k_SrtD, k_SrtLs, k_SrtDs, ints_nums, o_str, w_popAt, k_Pa, k_Pa1, k_Pa2, k_Pa3, k_Pa4, o_addR, k_AddL, o_geA, o_geT, o_intB, atI_n, e1]
    repeat (refine And.intro (by first | omega | decide | (split <;> omega) | (simp only [List.length_map, List.length_append, List.length_cons, List.length_nil]; omega)) ?_)
    have q1 := fun (Q : QD) h => (o_eqBd (t := true) (h := h) (Q := Q) (hb b mb) (show k < 100 by omega)).1
    have q2 := fun (Q : QD) h => (o_eqBd (t := false) (h := h) (Q := Q) (hb b mb) (show k < 100 by omega)).2
    simp -implicitDefEqProofs only [w_vr, w_cst, w_bin2, k_B1, k_B2, w_tst, k_T, w_andT, k_AnT, k_AnF, w_orT, k_OrT, k_OrF, w_notT, k_No, w_andV, k_AnVT, k_AnVF, w_orV, k_OrVT, k_OrVF, w_notV, k_NoV, w_ifV, k_IfVT, k_IfVF, w_aNil, w_aCons, k_A1, k_A2, w_callM, k_C, w_isi, k_Ty_int_non, k_Ty_int_bl, k_Ty_int_int, k_Ty_int_str, k_Ty_int_tup, k_Ty_int_fl, k_Ty_int_ref, k_TyR_int_l, k_TyR_int_d, k_Ty_tuple_non, k_Ty_tuple_bl, k_Ty_tuple_int, k_Ty_tuple_str, k_Ty_tuple_tup, k_Ty_tuple_fl, k_Ty_tuple_ref, k_TyR_tuple_l, k_TyR_tuple_d, k_Ty_str_non, k_Ty_str_bl, k_Ty_str_int, k_Ty_str_str, k_Ty_str_tup, k_Ty_str_fl, k_Ty_str_ref, k_TyR_str_l, k_TyR_str_d, k_Ty_list_non, k_Ty_list_bl, k_Ty_list_int, k_Ty_list_str, k_Ty_list_tup, k_Ty_list_fl, k_Ty_list_ref, k_TyR_list_l, k_TyR_list_d, k_Ty_dict_non, k_Ty_dict_bl, k_Ty_dict_int, k_Ty_dict_str, k_Ty_dict_tup, k_Ty_dict_fl, k_Ty_dict_ref, k_TyR_dict_l, k_TyR_dict_d, k_Ty_bool_non, k_Ty_bool_bl, k_Ty_bool_int, k_Ty_bool_str, k_Ty_bool_tup, k_Ty_bool_fl, k_Ty_bool_ref, k_TyR_bool_l, k_TyR_bool_d, w_oNone, w_oSome, k_O, w_slM, k_S1, k_S2, k_S3, w_tupM, k_Tup, w_lstM, k_Lst, w_newDic, w_appM, k_Ap1, k_Ap2, k_Ap3, k_Ap4, w_compL, k_CL, w_compCall, w_compMaxD, k_M1, k_M2, k_M3, w_sNil, w_sSeq, k_SqN, k_SqR, k_SqB, k_SqC, w_sExpr, k_Ex, w_sRet, k_Re, w_sRetN, w_sBrk, w_sCt, w_sIf, k_IfT, k_IfF, w_sSet, k_St, w_sSetC, k_StC, w_sAsg, k_As, k_As2, w_gN, w_gSb, k_G1, k_G2, k_G3, w_gTp, w_gsNil, w_gsCons, k_Gs, w_run, k_RtR, k_RtN, w_srcM, k_Sr, s_T, s_F, s_S, s_R, s_RL, w_rng1, k_R1, w_rng2, k_R2, k_R3, w_sFor, k_Fo, w_compM, k_Co, w_stepC, k_XT, k_XF, k_Y, w_tTrue, o_addI, o_addS, o_addT, o_sub, o_mul, o_div, o_mod, o_pow, o_lt, o_le, o_gt, o_ge, o_eqI, o_eqS, o_neI, o_neS, o_eqB, o_isN, o_notN, n_n, n_b, n_i, n_s, n_t, n_f, n_r, o_ixT, o_ixF, o_ixS, k_Ch, o_ixR, k_IxL, k_IxD, o_setR, k_SeL, k_SeJ, k_SeI, k_SeS, o_lenT, o_lenF, o_lenS, o_lenR, k_LeL, k_LeD, o_int, o_abs, o_max2, o_min2, o_tup, k_Seq, o_lst, k_Ls, q_T, q_F, q_R, q_RL, o_slT, o_slS, o_slF, o_slR, k_SlR, o_cTup, k_In, k_Bs, o_cSum, o_cAll, o_cAny, e_opt, e_get0, e_getS, k_LpN, k_LpC, k_LpB, k_LpR, atI_0, atI_1, atI_2, atI_3, atI_4, ixN_0, ixN_1, ixN_2, ixN_3, List.set_cons_zero, List.set_cons_succ, List.getElem?_cons_zero, List.getElem?_cons_succ, List.map_cons, List.map_nil, List.cons_append, List.nil_append, List.length_cons, List.length_nil, List.replicate_succ, List.replicate_zero, decide_true, decide_false, Bool.not_true, Bool.not_false, true_and, and_true, Nat.sub_self, Nat.zero_add, k_onNx, decide_eq_true_eq, W_ok, w_tru, k_TruB, k_TruI, k_TruN, k_TruT, k_TruF, k_TruR, k_TruL, k_TruD, i_nil, i_cons, k_Bl, k_Bn, o_inR, o_ninR, o_inF, o_ninF, k_In0L, k_In0Di, k_In0Ds, k_InL, sn_i, sn_s, sn_t, sn_f, sn_b, sn_n, w_get1, k_Gt1, k_Gt2, k_Gt3i, k_Gt3s, k_Gt4, w_get2, k_Ht1, k_Ht2, k_Ht3, k_Ht4i, k_Ht4s, o_lisR, k_LisL, k_LisD, o_lisT, o_lisF, w_pop, k_Po1, k_Po2, k_Po3, o_srtR, k_SrtL, k_SrtD, k_SrtLs, k_SrtDs, ints_nums, o_str, w_popAt, k_Pa, k_Pa1, k_Pa2, k_Pa3, k_Pa4, o_addR, k_AddL, o_geA, o_geT, o_intB, q1]
    refine if_d (fun c => ?_) (fun c => ?_)
    · rw [if_pos c] at el
      simp -implicitDefEqProofs only [w_vr, w_cst, w_bin2, k_B1, k_B2, w_tst, k_T, w_andT, k_AnT, k_AnF, w_orT, k_OrT, k_OrF, w_notT, k_No, w_andV, k_AnVT, k_AnVF, w_orV, k_OrVT, k_OrVF, w_notV, k_NoV, w_ifV, k_IfVT, k_IfVF, w_aNil, w_aCons, k_A1, k_A2, w_callM, k_C, w_isi, k_Ty_int_non, k_Ty_int_bl, k_Ty_int_int, k_Ty_int_str, k_Ty_int_tup, k_Ty_int_fl, k_Ty_int_ref, k_TyR_int_l, k_TyR_int_d, k_Ty_tuple_non, k_Ty_tuple_bl, k_Ty_tuple_int, k_Ty_tuple_str, k_Ty_tuple_tup, k_Ty_tuple_fl, k_Ty_tuple_ref, k_TyR_tuple_l, k_TyR_tuple_d, k_Ty_str_non, k_Ty_str_bl, k_Ty_str_int, k_Ty_str_str, k_Ty_str_tup, k_Ty_str_fl, k_Ty_str_ref, k_TyR_str_l, k_TyR_str_d, k_Ty_list_non, k_Ty_list_bl, k_Ty_list_int, k_Ty_list_str, k_Ty_list_tup, k_Ty_list_fl, k_Ty_list_ref, k_TyR_list_l, k_TyR_list_d, k_Ty_dict_non, k_Ty_dict_bl, k_Ty_dict_int, k_Ty_dict_str, k_Ty_dict_tup, k_Ty_dict_fl, k_Ty_dict_ref, k_TyR_dict_l, k_TyR_dict_d, k_Ty_bool_non, k_Ty_bool_bl, k_Ty_bool_int, k_Ty_bool_str, k_Ty_bool_tup, k_Ty_bool_fl, k_Ty_bool_ref, k_TyR_bool_l, k_TyR_bool_d, w_oNone, w_oSome, k_O, w_slM, k_S1, k_S2, k_S3, w_tupM, k_Tup, w_lstM, k_Lst, w_newDic, w_appM, k_Ap1, k_Ap2, k_Ap3, k_Ap4, w_compL, k_CL, w_compCall, w_compMaxD, k_M1, k_M2, k_M3, w_sNil, w_sSeq, k_SqN, k_SqR, k_SqB, k_SqC, w_sExpr, k_Ex, w_sRet, k_Re, w_sRetN, w_sBrk, w_sCt, w_sIf, k_IfT, k_IfF, w_sSet, k_St, w_sSetC, k_StC, w_sAsg, k_As, k_As2, w_gN, w_gSb, k_G1, k_G2, k_G3, w_gTp, w_gsNil, w_gsCons, k_Gs, w_run, k_RtR, k_RtN, w_srcM, k_Sr, s_T, s_F, s_S, s_R, s_RL, w_rng1, k_R1, w_rng2, k_R2, k_R3, w_sFor, k_Fo, w_compM, k_Co, w_stepC, k_XT, k_XF, k_Y, w_tTrue, o_addI, o_addS, o_addT, o_sub, o_mul, o_div, o_mod, o_pow, o_lt, o_le, o_gt, o_ge, o_eqI, o_eqS, o_neI, o_neS, o_eqB, o_isN, o_notN, n_n, n_b, n_i, n_s, n_t, n_f, n_r, o_ixT, o_ixF, o_ixS, k_Ch, o_ixR, k_IxL, k_IxD, o_setR, k_SeL, k_SeJ, k_SeI, k_SeS, o_lenT, o_lenF, o_lenS, o_lenR, k_LeL, k_LeD, o_int, o_abs, o_max2, o_min2, o_tup, k_Seq, o_lst, k_Ls, q_T, q_F, q_R, q_RL, o_slT, o_slS, o_slF, o_slR, k_SlR, o_cTup, k_In, k_Bs, o_cSum, o_cAll, o_cAny, e_opt, e_get0, e_getS, k_LpN, k_LpC, k_LpB, k_LpR, atI_0, atI_1, atI_2, atI_3, atI_4, ixN_0, ixN_1, ixN_2, ixN_3, List.set_cons_zero, List.set_cons_succ, List.getElem?_cons_zero, List.getElem?_cons_succ, List.map_cons, List.map_nil, List.cons_append, List.nil_append, List.length_cons, List.length_nil, List.replicate_succ, List.replicate_zero, decide_true, decide_false, Bool.not_true, Bool.not_false, true_and, and_true, Nat.sub_self, Nat.zero_add, k_onNx, decide_eq_true_eq, W_ok, w_tru, k_TruB, k_TruI, k_TruN, k_TruT, k_TruF, k_TruR, k_TruL, k_TruD, i_nil, i_cons, k_Bl, k_Bn, o_inR, o_ninR, o_inF, o_ninF, k_In0L, k_In0Di, k_In0Ds, k_InL, sn_i, sn_s, sn_t, sn_f, sn_b, sn_n, w_get1, k_Gt1, k_Gt2, k_Gt3i, k_Gt3s, k_Gt4, w_get2, k_Ht1, k_Ht2, k_Ht3, k_Ht4i, k_Ht4s, o_lisR, k_LisL, k_LisD, o_lisT, o_lisF, w_pop, k_Po1, k_Po2, k_Po3, o_srtR, k_SrtL, k_SrtD, k_SrtLs, k_SrtDs, ints_nums, o_str, w_popAt, k_Pa, k_Pa1, k_Pa2, k_Pa3, k_Pa4, o_addR, k_AddL, o_geA, o_geT, o_intB, el]
    · rw [if_neg c] at el
      simp -implicitDefEqProofs only [w_vr, w_cst, w_bin2, k_B1, k_B2, w_tst, k_T, w_andT, k_AnT, k_AnF, w_orT, k_OrT, k_OrF, w_notT, k_No, w_andV, k_AnVT, k_AnVF, w_orV, k_OrVT, k_OrVF, w_notV, k_NoV, w_ifV, k_IfVT, k_IfVF, w_aNil, w_aCons, k_A1, k_A2, w_callM, k_C, w_isi, k_Ty_int_non, k_Ty_int_bl, k_Ty_int_int, k_Ty_int_str, k_Ty_int_tup, k_Ty_int_fl, k_Ty_int_ref, k_TyR_int_l, k_TyR_int_d, k_Ty_tuple_non, k_Ty_tuple_bl, k_Ty_tuple_int, k_Ty_tuple_str, k_Ty_tuple_tup, k_Ty_tuple_fl, k_Ty_tuple_ref, k_TyR_tuple_l, k_TyR_tuple_d, k_Ty_str_non, k_Ty_str_bl, k_Ty_str_int, k_Ty_str_str, k_Ty_str_tup, k_Ty_str_fl, k_Ty_str_ref, k_TyR_str_l, k_TyR_str_d, k_Ty_list_non, k_Ty_list_bl, k_Ty_list_int, k_Ty_list_str, k_Ty_list_tup, k_Ty_list_fl, k_Ty_list_ref, k_TyR_list_l, k_TyR_list_d, k_Ty_dict_non, k_Ty_dict_bl, k_Ty_dict_int, k_Ty_dict_str, k_Ty_dict_tup, k_Ty_dict_fl, k_Ty_dict_ref, k_TyR_dict_l, k_TyR_dict_d, k_Ty_bool_non, k_Ty_bool_bl, k_Ty_bool_int, k_Ty_bool_str, k_Ty_bool_tup, k_Ty_bool_fl, k_Ty_bool_ref, k_TyR_bool_l, k_TyR_bool_d, w_oNone, w_oSome, k_O, w_slM, k_S1, k_S2, k_S3, w_tupM, k_Tup, w_lstM, k_Lst, w_newDic, w_appM, k_Ap1, k_Ap2, k_Ap3, k_Ap4, w_compL, k_CL, w_compCall, w_compMaxD, k_M1, k_M2, k_M3, w_sNil, w_sSeq, k_SqN, k_SqR, k_SqB, k_SqC, w_sExpr, k_Ex, w_sRet, k_Re, w_sRetN, w_sBrk, w_sCt, w_sIf, k_IfT, k_IfF, w_sSet, k_St, w_sSetC, k_StC, w_sAsg, k_As, k_As2, w_gN, w_gSb, k_G1, k_G2, k_G3, w_gTp, w_gsNil, w_gsCons, k_Gs, w_run, k_RtR, k_RtN, w_srcM, k_Sr, s_T, s_F, s_S, s_R, s_RL, w_rng1, k_R1, w_rng2, k_R2, k_R3, w_sFor, k_Fo, w_compM, k_Co, w_stepC, k_XT, k_XF, k_Y, w_tTrue, o_addI, o_addS, o_addT, o_sub, o_mul, o_div, o_mod, o_pow, o_lt, o_le, o_gt, o_ge, o_eqI, o_eqS, o_neI, o_neS, o_eqB, o_isN, o_notN, n_n, n_b, n_i, n_s, n_t, n_f, n_r, o_ixT, o_ixF, o_ixS, k_Ch, o_ixR, k_IxL, k_IxD, o_setR, k_SeL, k_SeJ, k_SeI, k_SeS, o_lenT, o_lenF, o_lenS, o_lenR, k_LeL, k_LeD, o_int, o_abs, o_max2, o_min2, o_tup, k_Seq, o_lst, k_Ls, q_T, q_F, q_R, q_RL, o_slT, o_slS, o_slF, o_slR, k_SlR, o_cTup, k_In, k_Bs, o_cSum, o_cAll, o_cAny, e_opt, e_get0, e_getS, k_LpN, k_LpC, k_LpB, k_LpR, atI_0, atI_1, atI_2, atI_3, atI_4, ixN_0, ixN_1, ixN_2, ixN_3, List.set_cons_zero, List.set_cons_succ, List.getElem?_cons_zero, List.getElem?_cons_succ, List.map_cons, List.map_nil, List.cons_append, List.nil_append, List.length_cons, List.length_nil, List.replicate_succ, List.replicate_zero, decide_true, decide_false, Bool.not_true, Bool.not_false, true_and, and_true, Nat.sub_self, Nat.zero_add, k_onNx, decide_eq_true_eq, W_ok, w_tru, k_TruB, k_TruI, k_TruN, k_TruT, k_TruF, k_TruR, k_TruL, k_TruD, i_nil, i_cons, k_Bl, k_Bn, o_inR, o_ninR, o_inF, o_ninF, k_In0L, k_In0Di, k_In0Ds, k_InL, sn_i, sn_s, sn_t, sn_f, sn_b, sn_n, w_get1, k_Gt1, k_Gt2, k_Gt3i, k_Gt3s, k_Gt4, w_get2, k_Ht1, k_Ht2, k_Ht3, k_Ht4i, k_Ht4s, o_lisR, k_LisL, k_LisD, o_lisT, o_lisF, w_pop, k_Po1, k_Po2, k_Po3, o_srtR, k_SrtL, k_SrtD, k_SrtLs, k_SrtDs, ints_nums, o_str, w_popAt, k_Pa, k_Pa1, k_Pa2, k_Pa3, k_Pa4, o_addR, k_AddL, o_geA, o_geT, o_intB, atI_n, e1]
      repeat (refine And.intro (by first | omega | decide | (split <;> omega) | (simp only [List.length_map, List.length_append, List.length_cons, List.length_nil]; omega)) ?_)
      simp -implicitDefEqProofs only [w_vr, w_cst, w_bin2, k_B1, k_B2, w_tst, k_T, w_andT, k_AnT, k_AnF, w_orT, k_OrT, k_OrF, w_notT, k_No, w_andV, k_AnVT, k_AnVF, w_orV, k_OrVT, k_OrVF, w_notV, k_NoV, w_ifV, k_IfVT, k_IfVF, w_aNil, w_aCons, k_A1, k_A2, w_callM, k_C, w_isi, k_Ty_int_non, k_Ty_int_bl, k_Ty_int_int, k_Ty_int_str, k_Ty_int_tup, k_Ty_int_fl, k_Ty_int_ref, k_TyR_int_l, k_TyR_int_d, k_Ty_tuple_non, k_Ty_tuple_bl, k_Ty_tuple_int, k_Ty_tuple_str, k_Ty_tuple_tup, k_Ty_tuple_fl, k_Ty_tuple_ref, k_TyR_tuple_l, k_TyR_tuple_d, k_Ty_str_non, k_Ty_str_bl, k_Ty_str_int, k_Ty_str_str, k_Ty_str_tup, k_Ty_str_fl, k_Ty_str_ref, k_TyR_str_l, k_TyR_str_d, k_Ty_list_non, k_Ty_list_bl, k_Ty_list_int, k_Ty_list_str, k_Ty_list_tup, k_Ty_list_fl, k_Ty_list_ref, k_TyR_list_l, k_TyR_list_d, k_Ty_dict_non, k_Ty_dict_bl, k_Ty_dict_int, k_Ty_dict_str, k_Ty_dict_tup, k_Ty_dict_fl, k_Ty_dict_ref, k_TyR_dict_l, k_TyR_dict_d, k_Ty_bool_non, k_Ty_bool_bl, k_Ty_bool_int, k_Ty_bool_str, k_Ty_bool_tup, k_Ty_bool_fl, k_Ty_bool_ref, k_TyR_bool_l, k_TyR_bool_d, w_oNone, w_oSome, k_O, w_slM, k_S1, k_S2, k_S3, w_tupM, k_Tup, w_lstM, k_Lst, w_newDic, w_appM, k_Ap1, k_Ap2, k_Ap3, k_Ap4, w_compL, k_CL, w_compCall, w_compMaxD, k_M1, k_M2, k_M3, w_sNil, w_sSeq, k_SqN, k_SqR, k_SqB, k_SqC, w_sExpr, k_Ex, w_sRet, k_Re, w_sRetN, w_sBrk, w_sCt, w_sIf, k_IfT, k_IfF, w_sSet, k_St, w_sSetC, k_StC, w_sAsg, k_As, k_As2, w_gN, w_gSb, k_G1, k_G2, k_G3, w_gTp, w_gsNil, w_gsCons, k_Gs, w_run, k_RtR, k_RtN, w_srcM, k_Sr, s_T, s_F, s_S, s_R, s_RL, w_rng1, k_R1, w_rng2, k_R2, k_R3, w_sFor, k_Fo, w_compM, k_Co, w_stepC, k_XT, k_XF, k_Y, w_tTrue, o_addI, o_addS, o_addT, o_sub, o_mul, o_div, o_mod, o_pow, o_lt, o_le, o_gt, o_ge, o_eqI, o_eqS, o_neI, o_neS, o_eqB, o_isN, o_notN, n_n, n_b, n_i, n_s, n_t, n_f, n_r, o_ixT, o_ixF, o_ixS, k_Ch, o_ixR, k_IxL, k_IxD, o_setR, k_SeL, k_SeJ, k_SeI, k_SeS, o_lenT, o_lenF, o_lenS, o_lenR, k_LeL, k_LeD, o_int, o_abs, o_max2, o_min2, o_tup, k_Seq, o_lst, k_Ls, q_T, q_F, q_R, q_RL, o_slT, o_slS, o_slF, o_slR, k_SlR, o_cTup, k_In, k_Bs, o_cSum, o_cAll, o_cAny, e_opt, e_get0, e_getS, k_LpN, k_LpC, k_LpB, k_LpR, atI_0, atI_1, atI_2, atI_3, atI_4, ixN_0, ixN_1, ixN_2, ixN_3, List.set_cons_zero, List.set_cons_succ, List.getElem?_cons_zero, List.getElem?_cons_succ, List.map_cons, List.map_nil, List.cons_append, List.nil_append, List.length_cons, List.length_nil, List.replicate_succ, List.replicate_zero, decide_true, decide_false, Bool.not_true, Bool.not_false, true_and, and_true, Nat.sub_self, Nat.zero_add, k_onNx, decide_eq_true_eq, W_ok, w_tru, k_TruB, k_TruI, k_TruN, k_TruT, k_TruF, k_TruR, k_TruL, k_TruD, i_nil, i_cons, k_Bl, k_Bn, o_inR, o_ninR, o_inF, o_ninF, k_In0L, k_In0Di, k_In0Ds, k_InL, sn_i, sn_s, sn_t, sn_f, sn_b, sn_n, w_get1, k_Gt1, k_Gt2, k_Gt3i, k_Gt3s, k_Gt4, w_get2, k_Ht1, k_Ht2, k_Ht3, k_Ht4i, k_Ht4s, o_lisR, k_LisL, k_LisD, o_lisT, o_lisF, w_pop, k_Po1, k_Po2, k_Po3, o_srtR, k_SrtL, k_SrtD, k_SrtLs, k_SrtDs, ints_nums, o_str, w_popAt, k_Pa, k_Pa1, k_Pa2, k_Pa3, k_Pa4, o_addR, k_AddL, o_geA, o_geT, o_intB, q2]
      refine if_nd (fun c2 => ?_) (fun c2 => ?_)
      · rw [if_neg c2] at el
        simp -implicitDefEqProofs only [w_vr, w_cst, w_bin2, k_B1, k_B2, w_tst, k_T, w_andT, k_AnT, k_AnF, w_orT, k_OrT, k_OrF, w_notT, k_No, w_andV, k_AnVT, k_AnVF, w_orV, k_OrVT, k_OrVF, w_notV, k_NoV, w_ifV, k_IfVT, k_IfVF, w_aNil, w_aCons, k_A1, k_A2, w_callM, k_C, w_isi, k_Ty_int_non, k_Ty_int_bl, k_Ty_int_int, k_Ty_int_str, k_Ty_int_tup, k_Ty_int_fl, k_Ty_int_ref, k_TyR_int_l, k_TyR_int_d, k_Ty_tuple_non, k_Ty_tuple_bl, k_Ty_tuple_int, k_Ty_tuple_str, k_Ty_tuple_tup, k_Ty_tuple_fl, k_Ty_tuple_ref, k_TyR_tuple_l, k_TyR_tuple_d, k_Ty_str_non, k_Ty_str_bl, k_Ty_str_int, k_Ty_str_str, k_Ty_str_tup, k_Ty_str_fl, k_Ty_str_ref, k_TyR_str_l, k_TyR_str_d, k_Ty_list_non, k_Ty_list_bl, k_Ty_list_int, k_Ty_list_str, k_Ty_list_tup, k_Ty_list_fl, k_Ty_list_ref, k_TyR_list_l, k_TyR_list_d, k_Ty_dict_non, k_Ty_dict_bl, k_Ty_dict_int, k_Ty_dict_str, k_Ty_dict_tup, k_Ty_dict_fl, k_Ty_dict_ref, k_TyR_dict_l, k_TyR_dict_d, k_Ty_bool_non, k_Ty_bool_bl, k_Ty_bool_int, k_Ty_bool_str, k_Ty_bool_tup, k_Ty_bool_fl, k_Ty_bool_ref, k_TyR_bool_l, k_TyR_bool_d, w_oNone, w_oSome, k_O, w_slM, k_S1, k_S2, k_S3, w_tupM, k_Tup, w_lstM, k_Lst, w_newDic, w_appM, k_Ap1, k_Ap2, k_Ap3, k_Ap4, w_compL, k_CL, w_compCall, w_compMaxD, k_M1, k_M2, k_M3, w_sNil, w_sSeq, k_SqN, k_SqR, k_SqB, k_SqC, w_sExpr, k_Ex, w_sRet, k_Re, w_sRetN, w_sBrk, w_sCt, w_sIf, k_IfT, k_IfF, w_sSet, k_St, w_sSetC, k_StC, w_sAsg, k_As, k_As2, w_gN, w_gSb, k_G1, k_G2, k_G3, w_gTp, w_gsNil, w_gsCons, k_Gs, w_run, k_RtR, k_RtN, w_srcM, k_Sr, s_T, s_F, s_S, s_R, s_RL, w_rng1, k_R1, w_rng2, k_R2, k_R3, w_sFor, k_Fo, w_compM, k_Co, w_stepC, k_XT, k_XF, k_Y, w_tTrue, o_addI, o_addS, o_addT, o_sub, o_mul, o_div, o_mod, o_pow, o_lt, o_le, o_gt, o_ge, o_eqI, o_eqS, o_neI, o_neS, o_eqB, o_isN, o_notN, n_n, n_b, n_i, n_s, n_t, n_f, n_r, o_ixT, o_ixF, o_ixS, k_Ch, o_ixR, k_IxL, k_IxD, o_setR, k_SeL, k_SeJ, k_SeI, k_SeS, o_lenT, o_lenF, o_lenS, o_lenR, k_LeL, k_LeD, o_int, o_abs, o_max2, o_min2, o_tup, k_Seq, o_lst, k_Ls, q_T, q_F, q_R, q_RL, o_slT, o_slS, o_slF, o_slR, k_SlR, o_cTup, k_In, k_Bs, o_cSum, o_cAll, o_cAny, e_opt, e_get0, e_getS, k_LpN, k_LpC, k_LpB, k_LpR, atI_0, atI_1, atI_2, atI_3, atI_4, ixN_0, ixN_1, ixN_2, ixN_3, List.set_cons_zero, List.set_cons_succ, List.getElem?_cons_zero, List.getElem?_cons_succ, List.map_cons, List.map_nil, List.cons_append, List.nil_append, List.length_cons, List.length_nil, List.replicate_succ, List.replicate_zero, decide_true, decide_false, Bool.not_true, Bool.not_false, true_and, and_true, Nat.sub_self, Nat.zero_add, k_onNx, decide_eq_true_eq, W_ok, w_tru, k_TruB, k_TruI, k_TruN, k_TruT, k_TruF, k_TruR, k_TruL, k_TruD, i_nil, i_cons, k_Bl, k_Bn, o_inR, o_ninR, o_inF, o_ninF, k_In0L, k_In0Di, k_In0Ds, k_InL, sn_i, sn_s, sn_t, sn_f, sn_b, sn_n, w_get1, k_Gt1, k_Gt2, k_Gt3i, k_Gt3s, k_Gt4, w_get2, k_Ht1, k_Ht2, k_Ht3, k_Ht4i, k_Ht4s, o_lisR, k_LisL, k_LisD, o_lisT, o_lisF, w_pop, k_Po1, k_Po2, k_Po3, o_srtR, k_SrtL, k_SrtD, k_SrtLs, k_SrtDs, ints_nums, o_str, w_popAt, k_Pa, k_Pa1, k_Pa2, k_Pa3, k_Pa4, o_addR, k_AddL, o_geA, o_geT, o_intB, el]
      · rw [if_pos c2] at el
        simp -implicitDefEqProofs only [w_vr, w_cst, w_bin2, k_B1, k_B2, w_tst, k_T, w_andT, k_AnT, k_AnF, w_orT, k_OrT, k_OrF, w_notT, k_No, w_andV, k_AnVT, k_AnVF, w_orV, k_OrVT, k_OrVF, w_notV, k_NoV, w_ifV, k_IfVT, k_IfVF, w_aNil, w_aCons, k_A1, k_A2, w_callM, k_C, w_isi, k_Ty_int_non, k_Ty_int_bl, k_Ty_int_int, k_Ty_int_str, k_Ty_int_tup, k_Ty_int_fl, k_Ty_int_ref, k_TyR_int_l, k_TyR_int_d, k_Ty_tuple_non, k_Ty_tuple_bl, k_Ty_tuple_int, k_Ty_tuple_str, k_Ty_tuple_tup, k_Ty_tuple_fl, k_Ty_tuple_ref, k_TyR_tuple_l, k_TyR_tuple_d, k_Ty_str_non, k_Ty_str_bl, k_Ty_str_int, k_Ty_str_str, k_Ty_str_tup, k_Ty_str_fl, k_Ty_str_ref, k_TyR_str_l, k_TyR_str_d, k_Ty_list_non, k_Ty_list_bl, k_Ty_list_int, k_Ty_list_str, k_Ty_list_tup, k_Ty_list_fl, k_Ty_list_ref, k_TyR_list_l, k_TyR_list_d, k_Ty_dict_non, k_Ty_dict_bl, k_Ty_dict_int, k_Ty_dict_str, k_Ty_dict_tup, k_Ty_dict_fl, k_Ty_dict_ref, k_TyR_dict_l, k_TyR_dict_d, k_Ty_bool_non, k_Ty_bool_bl, k_Ty_bool_int, k_Ty_bool_str, k_Ty_bool_tup, k_Ty_bool_fl, k_Ty_bool_ref, k_TyR_bool_l, k_TyR_bool_d, w_oNone, w_oSome, k_O, w_slM, k_S1, k_S2, k_S3, w_tupM, k_Tup, w_lstM, k_Lst, w_newDic, w_appM, k_Ap1, k_Ap2, k_Ap3, k_Ap4, w_compL, k_CL, w_compCall, w_compMaxD, k_M1, k_M2, k_M3, w_sNil, w_sSeq, k_SqN, k_SqR, k_SqB, k_SqC, w_sExpr, k_Ex, w_sRet, k_Re, w_sRetN, w_sBrk, w_sCt, w_sIf, k_IfT, k_IfF, w_sSet, k_St, w_sSetC, k_StC, w_sAsg, k_As, k_As2, w_gN, w_gSb, k_G1, k_G2, k_G3, w_gTp, w_gsNil, w_gsCons, k_Gs, w_run, k_RtR, k_RtN, w_srcM, k_Sr, s_T, s_F, s_S, s_R, s_RL, w_rng1, k_R1, w_rng2, k_R2, k_R3, w_sFor, k_Fo, w_compM, k_Co, w_stepC, k_XT, k_XF, k_Y, w_tTrue, o_addI, o_addS, o_addT, o_sub, o_mul, o_div, o_mod, o_pow, o_lt, o_le, o_gt, o_ge, o_eqI, o_eqS, o_neI, o_neS, o_eqB, o_isN, o_notN, n_n, n_b, n_i, n_s, n_t, n_f, n_r, o_ixT, o_ixF, o_ixS, k_Ch, o_ixR, k_IxL, k_IxD, o_setR, k_SeL, k_SeJ, k_SeI, k_SeS, o_lenT, o_lenF, o_lenS, o_lenR, k_LeL, k_LeD, o_int, o_abs, o_max2, o_min2, o_tup, k_Seq, o_lst, k_Ls, q_T, q_F, q_R, q_RL, o_slT, o_slS, o_slF, o_slR, k_SlR, o_cTup, k_In, k_Bs, o_cSum, o_cAll, o_cAny, e_opt, e_get0, e_getS, k_LpN, k_LpC, k_LpB, k_LpR, atI_0, atI_1, atI_2, atI_3, atI_4, ixN_0, ixN_1, ixN_2, ixN_3, List.set_cons_zero, List.set_cons_succ, List.getElem?_cons_zero, List.getElem?_cons_succ, List.map_cons, List.map_nil, List.cons_append, List.nil_append, List.length_cons, List.length_nil, List.replicate_succ, List.replicate_zero, decide_true, decide_false, Bool.not_true, Bool.not_false, true_and, and_true, Nat.sub_self, Nat.zero_add, k_onNx, decide_eq_true_eq, W_ok, w_tru, k_TruB, k_TruI, k_TruN, k_TruT, k_TruF, k_TruR, k_TruL, k_TruD, i_nil, i_cons, k_Bl, k_Bn, o_inR, o_ninR, o_inF, o_ninF, k_In0L, k_In0Di, k_In0Ds, k_InL, sn_i, sn_s, sn_t, sn_f, sn_b, sn_n, w_get1, k_Gt1, k_Gt2, k_Gt3i, k_Gt3s, k_Gt4, w_get2, k_Ht1, k_Ht2, k_Ht3, k_Ht4i, k_Ht4s, o_lisR, k_LisL, k_LisD, o_lisT, o_lisF, w_pop, k_Po1, k_Po2, k_Po3, o_srtR, k_SrtL, k_SrtD, k_SrtLs, k_SrtDs, ints_nums, o_str, w_popAt, k_Pa, k_Pa1, k_Pa2, k_Pa3, k_Pa4, o_addR, k_AddL, o_geA, o_geT, o_intB]
        exact ⟨_, rfl, el⟩
  · obtain ⟨x1, rfl, rfl, el⟩ := p
    rw [range_len, show ((bs.length : Int)).toNat = bs.length by omega, List.drop_length, low] at el
    simp -implicitDefEqProofs only [w_vr, w_cst, w_bin2, k_B1, k_B2, w_tst, k_T, w_andT, k_AnT, k_AnF, w_orT, k_OrT, k_OrF, w_notT, k_No, w_andV, k_AnVT, k_AnVF, w_orV, k_OrVT, k_OrVF, w_notV, k_NoV, w_ifV, k_IfVT, k_IfVF, w_aNil, w_aCons, k_A1, k_A2, w_callM, k_C, w_isi, k_Ty_int_non, k_Ty_int_bl, k_Ty_int_int, k_Ty_int_str, k_Ty_int_tup, k_Ty_int_fl, k_Ty_int_ref, k_TyR_int_l, k_TyR_int_d, k_Ty_tuple_non, k_Ty_tuple_bl, k_Ty_tuple_int, k_Ty_tuple_str, k_Ty_tuple_tup, k_Ty_tuple_fl, k_Ty_tuple_ref, k_TyR_tuple_l, k_TyR_tuple_d, k_Ty_str_non, k_Ty_str_bl, k_Ty_str_int, k_Ty_str_str, k_Ty_str_tup, k_Ty_str_fl, k_Ty_str_ref, k_TyR_str_l, k_TyR_str_d, k_Ty_list_non, k_Ty_list_bl, k_Ty_list_int, k_Ty_list_str, k_Ty_list_tup, k_Ty_list_fl, k_Ty_list_ref, k_TyR_list_l, k_TyR_list_d, k_Ty_dict_non, k_Ty_dict_bl, k_Ty_dict_int, k_Ty_dict_str, k_Ty_dict_tup, k_Ty_dict_fl, k_Ty_dict_ref, k_TyR_dict_l, k_TyR_dict_d, k_Ty_bool_non, k_Ty_bool_bl, k_Ty_bool_int, k_Ty_bool_str, k_Ty_bool_tup, k_Ty_bool_fl, k_Ty_bool_ref, k_TyR_bool_l, k_TyR_bool_d, w_oNone, w_oSome, k_O, w_slM, k_S1, k_S2, k_S3, w_tupM, k_Tup, w_lstM, k_Lst, w_newDic, w_appM, k_Ap1, k_Ap2, k_Ap3, k_Ap4, w_compL, k_CL, w_compCall, w_compMaxD, k_M1, k_M2, k_M3, w_sNil, w_sSeq, k_SqN, k_SqR, k_SqB, k_SqC, w_sExpr, k_Ex, w_sRet, k_Re, w_sRetN, w_sBrk, w_sCt, w_sIf, k_IfT, k_IfF, w_sSet, k_St, w_sSetC, k_StC, w_sAsg, k_As, k_As2, w_gN, w_gSb, k_G1, k_G2, k_G3, w_gTp, w_gsNil, w_gsCons, k_Gs, w_run, k_RtR, k_RtN, w_srcM, k_Sr, s_T, s_F, s_S, s_R, s_RL, w_rng1, k_R1, w_rng2, k_R2, k_R3, w_sFor, k_Fo, w_compM, k_Co, w_stepC, k_XT, k_XF, k_Y, w_tTrue, o_addI, o_addS, o_addT, o_sub, o_mul, o_div, o_mod, o_pow, o_lt, o_le, o_gt, o_ge, o_eqI, o_eqS, o_neI, o_neS, o_eqB, o_isN, o_notN, n_n, n_b, n_i, n_s, n_t, n_f, n_r, o_ixT, o_ixF, o_ixS, k_Ch, o_ixR, k_IxL, k_IxD, o_setR, k_SeL, k_SeJ, k_SeI, k_SeS, o_lenT, o_lenF, o_lenS, o_lenR, k_LeL, k_LeD, o_int, o_abs, o_max2, o_min2, o_tup, k_Seq, o_lst, k_Ls, q_T, q_F, q_R, q_RL, o_slT, o_slS, o_slF, o_slR, k_SlR, o_cTup, k_In, k_Bs, o_cSum, o_cAll, o_cAny, e_opt, e_get0, e_getS, k_LpN, k_LpC, k_LpB, k_LpR, atI_0, atI_1, atI_2, atI_3, atI_4, ixN_0, ixN_1, ixN_2, ixN_3, List.set_cons_zero, List.set_cons_succ, List.getElem?_cons_zero, List.getElem?_cons_succ, List.map_cons, List.map_nil, List.cons_append, List.nil_append, List.length_cons, List.length_nil, List.replicate_succ, List.replicate_zero, decide_true, decide_false, Bool.not_true, Bool.not_false, true_and, and_true, Nat.sub_self, Nat.zero_add, k_onNx, decide_eq_true_eq, W_ok, w_tru, k_TruB, k_TruI, k_TruN, k_TruT, k_TruF, k_TruR, k_TruL, k_TruD, i_nil, i_cons, k_Bl, k_Bn, o_inR, o_ninR, o_inF, o_ninF, k_In0L, k_In0Di, k_In0Ds, k_InL, sn_i, sn_s, sn_t, sn_f, sn_b, sn_n, w_get1, k_Gt1, k_Gt2, k_Gt3i, k_Gt3s, k_Gt4, w_get2, k_Ht1, k_Ht2, k_Ht3, k_Ht4i, k_Ht4s, o_lisR, k_LisL, k_LisD, o_lisT, o_lisF, w_pop, k_Po1, k_Po2, k_Po3, o_srtR, k_SrtL, k_SrtD, k_SrtLs, k_SrtDs, ints_nums, o_str, w_popAt, k_Pa, k_Pa1, k_Pa2, k_Pa3, k_Pa4, o_addR, k_AddL, o_geA, o_geT, o_intB, el]
theorem lower_at (N : Nat) (bs : List Bd) (tb : D) (htb : tb = .tup (bs.map bdD)) (h : DHeap) (hN : 1 ≤ N) (hb : ∀ b, b ∈ bs → b ∈ opts) (hl : bs.length ≤ 4) (Q : D → DHeap → Prop) (hQ : Q (.bl (low 0 bs)) h) : W (run N i_is_lower [tb] h) Q := by
  obtain ⟨n, rfl⟩ : ∃ n, N = n + 1 := ⟨N - 1, by omega⟩
  have q := lower_ok n bs tb htb h hb hl
  refine W_mono q fun _ _ q => ?_
  obtain ⟨rfl, rfl⟩ := q
  exact hQ
theorem resp_ok (n b : Nat) (xs R : List Int) (bs : List Bd) (h : DHeap) (hb : ∀ b, b ∈ bs → b ∈ opts) (hl : bs.length ≤ 4) (hx : xs.length = bs.length) (hR : R.length = 4) (hh : h[b]? = some (.lst (bs.map bdD))) : W (run (n + 1) i__law_respects [.tup (xs.map D.int), .ref b, .tup (R.map D.int)] h) (fun d h' => d = .bl (resp xs bs R) ∧ h' = h) := by
  rw [r__law_respects]
  unfold B__law_respects
  simp -implicitDefEqProofs only [w_vr, w_cst, w_bin2, k_B1, k_B2, w_tst, k_T, w_andT, k_AnT, k_AnF, w_orT, k_OrT, k_OrF, w_notT, k_No, w_andV, k_AnVT, k_AnVF, w_orV, k_OrVT, k_OrVF, w_notV, k_NoV, w_ifV, k_IfVT, k_IfVF, w_aNil, w_aCons, k_A1, k_A2, w_callM, k_C, w_isi, k_Ty_int_non, k_Ty_int_bl, k_Ty_int_int, k_Ty_int_str, k_Ty_int_tup, k_Ty_int_fl, k_Ty_int_ref, k_TyR_int_l, k_TyR_int_d, k_Ty_tuple_non, k_Ty_tuple_bl, k_Ty_tuple_int, k_Ty_tuple_str, k_Ty_tuple_tup, k_Ty_tuple_fl, k_Ty_tuple_ref, k_TyR_tuple_l, k_TyR_tuple_d, k_Ty_str_non, k_Ty_str_bl, k_Ty_str_int, k_Ty_str_str, k_Ty_str_tup, k_Ty_str_fl, k_Ty_str_ref, k_TyR_str_l, k_TyR_str_d, k_Ty_list_non, k_Ty_list_bl, k_Ty_list_int, k_Ty_list_str, k_Ty_list_tup, k_Ty_list_fl, k_Ty_list_ref, k_TyR_list_l, k_TyR_list_d, k_Ty_dict_non, k_Ty_dict_bl, k_Ty_dict_int, k_Ty_dict_str, k_Ty_dict_tup, k_Ty_dict_fl, k_Ty_dict_ref, k_TyR_dict_l, k_TyR_dict_d, k_Ty_bool_non, k_Ty_bool_bl, k_Ty_bool_int, k_Ty_bool_str, k_Ty_bool_tup, k_Ty_bool_fl, k_Ty_bool_ref, k_TyR_bool_l, k_TyR_bool_d, w_oNone, w_oSome, k_O, w_slM, k_S1, k_S2, k_S3, w_tupM, k_Tup, w_lstM, k_Lst, w_newDic, w_appM, k_Ap1, k_Ap2, k_Ap3, k_Ap4, w_compL, k_CL, w_compCall, w_compMaxD, k_M1, k_M2, k_M3, w_sNil, w_sSeq, k_SqN, k_SqR, k_SqB, k_SqC, w_sExpr, k_Ex, w_sRet, k_Re, w_sRetN, w_sBrk, w_sCt, w_sIf, k_IfT, k_IfF, w_sSet, k_St, w_sSetC, k_StC, w_sAsg, k_As, k_As2, w_gN, w_gSb, k_G1, k_G2, k_G3, w_gTp, w_gsNil, w_gsCons, k_Gs, w_run, k_RtR, k_RtN, w_srcM, k_Sr, s_T, s_F, s_S, s_R, s_RL, w_rng1, k_R1, w_rng2, k_R2, k_R3, w_sFor, k_Fo, w_compM, k_Co, w_stepC, k_XT, k_XF, k_Y, w_tTrue, o_addI, o_addS, o_addT, o_sub, o_mul, o_div, o_mod, o_pow, o_lt, o_le, o_gt, o_ge, o_eqI, o_eqS, o_neI, o_neS, o_eqB, o_isN, o_notN, n_n, n_b, n_i, n_s, n_t, n_f, n_r, o_ixT, o_ixF, o_ixS, k_Ch, o_ixR, k_IxL, k_IxD, o_setR, k_SeL, k_SeJ, k_SeI, k_SeS, o_lenT, o_lenF, o_lenS, o_lenR, k_LeL, k_LeD, o_int, o_abs, o_max2, o_min2, o_tup, k_Seq, o_lst, k_Ls, q_T, q_F, q_R, q_RL, o_slT, o_slS, o_slF, o_slR, k_SlR, o_cTup, k_In, k_Bs, o_cSum, o_cAll, o_cAny, e_opt, e_get0, e_getS, k_LpN, k_LpC, k_LpB, k_LpR, atI_0, atI_1, atI_2, atI_3, atI_4, ixN_0, ixN_1, ixN_2, ixN_3, List.set_cons_zero, List.set_cons_succ, List.getElem?_cons_zero, List.getElem?_cons_succ, List.map_cons, List.map_nil, List.cons_append, List.nil_append, List.length_cons, List.length_nil, List.replicate_succ, List.replicate_zero, decide_true, decide_false, Bool.not_true, Bool.not_false, true_and, and_true, Nat.sub_self, Nat.zero_add, k_onNx, decide_eq_true_eq, W_ok, w_tru, k_TruB, k_TruI, k_TruN, k_TruT, k_TruF, k_TruR, k_TruL, k_TruD, i_nil, i_cons, k_Bl, k_Bn, o_inR, o_ninR, o_inF, o_ninF, k_In0L, k_In0Di, k_In0Ds, k_InL, sn_i, sn_s, sn_t, sn_f, sn_b, sn_n, w_get1, k_Gt1, k_Gt2, k_Gt3i, k_Gt3s, k_Gt4, w_get2, k_Ht1, k_Ht2, k_Ht3, k_Ht4i, k_Ht4s, o_lisR, k_LisL, k_LisD, o_lisT, o_lisF, w_pop, k_Po1, k_Po2, k_Po3, o_srtR, k_SrtL, k_SrtD, k_SrtLs, k_SrtDs, ints_nums, o_str, w_popAt, k_Pa, k_Pa1, k_Pa2, k_Pa3, k_Pa4, o_addR, k_AddL, o_geA, o_geT, o_intB, hh, List.length_map]
  repeat (refine And.intro (by first | omega | decide | (split <;> omega) | (simp only [List.length_map, List.length_append, List.length_cons, List.length_nil]; omega)) ?_)
  refine loopS_i (fun k σ h' => ∃ x3 : Option D, σ = [some (.tup (xs.map D.int)), some (.ref b), some (.tup (R.map D.int)), x3] ∧ h' = h ∧ resp xs bs R = resp (xs.drop k) (bs.drop k) R) ⟨none, rfl, rfl, by rw [List.drop_zero, List.drop_zero]⟩ (fun _ _ _ _ => by trivial) (fun k σ h' y ey p => ?_) fun σ h' p => ?_
  · obtain ⟨x3, rfl, rfl, el⟩ := p
    obtain ⟨hk, rfl⟩ := range_at ey
    have hk : k < bs.length := by omega
    obtain ⟨c, eb, mb⟩ := get_at hk
    obtain ⟨x, ex, _⟩ := get_at (l := xs) (k := k) (by omega)
    have e1 : (List.map bdD bs)[k]? = some (bdD c) := by rw [List.getElem?_map, eb]; rfl
    have e2 : (List.map D.int xs)[k]? = some (.int x) := by rw [List.getElem?_map, ex]; rfl
    rw [drop_at eb, drop_at ex, resp] at el
    have ho := hb c mb
    cases c with
    | none =>
      simp -implicitDefEqProofs only [w_vr, w_cst, w_bin2, k_B1, k_B2, w_tst, k_T, w_andT, k_AnT, k_AnF, w_orT, k_OrT, k_OrF, w_notT, k_No, w_andV, k_AnVT, k_AnVF, w_orV, k_OrVT, k_OrVF, w_notV, k_NoV, w_ifV, k_IfVT, k_IfVF, w_aNil, w_aCons, k_A1, k_A2, w_callM, k_C, w_isi, k_Ty_int_non, k_Ty_int_bl, k_Ty_int_int, k_Ty_int_str, k_Ty_int_tup, k_Ty_int_fl, k_Ty_int_ref, k_TyR_int_l, k_TyR_int_d, k_Ty_tuple_non, k_Ty_tuple_bl, k_Ty_tuple_int, k_Ty_tuple_str, k_Ty_tuple_tup, k_Ty_tuple_fl, k_Ty_tuple_ref, k_TyR_tuple_l, k_TyR_tuple_d, k_Ty_str_non, k_Ty_str_bl, k_Ty_str_int, k_Ty_str_str, k_Ty_str_tup, k_Ty_str_fl, k_Ty_str_ref, k_TyR_str_l, k_TyR_str_d, k_Ty_list_non, k_Ty_list_bl, k_Ty_list_int, k_Ty_list_str, k_Ty_list_tup, k_Ty_list_fl, k_Ty_list_ref, k_TyR_list_l, k_TyR_list_d, k_Ty_dict_non, k_Ty_dict_bl, k_Ty_dict_int, k_Ty_dict_str, k_Ty_dict_tup, k_Ty_dict_fl, k_Ty_dict_ref, k_TyR_dict_l, k_TyR_dict_d, k_Ty_bool_non, k_Ty_bool_bl, k_Ty_bool_int, k_Ty_bool_str, k_Ty_bool_tup, k_Ty_bool_fl, k_Ty_bool_ref, k_TyR_bool_l, k_TyR_bool_d, w_oNone, w_oSome, k_O, w_slM, k_S1, k_S2, k_S3, w_tupM, k_Tup, w_lstM, k_Lst, w_newDic, w_appM, k_Ap1, k_Ap2, k_Ap3, k_Ap4, w_compL, k_CL, w_compCall, w_compMaxD, k_M1, k_M2, k_M3, w_sNil, w_sSeq, k_SqN, k_SqR, k_SqB, k_SqC, w_sExpr, k_Ex, w_sRet, k_Re, w_sRetN, w_sBrk, w_sCt, w_sIf, k_IfT, k_IfF, w_sSet, k_St, w_sSetC, k_StC, w_sAsg, k_As, k_As2, w_gN, w_gSb, k_G1, k_G2, k_G3, w_gTp, w_gsNil, w_gsCons, k_Gs, w_run, k_RtR, k_RtN, w_srcM, k_Sr, s_T, s_F, s_S, s_R, s_RL, w_rng1, k_R1, w_rng2, k_R2, k_R3, w_sFor, k_Fo, w_compM, k_Co, w_stepC, k_XT, k_XF, k_Y, w_tTrue, o_addI, o_addS, o_addT, o_sub, o_mul, o_div, o_mod, o_pow, o_lt, o_le, o_gt, o_ge, o_eqI, o_eqS, o_neI, o_neS, o_eqB, o_isN, o_notN, n_n, n_b, n_i, n_s, n_t, n_f, n_r, o_ixT, o_ixF, o_ixS, k_Ch, o_ixR, k_IxL, k_IxD, o_setR, k_SeL, k_SeJ, k_SeI, k_SeS, o_lenT, o_lenF, o_lenS, o_lenR, k_LeL, k_LeD, o_int, o_abs, o_max2, o_min2, o_tup, k_Seq, o_lst, k_Ls, q_T, q_F, q_R, q_RL, o_slT, o_slS, o_slF, o_slR, k_SlR, o_cTup, k_In, k_Bs, o_cSum, o_cAll, o_cAny, e_opt, e_get0, e_getS, k_LpN, k_LpC, k_LpB, k_LpR, atI_0, atI_1, atI_2, atI_3, atI_4, ixN_0, ixN_1, ixN_2, ixN_3, List.set_cons_zero, List.set_cons_succ, List.getElem?_cons_zero, List.getElem?_cons_succ, List.map_cons, List.map_nil, List.cons_append, List.nil_append, List.length_cons, List.length_nil, List.replicate_succ, List.replicate_zero, decide_true, decide_false, Bool.not_true, Bool.not_false, true_and, and_true, Nat.sub_self, Nat.zero_add, k_onNx, decide_eq_true_eq, W_ok, w_tru, k_TruB, k_TruI, k_TruN, k_TruT, k_TruF, k_TruR, k_TruL, k_TruD, i_nil, i_cons, k_Bl, k_Bn, o_inR, o_ninR, o_inF, o_ninF, k_In0L, k_In0Di, k_In0Ds, k_InL, sn_i, sn_s, sn_t, sn_f, sn_b, sn_n, w_get1, k_Gt1, k_Gt2, k_Gt3i, k_Gt3s, k_Gt4, w_get2, k_Ht1, k_Ht2, k_Ht3, k_Ht4i, k_Ht4s, o_lisR, k_LisL, k_LisD, o_lisT, o_lisF, w_pop, k_Po1, k_Po2, k_Po3, o_srtR, k_SrtL, k_SrtD, k_SrtLs, k_SrtDs, ints_nums, o_str, w_popAt, k_Pa, k_Pa1, k_Pa2, k_Pa3, k_Pa4, o_addR, k_AddL, o_geA, o_geT, o_intB, hh, atI_n, e1, bdD, n_n]
      exact ⟨_, rfl, el⟩
    | some p =>
      obtain ⟨j, s⟩ := p
      have hj : j < 4 := (show ∀ q, q ∈ opts → ∀ j s, q = some (j, s) → j < 4 by
        intro q hq j s e
        subst e
        simp [opts] at hq
        omega) _ ho j s rfl
      obtain ⟨y, ey1, _⟩ := get_at (l := R) (k := j) (by omega)
      have e3 : (List.map D.int R)[j]? = some (.int y) := by rw [List.getElem?_map, ey1]; rfl
      have gy : R.getD j 0 = y := by rw [List.getD_eq_getElem?_getD, ey1]; rfl
      unfold respB at el
      simp only at el
      rw [gy] at el
      simp -implicitDefEqProofs only [w_vr, w_cst, w_bin2, k_B1, k_B2, w_tst, k_T, w_andT, k_AnT, k_AnF, w_orT, k_OrT, k_OrF, w_notT, k_No, w_andV, k_AnVT, k_AnVF, w_orV, k_OrVT, k_OrVF, w_notV, k_NoV, w_ifV, k_IfVT, k_IfVF, w_aNil, w_aCons, k_A1, k_A2, w_callM, k_C, w_isi, k_Ty_int_non, k_Ty_int_bl, k_Ty_int_int, k_Ty_int_str, k_Ty_int_tup, k_Ty_int_fl, k_Ty_int_ref, k_TyR_int_l, k_TyR_int_d, k_Ty_tuple_non, k_Ty_tuple_bl, k_Ty_tuple_int, k_Ty_tuple_str, k_Ty_tuple_tup, k_Ty_tuple_fl, k_Ty_tuple_ref, k_TyR_tuple_l, k_TyR_tuple_d, k_Ty_str_non, k_Ty_str_bl, k_Ty_str_int, k_Ty_str_str, k_Ty_str_tup, k_Ty_str_fl, k_Ty_str_ref, k_TyR_str_l, k_TyR_str_d, k_Ty_list_non, k_Ty_list_bl, k_Ty_list_int, k_Ty_list_str, k_Ty_list_tup, k_Ty_list_fl, k_Ty_list_ref, k_TyR_list_l, k_TyR_list_d, k_Ty_dict_non, k_Ty_dict_bl, k_Ty_dict_int, k_Ty_dict_str, k_Ty_dict_tup, k_Ty_dict_fl, k_Ty_dict_ref, k_TyR_dict_l, k_TyR_dict_d, k_Ty_bool_non, k_Ty_bool_bl, k_Ty_bool_int, k_Ty_bool_str, k_Ty_bool_tup, k_Ty_bool_fl, k_Ty_bool_ref, k_TyR_bool_l, k_TyR_bool_d, w_oNone, w_oSome, k_O, w_slM, k_S1, k_S2, k_S3, w_tupM, k_Tup, w_lstM, k_Lst, w_newDic, w_appM, k_Ap1, k_Ap2, k_Ap3, k_Ap4, w_compL, k_CL, w_compCall, w_compMaxD, k_M1, k_M2, k_M3, w_sNil, w_sSeq, k_SqN, k_SqR, k_SqB, k_SqC, w_sExpr, k_Ex, w_sRet, k_Re, w_sRetN, w_sBrk, w_sCt, w_sIf, k_IfT, k_IfF, w_sSet, k_St, w_sSetC, k_StC, w_sAsg, k_As, k_As2, w_gN, w_gSb, k_G1, k_G2, k_G3, w_gTp, w_gsNil, w_gsCons, k_Gs, w_run, k_RtR, k_RtN, w_srcM, k_Sr, s_T, s_F, s_S, s_R, s_RL, w_rng1, k_R1, w_rng2, k_R2, k_R3, w_sFor, k_Fo, w_compM, k_Co, w_stepC, k_XT, k_XF, k_Y, w_tTrue, o_addI, o_addS, o_addT, o_sub, o_mul, o_div, o_mod, o_pow, o_lt, o_le, o_gt, o_ge, o_eqI, o_eqS, o_neI, o_neS, o_eqB, o_isN, o_notN, n_n, n_b, n_i, n_s, n_t, n_f, n_r, o_ixT, o_ixF, o_ixS, k_Ch, o_ixR, k_IxL, k_IxD, o_setR, k_SeL, k_SeJ, k_SeI, k_SeS, o_lenT, o_lenF, o_lenS, o_lenR, k_LeL, k_LeD, o_int, o_abs, o_max2, o_min2, o_tup, k_Seq, o_lst, k_Ls, q_T, q_F, q_R, q_RL, o_slT, o_slS, o_slF, o_slR, k_SlR, o_cTup, k_In, k_Bs, o_cSum, o_cAll, o_cAny, e_opt, e_get0, e_getS, k_LpN, k_LpC, k_LpB, k_LpR, atI_0, atI_1, atI_2, atI_3, atI_4, ixN_0, ixN_1, ixN_2, ixN_3, List.set_cons_zero, List.set_cons_succ, List.getElem?_cons_zero, List.getElem?_cons_succ, List.map_cons, List.map_nil, List.cons_append, List.nil_append, List.length_cons, List.length_nil, List.replicate_succ, List.replicate_zero, decide_true, decide_false, Bool.not_true, Bool.not_false, true_and, and_true, Nat.sub_self, Nat.zero_add, k_onNx, decide_eq_true_eq, W_ok, w_tru, k_TruB, k_TruI, k_TruN, k_TruT, k_TruF, k_TruR, k_TruL, k_TruD, i_nil, i_cons, k_Bl, k_Bn, o_inR, o_ninR, o_inF, o_ninF, k_In0L, k_In0Di, k_In0Ds, k_InL, sn_i, sn_s, sn_t, sn_f, sn_b, sn_n, w_get1, k_Gt1, k_Gt2, k_Gt3i, k_Gt3s, k_Gt4, w_get2, k_Ht1, k_Ht2, k_Ht3, k_Ht4i, k_Ht4s, o_lisR, k_LisL, k_LisD, o_lisT, o_lisF, w_pop, k_Po1, k_Po2, k_Po3, o_srtR, k_SrtL, k_SrtD, k_SrtLs, k_SrtDs, ints_nums, o_str, w_popAt, k_Pa, k_Pa1, k_Pa2, k_Pa3, k_Pa4, o_addR, k_AddL, o_geA, o_geT, o_intB, hh, atI_n, e1, e2, e3, bdD, n_t]
      refine if_d (fun c => ?_) (fun c => ?_)
      · have e5 : decide (x ≤ y - (if s = true then 1 else 0)) = false := decide_eq_false (by omega)
        rw [e5, Bool.false_and] at el
        simp -implicitDefEqProofs only [w_vr, w_cst, w_bin2, k_B1, k_B2, w_tst, k_T, w_andT, k_AnT, k_AnF, w_orT, k_OrT, k_OrF, w_notT, k_No, w_andV, k_AnVT, k_AnVF, w_orV, k_OrVT, k_OrVF, w_notV, k_NoV, w_ifV, k_IfVT, k_IfVF, w_aNil, w_aCons, k_A1, k_A2, w_callM, k_C, w_isi, k_Ty_int_non, k_Ty_int_bl, k_Ty_int_int, k_Ty_int_str, k_Ty_int_tup, k_Ty_int_fl, k_Ty_int_ref, k_TyR_int_l, k_TyR_int_d, k_Ty_tuple_non, k_Ty_tuple_bl, k_Ty_tuple_int, k_Ty_tuple_str, k_Ty_tuple_tup, k_Ty_tuple_fl, k_Ty_tuple_ref, k_TyR_tuple_l, k_TyR_tuple_d, k_Ty_str_non, k_Ty_str_bl, k_Ty_str_int, k_Ty_str_str, k_Ty_str_tup, k_Ty_str_fl, k_Ty_str_ref, k_TyR_str_l, k_TyR_str_d, k_Ty_list_non, k_Ty_list_bl, k_Ty_list_int, k_Ty_list_str, k_Ty_list_tup, k_Ty_list_fl, k_Ty_list_ref, k_TyR_list_l, k_TyR_list_d, k_Ty_dict_non, k_Ty_dict_bl, k_Ty_dict_int, k_Ty_dict_str, k_Ty_dict_tup, k_Ty_dict_fl, k_Ty_dict_ref, k_TyR_dict_l, k_TyR_dict_d, k_Ty_bool_non, k_Ty_bool_bl, k_Ty_bool_int, k_Ty_bool_str, k_Ty_bool_tup, k_Ty_bool_fl, k_Ty_bool_ref, k_TyR_bool_l, k_TyR_bool_d, w_oNone, w_oSome, k_O, w_slM, k_S1, k_S2, k_S3, w_tupM, k_Tup, w_lstM, k_Lst, w_newDic, w_appM, k_Ap1, k_Ap2, k_Ap3, k_Ap4, w_compL, k_CL, w_compCall, w_compMaxD, k_M1, k_M2, k_M3, w_sNil, w_sSeq, k_SqN, k_SqR, k_SqB, k_SqC, w_sExpr, k_Ex, w_sRet, k_Re, w_sRetN, w_sBrk, w_sCt, w_sIf, k_IfT, k_IfF, w_sSet, k_St, w_sSetC, k_StC, w_sAsg, k_As, k_As2, w_gN, w_gSb, k_G1, k_G2, k_G3, w_gTp, w_gsNil, w_gsCons, k_Gs, w_run, k_RtR, k_RtN, w_srcM, k_Sr, s_T, s_F, s_S, s_R, s_RL, w_rng1, k_R1, w_rng2, k_R2, k_R3, w_sFor, k_Fo, w_compM, k_Co, w_stepC, k_XT, k_XF, k_Y, w_tTrue, o_addI, o_addS, o_addT, o_sub, o_mul, o_div, o_mod, o_pow, o_lt, o_le, o_gt, o_ge, o_eqI, o_eqS, o_neI, o_neS, o_eqB, o_isN, o_notN, n_n, n_b, n_i, n_s, n_t, n_f, n_r, o_ixT, o_ixF, o_ixS, k_Ch, o_ixR, k_IxL, k_IxD, o_setR, k_SeL, k_SeJ, k_SeI, k_SeS, o_lenT, o_lenF, o_lenS, o_lenR, k_LeL, k_LeD, o_int, o_abs, o_max2, o_min2, o_tup, k_Seq, o_lst, k_Ls, q_T, q_F, q_R, q_RL, o_slT, o_slS, o_slF, o_slR, k_SlR, o_cTup, k_In, k_Bs, o_cSum, o_cAll, o_cAny, e_opt, e_get0, e_getS, k_LpN, k_LpC, k_LpB, k_LpR, atI_0, atI_1, atI_2, atI_3, atI_4, ixN_0, ixN_1, ixN_2, ixN_3, List.set_cons_zero, List.set_cons_succ, List.getElem?_cons_zero, List.getElem?_cons_succ, List.map_cons, List.map_nil, List.cons_append, List.nil_append, List.length_cons, List.length_nil, List.replicate_succ, List.replicate_zero, decide_true, decide_false, Bool.not_true, Bool.not_false, true_and, and_true, Nat.sub_self, Nat.zero_add, k_onNx, decide_eq_true_eq, W_ok, w_tru, k_TruB, k_TruI, k_TruN, k_TruT, k_TruF, k_TruR, k_TruL, k_TruD, i_nil, i_cons, k_Bl, k_Bn, o_inR, o_ninR, o_inF, o_ninF, k_In0L, k_In0Di, k_In0Ds, k_InL, sn_i, sn_s, sn_t, sn_f, sn_b, sn_n, w_get1, k_Gt1, k_Gt2, k_Gt3i, k_Gt3s, k_Gt4, w_get2, k_Ht1, k_Ht2, k_Ht3, k_Ht4i, k_Ht4s, o_lisR, k_LisL, k_LisD, o_lisT, o_lisF, w_pop, k_Po1, k_Po2, k_Po3, o_srtR, k_SrtL, k_SrtD, k_SrtLs, k_SrtDs, ints_nums, o_str, w_popAt, k_Pa, k_Pa1, k_Pa2, k_Pa3, k_Pa4, o_addR, k_AddL, o_geA, o_geT, o_intB, el]
      · have e5 : decide (x ≤ y - (if s = true then 1 else 0)) = true := decide_eq_true (by omega)
        rw [e5, Bool.true_and] at el
        simp -implicitDefEqProofs only [w_vr, w_cst, w_bin2, k_B1, k_B2, w_tst, k_T, w_andT, k_AnT, k_AnF, w_orT, k_OrT, k_OrF, w_notT, k_No, w_andV, k_AnVT, k_AnVF, w_orV, k_OrVT, k_OrVF, w_notV, k_NoV, w_ifV, k_IfVT, k_IfVF, w_aNil, w_aCons, k_A1, k_A2, w_callM, k_C, w_isi, k_Ty_int_non, k_Ty_int_bl, k_Ty_int_int, k_Ty_int_str, k_Ty_int_tup, k_Ty_int_fl, k_Ty_int_ref, k_TyR_int_l, k_TyR_int_d, k_Ty_tuple_non, k_Ty_tuple_bl, k_Ty_tuple_int, k_Ty_tuple_str, k_Ty_tuple_tup, k_Ty_tuple_fl, k_Ty_tuple_ref, k_TyR_tuple_l, k_TyR_tuple_d, k_Ty_str_non, k_Ty_str_bl, k_Ty_str_int, k_Ty_str_str, k_Ty_str_tup, k_Ty_str_fl, k_Ty_str_ref, k_TyR_str_l, k_TyR_str_d, k_Ty_list_non, k_Ty_list_bl, k_Ty_list_int, k_Ty_list_str, k_Ty_list_tup, k_Ty_list_fl, k_Ty_list_ref, k_TyR_list_l, k_TyR_list_d, k_Ty_dict_non, k_Ty_dict_bl, k_Ty_dict_int, k_Ty_dict_str, k_Ty_dict_tup, k_Ty_dict_fl, k_Ty_dict_ref, k_TyR_dict_l, k_TyR_dict_d, k_Ty_bool_non, k_Ty_bool_bl, k_Ty_bool_int, k_Ty_bool_str, k_Ty_bool_tup, k_Ty_bool_fl, k_Ty_bool_ref, k_TyR_bool_l, k_TyR_bool_d, w_oNone, w_oSome, k_O, w_slM, k_S1, k_S2, k_S3, w_tupM, k_Tup, w_lstM, k_Lst, w_newDic, w_appM, k_Ap1, k_Ap2, k_Ap3, k_Ap4, w_compL, k_CL, w_compCall, w_compMaxD, k_M1, k_M2, k_M3, w_sNil, w_sSeq, k_SqN, k_SqR, k_SqB, k_SqC, w_sExpr, k_Ex, w_sRet, k_Re, w_sRetN, w_sBrk, w_sCt, w_sIf, k_IfT, k_IfF, w_sSet, k_St, w_sSetC, k_StC, w_sAsg, k_As, k_As2, w_gN, w_gSb, k_G1, k_G2, k_G3, w_gTp, w_gsNil, w_gsCons, k_Gs, w_run, k_RtR, k_RtN, w_srcM, k_Sr, s_T, s_F, s_S, s_R, s_RL, w_rng1, k_R1, w_rng2, k_R2, k_R3, w_sFor, k_Fo, w_compM, k_Co, w_stepC, k_XT, k_XF, k_Y, w_tTrue, o_addI, o_addS, o_addT, o_sub, o_mul, o_div, o_mod, o_pow, o_lt, o_le, o_gt, o_ge, o_eqI, o_eqS, o_neI, o_neS, o_eqB, o_isN, o_notN, n_n, n_b, n_i, n_s, n_t, n_f, n_r, o_ixT, o_ixF, o_ixS, k_Ch, o_ixR, k_IxL, k_IxD, o_setR, k_SeL, k_SeJ, k_SeI, k_SeS, o_lenT, o_lenF, o_lenS, o_lenR, k_LeL, k_LeD, o_int, o_abs, o_max2, o_min2, o_tup, k_Seq, o_lst, k_Ls, q_T, q_F, q_R, q_RL, o_slT, o_slS, o_slF, o_slR, k_SlR, o_cTup, k_In, k_Bs, o_cSum, o_cAll, o_cAny, e_opt, e_get0, e_getS, k_LpN, k_LpC, k_LpB, k_LpR, atI_0, atI_1, atI_2, atI_3, atI_4, ixN_0, ixN_1, ixN_2, ixN_3, List.set_cons_zero, List.set_cons_succ, List.getElem?_cons_zero, List.getElem?_cons_succ, List.map_cons, List.map_nil, List.cons_append, List.nil_append, List.length_cons, List.length_nil, List.replicate_succ, List.replicate_zero, decide_true, decide_false, Bool.not_true, Bool.not_false, true_and, and_true, Nat.sub_self, Nat.zero_add, k_onNx, decide_eq_true_eq, W_ok, w_tru, k_TruB, k_TruI, k_TruN, k_TruT, k_TruF, k_TruR, k_TruL, k_TruD, i_nil, i_cons, k_Bl, k_Bn, o_inR, o_ninR, o_inF, o_ninF, k_In0L, k_In0Di, k_In0Ds, k_InL, sn_i, sn_s, sn_t, sn_f, sn_b, sn_n, w_get1, k_Gt1, k_Gt2, k_Gt3i, k_Gt3s, k_Gt4, w_get2, k_Ht1, k_Ht2, k_Ht3, k_Ht4i, k_Ht4s, o_lisR, k_LisL, k_LisD, o_lisT, o_lisF, w_pop, k_Po1, k_Po2, k_Po3, o_srtR, k_SrtL, k_SrtD, k_SrtLs, k_SrtDs, ints_nums, o_str, w_popAt, k_Pa, k_Pa1, k_Pa2, k_Pa3, k_Pa4, o_addR, k_AddL, o_geA, o_geT, o_intB]
        exact ⟨_, rfl, el⟩
  · obtain ⟨x3, rfl, rfl, el⟩ := p
    rw [range_len, show ((bs.length : Int)).toNat = bs.length by omega, List.drop_length, ← hx, List.drop_length] at el
    have e6 : resp [] [] R = true := by rw [resp]; simp
    rw [e6] at el
    simp -implicitDefEqProofs only [w_vr, w_cst, w_bin2, k_B1, k_B2, w_tst, k_T, w_andT, k_AnT, k_AnF, w_orT, k_OrT, k_OrF, w_notT, k_No, w_andV, k_AnVT, k_AnVF, w_orV, k_OrVT, k_OrVF, w_notV, k_NoV, w_ifV, k_IfVT, k_IfVF, w_aNil, w_aCons, k_A1, k_A2, w_callM, k_C, w_isi, k_Ty_int_non, k_Ty_int_bl, k_Ty_int_int, k_Ty_int_str, k_Ty_int_tup, k_Ty_int_fl, k_Ty_int_ref, k_TyR_int_l, k_TyR_int_d, k_Ty_tuple_non, k_Ty_tuple_bl, k_Ty_tuple_int, k_Ty_tuple_str, k_Ty_tuple_tup, k_Ty_tuple_fl, k_Ty_tuple_ref, k_TyR_tuple_l, k_TyR_tuple_d, k_Ty_str_non, k_Ty_str_bl, k_Ty_str_int, k_Ty_str_str, k_Ty_str_tup, k_Ty_str_fl, k_Ty_str_ref, k_TyR_str_l, k_TyR_str_d, k_Ty_list_non, k_Ty_list_bl, k_Ty_list_int, k_Ty_list_str, k_Ty_list_tup, k_Ty_list_fl, k_Ty_list_ref, k_TyR_list_l, k_TyR_list_d, k_Ty_dict_non, k_Ty_dict_bl, k_Ty_dict_int, k_Ty_dict_str, k_Ty_dict_tup, k_Ty_dict_fl, k_Ty_dict_ref, k_TyR_dict_l, k_TyR_dict_d, k_Ty_bool_non, k_Ty_bool_bl, k_Ty_bool_int, k_Ty_bool_str, k_Ty_bool_tup, k_Ty_bool_fl, k_Ty_bool_ref, k_TyR_bool_l, k_TyR_bool_d, w_oNone, w_oSome, k_O, w_slM, k_S1, k_S2, k_S3, w_tupM, k_Tup, w_lstM, k_Lst, w_newDic, w_appM, k_Ap1, k_Ap2, k_Ap3, k_Ap4, w_compL, k_CL, w_compCall, w_compMaxD, k_M1, k_M2, k_M3, w_sNil, w_sSeq, k_SqN, k_SqR, k_SqB, k_SqC, w_sExpr, k_Ex, w_sRet, k_Re, w_sRetN, w_sBrk, w_sCt, w_sIf, k_IfT, k_IfF, w_sSet, k_St, w_sSetC, k_StC, w_sAsg, k_As, k_As2, w_gN, w_gSb, k_G1, k_G2, k_G3, w_gTp, w_gsNil, w_gsCons, k_Gs, w_run, k_RtR, k_RtN, w_srcM, k_Sr, s_T, s_F, s_S, s_R, s_RL, w_rng1, k_R1, w_rng2, k_R2, k_R3, w_sFor, k_Fo, w_compM, k_Co, w_stepC, k_XT, k_XF, k_Y, w_tTrue, o_addI, o_addS, o_addT, o_sub, o_mul, o_div, o_mod, o_pow, o_lt, o_le, o_gt, o_ge, o_eqI, o_eqS, o_neI, o_neS, o_eqB, o_isN, o_notN, n_n, n_b, n_i, n_s, n_t, n_f, n_r, o_ixT, o_ixF, o_ixS, k_Ch, o_ixR, k_IxL, k_IxD, o_setR, k_SeL, k_SeJ, k_SeI, k_SeS, o_lenT, o_lenF, o_lenS, o_lenR, k_LeL, k_LeD, o_int, o_abs, o_max2, o_min2, o_tup, k_Seq, o_lst, k_Ls, q_T, q_F, q_R, q_RL, o_slT, o_slS, o_slF, o_slR, k_SlR, o_cTup, k_In, k_Bs, o_cSum, o_cAll, o_cAny, e_opt, e_get0, e_getS, k_LpN, k_LpC, k_LpB, k_LpR, atI_0, atI_1, atI_2, atI_3, atI_4, ixN_0, ixN_1, ixN_2, ixN_3, List.set_cons_zero, List.set_cons_succ, List.getElem?_cons_zero, List.getElem?_cons_succ, List.map_cons, List.map_nil, List.cons_append, List.nil_append, List.length_cons, List.length_nil, List.replicate_succ, List.replicate_zero, decide_true, decide_false, Bool.not_true, Bool.not_false, true_and, and_true, Nat.sub_self, Nat.zero_add, k_onNx, decide_eq_true_eq, W_ok, w_tru, k_TruB, k_TruI, k_TruN, k_TruT, k_TruF, k_TruR, k_TruL, k_TruD, i_nil, i_cons, k_Bl, k_Bn, o_inR, o_ninR, o_inF, o_ninF, k_In0L, k_In0Di, k_In0Ds, k_InL, sn_i, sn_s, sn_t, sn_f, sn_b, sn_n, w_get1, k_Gt1, k_Gt2, k_Gt3i, k_Gt3s, k_Gt4, w_get2, k_Ht1, k_Ht2, k_Ht3, k_Ht4i, k_Ht4s, o_lisR, k_LisL, k_LisD, o_lisT, o_lisF, w_pop, k_Po1, k_Po2, k_Po3, o_srtR, k_SrtL, k_SrtD, k_SrtLs, k_SrtDs, ints_nums, o_str, w_popAt, k_Pa, k_Pa1, k_Pa2, k_Pa3, k_Pa4, o_addR, k_AddL, o_geA, o_geT, o_intB, el]
theorem any_take {α : Type} {l : List α} {j : Nat} {x : α} {f : α → Bool} (e : l[j]? = some x) : (l.take (j + 1)).any f = ((l.take j).any f || f x) := by
  rw [List.take_add_one, e, Option.toList_some, List.any_append]
  simp
theorem cut_take (l : List Int) (n : Nat) : cutL (l.map D.int) none (some (n : Int)) = (l.take n).map D.int := by
  rw [cutL_map]
  congr 1
  unfold cutL
  rw [HT.sIx_none, HT.sIx_nat]
  simp only [List.drop_zero, Nat.sub_zero]
  rw [List.take_eq_take_iff]
  omega
theorem law_true (ns : List Int) (hl : ns.length ≤ 63) : ∃ h', run 200 i_law [.fl (ns.map .int)] [] = .ok (.bl true) h' := by
  refine W_end (Q := fun d _ => d = .bl true) ?_ fun d h e => e
  rw [r_law]
  unfold B_law
  simp -implicitDefEqProofs only [w_vr, w_cst, w_bin2, k_B1, k_B2, w_tst, k_T, w_andT, k_AnT, k_AnF, w_orT, k_OrT, k_OrF, w_notT, k_No, w_andV, k_AnVT, k_AnVF, w_orV, k_OrVT, k_OrVF, w_notV, k_NoV, w_ifV, k_IfVT, k_IfVF, w_aNil, w_aCons, k_A1, k_A2, w_callM, k_C, w_isi, k_Ty_int_non, k_Ty_int_bl, k_Ty_int_int, k_Ty_int_str, k_Ty_int_tup, k_Ty_int_fl, k_Ty_int_ref, k_TyR_int_l, k_TyR_int_d, k_Ty_tuple_non, k_Ty_tuple_bl, k_Ty_tuple_int, k_Ty_tuple_str, k_Ty_tuple_tup, k_Ty_tuple_fl, k_Ty_tuple_ref, k_TyR_tuple_l, k_TyR_tuple_d, k_Ty_str_non, k_Ty_str_bl, k_Ty_str_int, k_Ty_str_str, k_Ty_str_tup, k_Ty_str_fl, k_Ty_str_ref, k_TyR_str_l, k_TyR_str_d, k_Ty_list_non, k_Ty_list_bl, k_Ty_list_int, k_Ty_list_str, k_Ty_list_tup, k_Ty_list_fl, k_Ty_list_ref, k_TyR_list_l, k_TyR_list_d, k_Ty_dict_non, k_Ty_dict_bl, k_Ty_dict_int, k_Ty_dict_str, k_Ty_dict_tup, k_Ty_dict_fl, k_Ty_dict_ref, k_TyR_dict_l, k_TyR_dict_d, k_Ty_bool_non, k_Ty_bool_bl, k_Ty_bool_int, k_Ty_bool_str, k_Ty_bool_tup, k_Ty_bool_fl, k_Ty_bool_ref, k_TyR_bool_l, k_TyR_bool_d, w_oNone, w_oSome, k_O, w_slM, k_S1, k_S2, k_S3, w_tupM, k_Tup, w_lstM, k_Lst, w_newDic, w_appM, k_Ap1, k_Ap2, k_Ap3, k_Ap4, w_compL, k_CL, w_compCall, w_compMaxD, k_M1, k_M2, k_M3, w_sNil, w_sSeq, k_SqN, k_SqR, k_SqB, k_SqC, w_sExpr, k_Ex, w_sRet, k_Re, w_sRetN, w_sBrk, w_sCt, w_sIf, k_IfT, k_IfF, w_sSet, k_St, w_sSetC, k_StC, w_sAsg, k_As, k_As2, w_gN, w_gSb, k_G1, k_G2, k_G3, w_gTp, w_gsNil, w_gsCons, k_Gs, w_run, k_RtR, k_RtN, w_srcM, k_Sr, s_T, s_F, s_S, s_R, s_RL, w_rng1, k_R1, w_rng2, k_R2, k_R3, w_sFor, k_Fo, w_compM, k_Co, w_stepC, k_XT, k_XF, k_Y, w_tTrue, o_addI, o_addS, o_addT, o_sub, o_mul, o_div, o_mod, o_pow, o_lt, o_le, o_gt, o_ge, o_eqI, o_eqS, o_neI, o_neS, o_eqB, o_isN, o_notN, n_n, n_b, n_i, n_s, n_t, n_f, n_r, o_ixT, o_ixF, o_ixS, k_Ch, o_ixR, k_IxL, k_IxD, o_setR, k_SeL, k_SeJ, k_SeI, k_SeS, o_lenT, o_lenF, o_lenS, o_lenR, k_LeL, k_LeD, o_int, o_abs, o_max2, o_min2, o_tup, k_Seq, o_lst, k_Ls, q_T, q_F, q_R, q_RL, o_slT, o_slS, o_slF, o_slR, k_SlR, o_cTup, k_In, k_Bs, o_cSum, o_cAll, o_cAny, e_opt, e_get0, e_getS, k_LpN, k_LpC, k_LpB, k_LpR, atI_0, atI_1, atI_2, atI_3, atI_4, ixN_0, ixN_1, ixN_2, ixN_3, List.set_cons_zero, List.set_cons_succ, List.getElem?_cons_zero, List.getElem?_cons_succ, List.map_cons, List.map_nil, List.cons_append, List.nil_append, List.length_cons, List.length_nil, List.replicate_succ, List.replicate_zero, decide_true, decide_false, Bool.not_true, Bool.not_false, true_and, and_true, Nat.sub_self, Nat.zero_add, k_onNx, decide_eq_true_eq, W_ok, w_tru, k_TruB, k_TruI, k_TruN, k_TruT, k_TruF, k_TruR, k_TruL, k_TruD, i_nil, i_cons, k_Bl, k_Bn, o_inR, o_ninR, o_inF, o_ninF, k_In0L, k_In0Di, k_In0Ds, k_InL, sn_i, sn_s, sn_t, sn_f, sn_b, sn_n, w_get1, k_Gt1, k_Gt2, k_Gt3i, k_Gt3s, k_Gt4, w_get2, k_Ht1, k_Ht2, k_Ht3, k_Ht4i, k_Ht4s, o_lisR, k_LisL, k_LisD, o_lisT, o_lisF, w_pop, k_Po1, k_Po2, k_Po3, o_srtR, k_SrtL, k_SrtD, k_SrtLs, k_SrtDs, ints_nums, o_str, w_popAt, k_Pa, k_Pa1, k_Pa2, k_Pa3, k_Pa4, o_addR, k_AddL, o_geA, o_geT, o_intB]
  refine W_mono (tape_ok 198 ns [] hl) fun _ h1 q => ?_
  obtain ⟨rfl, t1, _⟩ := q
  simp -implicitDefEqProofs only [w_vr, w_cst, w_bin2, k_B1, k_B2, w_tst, k_T, w_andT, k_AnT, k_AnF, w_orT, k_OrT, k_OrF, w_notT, k_No, w_andV, k_AnVT, k_AnVF, w_orV, k_OrVT, k_OrVF, w_notV, k_NoV, w_ifV, k_IfVT, k_IfVF, w_aNil, w_aCons, k_A1, k_A2, w_callM, k_C, w_isi, k_Ty_int_non, k_Ty_int_bl, k_Ty_int_int, k_Ty_int_str, k_Ty_int_tup, k_Ty_int_fl, k_Ty_int_ref, k_TyR_int_l, k_TyR_int_d, k_Ty_tuple_non, k_Ty_tuple_bl, k_Ty_tuple_int, k_Ty_tuple_str, k_Ty_tuple_tup, k_Ty_tuple_fl, k_Ty_tuple_ref, k_TyR_tuple_l, k_TyR_tuple_d, k_Ty_str_non, k_Ty_str_bl, k_Ty_str_int, k_Ty_str_str, k_Ty_str_tup, k_Ty_str_fl, k_Ty_str_ref, k_TyR_str_l, k_TyR_str_d, k_Ty_list_non, k_Ty_list_bl, k_Ty_list_int, k_Ty_list_str, k_Ty_list_tup, k_Ty_list_fl, k_Ty_list_ref, k_TyR_list_l, k_TyR_list_d, k_Ty_dict_non, k_Ty_dict_bl, k_Ty_dict_int, k_Ty_dict_str, k_Ty_dict_tup, k_Ty_dict_fl, k_Ty_dict_ref, k_TyR_dict_l, k_TyR_dict_d, k_Ty_bool_non, k_Ty_bool_bl, k_Ty_bool_int, k_Ty_bool_str, k_Ty_bool_tup, k_Ty_bool_fl, k_Ty_bool_ref, k_TyR_bool_l, k_TyR_bool_d, w_oNone, w_oSome, k_O, w_slM, k_S1, k_S2, k_S3, w_tupM, k_Tup, w_lstM, k_Lst, w_newDic, w_appM, k_Ap1, k_Ap2, k_Ap3, k_Ap4, w_compL, k_CL, w_compCall, w_compMaxD, k_M1, k_M2, k_M3, w_sNil, w_sSeq, k_SqN, k_SqR, k_SqB, k_SqC, w_sExpr, k_Ex, w_sRet, k_Re, w_sRetN, w_sBrk, w_sCt, w_sIf, k_IfT, k_IfF, w_sSet, k_St, w_sSetC, k_StC, w_sAsg, k_As, k_As2, w_gN, w_gSb, k_G1, k_G2, k_G3, w_gTp, w_gsNil, w_gsCons, k_Gs, w_run, k_RtR, k_RtN, w_srcM, k_Sr, s_T, s_F, s_S, s_R, s_RL, w_rng1, k_R1, w_rng2, k_R2, k_R3, w_sFor, k_Fo, w_compM, k_Co, w_stepC, k_XT, k_XF, k_Y, w_tTrue, o_addI, o_addS, o_addT, o_sub, o_mul, o_div, o_mod, o_pow, o_lt, o_le, o_gt, o_ge, o_eqI, o_eqS, o_neI, o_neS, o_eqB, o_isN, o_notN, n_n, n_b, n_i, n_s, n_t, n_f, n_r, o_ixT, o_ixF, o_ixS, k_Ch, o_ixR, k_IxL, k_IxD, o_setR, k_SeL, k_SeJ, k_SeI, k_SeS, o_lenT, o_lenF, o_lenS, o_lenR, k_LeL, k_LeD, o_int, o_abs, o_max2, o_min2, o_tup, k_Seq, o_lst, k_Ls, q_T, q_F, q_R, q_RL, o_slT, o_slS, o_slF, o_slR, k_SlR, o_cTup, k_In, k_Bs, o_cSum, o_cAll, o_cAny, e_opt, e_get0, e_getS, k_LpN, k_LpC, k_LpB, k_LpR, atI_0, atI_1, atI_2, atI_3, atI_4, ixN_0, ixN_1, ixN_2, ixN_3, List.set_cons_zero, List.set_cons_succ, List.getElem?_cons_zero, List.getElem?_cons_succ, List.map_cons, List.map_nil, List.cons_append, List.nil_append, List.length_cons, List.length_nil, List.replicate_succ, List.replicate_zero, decide_true, decide_false, Bool.not_true, Bool.not_false, true_and, and_true, Nat.sub_self, Nat.zero_add, k_onNx, decide_eq_true_eq, W_ok, w_tru, k_TruB, k_TruI, k_TruN, k_TruT, k_TruF, k_TruR, k_TruL, k_TruD, i_nil, i_cons, k_Bl, k_Bn, o_inR, o_ninR, o_inF, o_ninF, k_In0L, k_In0Di, k_In0Ds, k_InL, sn_i, sn_s, sn_t, sn_f, sn_b, sn_n, w_get1, k_Gt1, k_Gt2, k_Gt3i, k_Gt3s, k_Gt4, w_get2, k_Ht1, k_Ht2, k_Ht3, k_Ht4i, k_Ht4s, o_lisR, k_LisL, k_LisD, o_lisT, o_lisF, w_pop, k_Po1, k_Po2, k_Po3, o_srtR, k_SrtL, k_SrtD, k_SrtLs, k_SrtDs, ints_nums, o_str, w_popAt, k_Pa, k_Pa1, k_Pa2, k_Pa3, k_Pa4, o_addR, k_AddL, o_geA, o_geT, o_intB]
  have i1 : ([] : DHeap).length + 1 = 1 := rfl
  rw [i1] at t1
  have l1 := t1.lt
  repeat (refine And.intro (by first | omega | decide | (split <;> omega) | (simp only [List.length_map, List.length_append, List.length_cons, List.length_nil]; omega)) ?_)
  have b0 := app_end (h := h1) (c := .lst [])
  have t1 := t1.app (g := [.lst []])
  generalize hb : h1.length = b at b0 l1 ⊢
  generalize h1 ++ [Cell.lst []] = h2 at b0 t1 ⊢
  have l2 := t1.lt
  refine W_mono (draw_ok 198 1 8 _ t1.app (by decide)) fun _ h3 q => ?_
  obtain ⟨r, rfl, a1, b1, t3, v3⟩ := q
  have c3 := v3 h2.length _ (by omega) app_end
  have b3 := (Ev.trans Ev.refl.app v3) b _ (by omega) b0
  obtain ⟨m, em, hm0, hm⟩ : ∃ m : Int, atI [D.int 0, D.int 1, D.int 2, D.int 3, D.int 1, D.int 2, D.int 3, D.int 4] r = some (.int m) ∧ 0 ≤ m ∧ m ≤ 4 := by
    rcases (show r = 0 ∨ r = 1 ∨ r = 2 ∨ r = 3 ∨ r = 4 ∨ r = 5 ∨ r = 6 ∨ r = 7 by omega) with rfl | rfl | rfl | rfl | rfl | rfl | rfl | rfl <;> exact ⟨_, rfl, by decide, by decide⟩
  simp -implicitDefEqProofs only [w_vr, w_cst, w_bin2, k_B1, k_B2, w_tst, k_T, w_andT, k_AnT, k_AnF, w_orT, k_OrT, k_OrF, w_notT, k_No, w_andV, k_AnVT, k_AnVF, w_orV, k_OrVT, k_OrVF, w_notV, k_NoV, w_ifV, k_IfVT, k_IfVF, w_aNil, w_aCons, k_A1, k_A2, w_callM, k_C, w_isi, k_Ty_int_non, k_Ty_int_bl, k_Ty_int_int, k_Ty_int_str, k_Ty_int_tup, k_Ty_int_fl, k_Ty_int_ref, k_TyR_int_l, k_TyR_int_d, k_Ty_tuple_non, k_Ty_tuple_bl, k_Ty_tuple_int, k_Ty_tuple_str, k_Ty_tuple_tup, k_Ty_tuple_fl, k_Ty_tuple_ref, k_TyR_tuple_l, k_TyR_tuple_d, k_Ty_str_non, k_Ty_str_bl, k_Ty_str_int, k_Ty_str_str, k_Ty_str_tup, k_Ty_str_fl, k_Ty_str_ref, k_TyR_str_l, k_TyR_str_d, k_Ty_list_non, k_Ty_list_bl, k_Ty_list_int, k_Ty_list_str, k_Ty_list_tup, k_Ty_list_fl, k_Ty_list_ref, k_TyR_list_l, k_TyR_list_d, k_Ty_dict_non, k_Ty_dict_bl, k_Ty_dict_int, k_Ty_dict_str, k_Ty_dict_tup, k_Ty_dict_fl, k_Ty_dict_ref, k_TyR_dict_l, k_TyR_dict_d, k_Ty_bool_non, k_Ty_bool_bl, k_Ty_bool_int, k_Ty_bool_str, k_Ty_bool_tup, k_Ty_bool_fl, k_Ty_bool_ref, k_TyR_bool_l, k_TyR_bool_d, w_oNone, w_oSome, k_O, w_slM, k_S1, k_S2, k_S3, w_tupM, k_Tup, w_lstM, k_Lst, w_newDic, w_appM, k_Ap1, k_Ap2, k_Ap3, k_Ap4, w_compL, k_CL, w_compCall, w_compMaxD, k_M1, k_M2, k_M3, w_sNil, w_sSeq, k_SqN, k_SqR, k_SqB, k_SqC, w_sExpr, k_Ex, w_sRet, k_Re, w_sRetN, w_sBrk, w_sCt, w_sIf, k_IfT, k_IfF, w_sSet, k_St, w_sSetC, k_StC, w_sAsg, k_As, k_As2, w_gN, w_gSb, k_G1, k_G2, k_G3, w_gTp, w_gsNil, w_gsCons, k_Gs, w_run, k_RtR, k_RtN, w_srcM, k_Sr, s_T, s_F, s_S, s_R, s_RL, w_rng1, k_R1, w_rng2, k_R2, k_R3, w_sFor, k_Fo, w_compM, k_Co, w_stepC, k_XT, k_XF, k_Y, w_tTrue, o_addI, o_addS, o_addT, o_sub, o_mul, o_div, o_mod, o_pow, o_lt, o_le, o_gt, o_ge, o_eqI, o_eqS, o_neI, o_neS, o_eqB, o_isN, o_notN, n_n, n_b, n_i, n_s, n_t, n_f, n_r, o_ixT, o_ixF, o_ixS, k_Ch, o_ixR, k_IxL, k_IxD, o_setR, k_SeL, k_SeJ, k_SeI, k_SeS, o_lenT, o_lenF, o_lenS, o_lenR, k_LeL, k_LeD, o_int, o_abs, o_max2, o_min2, o_tup, k_Seq, o_lst, k_Ls, q_T, q_F, q_R, q_RL, o_slT, o_slS, o_slF, o_slR, k_SlR, o_cTup, k_In, k_Bs, o_cSum, o_cAll, o_cAny, e_opt, e_get0, e_getS, k_LpN, k_LpC, k_LpB, k_LpR, atI_0, atI_1, atI_2, atI_3, atI_4, ixN_0, ixN_1, ixN_2, ixN_3, List.set_cons_zero, List.set_cons_succ, List.getElem?_cons_zero, List.getElem?_cons_succ, List.map_cons, List.map_nil, List.cons_append, List.nil_append, List.length_cons, List.length_nil, List.replicate_succ, List.replicate_zero, decide_true, decide_false, Bool.not_true, Bool.not_false, true_and, and_true, Nat.sub_self, Nat.zero_add, k_onNx, decide_eq_true_eq, W_ok, w_tru, k_TruB, k_TruI, k_TruN, k_TruT, k_TruF, k_TruR, k_TruL, k_TruD, i_nil, i_cons, k_Bl, k_Bn, o_inR, o_ninR, o_inF, o_ninF, k_In0L, k_In0Di, k_In0Ds, k_InL, sn_i, sn_s, sn_t, sn_f, sn_b, sn_n, w_get1, k_Gt1, k_Gt2, k_Gt3i, k_Gt3s, k_Gt4, w_get2, k_Ht1, k_Ht2, k_Ht3, k_Ht4i, k_Ht4s, o_lisR, k_LisL, k_LisD, o_lisT, o_lisF, w_pop, k_Po1, k_Po2, k_Po3, o_srtR, k_SrtL, k_SrtD, k_SrtLs, k_SrtDs, ints_nums, o_str, w_popAt, k_Pa, k_Pa1, k_Pa2, k_Pa3, k_Pa4, o_addR, k_AddL, o_geA, o_geT, o_intB, c3, em]
  repeat (refine And.intro (by first | omega | decide | (split <;> omega) | (simp only [List.length_map, List.length_append, List.length_cons, List.length_nil]; omega)) ?_)
  have mo : ∀ (j : Nat) (s : Bool), j < 4 → (some (j, s) : Bd) ∈ opts := fun j s hj => by
    rcases (show j = 0 ∨ j = 1 ∨ j = 2 ∨ j = 3 by omega) with rfl | rfl | rfl | rfl <;> cases s <;> decide
  refine loopS_i (fun k σ h' => ∃ (bs : List Bd) (x3 x4 : Option D), σ = [some (.fl (ns.map D.int)), some (.ref 1), some (.ref b), x3, x4, none, none, none, none, none] ∧ h'[b]? = some (.lst (bs.map bdD)) ∧ bs.length = k ∧ (∀ b, b ∈ bs → b ∈ opts) ∧ Tape h' 1) ⟨[], none, none, rfl, b3, rfl, fun _ h => (List.not_mem_nil h).elim, t3⟩ (fun _ _ _ _ => by trivial) (fun k σ h' y ey p => ?_) fun σ h' p => ?_
  · obtain ⟨bs, x3, x4, rfl, cb, bl, bk, tb⟩ := p
    obtain ⟨hk, rfl⟩ := range_at ey
    simp -implicitDefEqProofs only [w_vr, w_cst, w_bin2, k_B1, k_B2, w_tst, k_T, w_andT, k_AnT, k_AnF, w_orT, k_OrT, k_OrF, w_notT, k_No, w_andV, k_AnVT, k_AnVF, w_orV, k_OrVT, k_OrVF, w_notV, k_NoV, w_ifV, k_IfVT, k_IfVF, w_aNil, w_aCons, k_A1, k_A2, w_callM, k_C, w_isi, k_Ty_int_non, k_Ty_int_bl, k_Ty_int_int, k_Ty_int_str, k_Ty_int_tup, k_Ty_int_fl, k_Ty_int_ref, k_TyR_int_l, k_TyR_int_d, k_Ty_tuple_non, k_Ty_tuple_bl, k_Ty_tuple_int, k_Ty_tuple_str, k_Ty_tuple_tup, k_Ty_tuple_fl, k_Ty_tuple_ref, k_TyR_tuple_l, k_TyR_tuple_d, k_Ty_str_non, k_Ty_str_bl, k_Ty_str_int, k_Ty_str_str, k_Ty_str_tup, k_Ty_str_fl, k_Ty_str_ref, k_TyR_str_l, k_TyR_str_d, k_Ty_list_non, k_Ty_list_bl, k_Ty_list_int, k_Ty_list_str, k_Ty_list_tup, k_Ty_list_fl, k_Ty_list_ref, k_TyR_list_l, k_TyR_list_d, k_Ty_dict_non, k_Ty_dict_bl, k_Ty_dict_int, k_Ty_dict_str, k_Ty_dict_tup, k_Ty_dict_fl, k_Ty_dict_ref, k_TyR_dict_l, k_TyR_dict_d, k_Ty_bool_non, k_Ty_bool_bl, k_Ty_bool_int, k_Ty_bool_str, k_Ty_bool_tup, k_Ty_bool_fl, k_Ty_bool_ref, k_TyR_bool_l, k_TyR_bool_d, w_oNone, w_oSome, k_O, w_slM, k_S1, k_S2, k_S3, w_tupM, k_Tup, w_lstM, k_Lst, w_newDic, w_appM, k_Ap1, k_Ap2, k_Ap3, k_Ap4, w_compL, k_CL, w_compCall, w_compMaxD, k_M1, k_M2, k_M3, w_sNil, w_sSeq, k_SqN, k_SqR, k_SqB, k_SqC, w_sExpr, k_Ex, w_sRet, k_Re, w_sRetN, w_sBrk, w_sCt, w_sIf, k_IfT, k_IfF, w_sSet, k_St, w_sSetC, k_StC, w_sAsg, k_As, k_As2, w_gN, w_gSb, k_G1, k_G2, k_G3, w_gTp, w_gsNil, w_gsCons, k_Gs, w_run, k_RtR, k_RtN, w_srcM, k_Sr, s_T, s_F, s_S, s_R, s_RL, w_rng1, k_R1, w_rng2, k_R2, k_R3, w_sFor, k_Fo, w_compM, k_Co, w_stepC, k_XT, k_XF, k_Y, w_tTrue, o_addI, o_addS, o_addT, o_sub, o_mul, o_div, o_mod, o_pow, o_lt, o_le, o_gt, o_ge, o_eqI, o_eqS, o_neI, o_neS, o_eqB, o_isN, o_notN, n_n, n_b, n_i, n_s, n_t, n_f, n_r, o_ixT, o_ixF, o_ixS, k_Ch, o_ixR, k_IxL, k_IxD, o_setR, k_SeL, k_SeJ, k_SeI, k_SeS, o_lenT, o_lenF, o_lenS, o_lenR, k_LeL, k_LeD, o_int, o_abs, o_max2, o_min2, o_tup, k_Seq, o_lst, k_Ls, q_T, q_F, q_R, q_RL, o_slT, o_slS, o_slF, o_slR, k_SlR, o_cTup, k_In, k_Bs, o_cSum, o_cAll, o_cAny, e_opt, e_get0, e_getS, k_LpN, k_LpC, k_LpB, k_LpR, atI_0, atI_1, atI_2, atI_3, atI_4, ixN_0, ixN_1, ixN_2, ixN_3, List.set_cons_zero, List.set_cons_succ, List.getElem?_cons_zero, List.getElem?_cons_succ, List.map_cons, List.map_nil, List.cons_append, List.nil_append, List.length_cons, List.length_nil, List.replicate_succ, List.replicate_zero, decide_true, decide_false, Bool.not_true, Bool.not_false, true_and, and_true, Nat.sub_self, Nat.zero_add, k_onNx, decide_eq_true_eq, W_ok, w_tru, k_TruB, k_TruI, k_TruN, k_TruT, k_TruF, k_TruR, k_TruL, k_TruD, i_nil, i_cons, k_Bl, k_Bn, o_inR, o_ninR, o_inF, o_ninF, k_In0L, k_In0Di, k_In0Ds, k_InL, sn_i, sn_s, sn_t, sn_f, sn_b, sn_n, w_get1, k_Gt1, k_Gt2, k_Gt3i, k_Gt3s, k_Gt4, w_get2, k_Ht1, k_Ht2, k_Ht3, k_Ht4i, k_Ht4s, o_lisR, k_LisL, k_LisD, o_lisT, o_lisF, w_pop, k_Po1, k_Po2, k_Po3, o_srtR, k_SrtL, k_SrtD, k_SrtLs, k_SrtDs, ints_nums, o_str, w_popAt, k_Pa, k_Pa1, k_Pa2, k_Pa3, k_Pa4, o_addR, k_AddL, o_geA, o_geT, o_intB]
    refine W_mono (draw_ok 198 1 6 _ tb (by decide)) fun _ h4 q => ?_
    obtain ⟨r2, rfl, a2, b2, t4, v4⟩ := q
    have c4 := v4 b _ (by omega) cb
    have fin : ∀ (e : Bd) (h5 : DHeap) (x4 : Option D), e ∈ opts → Tape h5 1 → h5[b]? = some (.lst (bs.map bdD)) → (bs.map bdD).length < 16777216 ∧ ∃ (cs : List Bd) (x3 x5 : Option D), [some (.fl (ns.map D.int)), some (.ref 1), some (.ref b), some (.int k), x4, none, none, none, none, none] = [some (.fl (ns.map D.int)), some (.ref 1), some (.ref b), x3, x5, none, none, none, none, none] ∧ (h5.set b (.lst (bs.map bdD ++ [bdD e])))[b]? = some (.lst (cs.map bdD)) ∧ cs.length = k + 1 ∧ (∀ b, b ∈ cs → b ∈ opts) ∧ Tape (h5.set b (.lst (bs.map bdD ++ [bdD e]))) 1 := fun e h5 x4 he t5 c5 => by
      refine ⟨by rw [List.length_map]; omega, bs ++ [e], _, _, rfl, by rw [List.map_append]; exact set_at c5, by simp [bl], fun q hq => ?_, t5.put l1⟩
      rcases List.mem_append.mp hq with hq | hq
      · exact bk q hq
      · rw [List.mem_singleton.mp hq]; exact he
    simp -implicitDefEqProofs only [w_vr, w_cst, w_bin2, k_B1, k_B2, w_tst, k_T, w_andT, k_AnT, k_AnF, w_orT, k_OrT, k_OrF, w_notT, k_No, w_andV, k_AnVT, k_AnVF, w_orV, k_OrVT, k_OrVF, w_notV, k_NoV, w_ifV, k_IfVT, k_IfVF, w_aNil, w_aCons, k_A1, k_A2, w_callM, k_C, w_isi, k_Ty_int_non, k_Ty_int_bl, k_Ty_int_int, k_Ty_int_str, k_Ty_int_tup, k_Ty_int_fl, k_Ty_int_ref, k_TyR_int_l, k_TyR_int_d, k_Ty_tuple_non, k_Ty_tuple_bl, k_Ty_tuple_int, k_Ty_tuple_str, k_Ty_tuple_tup, k_Ty_tuple_fl, k_Ty_tuple_ref, k_TyR_tuple_l, k_TyR_tuple_d, k_Ty_str_non, k_Ty_str_bl, k_Ty_str_int, k_Ty_str_str, k_Ty_str_tup, k_Ty_str_fl, k_Ty_str_ref, k_TyR_str_l, k_TyR_str_d, k_Ty_list_non, k_Ty_list_bl, k_Ty_list_int, k_Ty_list_str, k_Ty_list_tup, k_Ty_list_fl, k_Ty_list_ref, k_TyR_list_l, k_TyR_list_d, k_Ty_dict_non, k_Ty_dict_bl, k_Ty_dict_int, k_Ty_dict_str, k_Ty_dict_tup, k_Ty_dict_fl, k_Ty_dict_ref, k_TyR_dict_l, k_TyR_dict_d, k_Ty_bool_non, k_Ty_bool_bl, k_Ty_bool_int, k_Ty_bool_str, k_Ty_bool_tup, k_Ty_bool_fl, k_Ty_bool_ref, k_TyR_bool_l, k_TyR_bool_d, w_oNone, w_oSome, k_O, w_slM, k_S1, k_S2, k_S3, w_tupM, k_Tup, w_lstM, k_Lst, w_newDic, w_appM, k_Ap1, k_Ap2, k_Ap3, k_Ap4, w_compL, k_CL, w_compCall, w_compMaxD, k_M1, k_M2, k_M3, w_sNil, w_sSeq, k_SqN, k_SqR, k_SqB, k_SqC, w_sExpr, k_Ex, w_sRet, k_Re, w_sRetN, w_sBrk, w_sCt, w_sIf, k_IfT, k_IfF, w_sSet, k_St, w_sSetC, k_StC, w_sAsg, k_As, k_As2, w_gN, w_gSb, k_G1, k_G2, k_G3, w_gTp, w_gsNil, w_gsCons, k_Gs, w_run, k_RtR, k_RtN, w_srcM, k_Sr, s_T, s_F, s_S, s_R, s_RL, w_rng1, k_R1, w_rng2, k_R2, k_R3, w_sFor, k_Fo, w_compM, k_Co, w_stepC, k_XT, k_XF, k_Y, w_tTrue, o_addI, o_addS, o_addT, o_sub, o_mul, o_div, o_mod, o_pow, o_lt, o_le, o_gt, o_ge, o_eqI, o_eqS, o_neI, o_neS, o_eqB, o_isN, o_notN, n_n, n_b, n_i, n_s, n_t, n_f, n_r, o_ixT, o_ixF, o_ixS, k_Ch, o_ixR, k_IxL, k_IxD, o_setR, k_SeL, k_SeJ, k_SeI, k_SeS, o_lenT, o_lenF, o_lenS, o_lenR, k_LeL, k_LeD, o_int, o_abs, o_max2, o_min2, o_tup, k_Seq, o_lst, k_Ls, q_T, q_F, q_R, q_RL, o_slT, o_slS, o_slF, o_slR, k_SlR, o_cTup, k_In, k_Bs, o_cSum, o_cAll, o_cAny, e_opt, e_get0, e_getS, k_LpN, k_LpC, k_LpB, k_LpR, atI_0, atI_1, atI_2, atI_3, atI_4, ixN_0, ixN_1, ixN_2, ixN_3, List.set_cons_zero, List.set_cons_succ, List.getElem?_cons_zero, List.getElem?_cons_succ, List.map_cons, List.map_nil, List.cons_append, List.nil_append, List.length_cons, List.length_nil, List.replicate_succ, List.replicate_zero, decide_true, decide_false, Bool.not_true, Bool.not_false, true_and, and_true, Nat.sub_self, Nat.zero_add, k_onNx, decide_eq_true_eq, W_ok, w_tru, k_TruB, k_TruI, k_TruN, k_TruT, k_TruF, k_TruR, k_TruL, k_TruD, i_nil, i_cons, k_Bl, k_Bn, o_inR, o_ninR, o_inF, o_ninF, k_In0L, k_In0Di, k_In0Ds, k_InL, sn_i, sn_s, sn_t, sn_f, sn_b, sn_n, w_get1, k_Gt1, k_Gt2, k_Gt3i, k_Gt3s, k_Gt4, w_get2, k_Ht1, k_Ht2, k_Ht3, k_Ht4i, k_Ht4s, o_lisR, k_LisL, k_LisD, o_lisT, o_lisF, w_pop, k_Po1, k_Po2, k_Po3, o_srtR, k_SrtL, k_SrtD, k_SrtLs, k_SrtDs, ints_nums, o_str, w_popAt, k_Pa, k_Pa1, k_Pa2, k_Pa3, k_Pa4, o_addR, k_AddL, o_geA, o_geT, o_intB]
    refine if_d (fun c => ?_) (fun c => ?_)
    · simp -implicitDefEqProofs only [w_vr, w_cst, w_bin2, k_B1, k_B2, w_tst, k_T, w_andT, k_AnT, k_AnF, w_orT, k_OrT, k_OrF, w_notT, k_No, w_andV, k_AnVT, k_AnVF, w_orV, k_OrVT, k_OrVF, w_notV, k_NoV, w_ifV, k_IfVT, k_IfVF, w_aNil, w_aCons, k_A1, k_A2, w_callM, k_C, w_isi, k_Ty_int_non, k_Ty_int_bl, k_Ty_int_int, k_Ty_int_str, k_Ty_int_tup, k_Ty_int_fl, k_Ty_int_ref, k_TyR_int_l, k_TyR_int_d, k_Ty_tuple_non, k_Ty_tuple_bl, k_Ty_tuple_int, k_Ty_tuple_str, k_Ty_tuple_tup, k_Ty_tuple_fl, k_Ty_tuple_ref, k_TyR_tuple_l, k_TyR_tuple_d, k_Ty_str_non, k_Ty_str_bl, k_Ty_str_int, k_Ty_str_str, k_Ty_str_tup, k_Ty_str_fl, k_Ty_str_ref, k_TyR_str_l, k_TyR_str_d, k_Ty_list_non, k_Ty_list_bl, k_Ty_list_int, k_Ty_list_str, k_Ty_list_tup, k_Ty_list_fl, k_Ty_list_ref, k_TyR_list_l, k_TyR_list_d, k_Ty_dict_non, k_Ty_dict_bl, k_Ty_dict_int, k_Ty_dict_str, k_Ty_dict_tup, k_Ty_dict_fl, k_Ty_dict_ref, k_TyR_dict_l, k_TyR_dict_d, k_Ty_bool_non, k_Ty_bool_bl, k_Ty_bool_int, k_Ty_bool_str, k_Ty_bool_tup, k_Ty_bool_fl, k_Ty_bool_ref, k_TyR_bool_l, k_TyR_bool_d, w_oNone, w_oSome, k_O, w_slM, k_S1, k_S2, k_S3, w_tupM, k_Tup, w_lstM, k_Lst, w_newDic, w_appM, k_Ap1, k_Ap2, k_Ap3, k_Ap4, w_compL, k_CL, w_compCall, w_compMaxD, k_M1, k_M2, k_M3, w_sNil, w_sSeq, k_SqN, k_SqR, k_SqB, k_SqC, w_sExpr, k_Ex, w_sRet, k_Re, w_sRetN, w_sBrk, w_sCt, w_sIf, k_IfT, k_IfF, w_sSet, k_St, w_sSetC, k_StC, w_sAsg, k_As, k_As2, w_gN, w_gSb, k_G1, k_G2, k_G3, w_gTp, w_gsNil, w_gsCons, k_Gs, w_run, k_RtR, k_RtN, w_srcM, k_Sr, s_T, s_F, s_S, s_R, s_RL, w_rng1, k_R1, w_rng2, k_R2, k_R3, w_sFor, k_Fo, w_compM, k_Co, w_stepC, k_XT, k_XF, k_Y, w_tTrue, o_addI, o_addS, o_addT, o_sub, o_mul, o_div, o_mod, o_pow, o_lt, o_le, o_gt, o_ge, o_eqI, o_eqS, o_neI, o_neS, o_eqB, o_isN, o_notN, n_n, n_b, n_i, n_s, n_t, n_f, n_r, o_ixT, o_ixF, o_ixS, k_Ch, o_ixR, k_IxL, k_IxD, o_setR, k_SeL, k_SeJ, k_SeI, k_SeS, o_lenT, o_lenF, o_lenS, o_lenR, k_LeL, k_LeD, o_int, o_abs, o_max2, o_min2, o_tup, k_Seq, o_lst, k_Ls, q_T, q_F, q_R, q_RL, o_slT, o_slS, o_slF, o_slR, k_SlR, o_cTup, k_In, k_Bs, o_cSum, o_cAll, o_cAny, e_opt, e_get0, e_getS, k_LpN, k_LpC, k_LpB, k_LpR, atI_0, atI_1, atI_2, atI_3, atI_4, ixN_0, ixN_1, ixN_2, ixN_3, List.set_cons_zero, List.set_cons_succ, List.getElem?_cons_zero, List.getElem?_cons_succ, List.map_cons, List.map_nil, List.cons_append, List.nil_append, List.length_cons, List.length_nil, List.replicate_succ, List.replicate_zero, decide_true, decide_false, Bool.not_true, Bool.not_false, true_and, and_true, Nat.sub_self, Nat.zero_add, k_onNx, decide_eq_true_eq, W_ok, w_tru, k_TruB, k_TruI, k_TruN, k_TruT, k_TruF, k_TruR, k_TruL, k_TruD, i_nil, i_cons, k_Bl, k_Bn, o_inR, o_ninR, o_inF, o_ninF, k_In0L, k_In0Di, k_In0Ds, k_InL, sn_i, sn_s, sn_t, sn_f, sn_b, sn_n, w_get1, k_Gt1, k_Gt2, k_Gt3i, k_Gt3s, k_Gt4, w_get2, k_Ht1, k_Ht2, k_Ht3, k_Ht4i, k_Ht4s, o_lisR, k_LisL, k_LisD, o_lisT, o_lisF, w_pop, k_Po1, k_Po2, k_Po3, o_srtR, k_SrtL, k_SrtD, k_SrtLs, k_SrtDs, ints_nums, o_str, w_popAt, k_Pa, k_Pa1, k_Pa2, k_Pa3, k_Pa4, o_addR, k_AddL, o_geA, o_geT, o_intB, c4]
      repeat (refine And.intro (by first | omega | decide | (split <;> omega) | (simp only [List.length_map, List.length_append, List.length_cons, List.length_nil]; omega)) ?_)
      exact (fin (some (k, decide (r2 = 0))) h4 _ (mo _ _ (by omega)) t4 c4).2
    · simp -implicitDefEqProofs only [w_vr, w_cst, w_bin2, k_B1, k_B2, w_tst, k_T, w_andT, k_AnT, k_AnF, w_orT, k_OrT, k_OrF, w_notT, k_No, w_andV, k_AnVT, k_AnVF, w_orV, k_OrVT, k_OrVF, w_notV, k_NoV, w_ifV, k_IfVT, k_IfVF, w_aNil, w_aCons, k_A1, k_A2, w_callM, k_C, w_isi, k_Ty_int_non, k_Ty_int_bl, k_Ty_int_int, k_Ty_int_str, k_Ty_int_tup, k_Ty_int_fl, k_Ty_int_ref, k_TyR_int_l, k_TyR_int_d, k_Ty_tuple_non, k_Ty_tuple_bl, k_Ty_tuple_int, k_Ty_tuple_str, k_Ty_tuple_tup, k_Ty_tuple_fl, k_Ty_tuple_ref, k_TyR_tuple_l, k_TyR_tuple_d, k_Ty_str_non, k_Ty_str_bl, k_Ty_str_int, k_Ty_str_str, k_Ty_str_tup, k_Ty_str_fl, k_Ty_str_ref, k_TyR_str_l, k_TyR_str_d, k_Ty_list_non, k_Ty_list_bl, k_Ty_list_int, k_Ty_list_str, k_Ty_list_tup, k_Ty_list_fl, k_Ty_list_ref, k_TyR_list_l, k_TyR_list_d, k_Ty_dict_non, k_Ty_dict_bl, k_Ty_dict_int, k_Ty_dict_str, k_Ty_dict_tup, k_Ty_dict_fl, k_Ty_dict_ref, k_TyR_dict_l, k_TyR_dict_d, k_Ty_bool_non, k_Ty_bool_bl, k_Ty_bool_int, k_Ty_bool_str, k_Ty_bool_tup, k_Ty_bool_fl, k_Ty_bool_ref, k_TyR_bool_l, k_TyR_bool_d, w_oNone, w_oSome, k_O, w_slM, k_S1, k_S2, k_S3, w_tupM, k_Tup, w_lstM, k_Lst, w_newDic, w_appM, k_Ap1, k_Ap2, k_Ap3, k_Ap4, w_compL, k_CL, w_compCall, w_compMaxD, k_M1, k_M2, k_M3, w_sNil, w_sSeq, k_SqN, k_SqR, k_SqB, k_SqC, w_sExpr, k_Ex, w_sRet, k_Re, w_sRetN, w_sBrk, w_sCt, w_sIf, k_IfT, k_IfF, w_sSet, k_St, w_sSetC, k_StC, w_sAsg, k_As, k_As2, w_gN, w_gSb, k_G1, k_G2, k_G3, w_gTp, w_gsNil, w_gsCons, k_Gs, w_run, k_RtR, k_RtN, w_srcM, k_Sr, s_T, s_F, s_S, s_R, s_RL, w_rng1, k_R1, w_rng2, k_R2, k_R3, w_sFor, k_Fo, w_compM, k_Co, w_stepC, k_XT, k_XF, k_Y, w_tTrue, o_addI, o_addS, o_addT, o_sub, o_mul, o_div, o_mod, o_pow, o_lt, o_le, o_gt, o_ge, o_eqI, o_eqS, o_neI, o_neS, o_eqB, o_isN, o_notN, n_n, n_b, n_i, n_s, n_t, n_f, n_r, o_ixT, o_ixF, o_ixS, k_Ch, o_ixR, k_IxL, k_IxD, o_setR, k_SeL, k_SeJ, k_SeI, k_SeS, o_lenT, o_lenF, o_lenS, o_lenR, k_LeL, k_LeD, o_int, o_abs, o_max2, o_min2, o_tup, k_Seq, o_lst, k_Ls, q_T, q_F, q_R, q_RL, o_slT, o_slS, o_slF, o_slR, k_SlR, o_cTup, k_In, k_Bs, o_cSum, o_cAll, o_cAny, e_opt, e_get0, e_getS, k_LpN, k_LpC, k_LpB, k_LpR, atI_0, atI_1, atI_2, atI_3, atI_4, ixN_0, ixN_1, ixN_2, ixN_3, List.set_cons_zero, List.set_cons_succ, List.getElem?_cons_zero, List.getElem?_cons_succ, List.map_cons, List.map_nil, List.cons_append, List.nil_append, List.length_cons, List.length_nil, List.replicate_succ, List.replicate_zero, decide_true, decide_false, Bool.not_true, Bool.not_false, true_and, and_true, Nat.sub_self, Nat.zero_add, k_onNx, decide_eq_true_eq, W_ok, w_tru, k_TruB, k_TruI, k_TruN, k_TruT, k_TruF, k_TruR, k_TruL, k_TruD, i_nil, i_cons, k_Bl, k_Bn, o_inR, o_ninR, o_inF, o_ninF, k_In0L, k_In0Di, k_In0Ds, k_InL, sn_i, sn_s, sn_t, sn_f, sn_b, sn_n, w_get1, k_Gt1, k_Gt2, k_Gt3i, k_Gt3s, k_Gt4, w_get2, k_Ht1, k_Ht2, k_Ht3, k_Ht4i, k_Ht4s, o_lisR, k_LisL, k_LisD, o_lisT, o_lisF, w_pop, k_Po1, k_Po2, k_Po3, o_srtR, k_SrtL, k_SrtD, k_SrtLs, k_SrtDs, ints_nums, o_str, w_popAt, k_Pa, k_Pa1, k_Pa2, k_Pa3, k_Pa4, o_addR, k_AddL, o_geA, o_geT, o_intB]
      refine if_d (fun c => ?_) (fun c => ?_)
      · simp -implicitDefEqProofs only [w_vr, w_cst, w_bin2, k_B1, k_B2, w_tst, k_T, w_andT, k_AnT, k_AnF, w_orT, k_OrT, k_OrF, w_notT, k_No, w_andV, k_AnVT, k_AnVF, w_orV, k_OrVT, k_OrVF, w_notV, k_NoV, w_ifV, k_IfVT, k_IfVF, w_aNil, w_aCons, k_A1, k_A2, w_callM, k_C, w_isi, k_Ty_int_non, k_Ty_int_bl, k_Ty_int_int, k_Ty_int_str, k_Ty_int_tup, k_Ty_int_fl, k_Ty_int_ref, k_TyR_int_l, k_TyR_int_d, k_Ty_tuple_non, k_Ty_tuple_bl, k_Ty_tuple_int, k_Ty_tuple_str, k_Ty_tuple_tup, k_Ty_tuple_fl, k_Ty_tuple_ref, k_TyR_tuple_l, k_TyR_tuple_d, k_Ty_str_non, k_Ty_str_bl, k_Ty_str_int, k_Ty_str_str, k_Ty_str_tup, k_Ty_str_fl, k_Ty_str_ref, k_TyR_str_l, k_TyR_str_d, k_Ty_list_non, k_Ty_list_bl, k_Ty_list_int, k_Ty_list_str, k_Ty_list_tup, k_Ty_list_fl, k_Ty_list_ref, k_TyR_list_l, k_TyR_list_d, k_Ty_dict_non, k_Ty_dict_bl, k_Ty_dict_int, k_Ty_dict_str, k_Ty_dict_tup, k_Ty_dict_fl, k_Ty_dict_ref, k_TyR_dict_l, k_TyR_dict_d, k_Ty_bool_non, k_Ty_bool_bl, k_Ty_bool_int, k_Ty_bool_str, k_Ty_bool_tup, k_Ty_bool_fl, k_Ty_bool_ref, k_TyR_bool_l, k_TyR_bool_d, w_oNone, w_oSome, k_O, w_slM, k_S1, k_S2, k_S3, w_tupM, k_Tup, w_lstM, k_Lst, w_newDic, w_appM, k_Ap1, k_Ap2, k_Ap3, k_Ap4, w_compL, k_CL, w_compCall, w_compMaxD, k_M1, k_M2, k_M3, w_sNil, w_sSeq, k_SqN, k_SqR, k_SqB, k_SqC, w_sExpr, k_Ex, w_sRet, k_Re, w_sRetN, w_sBrk, w_sCt, w_sIf, k_IfT, k_IfF, w_sSet, k_St, w_sSetC, k_StC, w_sAsg, k_As, k_As2, w_gN, w_gSb, k_G1, k_G2, k_G3, w_gTp, w_gsNil, w_gsCons, k_Gs, w_run, k_RtR, k_RtN, w_srcM, k_Sr, s_T, s_F, s_S, s_R, s_RL, w_rng1, k_R1, w_rng2, k_R2, k_R3, w_sFor, k_Fo, w_compM, k_Co, w_stepC, k_XT, k_XF, k_Y, w_tTrue, o_addI, o_addS, o_addT, o_sub, o_mul, o_div, o_mod, o_pow, o_lt, o_le, o_gt, o_ge, o_eqI, o_eqS, o_neI, o_neS, o_eqB, o_isN, o_notN, n_n, n_b, n_i, n_s, n_t, n_f, n_r, o_ixT, o_ixF, o_ixS, k_Ch, o_ixR, k_IxL, k_IxD, o_setR, k_SeL, k_SeJ, k_SeI, k_SeS, o_lenT, o_lenF, o_lenS, o_lenR, k_LeL, k_LeD, o_int, o_abs, o_max2, o_min2, o_tup, k_Seq, o_lst, k_Ls, q_T, q_F, q_R, q_RL, o_slT, o_slS, o_slF, o_slR, k_SlR, o_cTup, k_In, k_Bs, o_cSum, o_cAll, o_cAny, e_opt, e_get0, e_getS, k_LpN, k_LpC, k_LpB, k_LpR, atI_0, atI_1, atI_2, atI_3, atI_4, ixN_0, ixN_1, ixN_2, ixN_3, List.set_cons_zero, List.set_cons_succ, List.getElem?_cons_zero, List.getElem?_cons_succ, List.map_cons, List.map_nil, List.cons_append, List.nil_append, List.length_cons, List.length_nil, List.replicate_succ, List.replicate_zero, decide_true, decide_false, Bool.not_true, Bool.not_false, true_and, and_true, Nat.sub_self, Nat.zero_add, k_onNx, decide_eq_true_eq, W_ok, w_tru, k_TruB, k_TruI, k_TruN, k_TruT, k_TruF, k_TruR, k_TruL, k_TruD, i_nil, i_cons, k_Bl, k_Bn, o_inR, o_ninR, o_inF, o_ninF, k_In0L, k_In0Di, k_In0Ds, k_InL, sn_i, sn_s, sn_t, sn_f, sn_b, sn_n, w_get1, k_Gt1, k_Gt2, k_Gt3i, k_Gt3s, k_Gt4, w_get2, k_Ht1, k_Ht2, k_Ht3, k_Ht4i, k_Ht4s, o_lisR, k_LisL, k_LisD, o_lisT, o_lisF, w_pop, k_Po1, k_Po2, k_Po3, o_srtR, k_SrtL, k_SrtD, k_SrtLs, k_SrtDs, ints_nums, o_str, w_popAt, k_Pa, k_Pa1, k_Pa2, k_Pa3, k_Pa4, o_addR, k_AddL, o_geA, o_geT, o_intB, c4]
        refine W_mono (draw_ok 198 1 4 _ t4 (by decide)) fun _ h5 q => ?_
        obtain ⟨r3, rfl, a3, b3, t5, v5⟩ := q
        simp -implicitDefEqProofs only [w_vr, w_cst, w_bin2, k_B1, k_B2, w_tst, k_T, w_andT, k_AnT, k_AnF, w_orT, k_OrT, k_OrF, w_notT, k_No, w_andV, k_AnVT, k_AnVF, w_orV, k_OrVT, k_OrVF, w_notV, k_NoV, w_ifV, k_IfVT, k_IfVF, w_aNil, w_aCons, k_A1, k_A2, w_callM, k_C, w_isi, k_Ty_int_non, k_Ty_int_bl, k_Ty_int_int, k_Ty_int_str, k_Ty_int_tup, k_Ty_int_fl, k_Ty_int_ref, k_TyR_int_l, k_TyR_int_d, k_Ty_tuple_non, k_Ty_tuple_bl, k_Ty_tuple_int, k_Ty_tuple_str, k_Ty_tuple_tup, k_Ty_tuple_fl, k_Ty_tuple_ref, k_TyR_tuple_l, k_TyR_tuple_d, k_Ty_str_non, k_Ty_str_bl, k_Ty_str_int, k_Ty_str_str, k_Ty_str_tup, k_Ty_str_fl, k_Ty_str_ref, k_TyR_str_l, k_TyR_str_d, k_Ty_list_non, k_Ty_list_bl, k_Ty_list_int, k_Ty_list_str, k_Ty_list_tup, k_Ty_list_fl, k_Ty_list_ref, k_TyR_list_l, k_TyR_list_d, k_Ty_dict_non, k_Ty_dict_bl, k_Ty_dict_int, k_Ty_dict_str, k_Ty_dict_tup, k_Ty_dict_fl, k_Ty_dict_ref, k_TyR_dict_l, k_TyR_dict_d, k_Ty_bool_non, k_Ty_bool_bl, k_Ty_bool_int, k_Ty_bool_str, k_Ty_bool_tup, k_Ty_bool_fl, k_Ty_bool_ref, k_TyR_bool_l, k_TyR_bool_d, w_oNone, w_oSome, k_O, w_slM, k_S1, k_S2, k_S3, w_tupM, k_Tup, w_lstM, k_Lst, w_newDic, w_appM, k_Ap1, k_Ap2, k_Ap3, k_Ap4, w_compL, k_CL, w_compCall, w_compMaxD, k_M1, k_M2, k_M3, w_sNil, w_sSeq, k_SqN, k_SqR, k_SqB, k_SqC, w_sExpr, k_Ex, w_sRet, k_Re, w_sRetN, w_sBrk, w_sCt, w_sIf, k_IfT, k_IfF, w_sSet, k_St, w_sSetC, k_StC, w_sAsg, k_As, k_As2, w_gN, w_gSb, k_G1, k_G2, k_G3, w_gTp, w_gsNil, w_gsCons, k_Gs, w_run, k_RtR, k_RtN, w_srcM, k_Sr, s_T, s_F, s_S, s_R, s_RL, w_rng1, k_R1, w_rng2, k_R2, k_R3, w_sFor, k_Fo, w_compM, k_Co, w_stepC, k_XT, k_XF, k_Y, w_tTrue, o_addI, o_addS, o_addT, o_sub, o_mul, o_div, o_mod, o_pow, o_lt, o_le, o_gt, o_ge, o_eqI, o_eqS, o_neI, o_neS, o_eqB, o_isN, o_notN, n_n, n_b, n_i, n_s, n_t, n_f, n_r, o_ixT, o_ixF, o_ixS, k_Ch, o_ixR, k_IxL, k_IxD, o_setR, k_SeL, k_SeJ, k_SeI, k_SeS, o_lenT, o_lenF, o_lenS, o_lenR, k_LeL, k_LeD, o_int, o_abs, o_max2, o_min2, o_tup, k_Seq, o_lst, k_Ls, q_T, q_F, q_R, q_RL, o_slT, o_slS, o_slF, o_slR, k_SlR, o_cTup, k_In, k_Bs, o_cSum, o_cAll, o_cAny, e_opt, e_get0, e_getS, k_LpN, k_LpC, k_LpB, k_LpR, atI_0, atI_1, atI_2, atI_3, atI_4, ixN_0, ixN_1, ixN_2, ixN_3, List.set_cons_zero, List.set_cons_succ, List.getElem?_cons_zero, List.getElem?_cons_succ, List.map_cons, List.map_nil, List.cons_append, List.nil_append, List.length_cons, List.length_nil, List.replicate_succ, List.replicate_zero, decide_true, decide_false, Bool.not_true, Bool.not_false, true_and, and_true, Nat.sub_self, Nat.zero_add, k_onNx, decide_eq_true_eq, W_ok, w_tru, k_TruB, k_TruI, k_TruN, k_TruT, k_TruF, k_TruR, k_TruL, k_TruD, i_nil, i_cons, k_Bl, k_Bn, o_inR, o_ninR, o_inF, o_ninF, k_In0L, k_In0Di, k_In0Ds, k_InL, sn_i, sn_s, sn_t, sn_f, sn_b, sn_n, w_get1, k_Gt1, k_Gt2, k_Gt3i, k_Gt3s, k_Gt4, w_get2, k_Ht1, k_Ht2, k_Ht3, k_Ht4i, k_Ht4s, o_lisR, k_LisL, k_LisD, o_lisT, o_lisF, w_pop, k_Po1, k_Po2, k_Po3, o_srtR, k_SrtL, k_SrtD, k_SrtLs, k_SrtDs, ints_nums, o_str, w_popAt, k_Pa, k_Pa1, k_Pa2, k_Pa3, k_Pa4, o_addR, k_AddL, o_geA, o_geT, o_intB]
        refine W_mono (draw_ok 198 1 2 _ t5 (by decide)) fun _ h6 q => ?_
        obtain ⟨r4, rfl, a4, b4, t6, v6⟩ := q
        have c6 := v6 b _ (by omega) (v5 b _ (by omega) c4)
        obtain ⟨j, rfl⟩ : ∃ j : Nat, r3 = j := ⟨r3.toNat, by omega⟩
        simp -implicitDefEqProofs only [w_vr, w_cst, w_bin2, k_B1, k_B2, w_tst, k_T, w_andT, k_AnT, k_AnF, w_orT, k_OrT, k_OrF, w_notT, k_No, w_andV, k_AnVT, k_AnVF, w_orV, k_OrVT, k_OrVF, w_notV, k_NoV, w_ifV, k_IfVT, k_IfVF, w_aNil, w_aCons, k_A1, k_A2, w_callM, k_C, w_isi, k_Ty_int_non, k_Ty_int_bl, k_Ty_int_int, k_Ty_int_str, k_Ty_int_tup, k_Ty_int_fl, k_Ty_int_ref, k_TyR_int_l, k_TyR_int_d, k_Ty_tuple_non, k_Ty_tuple_bl, k_Ty_tuple_int, k_Ty_tuple_str, k_Ty_tuple_tup, k_Ty_tuple_fl, k_Ty_tuple_ref, k_TyR_tuple_l, k_TyR_tuple_d, k_Ty_str_non, k_Ty_str_bl, k_Ty_str_int, k_Ty_str_str, k_Ty_str_tup, k_Ty_str_fl, k_Ty_str_ref, k_TyR_str_l, k_TyR_str_d, k_Ty_list_non, k_Ty_list_bl, k_Ty_list_int, k_Ty_list_str, k_Ty_list_tup, k_Ty_list_fl, k_Ty_list_ref, k_TyR_list_l, k_TyR_list_d, k_Ty_dict_non, k_Ty_dict_bl, k_Ty_dict_int, k_Ty_dict_str, k_Ty_dict_tup, k_Ty_dict_fl, k_Ty_dict_ref, k_TyR_dict_l, k_TyR_dict_d, k_Ty_bool_non, k_Ty_bool_bl, k_Ty_bool_int, k_Ty_bool_str, k_Ty_bool_tup, k_Ty_bool_fl, k_Ty_bool_ref, k_TyR_bool_l, k_TyR_bool_d, w_oNone, w_oSome, k_O, w_slM, k_S1, k_S2, k_S3, w_tupM, k_Tup, w_lstM, k_Lst, w_newDic, w_appM, k_Ap1, k_Ap2, k_Ap3, k_Ap4, w_compL, k_CL, w_compCall, w_compMaxD, k_M1, k_M2, k_M3, w_sNil, w_sSeq, k_SqN, k_SqR, k_SqB, k_SqC, w_sExpr, k_Ex, w_sRet, k_Re, w_sRetN, w_sBrk, w_sCt, w_sIf, k_IfT, k_IfF, w_sSet, k_St, w_sSetC, k_StC, w_sAsg, k_As, k_As2, w_gN, w_gSb, k_G1, k_G2, k_G3, w_gTp, w_gsNil, w_gsCons, k_Gs, w_run, k_RtR, k_RtN, w_srcM, k_Sr, s_T, s_F, s_S, s_R, s_RL, w_rng1, k_R1, w_rng2, k_R2, k_R3, w_sFor, k_Fo, w_compM, k_Co, w_stepC, k_XT, k_XF, k_Y, w_tTrue, o_addI, o_addS, o_addT, o_sub, o_mul, o_div, o_mod, o_pow, o_lt, o_le, o_gt, o_ge, o_eqI, o_eqS, o_neI, o_neS, o_eqB, o_isN, o_notN, n_n, n_b, n_i, n_s, n_t, n_f, n_r, o_ixT, o_ixF, o_ixS, k_Ch, o_ixR, k_IxL, k_IxD, o_setR, k_SeL, k_SeJ, k_SeI, k_SeS, o_lenT, o_lenF, o_lenS, o_lenR, k_LeL, k_LeD, o_int, o_abs, o_max2, o_min2, o_tup, k_Seq, o_lst, k_Ls, q_T, q_F, q_R, q_RL, o_slT, o_slS, o_slF, o_slR, k_SlR, o_cTup, k_In, k_Bs, o_cSum, o_cAll, o_cAny, e_opt, e_get0, e_getS, k_LpN, k_LpC, k_LpB, k_LpR, atI_0, atI_1, atI_2, atI_3, atI_4, ixN_0, ixN_1, ixN_2, ixN_3, List.set_cons_zero, List.set_cons_succ, List.getElem?_cons_zero, List.getElem?_cons_succ, List.map_cons, List.map_nil, List.cons_append, List.nil_append, List.length_cons, List.length_nil, List.replicate_succ, List.replicate_zero, decide_true, decide_false, Bool.not_true, Bool.not_false, true_and, and_true, Nat.sub_self, Nat.zero_add, k_onNx, decide_eq_true_eq, W_ok, w_tru, k_TruB, k_TruI, k_TruN, k_TruT, k_TruF, k_TruR, k_TruL, k_TruD, i_nil, i_cons, k_Bl, k_Bn, o_inR, o_ninR, o_inF, o_ninF, k_In0L, k_In0Di, k_In0Ds, k_InL, sn_i, sn_s, sn_t, sn_f, sn_b, sn_n, w_get1, k_Gt1, k_Gt2, k_Gt3i, k_Gt3s, k_Gt4, w_get2, k_Ht1, k_Ht2, k_Ht3, k_Ht4i, k_Ht4s, o_lisR, k_LisL, k_LisD, o_lisT, o_lisF, w_pop, k_Po1, k_Po2, k_Po3, o_srtR, k_SrtL, k_SrtD, k_SrtLs, k_SrtDs, ints_nums, o_str, w_popAt, k_Pa, k_Pa1, k_Pa2, k_Pa3, k_Pa4, o_addR, k_AddL, o_geA, o_geT, o_intB, c6]
        repeat (refine And.intro (by first | omega | decide | (split <;> omega) | (simp only [List.length_map, List.length_append, List.length_cons, List.length_nil]; omega)) ?_)
        exact (fin (some (j, decide (r4 = 0))) h6 _ (mo _ _ (by omega)) t6 c6).2
      · simp -implicitDefEqProofs only [w_vr, w_cst, w_bin2, k_B1, k_B2, w_tst, k_T, w_andT, k_AnT, k_AnF, w_orT, k_OrT, k_OrF, w_notT, k_No, w_andV, k_AnVT, k_AnVF, w_orV, k_OrVT, k_OrVF, w_notV, k_NoV, w_ifV, k_IfVT, k_IfVF, w_aNil, w_aCons, k_A1, k_A2, w_callM, k_C, w_isi, k_Ty_int_non, k_Ty_int_bl, k_Ty_int_int, k_Ty_int_str, k_Ty_int_tup, k_Ty_int_fl, k_Ty_int_ref, k_TyR_int_l, k_TyR_int_d, k_Ty_tuple_non, k_Ty_tuple_bl, k_Ty_tuple_int, k_Ty_tuple_str, k_Ty_tuple_tup, k_Ty_tuple_fl, k_Ty_tuple_ref, k_TyR_tuple_l, k_TyR_tuple_d, k_Ty_str_non, k_Ty_str_bl, k_Ty_str_int, k_Ty_str_str, k_Ty_str_tup, k_Ty_str_fl, k_Ty_str_ref, k_TyR_str_l, k_TyR_str_d, k_Ty_list_non, k_Ty_list_bl, k_Ty_list_int, k_Ty_list_str, k_Ty_list_tup, k_Ty_list_fl, k_Ty_list_ref, k_TyR_list_l, k_TyR_list_d, k_Ty_dict_non, k_Ty_dict_bl, k_Ty_dict_int, k_Ty_dict_str, k_Ty_dict_tup, k_Ty_dict_fl, k_Ty_dict_ref, k_TyR_dict_l, k_TyR_dict_d, k_Ty_bool_non, k_Ty_bool_bl, k_Ty_bool_int, k_Ty_bool_str, k_Ty_bool_tup, k_Ty_bool_fl, k_Ty_bool_ref, k_TyR_bool_l, k_TyR_bool_d, w_oNone, w_oSome, k_O, w_slM, k_S1, k_S2, k_S3, w_tupM, k_Tup, w_lstM, k_Lst, w_newDic, w_appM, k_Ap1, k_Ap2, k_Ap3, k_Ap4, w_compL, k_CL, w_compCall, w_compMaxD, k_M1, k_M2, k_M3, w_sNil, w_sSeq, k_SqN, k_SqR, k_SqB, k_SqC, w_sExpr, k_Ex, w_sRet, k_Re, w_sRetN, w_sBrk, w_sCt, w_sIf, k_IfT, k_IfF, w_sSet, k_St, w_sSetC, k_StC, w_sAsg, k_As, k_As2, w_gN, w_gSb, k_G1, k_G2, k_G3, w_gTp, w_gsNil, w_gsCons, k_Gs, w_run, k_RtR, k_RtN, w_srcM, k_Sr, s_T, s_F, s_S, s_R, s_RL, w_rng1, k_R1, w_rng2, k_R2, k_R3, w_sFor, k_Fo, w_compM, k_Co, w_stepC, k_XT, k_XF, k_Y, w_tTrue, o_addI, o_addS, o_addT, o_sub, o_mul, o_div, o_mod, o_pow, o_lt, o_le, o_gt, o_ge, o_eqI, o_eqS, o_neI, o_neS, o_eqB, o_isN, o_notN, n_n, n_b, n_i, n_s, n_t, n_f, n_r, o_ixT, o_ixF, o_ixS, k_Ch, o_ixR, k_IxL, k_IxD, o_setR, k_SeL, k_SeJ, k_SeI, k_SeS, o_lenT, o_lenF, o_lenS, o_lenR, k_LeL, k_LeD, o_int, o_abs, o_max2, o_min2, o_tup, k_Seq, o_lst, k_Ls, q_T, q_F, q_R, q_RL, o_slT, o_slS, o_slF, o_slR, k_SlR, o_cTup, k_In, k_Bs, o_cSum, o_cAll, o_cAny, e_opt, e_get0, e_getS, k_LpN, k_LpC, k_LpB, k_LpR, atI_0, atI_1, atI_2, atI_3, atI_4, ixN_0, ixN_1, ixN_2, ixN_3, List.set_cons_zero, List.set_cons_succ, List.getElem?_cons_zero, List.getElem?_cons_succ, List.map_cons, List.map_nil, List.cons_append, List.nil_append, List.length_cons, List.length_nil, List.replicate_succ, List.replicate_zero, decide_true, decide_false, Bool.not_true, Bool.not_false, true_and, and_true, Nat.sub_self, Nat.zero_add, k_onNx, decide_eq_true_eq, W_ok, w_tru, k_TruB, k_TruI, k_TruN, k_TruT, k_TruF, k_TruR, k_TruL, k_TruD, i_nil, i_cons, k_Bl, k_Bn, o_inR, o_ninR, o_inF, o_ninF, k_In0L, k_In0Di, k_In0Ds, k_InL, sn_i, sn_s, sn_t, sn_f, sn_b, sn_n, w_get1, k_Gt1, k_Gt2, k_Gt3i, k_Gt3s, k_Gt4, w_get2, k_Ht1, k_Ht2, k_Ht3, k_Ht4i, k_Ht4s, o_lisR, k_LisL, k_LisD, o_lisT, o_lisF, w_pop, k_Po1, k_Po2, k_Po3, o_srtR, k_SrtL, k_SrtD, k_SrtLs, k_SrtDs, ints_nums, o_str, w_popAt, k_Pa, k_Pa1, k_Pa2, k_Pa3, k_Pa4, o_addR, k_AddL, o_geA, o_geT, o_intB, c4]
        exact fin none h4 _ (by decide) t4 c4
  obtain ⟨bs, x3, x4, rfl, cb, bl, bk, tb⟩ := p
  have bl : bs.length = m.toNat := bl.trans (range_len _)
  have bl4 : bs.length ≤ 4 := by omega
  simp -implicitDefEqProofs only [w_vr, w_cst, w_bin2, k_B1, k_B2, w_tst, k_T, w_andT, k_AnT, k_AnF, w_orT, k_OrT, k_OrF, w_notT, k_No, w_andV, k_AnVT, k_AnVF, w_orV, k_OrVT, k_OrVF, w_notV, k_NoV, w_ifV, k_IfVT, k_IfVF, w_aNil, w_aCons, k_A1, k_A2, w_callM, k_C, w_isi, k_Ty_int_non, k_Ty_int_bl, k_Ty_int_int, k_Ty_int_str, k_Ty_int_tup, k_Ty_int_fl, k_Ty_int_ref, k_TyR_int_l, k_TyR_int_d, k_Ty_tuple_non, k_Ty_tuple_bl, k_Ty_tuple_int, k_Ty_tuple_str, k_Ty_tuple_tup, k_Ty_tuple_fl, k_Ty_tuple_ref, k_TyR_tuple_l, k_TyR_tuple_d, k_Ty_str_non, k_Ty_str_bl, k_Ty_str_int, k_Ty_str_str, k_Ty_str_tup, k_Ty_str_fl, k_Ty_str_ref, k_TyR_str_l, k_TyR_str_d, k_Ty_list_non, k_Ty_list_bl, k_Ty_list_int, k_Ty_list_str, k_Ty_list_tup, k_Ty_list_fl, k_Ty_list_ref, k_TyR_list_l, k_TyR_list_d, k_Ty_dict_non, k_Ty_dict_bl, k_Ty_dict_int, k_Ty_dict_str, k_Ty_dict_tup, k_Ty_dict_fl, k_Ty_dict_ref, k_TyR_dict_l, k_TyR_dict_d, k_Ty_bool_non, k_Ty_bool_bl, k_Ty_bool_int, k_Ty_bool_str, k_Ty_bool_tup, k_Ty_bool_fl, k_Ty_bool_ref, k_TyR_bool_l, k_TyR_bool_d, w_oNone, w_oSome, k_O, w_slM, k_S1, k_S2, k_S3, w_tupM, k_Tup, w_lstM, k_Lst, w_newDic, w_appM, k_Ap1, k_Ap2, k_Ap3, k_Ap4, w_compL, k_CL, w_compCall, w_compMaxD, k_M1, k_M2, k_M3, w_sNil, w_sSeq, k_SqN, k_SqR, k_SqB, k_SqC, w_sExpr, k_Ex, w_sRet, k_Re, w_sRetN, w_sBrk, w_sCt, w_sIf, k_IfT, k_IfF, w_sSet, k_St, w_sSetC, k_StC, w_sAsg, k_As, k_As2, w_gN, w_gSb, k_G1, k_G2, k_G3, w_gTp, w_gsNil, w_gsCons, k_Gs, w_run, k_RtR, k_RtN, w_srcM, k_Sr, s_T, s_F, s_S, s_R, s_RL, w_rng1, k_R1, w_rng2, k_R2, k_R3, w_sFor, k_Fo, w_compM, k_Co, w_stepC, k_XT, k_XF, k_Y, w_tTrue, o_addI, o_addS, o_addT, o_sub, o_mul, o_div, o_mod, o_pow, o_lt, o_le, o_gt, o_ge, o_eqI, o_eqS, o_neI, o_neS, o_eqB, o_isN, o_notN, n_n, n_b, n_i, n_s, n_t, n_f, n_r, o_ixT, o_ixF, o_ixS, k_Ch, o_ixR, k_IxL, k_IxD, o_setR, k_SeL, k_SeJ, k_SeI, k_SeS, o_lenT, o_lenF, o_lenS, o_lenR, k_LeL, k_LeD, o_int, o_abs, o_max2, o_min2, o_tup, k_Seq, o_lst, k_Ls, q_T, q_F, q_R, q_RL, o_slT, o_slS, o_slF, o_slR, k_SlR, o_cTup, k_In, k_Bs, o_cSum, o_cAll, o_cAny, e_opt, e_get0, e_getS, k_LpN, k_LpC, k_LpB, k_LpR, atI_0, atI_1, atI_2, atI_3, atI_4, ixN_0, ixN_1, ixN_2, ixN_3, List.set_cons_zero, List.set_cons_succ, List.getElem?_cons_zero, List.getElem?_cons_succ, List.map_cons, List.map_nil, List.cons_append, List.nil_append, List.length_cons, List.length_nil, List.replicate_succ, List.replicate_zero, decide_true, decide_false, Bool.not_true, Bool.not_false, true_and, and_true, Nat.sub_self, Nat.zero_add, k_onNx, decide_eq_true_eq, W_ok, w_tru, k_TruB, k_TruI, k_TruN, k_TruT, k_TruF, k_TruR, k_TruL, k_TruD, i_nil, i_cons, k_Bl, k_Bn, o_inR, o_ninR, o_inF, o_ninF, k_In0L, k_In0Di, k_In0Ds, k_InL, sn_i, sn_s, sn_t, sn_f, sn_b, sn_n, w_get1, k_Gt1, k_Gt2, k_Gt3i, k_Gt3s, k_Gt4, w_get2, k_Ht1, k_Ht2, k_Ht3, k_Ht4i, k_Ht4s, o_lisR, k_LisL, k_LisD, o_lisT, o_lisF, w_pop, k_Po1, k_Po2, k_Po3, o_srtR, k_SrtL, k_SrtD, k_SrtLs, k_SrtDs, ints_nums, o_str, w_popAt, k_Pa, k_Pa1, k_Pa2, k_Pa3, k_Pa4, o_addR, k_AddL, o_geA, o_geT, o_intB, app_at cb, List.length_map]
  refine And.intro (by decide) ?_
  have e0 : ([0, 1, 2, 3] : List Int).map D.int = [D.int 0, D.int 1, D.int 2, D.int 3] := rfl
  have c0 : (h' ++ [Cell.lst [D.int 0, D.int 1, D.int 2, D.int 3]])[h'.length]? = some (.lst (([0, 1, 2, 3] : List Int).map D.int)) := by rw [e0]; exact app_end
  have l0 : ([0, 1, 2, 3] : List Int).length ≤ 4 := Nat.le_refl _
  generalize hmi : (bs.length : Int) = mi
  refine choices_at 199 h'.length [0, 1, 2, 3] bs.length mi hmi.symm _ (by omega) c0 bl4 l0 _ fun rx h6 cx kx => ?_
  have cb6 := kx _ _ (app_at cb)
  simp -implicitDefEqProofs only [w_vr, w_cst, w_bin2, k_B1, k_B2, w_tst, k_T, w_andT, k_AnT, k_AnF, w_orT, k_OrT, k_OrF, w_notT, k_No, w_andV, k_AnVT, k_AnVF, w_orV, k_OrVT, k_OrVF, w_notV, k_NoV, w_ifV, k_IfVT, k_IfVF, w_aNil, w_aCons, k_A1, k_A2, w_callM, k_C, w_isi, k_Ty_int_non, k_Ty_int_bl, k_Ty_int_int, k_Ty_int_str, k_Ty_int_tup, k_Ty_int_fl, k_Ty_int_ref, k_TyR_int_l, k_TyR_int_d, k_Ty_tuple_non, k_Ty_tuple_bl, k_Ty_tuple_int, k_Ty_tuple_str, k_Ty_tuple_tup, k_Ty_tuple_fl, k_Ty_tuple_ref, k_TyR_tuple_l, k_TyR_tuple_d, k_Ty_str_non, k_Ty_str_bl, k_Ty_str_int, k_Ty_str_str, k_Ty_str_tup, k_Ty_str_fl, k_Ty_str_ref, k_TyR_str_l, k_TyR_str_d, k_Ty_list_non, k_Ty_list_bl, k_Ty_list_int, k_Ty_list_str, k_Ty_list_tup, k_Ty_list_fl, k_Ty_list_ref, k_TyR_list_l, k_TyR_list_d, k_Ty_dict_non, k_Ty_dict_bl, k_Ty_dict_int, k_Ty_dict_str, k_Ty_dict_tup, k_Ty_dict_fl, k_Ty_dict_ref, k_TyR_dict_l, k_TyR_dict_d, k_Ty_bool_non, k_Ty_bool_bl, k_Ty_bool_int, k_Ty_bool_str, k_Ty_bool_tup, k_Ty_bool_fl, k_Ty_bool_ref, k_TyR_bool_l, k_TyR_bool_d, w_oNone, w_oSome, k_O, w_slM, k_S1, k_S2, k_S3, w_tupM, k_Tup, w_lstM, k_Lst, w_newDic, w_appM, k_Ap1, k_Ap2, k_Ap3, k_Ap4, w_compL, k_CL, w_compCall, w_compMaxD, k_M1, k_M2, k_M3, w_sNil, w_sSeq, k_SqN, k_SqR, k_SqB, k_SqC, w_sExpr, k_Ex, w_sRet, k_Re, w_sRetN, w_sBrk, w_sCt, w_sIf, k_IfT, k_IfF, w_sSet, k_St, w_sSetC, k_StC, w_sAsg, k_As, k_As2, w_gN, w_gSb, k_G1, k_G2, k_G3, w_gTp, w_gsNil, w_gsCons, k_Gs, w_run, k_RtR, k_RtN, w_srcM, k_Sr, s_T, s_F, s_S, s_R, s_RL, w_rng1, k_R1, w_rng2, k_R2, k_R3, w_sFor, k_Fo, w_compM, k_Co, w_stepC, k_XT, k_XF, k_Y, w_tTrue, o_addI, o_addS, o_addT, o_sub, o_mul, o_div, o_mod, o_pow, o_lt, o_le, o_gt, o_ge, o_eqI, o_eqS, o_neI, o_neS, o_eqB, o_isN, o_notN, n_n, n_b, n_i, n_s, n_t, n_f, n_r, o_ixT, o_ixF, o_ixS, k_Ch, o_ixR, k_IxL, k_IxD, o_setR, k_SeL, k_SeJ, k_SeI, k_SeS, o_lenT, o_lenF, o_lenS, o_lenR, k_LeL, k_LeD, o_int, o_abs, o_max2, o_min2, o_tup, k_Seq, o_lst, k_Ls, q_T, q_F, q_R, q_RL, o_slT, o_slS, o_slF, o_slR, k_SlR, o_cTup, k_In, k_Bs, o_cSum, o_cAll, o_cAny, e_opt, e_get0, e_getS, k_LpN, k_LpC, k_LpB, k_LpR, atI_0, atI_1, atI_2, atI_3, atI_4, ixN_0, ixN_1, ixN_2, ixN_3, List.set_cons_zero, List.set_cons_succ, List.getElem?_cons_zero, List.getElem?_cons_succ, List.map_cons, List.map_nil, List.cons_append, List.nil_append, List.length_cons, List.length_nil, List.replicate_succ, List.replicate_zero, decide_true, decide_false, Bool.not_true, Bool.not_false, true_and, and_true, Nat.sub_self, Nat.zero_add, k_onNx, decide_eq_true_eq, W_ok, w_tru, k_TruB, k_TruI, k_TruN, k_TruT, k_TruF, k_TruR, k_TruL, k_TruD, i_nil, i_cons, k_Bl, k_Bn, o_inR, o_ninR, o_inF, o_ninF, k_In0L, k_In0Di, k_In0Ds, k_InL, sn_i, sn_s, sn_t, sn_f, sn_b, sn_n, w_get1, k_Gt1, k_Gt2, k_Gt3i, k_Gt3s, k_Gt4, w_get2, k_Ht1, k_Ht2, k_Ht3, k_Ht4i, k_Ht4s, o_lisR, k_LisL, k_LisD, o_lisT, o_lisF, w_pop, k_Po1, k_Po2, k_Po3, o_srtR, k_SrtL, k_SrtD, k_SrtLs, k_SrtDs, ints_nums, o_str, w_popAt, k_Pa, k_Pa1, k_Pa2, k_Pa3, k_Pa4, o_addR, k_AddL, o_geA, o_geT, o_intB]
  refine And.intro (by decide) ?_
  have e0 : ([1, 3] : List Int).map D.int = [D.int 1, D.int 3] := rfl
  have c0 : (h6 ++ [Cell.lst [D.int 1, D.int 3]])[h6.length]? = some (.lst (([1, 3] : List Int).map D.int)) := by rw [e0]; exact app_end
  have l0 : ([1, 3] : List Int).length ≤ 4 := by decide
  refine choices_at 199 h6.length [1, 3] 4 4 rfl _ (by omega) c0 (Nat.le_refl _) l0 _ fun ry h7 cy ky => ?_
  have cb7 := ky _ _ (app_at cb6)
  have cx7 := ky _ _ (app_at cx)
  simp -implicitDefEqProofs only [w_vr, w_cst, w_bin2, k_B1, k_B2, w_tst, k_T, w_andT, k_AnT, k_AnF, w_orT, k_OrT, k_OrF, w_notT, k_No, w_andV, k_AnVT, k_AnVF, w_orV, k_OrVT, k_OrVF, w_notV, k_NoV, w_ifV, k_IfVT, k_IfVF, w_aNil, w_aCons, k_A1, k_A2, w_callM, k_C, w_isi, k_Ty_int_non, k_Ty_int_bl, k_Ty_int_int, k_Ty_int_str, k_Ty_int_tup, k_Ty_int_fl, k_Ty_int_ref, k_TyR_int_l, k_TyR_int_d, k_Ty_tuple_non, k_Ty_tuple_bl, k_Ty_tuple_int, k_Ty_tuple_str, k_Ty_tuple_tup, k_Ty_tuple_fl, k_Ty_tuple_ref, k_TyR_tuple_l, k_TyR_tuple_d, k_Ty_str_non, k_Ty_str_bl, k_Ty_str_int, k_Ty_str_str, k_Ty_str_tup, k_Ty_str_fl, k_Ty_str_ref, k_TyR_str_l, k_TyR_str_d, k_Ty_list_non, k_Ty_list_bl, k_Ty_list_int, k_Ty_list_str, k_Ty_list_tup, k_Ty_list_fl, k_Ty_list_ref, k_TyR_list_l, k_TyR_list_d, k_Ty_dict_non, k_Ty_dict_bl, k_Ty_dict_int, k_Ty_dict_str, k_Ty_dict_tup, k_Ty_dict_fl, k_Ty_dict_ref, k_TyR_dict_l, k_TyR_dict_d, k_Ty_bool_non, k_Ty_bool_bl, k_Ty_bool_int, k_Ty_bool_str, k_Ty_bool_tup, k_Ty_bool_fl, k_Ty_bool_ref, k_TyR_bool_l, k_TyR_bool_d, w_oNone, w_oSome, k_O, w_slM, k_S1, k_S2, k_S3, w_tupM, k_Tup, w_lstM, k_Lst, w_newDic, w_appM, k_Ap1, k_Ap2, k_Ap3, k_Ap4, w_compL, k_CL, w_compCall, w_compMaxD, k_M1, k_M2, k_M3, w_sNil, w_sSeq, k_SqN, k_SqR, k_SqB, k_SqC, w_sExpr, k_Ex, w_sRet, k_Re, w_sRetN, w_sBrk, w_sCt, w_sIf, k_IfT, k_IfF, w_sSet, k_St, w_sSetC, k_StC, w_sAsg, k_As, k_As2, w_gN, w_gSb, k_G1, k_G2, k_G3, w_gTp, w_gsNil, w_gsCons, k_Gs, w_run, k_RtR, k_RtN, w_srcM, k_Sr, s_T, s_F, s_S, s_R, s_RL, w_rng1, k_R1, w_rng2, k_R2, k_R3, w_sFor, k_Fo, w_compM, k_Co, w_stepC, k_XT, k_XF, k_Y, w_tTrue, o_addI, o_addS, o_addT, o_sub, o_mul, o_div, o_mod, o_pow, o_lt, o_le, o_gt, o_ge, o_eqI, o_eqS, o_neI, o_neS, o_eqB, o_isN, o_notN, n_n, n_b, n_i, n_s, n_t, n_f, n_r, o_ixT, o_ixF, o_ixS, k_Ch, o_ixR, k_IxL, k_IxD, o_setR, k_SeL, k_SeJ, k_SeI, k_SeS, o_lenT, o_lenF, o_lenS, o_lenR, k_LeL, k_LeD, o_int, o_abs, o_max2, o_min2, o_tup, k_Seq, o_lst, k_Ls, q_T, q_F, q_R, q_RL, o_slT, o_slS, o_slF, o_slR, k_SlR, o_cTup, k_In, k_Bs, o_cSum, o_cAll, o_cAny, e_opt, e_get0, e_getS, k_LpN, k_LpC, k_LpB, k_LpR, atI_0, atI_1, atI_2, atI_3, atI_4, ixN_0, ixN_1, ixN_2, ixN_3, List.set_cons_zero, List.set_cons_succ, List.getElem?_cons_zero, List.getElem?_cons_succ, List.map_cons, List.map_nil, List.cons_append, List.nil_append, List.length_cons, List.length_nil, List.replicate_succ, List.replicate_zero, decide_true, decide_false, Bool.not_true, Bool.not_false, true_and, and_true, Nat.sub_self, Nat.zero_add, k_onNx, decide_eq_true_eq, W_ok, w_tru, k_TruB, k_TruI, k_TruN, k_TruT, k_TruF, k_TruR, k_TruL, k_TruD, i_nil, i_cons, k_Bl, k_Bn, o_inR, o_ninR, o_inF, o_ninF, k_In0L, k_In0Di, k_In0Ds, k_InL, sn_i, sn_s, sn_t, sn_f, sn_b, sn_n, w_get1, k_Gt1, k_Gt2, k_Gt3i, k_Gt3s, k_Gt4, w_get2, k_Ht1, k_Ht2, k_Ht3, k_Ht4i, k_Ht4s, o_lisR, k_LisL, k_LisD, o_lisT, o_lisF, w_pop, k_Po1, k_Po2, k_Po3, o_srtR, k_SrtL, k_SrtD, k_SrtLs, k_SrtDs, ints_nums, o_str, w_popAt, k_Pa, k_Pa1, k_Pa2, k_Pa3, k_Pa4, o_addR, k_AddL, o_geA, o_geT, o_intB, cy]
  have lenR : ∀ R, R ∈ chs ([1, 3] : List Int) 4 → R.length = 4 := fun R h => (chs_mem.mp h).1
  have lenX : ∀ x, x ∈ chs ([0, 1, 2, 3] : List Int) bs.length → x.length = bs.length := fun x h => (chs_mem.mp h).1
  have hfl := found_low bl4 bk
  unfold found at hfl
  generalize chs ([1, 3] : List Int) 4 = Rs at cy lenR hfl ⊢
  generalize chs ([0, 1, 2, 3] : List Int) bs.length = Xs at cx7 lenX hfl
  clear cx cb cb6 c0 l0
  generalize hc : (fun (R x : List Int) => lexGeI x (R.take bs.length) && resp x bs R) = cond
  have hcd : ∀ R x, cond R x = (lexGeI x (R.take bs.length) && resp x bs R) := fun R x => by rw [← hc]
  have hfl : (Rs.any fun R => Xs.any fun x => cond R x) = !low 0 bs := by
    rw [← hfl]
    simp only [hcd]
  refine loopS_i (fun k σ hh => hh = h7 ∧ ∃ (x7 x8 : Option D), σ = [some (.fl (ns.map D.int)), some (.ref 1), some (.ref b), x3, x4, some (.bl (!((Rs.take k).any fun R => Xs.any fun x => cond R x))), some (.ref rx), x7, x8, none]) ⟨rfl, none, none, rfl⟩ (fun _ _ _ q => by rw [q.1]; exact cy) (fun k σ hh y ey q => ?_) fun σ hh q => ?_
  · obtain ⟨rfl, x7, x8, rfl⟩ := q
    obtain ⟨R, eR, rfl, mR⟩ := map_at ey
    simp -implicitDefEqProofs only [w_vr, w_cst, w_bin2, k_B1, k_B2, w_tst, k_T, w_andT, k_AnT, k_AnF, w_orT, k_OrT, k_OrF, w_notT, k_No, w_andV, k_AnVT, k_AnVF, w_orV, k_OrVT, k_OrVF, w_notV, k_NoV, w_ifV, k_IfVT, k_IfVF, w_aNil, w_aCons, k_A1, k_A2, w_callM, k_C, w_isi, k_Ty_int_non, k_Ty_int_bl, k_Ty_int_int, k_Ty_int_str, k_Ty_int_tup, k_Ty_int_fl, k_Ty_int_ref, k_TyR_int_l, k_TyR_int_d, k_Ty_tuple_non, k_Ty_tuple_bl, k_Ty_tuple_int, k_Ty_tuple_str, k_Ty_tuple_tup, k_Ty_tuple_fl, k_Ty_tuple_ref, k_TyR_tuple_l, k_TyR_tuple_d, k_Ty_str_non, k_Ty_str_bl, k_Ty_str_int, k_Ty_str_str, k_Ty_str_tup, k_Ty_str_fl, k_Ty_str_ref, k_TyR_str_l, k_TyR_str_d, k_Ty_list_non, k_Ty_list_bl, k_Ty_list_int, k_Ty_list_str, k_Ty_list_tup, k_Ty_list_fl, k_Ty_list_ref, k_TyR_list_l, k_TyR_list_d, k_Ty_dict_non, k_Ty_dict_bl, k_Ty_dict_int, k_Ty_dict_str, k_Ty_dict_tup, k_Ty_dict_fl, k_Ty_dict_ref, k_TyR_dict_l, k_TyR_dict_d, k_Ty_bool_non, k_Ty_bool_bl, k_Ty_bool_int, k_Ty_bool_str, k_Ty_bool_tup, k_Ty_bool_fl, k_Ty_bool_ref, k_TyR_bool_l, k_TyR_bool_d, w_oNone, w_oSome, k_O, w_slM, k_S1, k_S2, k_S3, w_tupM, k_Tup, w_lstM, k_Lst, w_newDic, w_appM, k_Ap1, k_Ap2, k_Ap3, k_Ap4, w_compL, k_CL, w_compCall, w_compMaxD, k_M1, k_M2, k_M3, w_sNil, w_sSeq, k_SqN, k_SqR, k_SqB, k_SqC, w_sExpr, k_Ex, w_sRet, k_Re, w_sRetN, w_sBrk, w_sCt, w_sIf, k_IfT, k_IfF, w_sSet, k_St, w_sSetC, k_StC, w_sAsg, k_As, k_As2, w_gN, w_gSb, k_G1, k_G2, k_G3, w_gTp, w_gsNil, w_gsCons, k_Gs, w_run, k_RtR, k_RtN, w_srcM, k_Sr, s_T, s_F, s_S, s_R, s_RL, w_rng1, k_R1, w_rng2, k_R2, k_R3, w_sFor, k_Fo, w_compM, k_Co, w_stepC, k_XT, k_XF, k_Y, w_tTrue, o_addI, o_addS, o_addT, o_sub, o_mul, o_div, o_mod, o_pow, o_lt, o_le, o_gt, o_ge, o_eqI, o_eqS, o_neI, o_neS, o_eqB, o_isN, o_notN, n_n, n_b, n_i, n_s, n_t, n_f, n_r, o_ixT, o_ixF, o_ixS, k_Ch, o_ixR, k_IxL, k_IxD, o_setR, k_SeL, k_SeJ, k_SeI, k_SeS, o_lenT, o_lenF, o_lenS, o_lenR, k_LeL, k_LeD, o_int, o_abs, o_max2, o_min2, o_tup, k_Seq, o_lst, k_Ls, q_T, q_F, q_R, q_RL, o_slT, o_slS, o_slF, o_slR, k_SlR, o_cTup, k_In, k_Bs, o_cSum, o_cAll, o_cAny, e_opt, e_get0, e_getS, k_LpN, k_LpC, k_LpB, k_LpR, atI_0, atI_1, atI_2, atI_3, atI_4, ixN_0, ixN_1, ixN_2, ixN_3, List.set_cons_zero, List.set_cons_succ, List.getElem?_cons_zero, List.getElem?_cons_succ, List.map_cons, List.map_nil, List.cons_append, List.nil_append, List.length_cons, List.length_nil, List.replicate_succ, List.replicate_zero, decide_true, decide_false, Bool.not_true, Bool.not_false, true_and, and_true, Nat.sub_self, Nat.zero_add, k_onNx, decide_eq_true_eq, W_ok, w_tru, k_TruB, k_TruI, k_TruN, k_TruT, k_TruF, k_TruR, k_TruL, k_TruD, i_nil, i_cons, k_Bl, k_Bn, o_inR, o_ninR, o_inF, o_ninF, k_In0L, k_In0Di, k_In0Ds, k_InL, sn_i, sn_s, sn_t, sn_f, sn_b, sn_n, w_get1, k_Gt1, k_Gt2, k_Gt3i, k_Gt3s, k_Gt4, w_get2, k_Ht1, k_Ht2, k_Ht3, k_Ht4i, k_Ht4s, o_lisR, k_LisL, k_LisD, o_lisT, o_lisF, w_pop, k_Po1, k_Po2, k_Po3, o_srtR, k_SrtL, k_SrtD, k_SrtLs, k_SrtDs, ints_nums, o_str, w_popAt, k_Pa, k_Pa1, k_Pa2, k_Pa3, k_Pa4, o_addR, k_AddL, o_geA, o_geT, o_intB, cx7]
    have ep := any_take (f := fun R => Xs.any fun x => cond R x) eR
    generalize ((Rs.take k).any fun R => Xs.any fun x => cond R x) = pre at ep ⊢
    refine loopS_i (fun j σ h2 => h2 = hh ∧ ∃ (x8 : Option D), σ = [some (.fl (ns.map D.int)), some (.ref 1), some (.ref b), x3, x4, some (.bl (!(pre || (Xs.take j).any fun x => cond R x))), some (.ref rx), some (rowD R), x8, none]) ⟨rfl, x8, by rw [List.take_zero, List.any_nil, Bool.or_false]⟩ (fun _ _ _ q => by rw [q.1]; exact cx7) (fun j σ h2 y ey2 q => ?_) fun σ h2 q => ?_
    · obtain ⟨rfl, x8, rfl⟩ := q
      obtain ⟨x, ex, rfl, mx⟩ := map_at ey2
      have q1 := fun h hh => W_eq (resp_ok 198 b x R bs h bk bl4 (lenX x mx) (lenR R mR) hh)
      have hx := hcd R x
      have ex2 := any_take (f := fun x => cond R x) ex
      simp -implicitDefEqProofs only [w_vr, w_cst, w_bin2, k_B1, k_B2, w_tst, k_T, w_andT, k_AnT, k_AnF, w_orT, k_OrT, k_OrF, w_notT, k_No, w_andV, k_AnVT, k_AnVF, w_orV, k_OrVT, k_OrVF, w_notV, k_NoV, w_ifV, k_IfVT, k_IfVF, w_aNil, w_aCons, k_A1, k_A2, w_callM, k_C, w_isi, k_Ty_int_non, k_Ty_int_bl, k_Ty_int_int, k_Ty_int_str, k_Ty_int_tup, k_Ty_int_fl, k_Ty_int_ref, k_TyR_int_l, k_TyR_int_d, k_Ty_tuple_non, k_Ty_tuple_bl, k_Ty_tuple_int, k_Ty_tuple_str, k_Ty_tuple_tup, k_Ty_tuple_fl, k_Ty_tuple_ref, k_TyR_tuple_l, k_TyR_tuple_d, k_Ty_str_non, k_Ty_str_bl, k_Ty_str_int, k_Ty_str_str, k_Ty_str_tup, k_Ty_str_fl, k_Ty_str_ref, k_TyR_str_l, k_TyR_str_d, k_Ty_list_non, k_Ty_list_bl, k_Ty_list_int, k_Ty_list_str, k_Ty_list_tup, k_Ty_list_fl, k_Ty_list_ref, k_TyR_list_l, k_TyR_list_d, k_Ty_dict_non, k_Ty_dict_bl, k_Ty_dict_int, k_Ty_dict_str, k_Ty_dict_tup, k_Ty_dict_fl, k_Ty_dict_ref, k_TyR_dict_l, k_TyR_dict_d, k_Ty_bool_non, k_Ty_bool_bl, k_Ty_bool_int, k_Ty_bool_str, k_Ty_bool_tup, k_Ty_bool_fl, k_Ty_bool_ref, k_TyR_bool_l, k_TyR_bool_d, w_oNone, w_oSome, k_O, w_slM, k_S1, k_S2, k_S3, w_tupM, k_Tup, w_lstM, k_Lst, w_newDic, w_appM, k_Ap1, k_Ap2, k_Ap3, k_Ap4, w_compL, k_CL, w_compCall, w_compMaxD, k_M1, k_M2, k_M3, w_sNil, w_sSeq, k_SqN, k_SqR, k_SqB, k_SqC, w_sExpr, k_Ex, w_sRet, k_Re, w_sRetN, w_sBrk, w_sCt, w_sIf, k_IfT, k_IfF, w_sSet, k_St, w_sSetC, k_StC, w_sAsg, k_As, k_As2, w_gN, w_gSb, k_G1, k_G2, k_G3, w_gTp, w_gsNil, w_gsCons, k_Gs, w_run, k_RtR, k_RtN, w_srcM, k_Sr, s_T, s_F, s_S, s_R, s_RL, w_rng1, k_R1, w_rng2, k_R2, k_R3, w_sFor, k_Fo, w_compM, k_Co, w_stepC, k_XT, k_XF, k_Y, w_tTrue, o_addI, o_addS, o_addT, o_sub, o_mul, o_div, o_mod, o_pow, o_lt, o_le, o_gt, o_ge, o_eqI, o_eqS, o_neI, o_neS, o_eqB, o_isN, o_notN, n_n, n_b, n_i, n_s, n_t, n_f, n_r, o_ixT, o_ixF, o_ixS, k_Ch, o_ixR, k_IxL, k_IxD, o_setR, k_SeL, k_SeJ, k_SeI, k_SeS, o_lenT, o_lenF, o_lenS, o_lenR, k_LeL, k_LeD, o_int, o_abs, o_max2, o_min2, o_tup, k_Seq, o_lst, k_Ls, q_T, q_F, q_R, q_RL, o_slT, o_slS, o_slF, o_slR, k_SlR, o_cTup, k_In, k_Bs, o_cSum, o_cAll, o_cAny, e_opt, e_get0, e_getS, k_LpN, k_LpC, k_LpB, k_LpR, atI_0, atI_1, atI_2, atI_3, atI_4, ixN_0, ixN_1, ixN_2, ixN_3, List.set_cons_zero, List.set_cons_succ, List.getElem?_cons_zero, List.getElem?_cons_succ, List.map_cons, List.map_nil, List.cons_append, List.nil_append, List.length_cons, List.length_nil, List.replicate_succ, List.replicate_zero, decide_true, decide_false, Bool.not_true, Bool.not_false, true_and, and_true, Nat.sub_self, Nat.zero_add, k_onNx, decide_eq_true_eq, W_ok, w_tru, k_TruB, k_TruI, k_TruN, k_TruT, k_TruF, k_TruR, k_TruL, k_TruD, i_nil, i_cons, k_Bl, k_Bn, o_inR, o_ninR, o_inF, o_ninF, k_In0L, k_In0Di, k_In0Ds, k_InL, sn_i, sn_s, sn_t, sn_f, sn_b, sn_n, w_get1, k_Gt1, k_Gt2, k_Gt3i, k_Gt3s, k_Gt4, w_get2, k_Ht1, k_Ht2, k_Ht3, k_Ht4i, k_Ht4s, o_lisR, k_LisL, k_LisD, o_lisT, o_lisF, w_pop, k_Po1, k_Po2, k_Po3, o_srtR, k_SrtL, k_SrtD, k_SrtLs, k_SrtDs, ints_nums, o_str, w_popAt, k_Pa, k_Pa1, k_Pa2, k_Pa3, k_Pa4, o_addR, k_AddL, o_geA, o_geT, o_intB, rowD, cb7, List.length_map, cut_take, o_geT]
      refine an_i (fun c => ?_) (fun c => ?_)
      · rw [c, Bool.true_and] at hx
        simp -implicitDefEqProofs only [w_vr, w_cst, w_bin2, k_B1, k_B2, w_tst, k_T, w_andT, k_AnT, k_AnF, w_orT, k_OrT, k_OrF, w_notT, k_No, w_andV, k_AnVT, k_AnVF, w_orV, k_OrVT, k_OrVF, w_notV, k_NoV, w_ifV, k_IfVT, k_IfVF, w_aNil, w_aCons, k_A1, k_A2, w_callM, k_C, w_isi, k_Ty_int_non, k_Ty_int_bl, k_Ty_int_int, k_Ty_int_str, k_Ty_int_tup, k_Ty_int_fl, k_Ty_int_ref, k_TyR_int_l, k_TyR_int_d, k_Ty_tuple_non, k_Ty_tuple_bl, k_Ty_tuple_int, k_Ty_tuple_str, k_Ty_tuple_tup, k_Ty_tuple_fl, k_Ty_tuple_ref, k_TyR_tuple_l, k_TyR_tuple_d, k_Ty_str_non, k_Ty_str_bl, k_Ty_str_int, k_Ty_str_str, k_Ty_str_tup, k_Ty_str_fl, k_Ty_str_ref, k_TyR_str_l, k_TyR_str_d, k_Ty_list_non, k_Ty_list_bl, k_Ty_list_int, k_Ty_list_str, k_Ty_list_tup, k_Ty_list_fl, k_Ty_list_ref, k_TyR_list_l, k_TyR_list_d, k_Ty_dict_non, k_Ty_dict_bl, k_Ty_dict_int, k_Ty_dict_str, k_Ty_dict_tup, k_Ty_dict_fl, k_Ty_dict_ref, k_TyR_dict_l, k_TyR_dict_d, k_Ty_bool_non, k_Ty_bool_bl, k_Ty_bool_int, k_Ty_bool_str, k_Ty_bool_tup, k_Ty_bool_fl, k_Ty_bool_ref, k_TyR_bool_l, k_TyR_bool_d, w_oNone, w_oSome, k_O, w_slM, k_S1, k_S2, k_S3, w_tupM, k_Tup, w_lstM, k_Lst, w_newDic, w_appM, k_Ap1, k_Ap2, k_Ap3, k_Ap4, w_compL, k_CL, w_compCall, w_compMaxD, k_M1, k_M2, k_M3, w_sNil, w_sSeq, k_SqN, k_SqR, k_SqB, k_SqC, w_sExpr, k_Ex, w_sRet, k_Re, w_sRetN, w_sBrk, w_sCt, w_sIf, k_IfT, k_IfF, w_sSet, k_St, w_sSetC, k_StC, w_sAsg, k_As, k_As2, w_gN, w_gSb, k_G1, k_G2, k_G3, w_gTp, w_gsNil, w_gsCons, k_Gs, w_run, k_RtR, k_RtN, w_srcM, k_Sr, s_T, s_F, s_S, s_R, s_RL, w_rng1, k_R1, w_rng2, k_R2, k_R3, w_sFor, k_Fo, w_compM, k_Co, w_stepC, k_XT, k_XF, k_Y, w_tTrue, o_addI, o_addS, o_addT, o_sub, o_mul, o_div, o_mod, o_pow, o_lt, o_le, o_gt, o_ge, o_eqI, o_eqS, o_neI, o_neS, o_eqB, o_isN, o_notN, n_n, n_b, n_i, n_s, n_t, n_f, n_r, o_ixT, o_ixF, o_ixS, k_Ch, o_ixR, k_IxL, k_IxD, o_setR, k_SeL, k_SeJ, k_SeI, k_SeS, o_lenT, o_lenF, o_lenS, o_lenR, k_LeL, k_LeD, o_int, o_abs, o_max2, o_min2, o_tup, k_Seq, o_lst, k_Ls, q_T, q_F, q_R, q_RL, o_slT, o_slS, o_slF, o_slR, k_SlR, o_cTup, k_In, k_Bs, o_cSum, o_cAll, o_cAny, e_opt, e_get0, e_getS, k_LpN, k_LpC, k_LpB, k_LpR, atI_0, atI_1, atI_2, atI_3, atI_4, ixN_0, ixN_1, ixN_2, ixN_3, List.set_cons_zero, List.set_cons_succ, List.getElem?_cons_zero, List.getElem?_cons_succ, List.map_cons, List.map_nil, List.cons_append, List.nil_append, List.length_cons, List.length_nil, List.replicate_succ, List.replicate_zero, decide_true, decide_false, Bool.not_true, Bool.not_false, true_and, and_true, Nat.sub_self, Nat.zero_add, k_onNx, decide_eq_true_eq, W_ok, w_tru, k_TruB, k_TruI, k_TruN, k_TruT, k_TruF, k_TruR, k_TruL, k_TruD, i_nil, i_cons, k_Bl, k_Bn, o_inR, o_ninR, o_inF, o_ninF, k_In0L, k_In0Di, k_In0Ds, k_InL, sn_i, sn_s, sn_t, sn_f, sn_b, sn_n, w_get1, k_Gt1, k_Gt2, k_Gt3i, k_Gt3s, k_Gt4, w_get2, k_Ht1, k_Ht2, k_Ht3, k_Ht4i, k_Ht4s, o_lisR, k_LisL, k_LisD, o_lisT, o_lisF, w_pop, k_Po1, k_Po2, k_Po3, o_srtR, k_SrtL, k_SrtD, k_SrtLs, k_SrtDs, ints_nums, o_str, w_popAt, k_Pa, k_Pa1, k_Pa2, k_Pa3, k_Pa4, o_addR, k_AddL, o_geA, o_geT, o_intB, q1 _ cb7]
        refine if_i (fun c2 => ?_) (fun c2 => ?_)
        · rw [c2] at hx
          simp -implicitDefEqProofs only [w_vr, w_cst, w_bin2, k_B1, k_B2, w_tst, k_T, w_andT, k_AnT, k_AnF, w_orT, k_OrT, k_OrF, w_notT, k_No, w_andV, k_AnVT, k_AnVF, w_orV, k_OrVT, k_OrVF, w_notV, k_NoV, w_ifV, k_IfVT, k_IfVF, w_aNil, w_aCons, k_A1, k_A2, w_callM, k_C, w_isi, k_Ty_int_non, k_Ty_int_bl, k_Ty_int_int, k_Ty_int_str, k_Ty_int_tup, k_Ty_int_fl, k_Ty_int_ref, k_TyR_int_l, k_TyR_int_d, k_Ty_tuple_non, k_Ty_tuple_bl, k_Ty_tuple_int, k_Ty_tuple_str, k_Ty_tuple_tup, k_Ty_tuple_fl, k_Ty_tuple_ref, k_TyR_tuple_l, k_TyR_tuple_d, k_Ty_str_non, k_Ty_str_bl, k_Ty_str_int, k_Ty_str_str, k_Ty_str_tup, k_Ty_str_fl, k_Ty_str_ref, k_TyR_str_l, k_TyR_str_d, k_Ty_list_non, k_Ty_list_bl, k_Ty_list_int, k_Ty_list_str, k_Ty_list_tup, k_Ty_list_fl, k_Ty_list_ref, k_TyR_list_l, k_TyR_list_d, k_Ty_dict_non, k_Ty_dict_bl, k_Ty_dict_int, k_Ty_dict_str, k_Ty_dict_tup, k_Ty_dict_fl, k_Ty_dict_ref, k_TyR_dict_l, k_TyR_dict_d, k_Ty_bool_non, k_Ty_bool_bl, k_Ty_bool_int, k_Ty_bool_str, k_Ty_bool_tup, k_Ty_bool_fl, k_Ty_bool_ref, k_TyR_bool_l, k_TyR_bool_d, w_oNone, w_oSome, k_O, w_slM, k_S1, k_S2, k_S3, w_tupM, k_Tup, w_lstM, k_Lst, w_newDic, w_appM, k_Ap1, k_Ap2, k_Ap3, k_Ap4, w_compL, k_CL, w_compCall, w_compMaxD, k_M1, k_M2, k_M3, w_sNil, w_sSeq, k_SqN, k_SqR, k_SqB, k_SqC, w_sExpr, k_Ex, w_sRet, k_Re, w_sRetN, w_sBrk, w_sCt, w_sIf, k_IfT, k_IfF, w_sSet, k_St, w_sSetC, k_StC, w_sAsg, k_As, k_As2, w_gN, w_gSb, k_G1, k_G2, k_G3, w_gTp, w_gsNil, w_gsCons, k_Gs, w_run, k_RtR, k_RtN, w_srcM, k_Sr, s_T, s_F, s_S, s_R, s_RL, w_rng1, k_R1, w_rng2, k_R2, k_R3, w_sFor, k_Fo, w_compM, k_Co, w_stepC, k_XT, k_XF, k_Y, w_tTrue, o_addI, o_addS, o_addT, o_sub, o_mul, o_div, o_mod, o_pow, o_lt, o_le, o_gt, o_ge, o_eqI, o_eqS, o_neI, o_neS, o_eqB, o_isN, o_notN, n_n, n_b, n_i, n_s, n_t, n_f, n_r, o_ixT, o_ixF, o_ixS, k_Ch, o_ixR, k_IxL, k_IxD, o_setR, k_SeL, k_SeJ, k_SeI, k_SeS, o_lenT, o_lenF, o_lenS, o_lenR, k_LeL, k_LeD, o_int, o_abs, o_max2, o_min2, o_tup, k_Seq, o_lst, k_Ls, q_T, q_F, q_R, q_RL, o_slT, o_slS, o_slF, o_slR, k_SlR, o_cTup, k_In, k_Bs, o_cSum, o_cAll, o_cAny, e_opt, e_get0, e_getS, k_LpN, k_LpC, k_LpB, k_LpR, atI_0, atI_1, atI_2, atI_3, atI_4, ixN_0, ixN_1, ixN_2, ixN_3, List.set_cons_zero, List.set_cons_succ, List.getElem?_cons_zero, List.getElem?_cons_succ, List.map_cons, List.map_nil, List.cons_append, List.nil_append, List.length_cons, List.length_nil, List.replicate_succ, List.replicate_zero, decide_true, decide_false, Bool.not_true, Bool.not_false, true_and, and_true, Nat.sub_self, Nat.zero_add, k_onNx, decide_eq_true_eq, W_ok, w_tru, k_TruB, k_TruI, k_TruN, k_TruT, k_TruF, k_TruR, k_TruL, k_TruD, i_nil, i_cons, k_Bl, k_Bn, o_inR, o_ninR, o_inF, o_ninF, k_In0L, k_In0Di, k_In0Ds, k_InL, sn_i, sn_s, sn_t, sn_f, sn_b, sn_n, w_get1, k_Gt1, k_Gt2, k_Gt3i, k_Gt3s, k_Gt4, w_get2, k_Ht1, k_Ht2, k_Ht3, k_Ht4i, k_Ht4s, o_lisR, k_LisL, k_LisD, o_lisT, o_lisF, w_pop, k_Po1, k_Po2, k_Po3, o_srtR, k_SrtL, k_SrtD, k_SrtLs, k_SrtDs, ints_nums, o_str, w_popAt, k_Pa, k_Pa1, k_Pa2, k_Pa3, k_Pa4, o_addR, k_AddL, o_geA, o_geT, o_intB]
          exact ⟨some (.tup (x.map D.int)), by rw [ex2, hx]; simp [rowD]⟩
        · rw [c2] at hx
          simp -implicitDefEqProofs only [w_vr, w_cst, w_bin2, k_B1, k_B2, w_tst, k_T, w_andT, k_AnT, k_AnF, w_orT, k_OrT, k_OrF, w_notT, k_No, w_andV, k_AnVT, k_AnVF, w_orV, k_OrVT, k_OrVF, w_notV, k_NoV, w_ifV, k_IfVT, k_IfVF, w_aNil, w_aCons, k_A1, k_A2, w_callM, k_C, w_isi, k_Ty_int_non, k_Ty_int_bl, k_Ty_int_int, k_Ty_int_str, k_Ty_int_tup, k_Ty_int_fl, k_Ty_int_ref, k_TyR_int_l, k_TyR_int_d, k_Ty_tuple_non, k_Ty_tuple_bl, k_Ty_tuple_int, k_Ty_tuple_str, k_Ty_tuple_tup, k_Ty_tuple_fl, k_Ty_tuple_ref, k_TyR_tuple_l, k_TyR_tuple_d, k_Ty_str_non, k_Ty_str_bl, k_Ty_str_int, k_Ty_str_str, k_Ty_str_tup, k_Ty_str_fl, k_Ty_str_ref, k_TyR_str_l, k_TyR_str_d, k_Ty_list_non, k_Ty_list_bl, k_Ty_list_int, k_Ty_list_str, k_Ty_list_tup, k_Ty_list_fl, k_Ty_list_ref, k_TyR_list_l, k_TyR_list_d, k_Ty_dict_non, k_Ty_dict_bl, k_Ty_dict_int, k_Ty_dict_str, k_Ty_dict_tup, k_Ty_dict_fl, k_Ty_dict_ref, k_TyR_dict_l, k_TyR_dict_d, k_Ty_bool_non, k_Ty_bool_bl, k_Ty_bool_int, k_Ty_bool_str, k_Ty_bool_tup, k_Ty_bool_fl, k_Ty_bool_ref, k_TyR_bool_l, k_TyR_bool_d, w_oNone, w_oSome, k_O, w_slM, k_S1, k_S2, k_S3, w_tupM, k_Tup, w_lstM, k_Lst, w_newDic, w_appM, k_Ap1, k_Ap2, k_Ap3, k_Ap4, w_compL, k_CL, w_compCall, w_compMaxD, k_M1, k_M2, k_M3, w_sNil, w_sSeq, k_SqN, k_SqR, k_SqB, k_SqC, w_sExpr, k_Ex, w_sRet, k_Re, w_sRetN, w_sBrk, w_sCt, w_sIf, k_IfT, k_IfF, w_sSet, k_St, w_sSetC, k_StC, w_sAsg, k_As, k_As2, w_gN, w_gSb, k_G1, k_G2, k_G3, w_gTp, w_gsNil, w_gsCons, k_Gs, w_run, k_RtR, k_RtN, w_srcM, k_Sr, s_T, s_F, s_S, s_R, s_RL, w_rng1, k_R1, w_rng2, k_R2, k_R3, w_sFor, k_Fo, w_compM, k_Co, w_stepC, k_XT, k_XF, k_Y, w_tTrue, o_addI, o_addS, o_addT, o_sub, o_mul, o_div, o_mod, o_pow, o_lt, o_le, o_gt, o_ge, o_eqI, o_eqS, o_neI, o_neS, o_eqB, o_isN, o_notN, n_n, n_b, n_i, n_s, n_t, n_f, n_r, o_ixT, o_ixF, o_ixS, k_Ch, o_ixR, k_IxL, k_IxD, o_setR, k_SeL, k_SeJ, k_SeI, k_SeS, o_lenT, o_lenF, o_lenS, o_lenR, k_LeL, k_LeD, o_int, o_abs, o_max2, o_min2, o_tup, k_Seq, o_lst, k_Ls, q_T, q_F, q_R, q_RL, o_slT, o_slS, o_slF, o_slR, k_SlR, o_cTup, k_In, k_Bs, o_cSum, o_cAll, o_cAny, e_opt, e_get0, e_getS, k_LpN, k_LpC, k_LpB, k_LpR, atI_0, atI_1, atI_2, atI_3, atI_4, ixN_0, ixN_1, ixN_2, ixN_3, List.set_cons_zero, List.set_cons_succ, List.getElem?_cons_zero, List.getElem?_cons_succ, List.map_cons, List.map_nil, List.cons_append, List.nil_append, List.length_cons, List.length_nil, List.replicate_succ, List.replicate_zero, decide_true, decide_false, Bool.not_true, Bool.not_false, true_and, and_true, Nat.sub_self, Nat.zero_add, k_onNx, decide_eq_true_eq, W_ok, w_tru, k_TruB, k_TruI, k_TruN, k_TruT, k_TruF, k_TruR, k_TruL, k_TruD, i_nil, i_cons, k_Bl, k_Bn, o_inR, o_ninR, o_inF, o_ninF, k_In0L, k_In0Di, k_In0Ds, k_InL, sn_i, sn_s, sn_t, sn_f, sn_b, sn_n, w_get1, k_Gt1, k_Gt2, k_Gt3i, k_Gt3s, k_Gt4, w_get2, k_Ht1, k_Ht2, k_Ht3, k_Ht4i, k_Ht4s, o_lisR, k_LisL, k_LisD, o_lisT, o_lisF, w_pop, k_Po1, k_Po2, k_Po3, o_srtR, k_SrtL, k_SrtD, k_SrtLs, k_SrtDs, ints_nums, o_str, w_popAt, k_Pa, k_Pa1, k_Pa2, k_Pa3, k_Pa4, o_addR, k_AddL, o_geA, o_geT, o_intB]
          exact ⟨some (.tup (x.map D.int)), by rw [ex2, hx]; simp [rowD]⟩
      · rw [c, Bool.false_and] at hx
        simp -implicitDefEqProofs only [w_vr, w_cst, w_bin2, k_B1, k_B2, w_tst, k_T, w_andT, k_AnT, k_AnF, w_orT, k_OrT, k_OrF, w_notT, k_No, w_andV, k_AnVT, k_AnVF, w_orV, k_OrVT, k_OrVF, w_notV, k_NoV, w_ifV, k_IfVT, k_IfVF, w_aNil, w_aCons, k_A1, k_A2, w_callM, k_C, w_isi, k_Ty_int_non, k_Ty_int_bl, k_Ty_int_int, k_Ty_int_str, k_Ty_int_tup, k_Ty_int_fl, k_Ty_int_ref, k_TyR_int_l, k_TyR_int_d, k_Ty_tuple_non, k_Ty_tuple_bl, k_Ty_tuple_int, k_Ty_tuple_str, k_Ty_tuple_tup, k_Ty_tuple_fl, k_Ty_tuple_ref, k_TyR_tuple_l, k_TyR_tuple_d, k_Ty_str_non, k_Ty_str_bl, k_Ty_str_int, k_Ty_str_str, k_Ty_str_tup, k_Ty_str_fl, k_Ty_str_ref, k_TyR_str_l, k_TyR_str_d, k_Ty_list_non, k_Ty_list_bl, k_Ty_list_int, k_Ty_list_str, k_Ty_list_tup, k_Ty_list_fl, k_Ty_list_ref, k_TyR_list_l, k_TyR_list_d, k_Ty_dict_non, k_Ty_dict_bl, k_Ty_dict_int, k_Ty_dict_str, k_Ty_dict_tup, k_Ty_dict_fl, k_Ty_dict_ref, k_TyR_dict_l, k_TyR_dict_d, k_Ty_bool_non, k_Ty_bool_bl, k_Ty_bool_int, k_Ty_bool_str, k_Ty_bool_tup, k_Ty_bool_fl, k_Ty_bool_ref, k_TyR_bool_l, k_TyR_bool_d, w_oNone, w_oSome, k_O, w_slM, k_S1, k_S2, k_S3, w_tupM, k_Tup, w_lstM, k_Lst, w_newDic, w_appM, k_Ap1, k_Ap2, k_Ap3, k_Ap4, w_compL, k_CL, w_compCall, w_compMaxD, k_M1, k_M2, k_M3, w_sNil, w_sSeq, k_SqN, k_SqR, k_SqB, k_SqC, w_sExpr, k_Ex, w_sRet, k_Re, w_sRetN, w_sBrk, w_sCt, w_sIf, k_IfT, k_IfF, w_sSet, k_St, w_sSetC, k_StC, w_sAsg, k_As, k_As2, w_gN, w_gSb, k_G1, k_G2, k_G3, w_gTp, w_gsNil, w_gsCons, k_Gs, w_run, k_RtR, k_RtN, w_srcM, k_Sr, s_T, s_F, s_S, s_R, s_RL, w_rng1, k_R1, w_rng2, k_R2, k_R3, w_sFor, k_Fo, w_compM, k_Co, w_stepC, k_XT, k_XF, k_Y, w_tTrue, o_addI, o_addS, o_addT, o_sub, o_mul, o_div, o_mod, o_pow, o_lt, o_le, o_gt, o_ge, o_eqI, o_eqS, o_neI, o_neS, o_eqB, o_isN, o_notN, n_n, n_b, n_i, n_s, n_t, n_f, n_r, o_ixT, o_ixF, o_ixS, k_Ch, o_ixR, k_IxL, k_IxD, o_setR, k_SeL, k_SeJ, k_SeI, k_SeS, o_lenT, o_lenF, o_lenS, o_lenR, k_LeL, k_LeD, o_int, o_abs, o_max2, o_min2, o_tup, k_Seq, o_lst, k_Ls, q_T, q_F, q_R, q_RL, o_slT, o_slS, o_slF, o_slR, k_SlR, o_cTup, k_In, k_Bs, o_cSum, o_cAll, o_cAny, e_opt, e_get0, e_getS, k_LpN, k_LpC, k_LpB, k_LpR, atI_0, atI_1, atI_2, atI_3, atI_4, ixN_0, ixN_1, ixN_2, ixN_3, List.set_cons_zero, List.set_cons_succ, List.getElem?_cons_zero, List.getElem?_cons_succ, List.map_cons, List.map_nil, List.cons_append, List.nil_append, List.length_cons, List.length_nil, List.replicate_succ, List.replicate_zero, decide_true, decide_false, Bool.not_true, Bool.not_false, true_and, and_true, Nat.sub_self, Nat.zero_add, k_onNx, decide_eq_true_eq, W_ok, w_tru, k_TruB, k_TruI, k_TruN, k_TruT, k_TruF, k_TruR, k_TruL, k_TruD, i_nil, i_cons, k_Bl, k_Bn, o_inR, o_ninR, o_inF, o_ninF, k_In0L, k_In0Di, k_In0Ds, k_InL, sn_i, sn_s, sn_t, sn_f, sn_b, sn_n, w_get1, k_Gt1, k_Gt2, k_Gt3i, k_Gt3s, k_Gt4, w_get2, k_Ht1, k_Ht2, k_Ht3, k_Ht4i, k_Ht4s, o_lisR, k_LisL, k_LisD, o_lisT, o_lisF, w_pop, k_Po1, k_Po2, k_Po3, o_srtR, k_SrtL, k_SrtD, k_SrtLs, k_SrtDs, ints_nums, o_str, w_popAt, k_Pa, k_Pa1, k_Pa2, k_Pa3, k_Pa4, o_addR, k_AddL, o_geA, o_geT, o_intB]
        exact ⟨some (.tup (x.map D.int)), by rw [ex2, hx]; simp [rowD]⟩
    · obtain ⟨rfl, x8, rfl⟩ := q
      rw [List.length_map, List.take_length]
      simp -implicitDefEqProofs only [w_vr, w_cst, w_bin2, k_B1, k_B2, w_tst, k_T, w_andT, k_AnT, k_AnF, w_orT, k_OrT, k_OrF, w_notT, k_No, w_andV, k_AnVT, k_AnVF, w_orV, k_OrVT, k_OrVF, w_notV, k_NoV, w_ifV, k_IfVT, k_IfVF, w_aNil, w_aCons, k_A1, k_A2, w_callM, k_C, w_isi, k_Ty_int_non, k_Ty_int_bl, k_Ty_int_int, k_Ty_int_str, k_Ty_int_tup, k_Ty_int_fl, k_Ty_int_ref, k_TyR_int_l, k_TyR_int_d, k_Ty_tuple_non, k_Ty_tuple_bl, k_Ty_tuple_int, k_Ty_tuple_str, k_Ty_tuple_tup, k_Ty_tuple_fl, k_Ty_tuple_ref, k_TyR_tuple_l, k_TyR_tuple_d, k_Ty_str_non, k_Ty_str_bl, k_Ty_str_int, k_Ty_str_str, k_Ty_str_tup, k_Ty_str_fl, k_Ty_str_ref, k_TyR_str_l, k_TyR_str_d, k_Ty_list_non, k_Ty_list_bl, k_Ty_list_int, k_Ty_list_str, k_Ty_list_tup, k_Ty_list_fl, k_Ty_list_ref, k_TyR_list_l, k_TyR_list_d, k_Ty_dict_non, k_Ty_dict_bl, k_Ty_dict_int, k_Ty_dict_str, k_Ty_dict_tup, k_Ty_dict_fl, k_Ty_dict_ref, k_TyR_dict_l, k_TyR_dict_d, k_Ty_bool_non, k_Ty_bool_bl, k_Ty_bool_int, k_Ty_bool_str, k_Ty_bool_tup, k_Ty_bool_fl, k_Ty_bool_ref, k_TyR_bool_l, k_TyR_bool_d, w_oNone, w_oSome, k_O, w_slM, k_S1, k_S2, k_S3, w_tupM, k_Tup, w_lstM, k_Lst, w_newDic, w_appM, k_Ap1, k_Ap2, k_Ap3, k_Ap4, w_compL, k_CL, w_compCall, w_compMaxD, k_M1, k_M2, k_M3, w_sNil, w_sSeq, k_SqN, k_SqR, k_SqB, k_SqC, w_sExpr, k_Ex, w_sRet, k_Re, w_sRetN, w_sBrk, w_sCt, w_sIf, k_IfT, k_IfF, w_sSet, k_St, w_sSetC, k_StC, w_sAsg, k_As, k_As2, w_gN, w_gSb, k_G1, k_G2, k_G3, w_gTp, w_gsNil, w_gsCons, k_Gs, w_run, k_RtR, k_RtN, w_srcM, k_Sr, s_T, s_F, s_S, s_R, s_RL, w_rng1, k_R1, w_rng2, k_R2, k_R3, w_sFor, k_Fo, w_compM, k_Co, w_stepC, k_XT, k_XF, k_Y, w_tTrue, o_addI, o_addS, o_addT, o_sub, o_mul, o_div, o_mod, o_pow, o_lt, o_le, o_gt, o_ge, o_eqI, o_eqS, o_neI, o_neS, o_eqB, o_isN, o_notN, n_n, n_b, n_i, n_s, n_t, n_f, n_r, o_ixT, o_ixF, o_ixS, k_Ch, o_ixR, k_IxL, k_IxD, o_setR, k_SeL, k_SeJ, k_SeI, k_SeS, o_lenT, o_lenF, o_lenS, o_lenR, k_LeL, k_LeD, o_int, o_abs, o_max2, o_min2, o_tup, k_Seq, o_lst, k_Ls, q_T, q_F, q_R, q_RL, o_slT, o_slS, o_slF, o_slR, k_SlR, o_cTup, k_In, k_Bs, o_cSum, o_cAll, o_cAny, e_opt, e_get0, e_getS, k_LpN, k_LpC, k_LpB, k_LpR, atI_0, atI_1, atI_2, atI_3, atI_4, ixN_0, ixN_1, ixN_2, ixN_3, List.set_cons_zero, List.set_cons_succ, List.getElem?_cons_zero, List.getElem?_cons_succ, List.map_cons, List.map_nil, List.cons_append, List.nil_append, List.length_cons, List.length_nil, List.replicate_succ, List.replicate_zero, decide_true, decide_false, Bool.not_true, Bool.not_false, true_and, and_true, Nat.sub_self, Nat.zero_add, k_onNx, decide_eq_true_eq, W_ok, w_tru, k_TruB, k_TruI, k_TruN, k_TruT, k_TruF, k_TruR, k_TruL, k_TruD, i_nil, i_cons, k_Bl, k_Bn, o_inR, o_ninR, o_inF, o_ninF, k_In0L, k_In0Di, k_In0Ds, k_InL, sn_i, sn_s, sn_t, sn_f, sn_b, sn_n, w_get1, k_Gt1, k_Gt2, k_Gt3i, k_Gt3s, k_Gt4, w_get2, k_Ht1, k_Ht2, k_Ht3, k_Ht4i, k_Ht4s, o_lisR, k_LisL, k_LisD, o_lisT, o_lisF, w_pop, k_Po1, k_Po2, k_Po3, o_srtR, k_SrtL, k_SrtD, k_SrtLs, k_SrtDs, ints_nums, o_str, w_popAt, k_Pa, k_Pa1, k_Pa2, k_Pa3, k_Pa4, o_addR, k_AddL, o_geA, o_geT, o_intB]
      exact ⟨_, _, by rw [ep]⟩
  obtain ⟨rfl, x7, x8, rfl⟩ := q
  rw [List.length_map, List.take_length, hfl]
  simp -implicitDefEqProofs only [w_vr, w_cst, w_bin2, k_B1, k_B2, w_tst, k_T, w_andT, k_AnT, k_AnF, w_orT, k_OrT, k_OrF, w_notT, k_No, w_andV, k_AnVT, k_AnVF, w_orV, k_OrVT, k_OrVF, w_notV, k_NoV, w_ifV, k_IfVT, k_IfVF, w_aNil, w_aCons, k_A1, k_A2, w_callM, k_C, w_isi, k_Ty_int_non, k_Ty_int_bl, k_Ty_int_int, k_Ty_int_str, k_Ty_int_tup, k_Ty_int_fl, k_Ty_int_ref, k_TyR_int_l, k_TyR_int_d, k_Ty_tuple_non, k_Ty_tuple_bl, k_Ty_tuple_int, k_Ty_tuple_str, k_Ty_tuple_tup, k_Ty_tuple_fl, k_Ty_tuple_ref, k_TyR_tuple_l, k_TyR_tuple_d, k_Ty_str_non, k_Ty_str_bl, k_Ty_str_int, k_Ty_str_str, k_Ty_str_tup, k_Ty_str_fl, k_Ty_str_ref, k_TyR_str_l, k_TyR_str_d, k_Ty_list_non, k_Ty_list_bl, k_Ty_list_int, k_Ty_list_str, k_Ty_list_tup, k_Ty_list_fl, k_Ty_list_ref, k_TyR_list_l, k_TyR_list_d, k_Ty_dict_non, k_Ty_dict_bl, k_Ty_dict_int, k_Ty_dict_str, k_Ty_dict_tup, k_Ty_dict_fl, k_Ty_dict_ref, k_TyR_dict_l, k_TyR_dict_d, k_Ty_bool_non, k_Ty_bool_bl, k_Ty_bool_int, k_Ty_bool_str, k_Ty_bool_tup, k_Ty_bool_fl, k_Ty_bool_ref, k_TyR_bool_l, k_TyR_bool_d, w_oNone, w_oSome, k_O, w_slM, k_S1, k_S2, k_S3, w_tupM, k_Tup, w_lstM, k_Lst, w_newDic, w_appM, k_Ap1, k_Ap2, k_Ap3, k_Ap4, w_compL, k_CL, w_compCall, w_compMaxD, k_M1, k_M2, k_M3, w_sNil, w_sSeq, k_SqN, k_SqR, k_SqB, k_SqC, w_sExpr, k_Ex, w_sRet, k_Re, w_sRetN, w_sBrk, w_sCt, w_sIf, k_IfT, k_IfF, w_sSet, k_St, w_sSetC, k_StC, w_sAsg, k_As, k_As2, w_gN, w_gSb, k_G1, k_G2, k_G3, w_gTp, w_gsNil, w_gsCons, k_Gs, w_run, k_RtR, k_RtN, w_srcM, k_Sr, s_T, s_F, s_S, s_R, s_RL, w_rng1, k_R1, w_rng2, k_R2, k_R3, w_sFor, k_Fo, w_compM, k_Co, w_stepC, k_XT, k_XF, k_Y, w_tTrue, o_addI, o_addS, o_addT, o_sub, o_mul, o_div, o_mod, o_pow, o_lt, o_le, o_gt, o_ge, o_eqI, o_eqS, o_neI, o_neS, o_eqB, o_isN, o_notN, n_n, n_b, n_i, n_s, n_t, n_f, n_r, o_ixT, o_ixF, o_ixS, k_Ch, o_ixR, k_IxL, k_IxD, o_setR, k_SeL, k_SeJ, k_SeI, k_SeS, o_lenT, o_lenF, o_lenS, o_lenR, k_LeL, k_LeD, o_int, o_abs, o_max2, o_min2, o_tup, k_Seq, o_lst, k_Ls, q_T, q_F, q_R, q_RL, o_slT, o_slS, o_slF, o_slR, k_SlR, o_cTup, k_In, k_Bs, o_cSum, o_cAll, o_cAny, e_opt, e_get0, e_getS, k_LpN, k_LpC, k_LpB, k_LpR, atI_0, atI_1, atI_2, atI_3, atI_4, ixN_0, ixN_1, ixN_2, ixN_3, List.set_cons_zero, List.set_cons_succ, List.getElem?_cons_zero, List.getElem?_cons_succ, List.map_cons, List.map_nil, List.cons_append, List.nil_append, List.length_cons, List.length_nil, List.replicate_succ, List.replicate_zero, decide_true, decide_false, Bool.not_true, Bool.not_false, true_and, and_true, Nat.sub_self, Nat.zero_add, k_onNx, decide_eq_true_eq, W_ok, w_tru, k_TruB, k_TruI, k_TruN, k_TruT, k_TruF, k_TruR, k_TruL, k_TruD, i_nil, i_cons, k_Bl, k_Bn, o_inR, o_ninR, o_inF, o_ninF, k_In0L, k_In0Di, k_In0Ds, k_InL, sn_i, sn_s, sn_t, sn_f, sn_b, sn_n, w_get1, k_Gt1, k_Gt2, k_Gt3i, k_Gt3s, k_Gt4, w_get2, k_Ht1, k_Ht2, k_Ht3, k_Ht4i, k_Ht4s, o_lisR, k_LisL, k_LisD, o_lisT, o_lisF, w_pop, k_Po1, k_Po2, k_Po3, o_srtR, k_SrtL, k_SrtD, k_SrtLs, k_SrtDs, ints_nums, o_str, w_popAt, k_Pa, k_Pa1, k_Pa2, k_Pa3, k_Pa4, o_addR, k_AddL, o_geA, o_geT, o_intB, cb7]
  generalize htb : D.tup (List.map bdD bs) = tb
  refine lower_at 199 bs tb htb.symm _ (by omega) bk bl4 _ ?_
  simp -implicitDefEqProofs only [w_vr, w_cst, w_bin2, k_B1, k_B2, w_tst, k_T, w_andT, k_AnT, k_AnF, w_orT, k_OrT, k_OrF, w_notT, k_No, w_andV, k_AnVT, k_AnVF, w_orV, k_OrVT, k_OrVF, w_notV, k_NoV, w_ifV, k_IfVT, k_IfVF, w_aNil, w_aCons, k_A1, k_A2, w_callM, k_C, w_isi, k_Ty_int_non, k_Ty_int_bl, k_Ty_int_int, k_Ty_int_str, k_Ty_int_tup, k_Ty_int_fl, k_Ty_int_ref, k_TyR_int_l, k_TyR_int_d, k_Ty_tuple_non, k_Ty_tuple_bl, k_Ty_tuple_int, k_Ty_tuple_str, k_Ty_tuple_tup, k_Ty_tuple_fl, k_Ty_tuple_ref, k_TyR_tuple_l, k_TyR_tuple_d, k_Ty_str_non, k_Ty_str_bl, k_Ty_str_int, k_Ty_str_str, k_Ty_str_tup, k_Ty_str_fl, k_Ty_str_ref, k_TyR_str_l, k_TyR_str_d, k_Ty_list_non, k_Ty_list_bl, k_Ty_list_int, k_Ty_list_str, k_Ty_list_tup, k_Ty_list_fl, k_Ty_list_ref, k_TyR_list_l, k_TyR_list_d, k_Ty_dict_non, k_Ty_dict_bl, k_Ty_dict_int, k_Ty_dict_str, k_Ty_dict_tup, k_Ty_dict_fl, k_Ty_dict_ref, k_TyR_dict_l, k_TyR_dict_d, k_Ty_bool_non, k_Ty_bool_bl, k_Ty_bool_int, k_Ty_bool_str, k_Ty_bool_tup, k_Ty_bool_fl, k_Ty_bool_ref, k_TyR_bool_l, k_TyR_bool_d, w_oNone, w_oSome, k_O, w_slM, k_S1, k_S2, k_S3, w_tupM, k_Tup, w_lstM, k_Lst, w_newDic, w_appM, k_Ap1, k_Ap2, k_Ap3, k_Ap4, w_compL, k_CL, w_compCall, w_compMaxD, k_M1, k_M2, k_M3, w_sNil, w_sSeq, k_SqN, k_SqR, k_SqB, k_SqC, w_sExpr, k_Ex, w_sRet, k_Re, w_sRetN, w_sBrk, w_sCt, w_sIf, k_IfT, k_IfF, w_sSet, k_St, w_sSetC, k_StC, w_sAsg, k_As, k_As2, w_gN, w_gSb, k_G1, k_G2, k_G3, w_gTp, w_gsNil, w_gsCons, k_Gs, w_run, k_RtR, k_RtN, w_srcM, k_Sr, s_T, s_F, s_S, s_R, s_RL, w_rng1, k_R1, w_rng2, k_R2, k_R3, w_sFor, k_Fo, w_compM, k_Co, w_stepC, k_XT, k_XF, k_Y, w_tTrue, o_addI, o_addS, o_addT, o_sub, o_mul, o_div, o_mod, o_pow, o_lt, o_le, o_gt, o_ge, o_eqI, o_eqS, o_neI, o_neS, o_eqB, o_isN, o_notN, n_n, n_b, n_i, n_s, n_t, n_f, n_r, o_ixT, o_ixF, o_ixS, k_Ch, o_ixR, k_IxL, k_IxD, o_setR, k_SeL, k_SeJ, k_SeI, k_SeS, o_lenT, o_lenF, o_lenS, o_lenR, k_LeL, k_LeD, o_int, o_abs, o_max2, o_min2, o_tup, k_Seq, o_lst, k_Ls, q_T, q_F, q_R, q_RL, o_slT, o_slS, o_slF, o_slR, k_SlR, o_cTup, k_In, k_Bs, o_cSum, o_cAll, o_cAny, e_opt, e_get0, e_getS, k_LpN, k_LpC, k_LpB, k_LpR, atI_0, atI_1, atI_2, atI_3, atI_4, ixN_0, ixN_1, ixN_2, ixN_3, List.set_cons_zero, List.set_cons_succ, List.getElem?_cons_zero, List.getElem?_cons_succ, List.map_cons, List.map_nil, List.cons_append, List.nil_append, List.length_cons, List.length_nil, List.replicate_succ, List.replicate_zero, decide_true, decide_false, Bool.not_true, Bool.not_false, true_and, and_true, Nat.sub_self, Nat.zero_add, k_onNx, decide_eq_true_eq, W_ok, w_tru, k_TruB, k_TruI, k_TruN, k_TruT, k_TruF, k_TruR, k_TruL, k_TruD, i_nil, i_cons, k_Bl, k_Bn, o_inR, o_ninR, o_inF, o_ninF, k_In0L, k_In0Di, k_In0Ds, k_InL, sn_i, sn_s, sn_t, sn_f, sn_b, sn_n, w_get1, k_Gt1, k_Gt2, k_Gt3i, k_Gt3s, k_Gt4, w_get2, k_Ht1, k_Ht2, k_Ht3, k_Ht4i, k_Ht4s, o_lisR, k_LisL, k_LisD, o_lisT, o_lisF, w_pop, k_Po1, k_Po2, k_Po3, o_srtR, k_SrtL, k_SrtD, k_SrtLs, k_SrtDs, ints_nums, o_str, w_popAt, k_Pa, k_Pa1, k_Pa2, k_Pa3, k_Pa4, o_addR, k_AddL, o_geA, o_geT, o_intB]
  simp
end Qk47

namespace Qk47
open PySem PySem.Spec PyProof.Rows L2 DL
section
variable {P : Program} {w : World} {K : PySem.W.Frag} {mg : Str → Option Value} {base : Heap}
structure All (P : Program) (w : World) (K : PySem.W.Frag) (mg : Str → Option Value) (base : Heap) (n : Nat) : Prop where
  d_is_lower : Defn P w K mg base n "is_lower" (run n i_is_lower)
  d__law_tape : Defn P w K mg base n "_law_tape" (run n i__law_tape)
  d__law_draw : Defn P w K mg base n "_law_draw" (run n i__law_draw)
  d__law_choices : Defn P w K mg base n "_law_choices" (run n i__law_choices)
  d__law_respects : Defn P w K mg base n "_law_respects" (run n i__law_respects)
  d_law : Defn P w K mg base n "law" (run n i_law)
theorem all_defs {f_is_lower : Addr} {fd_is_lower : FuncData} {f__law_tape : Addr} {fd__law_tape : FuncData} {f__law_draw : Addr} {fd__law_draw : FuncData} {f__law_choices : Addr} {fd__law_choices : FuncData} {f__law_respects : Addr} {fd__law_respects : FuncData} {f_law : Addr} {fd_law : FuncData}
  (F_is_lower : Fun K "is_lower" "is_lower" s_is_lower f_is_lower fd_is_lower) (b_is_lower : Binds K fd_is_lower ["bounds"] []) (g_is_lower : mg "is_lower" = some (.ref f_is_lower)) (F__law_tape : Fun K "_law_tape" "_law_tape" s__law_tape f__law_tape fd__law_tape) (b__law_tape : Binds K fd__law_tape ["_law_script"] []) (g__law_tape : mg "_law_tape" = some (.ref f__law_tape)) (F__law_draw : Fun K "_law_draw" "_law_draw" s__law_draw f__law_draw fd__law_draw) (b__law_draw : Binds K fd__law_draw ["_law_tape_here", "_law_many"] []) (g__law_draw : mg "_law_draw" = some (.ref f__law_draw)) (F__law_choices : Fun K "_law_choices" "_law_choices" s__law_choices f__law_choices fd__law_choices) (b__law_choices : Binds K fd__law_choices ["_law_terms", "_law_many"] []) (g__law_choices : mg "_law_choices" = some (.ref f__law_choices)) (F__law_respects : Fun K "_law_respects" "_law_respects" s__law_respects f__law_respects fd__law_respects) (b__law_respects : Binds K fd__law_respects ["_law_numbers", "_law_bounds", "_law_ranks"] []) (g__law_respects : mg "_law_respects" = some (.ref f__law_respects)) (F_law : Fun K "law" "law" s_law f_law fd_law) (b_law : Binds K fd_law ["_law_script"] []) (g_law : mg "law" = some (.ref f_law))
  (z_abs : mg "abs" = none) (z_bool : mg "bool" = none) (z_int : mg "int" = none) (z_isinstance : mg "isinstance" = none) (z_len : mg "len" = none) (z_list : mg "list" = none) (z_max : mg "max" = none) (z_range : mg "range" = none) (z_tuple : mg "tuple" = none) : ∀ n, All P w K mg base n
  | 0 => ⟨⟨_, _, _, badG, g_is_lower, F_is_lower.kp, b_is_lower⟩, ⟨_, _, _, badG, g__law_tape, F__law_tape.kp, b__law_tape⟩, ⟨_, _, _, badG, g__law_draw, F__law_draw.kp, b__law_draw⟩, ⟨_, _, _, badG, g__law_choices, F__law_choices.kp, b__law_choices⟩, ⟨_, _, _, badG, g__law_respects, F__law_respects.kp, b__law_respects⟩, ⟨_, _, _, badG, g_law, F_law.kp, b_law⟩⟩
  | n + 1 => have ih := all_defs F_is_lower b_is_lower g_is_lower F__law_tape b__law_tape g__law_tape F__law_draw b__law_draw g__law_draw F__law_choices b__law_choices g__law_choices F__law_respects b__law_respects g__law_respects F_law b_law g_law z_abs z_bool z_int z_isinstance z_len z_list z_max z_range z_tuple n
    ⟨⟨_, _, _, ok_is_lower F_is_lower  z_len z_range, g_is_lower, F_is_lower.kp, b_is_lower⟩, ⟨_, _, _, ok__law_tape F__law_tape  z_abs z_int z_list, g__law_tape, F__law_tape.kp, b__law_tape⟩, ⟨_, _, _, ok__law_draw F__law_draw  z_abs z_int z_len z_max, g__law_draw, F__law_draw.kp, b__law_draw⟩, ⟨_, _, _, ok__law_choices F__law_choices  z_list z_range, g__law_choices, F__law_choices.kp, b__law_choices⟩, ⟨_, _, _, ok__law_respects F__law_respects  z_int z_len z_range, g__law_respects, F__law_respects.kp, b__law_respects⟩, ⟨_, _, _, ok_law F_law ih.d_is_lower ih.d__law_tape ih.d__law_draw ih.d__law_choices ih.d__law_respects z_bool z_isinstance z_len z_range z_tuple, g_law, F_law.kp, b_law⟩⟩
end
theorem all_mk {l : PySem.W.OpenLaw} {w : World} {K : PySem.W.Frag} {h : Heap} {mg : Str → Option Value} {fa f0 f1 f2 f3 f4 f5 : Addr} (X : K.In h) (G : h.Ns mainGlobals mg) (hfa : mg "law" = some (.ref fa))
    {od0 an0 od1 an1 od2 an2 od3 an3 od4 an4 od5 an5 : Option Addr} {sl0 sl1 sl2 sl3 sl4 sl5 : Array (Option Value)}
    {oc0 kV0 dc0 pm0 cd0 ct0 oc1 kV1 dc1 pm1 cd1 ct1 oc2 kV2 dc2 pm2 cd2 ct2 oc3 kV3 dc3 pm3 cd3 ct3 oc4 kV4 dc4 pm4 cd4 ct4 oc5 kV5 dc5 pm5 cd5 ct5 : Value}
    (a0 : PySem.W.nsIn K mainGlobals "is_lower" = some (some (.ref f0))) (l0 : K.lookup f0 = some ⟨oc0, od0, .func (PySem.W.fnOf "is_lower" "is_lower" (defArgs s_is_lower) (defBody s_is_lower) (defScope s_is_lower) .none kV0 dc0 pm0 an0 cd0 ct0), sl0⟩) (c0 : PySem.W.codeIn K cd0 "is_lower" = true) (k0 : PySem.W.keepIn K (.ref f0) = true)
    (a1 : PySem.W.nsIn K mainGlobals "_law_tape" = some (some (.ref f1))) (l1 : K.lookup f1 = some ⟨oc1, od1, .func (PySem.W.fnOf "_law_tape" "_law_tape" (defArgs s__law_tape) (defBody s__law_tape) (defScope s__law_tape) .none kV1 dc1 pm1 an1 cd1 ct1), sl1⟩) (c1 : PySem.W.codeIn K cd1 "_law_tape" = true) (k1 : PySem.W.keepIn K (.ref f1) = true)
    (a2 : PySem.W.nsIn K mainGlobals "_law_draw" = some (some (.ref f2))) (l2 : K.lookup f2 = some ⟨oc2, od2, .func (PySem.W.fnOf "_law_draw" "_law_draw" (defArgs s__law_draw) (defBody s__law_draw) (defScope s__law_draw) .none kV2 dc2 pm2 an2 cd2 ct2), sl2⟩) (c2 : PySem.W.codeIn K cd2 "_law_draw" = true) (k2 : PySem.W.keepIn K (.ref f2) = true)
    (a3 : PySem.W.nsIn K mainGlobals "_law_choices" = some (some (.ref f3))) (l3 : K.lookup f3 = some ⟨oc3, od3, .func (PySem.W.fnOf "_law_choices" "_law_choices" (defArgs s__law_choices) (defBody s__law_choices) (defScope s__law_choices) .none kV3 dc3 pm3 an3 cd3 ct3), sl3⟩) (c3 : PySem.W.codeIn K cd3 "_law_choices" = true) (k3 : PySem.W.keepIn K (.ref f3) = true)
    (a4 : PySem.W.nsIn K mainGlobals "_law_respects" = some (some (.ref f4))) (l4 : K.lookup f4 = some ⟨oc4, od4, .func (PySem.W.fnOf "_law_respects" "_law_respects" (defArgs s__law_respects) (defBody s__law_respects) (defScope s__law_respects) .none kV4 dc4 pm4 an4 cd4 ct4), sl4⟩) (c4 : PySem.W.codeIn K cd4 "_law_respects" = true) (k4 : PySem.W.keepIn K (.ref f4) = true)
    (a5 : PySem.W.nsIn K mainGlobals "law" = some (some (.ref f5))) (l5 : K.lookup f5 = some ⟨oc5, od5, .func (PySem.W.fnOf "law" "law" (defArgs s_law) (defBody s_law) (defScope s_law) .none kV5 dc5 pm5 an5 cd5 ct5), sl5⟩) (c5 : PySem.W.codeIn K cd5 "law" = true) (k5 : PySem.W.keepIn K (.ref f5) = true)
    (z0 : PySem.W.nsIn K mainGlobals "abs" = some none) (z1 : PySem.W.nsIn K mainGlobals "bool" = some none) (z2 : PySem.W.nsIn K mainGlobals "int" = some none) (z3 : PySem.W.nsIn K mainGlobals "isinstance" = some none) (z4 : PySem.W.nsIn K mainGlobals "len" = some none) (z5 : PySem.W.nsIn K mainGlobals "list" = some none) (z6 : PySem.W.nsIn K mainGlobals "max" = some none) (z7 : PySem.W.nsIn K mainGlobals "range" = some none) (z8 : PySem.W.nsIn K mainGlobals "tuple" = some none) :
    ∃ fd : FuncData, (∀ (s : Shared) (v : Value), BindsTo s fd ⟨[v], []⟩ [("_law_script", v)]) ∧ ∀ base : Heap, K.In base → base.Ns mainGlobals mg → FnG l.prog w K mg base 200 fa fd ["_law_script"] (run 200 i_law) := by
  have e := hfa.symm.trans (PySem.W.mg_of X G a5)
  cases e
  have F0 := fun_mk (st := s_is_lower) l0 c0 k0
  have b0 := F0.binds (ps := ["bounds"]) fun _ _ _ _ _ _ us hl => match us, hl with | [_], _ => rfl
  have F1 := fun_mk (st := s__law_tape) l1 c1 k1
  have b1 := F1.binds (ps := ["_law_script"]) fun _ _ _ _ _ _ us hl => match us, hl with | [_], _ => rfl
  have F2 := fun_mk (st := s__law_draw) l2 c2 k2
  have b2 := F2.binds (ps := ["_law_tape_here", "_law_many"]) fun _ _ _ _ _ _ us hl => match us, hl with | [_, _], _ => rfl
  have F3 := fun_mk (st := s__law_choices) l3 c3 k3
  have b3 := F3.binds (ps := ["_law_terms", "_law_many"]) fun _ _ _ _ _ _ us hl => match us, hl with | [_, _], _ => rfl
  have F4 := fun_mk (st := s__law_respects) l4 c4 k4
  have b4 := F4.binds (ps := ["_law_numbers", "_law_bounds", "_law_ranks"]) fun _ _ _ _ _ _ us hl => match us, hl with | [_, _, _], _ => rfl
  have F5 := fun_mk (st := s_law) l5 c5 k5
  have b5 := F5.binds (ps := ["_law_script"]) fun _ _ _ _ _ _ us hl => match us, hl with | [_], _ => rfl
  refine ⟨PySem.W.fnOf "law" "law" (defArgs s_law) (defBody s_law) (defScope s_law) .none kV5 dc5 pm5 an5 cd5 ct5, fun s v => .of_eq rfl, fun base _ _ => ?_⟩
  have z_abs := PySem.W.mg_none_of X G z0
  have z_bool := PySem.W.mg_none_of X G z1
  have z_int := PySem.W.mg_none_of X G z2
  have z_isinstance := PySem.W.mg_none_of X G z3
  have z_len := PySem.W.mg_none_of X G z4
  have z_list := PySem.W.mg_none_of X G z5
  have z_max := PySem.W.mg_none_of X G z6
  have z_range := PySem.W.mg_none_of X G z7
  have z_tuple := PySem.W.mg_none_of X G z8
  have al : All l.prog w K mg base 199 := all_defs F0 b0 (PySem.W.mg_of X G a0) F1 b1 (PySem.W.mg_of X G a1) F2 b2 (PySem.W.mg_of X G a2) F3 b3 (PySem.W.mg_of X G a3) F4 b4 (PySem.W.mg_of X G a4) F5 b5 (PySem.W.mg_of X G a5) z_abs z_bool z_int z_isinstance z_len z_list z_max z_range z_tuple 199
  exact ok_law F5 al.d_is_lower al.d__law_tape al.d__law_draw al.d__law_choices al.d__law_respects z_bool z_isinstance z_len z_range z_tuple
end Qk47
open PySem PySem.W PyProof.Rows
set_option maxHeartbeats 0 in
theorem PySem.Challenge.cw_openrules_k47_lower_bounds_holds : PySem.Challenge.rw_openrules_k47_lower_bounds.Holds := by
  w_on; o_law; k_head; (case hw => w_witness2)
  k_fill
  refine DL.walkG (l := PySem.Challenge.rw_openrules_k47_lower_bounds) (n := 63) (k := 200) (x := "_law_script") (m := Qk47.run 200 Qk47.i_law) rfl (by decide) rfl ⟨rfl, by decide, by decide⟩ (fun w h Y => PySem.W.kIn_of Y) ?F Qk47.law_true
  case F =>
    intro w mg fa h KX G hmg
    refine' Qk47.all_mk KX G hmg ?a0 ?l0 ?c0 ?k0 ?a1 ?l1 ?c1 ?k1 ?a2 ?l2 ?c2 ?k2 ?a3 ?l3 ?c3 ?k3 ?a4 ?l4 ?c4 ?k4 ?a5 ?l5 ?c5 ?k5 ?z0 ?z1 ?z2 ?z3 ?z4 ?z5 ?z6 ?z7 ?z8
    (case a0 => k_is); (case l0 => k_is); (case c0 => k_is); (case k0 => k_is); (case a1 => k_is); (case l1 => k_is); (case c1 => k_is); (case k1 => k_is); (case a2 => k_is); (case l2 => k_is); (case c2 => k_is); (case k2 => k_is); (case a3 => k_is); (case l3 => k_is); (case c3 => k_is); (case k3 => k_is); (case a4 => k_is); (case l4 => k_is); (case c4 => k_is); (case k4 => k_is); (case a5 => k_is); (case l5 => k_is); (case c5 => k_is); (case k5 => k_is); (case z0 => k_is); (case z1 => k_is); (case z2 => k_is); (case z3 => k_is); (case z4 => k_is); (case z5 => k_is); (case z6 => k_is); (case z7 => k_is); (case z8 => k_is)
