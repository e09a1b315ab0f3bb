import PyProof.Rows.All
import Wide.All
import OpenK.AllK
import Wide.FinOn
import HandS.ForMost
import HandS.TupAny
import HandS.Deep
import HandS.IsInst
import HandS.Exc
import HandS.ExcOwn
import HandS.TryOnly
import HandS.WordsExc
import HandS.Lambda
import HandS.SortKw
import HandS.Conv
import HandS.More
import HandS.SortInts
import HandS.TupLe
import HandS.ExcIs
import HandS.DictComp
import KE.SortKeyHeap
import KE.SortData
import HandS.Walk
import HandS.Rev
import KE.KDictPairs
import HandS.Strs
import HandS.Zip
import HandS.SetFor
import PySem.Challenge.RW_openrules_k13_great_common_instances
set_option Elab.async false
set_option linter.all false
set_option maxRecDepth 100000
set_option maxHeartbeats 4000000
namespace DL
open PySem PySem.Spec PyProof.Rows L2
/-- a tuple that is known not to have an instance dict -/
def SqU (K : PySem.W.Frag) (H : Hp) (a : Addr) (xs : List V) : Prop :=
  (∃ o : Obj, o.dict = none ∧ H a = some (.frz o (.tup xs))) ∨
    ∃ (o : Obj) (its : Array Value) (n : Nat), K.lookup a = some o ∧ o.cls = .type "tuple" ∧ o.dict = none ∧ o.data = .seq its n ∧ its.size ≤ sizeLine ∧ Vals xs its.toList
theorem SqU.sq {K : PySem.W.Frag} {H : Hp} {a : Addr} {xs : List V} (h : SqU K H a xs) : SqT K H a xs := by
  rcases h with ⟨o, _, h⟩ | ⟨o, its, n, h1, h2, _, h3, h4, h5⟩
  · exact .inl (.inr ⟨o, h⟩)
  · exact .inr ⟨o, its, n, h1, h2, h3, h4, h5⟩
theorem SqU.new {K : PySem.W.Frag} {H : Hp} {a : Addr} {xs : List V} {o : Obj} (h : o.dict = none) : SqU K (upd H a (.frz o (.tup xs))) a xs := .inl ⟨o, h, upd_same⟩
section
variable {X : Cx} {pins : List (Addr × Obj)} {σ : L2.St} {H : Hp} {s : Shared}
/-- the object itself -/
theorem SqU.obj {a : Addr} {xs : List V} (I : Inv X pins σ H s) (h : SqU X.K H a xs) :
    ∃ (o : Obj) (its : List Value) (n : Nat), s.heap.get? a = some o ∧ o.cls = .type "tuple" ∧ o.dict = none ∧ o.data = .seq its.toArray n ∧ Vals xs its ∧ xs.length ≤ sizeLine := by
  rcases h with ⟨o, hd, h⟩ | ⟨o, its, n, h1, h2, h3, h4, h5, h6⟩
  · obtain ⟨e1, hz, its, r, o2, e2, hc, n, hdat⟩ := I.hok _ _ h
    rw [e1] at e2
    cases e2
    exact ⟨o, its, n, e1, hc, hd, hdat, r, hz⟩
  · exact ⟨o, its.toList, n, I.kIn _ _ h1, h2, h3, by simpa using h4, h6, by rw [h6.length]; simpa using h5⟩
def newT (H : Hp) (xs : List V) (Q : VK) : Prop := ∀ p, H p = none → ∀ o : Obj, o.dict = none → Q (.ref p) (upd H p (.frz o (.tup xs)))
theorem tup_new {xs : List V} {its : List Value} {p : Addr} {h' : Heap} {o : Obj} (I : Inv X pins σ H s) (k : ∀ b u, s.heap.get? b = some u → h'.get? b = some u) (hp : s.heap.objs.size ≤ p) (r : Vals xs its) (hz : xs.length ≤ sizeLine)
    (e : h'.get? p = some o) (hc : o.cls = .type "tuple") {n : Nat} (hdat : o.data = .seq its.toArray n) {Q : VK} (hd : o.dict = none) (q : newT H xs Q) : EP X pins σ Q (.ref p) { s with heap := h' } :=
  ⟨.ref p, upd H p (.frz o (.tup xs)), I.laid (t' := s.toks) k hp (show ObjOk X.prog X.w _ h' p (.frz o (.tup xs)) from ⟨e, hz, its, r, o, e, hc, n, hdat⟩), rfl, q _ (I.hok.fresh hp) _ hd⟩
theorem callTupU : CallR X (.type "tuple") (fun xs H Q => ∃ p ys, xs = [.ref p] ∧ ((SqL X.K H p ys ∧ newT H ys Q) ∨ (SqT X.K H p ys ∧ Q (.ref p) H))) := by
  intro pins s σ H xs us Q I r h
  obtain ⟨p, ys, rfl, h⟩ := h
  obtain ⟨u, rfl, rx⟩ := vals1 r
  cases rx
  rcases h with ⟨hq, q⟩ | ⟨hq, q⟩
  · obtain ⟨its, r', pl, hz⟩ := I.list hq
    have hlen := r'.length
    refine call_tuple_list pl.isList (fun h' kp => ?_) (by simp only [List.size_toArray] <;> omega)
    have I1 : Inv X pins σ H { s with heap := h' } := I.kept (t' := s.toks) kp
    exact tup_new I1 (fun b o e => Heap.get?_push_of_some _ e) (Nat.le_refl _) r' hz (Heap.get?_push_size _ rfl) rfl rfl rfl q
  · obtain ⟨its, r', pl, hz⟩ := I.tuple hq
    exact call_tuple_same pl ⟨.ref p, H, I, rfl, q⟩
def tTupU (t : TA) : TE := fun σ H Q => t σ H fun xs H1 => xs.length ≤ sizeLine ∧ newT H1 xs Q
theorem peTupU {es : List Expr} {pos : Pos} {t : TA} {x1} (h : PA X es t) : PE X (.Tuple es x1 pos) (tTupU t) := by
  refine ⟨fun pins s σ H Q I hq => ?_⟩
  refine wpAny_Tuple_spliced (thn (h.run pos pins s σ H _ I hq) fun us s1 ⟨xs, H1, I1, r, z, q⟩ => ⟨by rw [← r.length]; exact z, ?_⟩)
  exact tup_new I1 (fun b u e => Heap.get?_push_of_some _ e) (Nat.le_refl _) r z (Heap.get?_push_size _ rfl) rfl rfl rfl q
def rCatU (K : PySem.W.Frag) : R2 := fun x y H Q => ∃ a b xs ys, x = .ref a ∧ y = .ref b ∧ SqT K H a xs ∧ SqT K H b ys ∧ xs.length + ys.length ≤ sizeLine ∧
  (xs = [] → Q (.ref b) H) ∧ (xs ≠ [] → ys = [] → Q (.ref a) H) ∧ (xs ≠ [] → ys ≠ [] → newT H (xs ++ ys) Q)
theorem opCatU : OpR X (binaryOp .Add) (rCatU X.K) := by
  intro pins s σ H x y v u Q I rx ry h
  obtain ⟨a, b, xs, ys, rfl, rfl, ha, hb, hz, q0, q1, q2⟩ := h
  by_cases hx : xs = []
  · subst hx
    cases rx
    cases ry
    obtain ⟨its, r1, p1, _⟩ := I.tuple ha
    obtain ⟨its2, r2, p2, _⟩ := I.tuple hb
    cases r1
    exact cat_tup0 p1 p2 ⟨.ref b, H, I, rfl, q0 rfl⟩
  · cases rx
    cases ry
    obtain ⟨its, r1, p1, _⟩ := I.tuple ha
    obtain ⟨its2, r2, p2, _⟩ := I.tuple hb
    refine HT.cat_tup p1 p2 (fun z => hx (r1.nil_iff.mp z)) (fun z => ⟨.ref a, H, I, rfl, q1 hx (r2.nil_iff.mp z)⟩) (fun z => ?_) (by rw [← r1.length, ← r2.length]; exact hz)
    exact tup_new I (fun b ob q => Heap.get?_push_of_some _ q) (Nat.le_refl _) (r1.append r2) (by rw [List.length_append]; exact hz) (Heap.get?_push_size _ rfl) rfl rfl rfl (q2 hx fun w => z (r2.nil_iff.mpr w))
def rSlU (K : PySem.W.Frag) : V → Option Int → Option Int → Hp → VK → Prop := fun x lo hi H Q => ∃ a xs, x = .ref a ∧ SqT K H a xs ∧
  (HT.sIx xs.length 0 lo = 0 ∧ HT.sIx xs.length xs.length hi = xs.length → Q (.ref a) H) ∧ (¬ (HT.sIx xs.length 0 lo = 0 ∧ HT.sIx xs.length xs.length hi = xs.length) → newT H (cutV xs lo hi) Q)
theorem slTupU : SlR X (rSlU X.K) := by
  intro pins s σ H x v vl vu lo hi sl Q I rx hs pl pu h
  obtain ⟨a, xs, rfl, hx, q1, q2⟩ := h
  cases rx
  obtain ⟨its, r, ht, hz⟩ := I.tuple hx
  have hlen : its.toArray.size = xs.length := by rw [List.size_toArray]; exact r.length.symm
  refine ⟨"tuple", _, PyProof.Rows.slot_tuple_getitem.lookup, ht.typeIs, ?_⟩
  by_cases hw : HT.sIx xs.length 0 lo = 0 ∧ HT.sIx xs.length xs.length hi = xs.length
  · exact getItem_tuple_whole ht hs pl pu (by rw [hlen]; exact hw) ⟨.ref a, H, I, rfl, q1 hw⟩
  · refine HT.getItem_tuple_cut ht hs pl pu (by rw [hlen]; exact hw) ?_ (by rw [hlen]; exact hz)
    rw [hlen]
    exact tup_new I (fun b ob q => Heap.get?_push_of_some _ q) (Nat.le_refl _) ((r.drop (HT.sIx xs.length 0 lo)).take (HT.sIx xs.length xs.length hi - HT.sIx xs.length 0 lo)) (Nat.le_trans (cutV_length xs lo hi) hz) (Heap.get?_push_size _ rfl) rfl rfl rfl (q2 hw)
end
end DL

set_option Elab.async false
set_option linter.all false
set_option maxRecDepth 100000
namespace DL
open PySem PySem.Spec PyProof.Rows L2

/-! values by value; mutable things by number -/
inductive D where
  | non | bl (b : Bool) | int (i : Int) | str (x : Str) | tup (ds : List D) | fl (ds : List D) | ref (n : Nat)
inductive Cell where
  | lst (ds : List D) | dic (kvs : List (Key × D))
abbrev DHeap := List Cell
abbrev DEnv := List (Option D)
/-- an exception: its class, what it carries -/
structure DX where
  cls : Str
  fs : List (Str × D)
/-- exc: raised, with the names as they stood -/
inductive Res (α : Type) where
  | ok (a : α) (h : DHeap) | bad | exc (x : DX) (s : DEnv) (h : DHeap)
def Res.bind {α β : Type} (r : Res α) (k : α → DHeap → Res β) : Res β := match r with | .ok a h => k a h | .bad => .bad | .exc x s h => .exc x s h
/-- an exception of a callee, with the caller's names -/
def Res.at {α : Type} (r : Res α) (σ : DEnv) : Res α := match r with | .ok a h => .ok a h | .bad => .bad | .exc x _ h => .exc x σ h
/-- no exception is ruled -/
def Res.calm {α : Type} (r : Res α) : Res α := match r with | .ok a h => .ok a h | .bad => .bad | .exc _ _ _ => .bad

/-- the tables of code objects that the program's defs with a lambda write: where each stands, the lambda's name -/
class TbC where
  tabs : List (Addr × Str)
variable [TbC]
/-- a list that nobody may change -/
def FrL (K : PySem.W.Frag) (H : Hp) (a : Addr) (xs : List V) : Prop :=
  (∃ o, H a = some (.frz o (.lst xs))) ∨
    ∃ (o : Obj) (its : Array Value) (n : Nat), K.lookup a = some o ∧ o.cls = .type "list" ∧ o.dict = none ∧ o.data = .seq its n ∧ its.size ≤ sizeLine ∧ Vals xs its.toList
theorem FrL.sq {K : PySem.W.Frag} {H : Hp} {a : Addr} {xs : List V} (h : FrL K H a xs) : SqL K H a xs := by
  rcases h with ⟨o, h⟩ | h
  · exact .inl (.inr ⟨o, h⟩)
  · exact .inr h

mutual
def RV (K : PySem.W.Frag) (H : Hp) (ρ : List Addr) : D → V → Prop
  | .non, v => v = .non
  | .bl b, v => v = .bl b
  | .int i, v => v = .int i
  | .str x, v => v = .str x
  | .tup ds, v => ∃ a xs, v = .ref a ∧ SqU K H a xs ∧ RVs K H ρ ds xs
  | .fl ds, v => ∃ a xs, v = .ref a ∧ FrL K H a xs ∧ RVs K H ρ ds xs
  | .ref n, v => ∃ a, v = .ref a ∧ ρ[n]? = some a
def RVs (K : PySem.W.Frag) (H : Hp) (ρ : List Addr) : List D → List V → Prop
  | [], xs => xs = []
  | d :: ds, xs => ∃ y ys, xs = y :: ys ∧ RV K H ρ d y ∧ RVs K H ρ ds ys
end

def isM : Option HO → Bool
  | some (.lst _) => true
  | some (.dK _) => true
  | _ => false
/-- nothing but a table -/
def NoT (H : Hp) (b : Addr) : Prop := ∀ o, H b = some o → ∃ ps, o = .tbl ps
theorem NoT.none {H : Hp} {b : Addr} (h : H b = none) : NoT H b := fun o e => by rw [h] at e; cases e
theorem NoT.m {H : Hp} {b : Addr} {o : HO} (n : NoT H b) (h : H b = some o) (hm : isM (some o) = true) : False := by
  obtain ⟨ps, rfl⟩ := n o h
  cases hm
structure Ext (H : Hp) (ρ : List Addr) (H' : Hp) (ρ' : List Addr) : Prop where
  pre : ∀ (n : Nat) (a : Addr), ρ[n]? = some a → ρ'[n]? = some a
  keep : ∀ b o, H b = some o → b ∉ ρ → (∀ ps, o ≠ .tbl ps) → H' b = some o
  fresh : ∀ b, b ∈ ρ' → b ∉ ρ → NoT H b
  mu : ∀ b, b ∈ ρ → isM (H b) = true
theorem Ext.sqT {K : PySem.W.Frag} {H H' : Hp} {ρ ρ' : List Addr} (e : Ext H ρ H' ρ') {a : Addr} {xs : List V} (h : SqU K H a xs) : SqU K H' a xs := by
  rcases h with ⟨o, hd, h⟩ | h
  · exact .inl (⟨o, hd, e.keep _ _ h (fun m => by have q := e.mu _ m; rw [h] at q; cases q) fun _ z => by cases z⟩)
  · exact .inr h
theorem Ext.frL {K : PySem.W.Frag} {H H' : Hp} {ρ ρ' : List Addr} (e : Ext H ρ H' ρ') {a : Addr} {xs : List V} (h : FrL K H a xs) : FrL K H' a xs := by
  rcases h with ⟨o, h⟩ | h
  · exact .inl ⟨o, e.keep _ _ h (fun m => by have q := e.mu _ m; rw [h] at q; cases q) fun _ z => by cases z⟩
  · exact .inr h
structure Kp (K : PySem.W.Frag) (H : Hp) (ρ : List Addr) (H' : Hp) (ρ' : List Addr) : Prop where
  sqT : ∀ (a : Addr) (xs : List V), SqU K H a xs → SqU K H' a xs
  frL : ∀ (a : Addr) (xs : List V), FrL K H a xs → FrL K H' a xs
  pre : ∀ (n : Nat) (a : Addr), ρ[n]? = some a → ρ'[n]? = some a
mutual
theorem RV.kp {K : PySem.W.Frag} {H H' : Hp} {ρ ρ' : List Addr} (e : Kp K H ρ H' ρ') : ∀ (d : D) (v : V), RV K H ρ d v → RV K H' ρ' d v
  | .non, _, h => h
  | .bl _, _, h => h
  | .int _, _, h => h
  | .str _, _, h => h
  | .tup ds, v, h => by
    obtain ⟨a, xs, h1, h2, h3⟩ := h
    exact ⟨a, xs, h1, e.sqT _ _ h2, RVs.kp e ds xs h3⟩
  | .fl ds, v, h => by
    obtain ⟨a, xs, h1, h2, h3⟩ := h
    exact ⟨a, xs, h1, e.frL _ _ h2, RVs.kp e ds xs h3⟩
  | .ref n, v, h => by
    obtain ⟨a, h1, h2⟩ := h
    exact ⟨a, h1, e.pre _ _ h2⟩
theorem RVs.kp {K : PySem.W.Frag} {H H' : Hp} {ρ ρ' : List Addr} (e : Kp K H ρ H' ρ') : ∀ (ds : List D) (xs : List V), RVs K H ρ ds xs → RVs K H' ρ' ds xs
  | [], _, h => h
  | d :: ds, xs, h => by
    obtain ⟨y, ys, h1, h2, h3⟩ := h
    exact ⟨y, ys, h1, RV.kp e d y h2, RVs.kp e ds ys h3⟩
end
theorem Ext.kp {K : PySem.W.Frag} {H H' : Hp} {ρ ρ' : List Addr} (e : Ext H ρ H' ρ') : Kp K H ρ H' ρ' := ⟨fun _ _ h => e.sqT h, fun _ _ h => e.frL h, e.pre⟩
theorem RV.mono {K : PySem.W.Frag} {H H' : Hp} {ρ ρ' : List Addr} (e : Ext H ρ H' ρ') (d : D) (v : V) (h : RV K H ρ d v) : RV K H' ρ' d v := RV.kp e.kp d v h
theorem RVs.mono {K : PySem.W.Frag} {H H' : Hp} {ρ ρ' : List Addr} (e : Ext H ρ H' ρ') (ds : List D) (xs : List V) (h : RVs K H ρ ds xs) : RVs K H' ρ' ds xs := RVs.kp e.kp ds xs h

def RKVs (K : PySem.W.Frag) (H : Hp) (ρ : List Addr) (kvs : List (Key × D)) (vs : List (Key × V)) : Prop :=
  kvs.map (·.1) = vs.map (·.1) ∧ RVs K H ρ (kvs.map (·.2)) (vs.map (·.2))
def RC (K : PySem.W.Frag) (H : Hp) (ρ : List Addr) : Cell → Option HO → Prop
  | .lst ds, o => ∃ xs, o = some (.lst xs) ∧ RVs K H ρ ds xs
  | .dic kvs, o => ∃ vs, o = some (.dK vs) ∧ RKVs K H ρ kvs vs
theorem RC.isM {K : PySem.W.Frag} {H : Hp} {ρ : List Addr} {c : Cell} {o : Option HO} (h : RC K H ρ c o) : isM o = true := by
  cases c with
  | lst ds => obtain ⟨xs, rfl, _⟩ := h; rfl
  | dic kvs => obtain ⟨vs, rfl, _⟩ := h; rfl
theorem RC.kp {K : PySem.W.Frag} {H H' : Hp} {ρ ρ' : List Addr} (e : Kp K H ρ H' ρ') {c : Cell} {o : Option HO} (h : RC K H ρ c o) : RC K H' ρ' c o := by
  cases c with
  | lst ds => obtain ⟨xs, h1, h2⟩ := h; exact ⟨xs, h1, RVs.kp e _ _ h2⟩
  | dic kvs => obtain ⟨vs, h1, h2, h3⟩ := h; exact ⟨vs, h1, h2, RVs.kp e _ _ h3⟩
theorem RC.mono {K : PySem.W.Frag} {H H' : Hp} {ρ ρ' : List Addr} (e : Ext H ρ H' ρ') {c : Cell} {o : Option HO} (h : RC K H ρ c o) : RC K H' ρ' c o := h.kp e.kp

/-- the tables: what is not a table nor a code object may change -/
theorem tabs_upd {H : Hp} {p : Addr} {o' : HO} {T : List (Addr × Str)} (hm : ∀ o, H p = some o → isM (some o) = true) (t : LamX.Tabs T H) : LamX.Tabs T (upd H p o') := fun x hx => by
  obtain ⟨ps, h1, h2, h3⟩ := t x hx
  have ne : ∀ b o, H b = some o → isM (some o) = false → b ≠ p := fun b o e m z => by
    subst z
    rw [hm o e] at m
    cases m
  refine ⟨ps, by rw [upd_ne (ne _ _ h1 rfl)]; exact h1, h2, fun pos cv hc => ?_⟩
  obtain ⟨c, e1, e2⟩ := h3 pos cv hc
  exact ⟨c, e1, by rw [upd_ne (ne _ _ e2 rfl)]; exact e2⟩
structure RH (K : PySem.W.Frag) (H : Hp) (ρ : List Addr) (h : DHeap) : Prop where
  len : ρ.length = h.length
  nd : ρ.Nodup
  at_ : ∀ (n : Nat) (c : Cell) (a : Addr), h[n]? = some c → ρ[n]? = some a → RC K H ρ c (H a)
  tab : LamX.Tabs TbC.tabs H
theorem RH.mu {K : PySem.W.Frag} {H : Hp} {ρ : List Addr} {h : DHeap} (r : RH K H ρ h) : ∀ b, b ∈ ρ → isM (H b) = true := fun b hb => by
  obtain ⟨n, hn, e⟩ := List.mem_iff_getElem.mp hb
  have e' : ρ[n]? = some b := by rw [List.getElem?_eq_getElem hn, e]
  have hn' : n < h.length := by rw [← r.len]; exact hn
  exact (r.at_ n h[n] b (List.getElem?_eq_getElem hn') e').isM
theorem RH.ext {K : PySem.W.Frag} {H : Hp} {ρ : List Addr} {h : DHeap} (r : RH K H ρ h) : Ext H ρ H ρ :=
  ⟨fun _ _ e => e, fun _ _ e _ _ => e, fun b m n => absurd m n, r.mu⟩
theorem RH.addr {K : PySem.W.Frag} {H : Hp} {ρ : List Addr} {h : DHeap} (r : RH K H ρ h) {n : Nat} {c : Cell} (e : h[n]? = some c) : ∃ a, ρ[n]? = some a := by
  have hn : n < ρ.length := by rw [r.len]; exact (List.getElem?_eq_some_iff.mp e).1
  exact ⟨_, List.getElem?_eq_getElem hn⟩
theorem Ext.trans {H H1 H2 : Hp} {ρ ρ1 ρ2 : List Addr} (a : Ext H ρ H1 ρ1) (b : Ext H1 ρ1 H2 ρ2) : Ext H ρ H2 ρ2 where
  pre := fun n x e => b.pre _ _ (a.pre _ _ e)
  keep := fun c o e m n => b.keep c o (a.keep c o e m n) (fun m1 => by obtain ⟨ps, rfl⟩ := a.fresh c m1 m o e; exact n ps rfl) n
  fresh := fun c m2 m => by
    by_cases m1 : c ∈ ρ1
    · exact a.fresh c m1 m
    · intro o q
      by_cases n : ∃ ps, o = .tbl ps
      · exact n
      · exact b.fresh c m2 m1 o (a.keep c o q m fun ps z => n ⟨ps, z⟩)
  mu := a.mu

theorem Ext.keepM {H H' : Hp} {ρ ρ' : List Addr} (e : Ext H ρ H' ρ') {b : Addr} {o : HO} (h : H b = some o) (n : b ∉ ρ) (m : isM (some o) = true := by rfl) : H' b = some o := e.keep _ _ h n fun ps z => by rw [z] at m; cases m
theorem Ext.updN {H H' : Hp} {ρ ρ' : List Addr} (e : Ext H ρ H' ρ') {b : Addr} {o : HO} (h : NoT H b) : Ext H ρ (upd H' b o) ρ' := by
  refine ⟨e.pre, fun c u q m n => ?_, e.fresh, e.mu⟩
  rw [upd_ne (show c ≠ b from fun z => by subst z; obtain ⟨ps, rfl⟩ := h u q; exact n ps rfl)]
  exact e.keep c u q m n
theorem Ext.noT {K : PySem.W.Frag} {H H' : Hp} {ρ ρ' : List Addr} {h : DHeap} (e : Ext H ρ H' ρ') (rh : RH K H' ρ' h) {b : Addr} (hb : H' b = none) : NoT H b := fun o q => by
  by_cases z : ∃ ps, o = .tbl ps
  · exact z
  · refine absurd hb ?_
    by_cases m : b ∈ ρ
    · obtain ⟨j, hj, ej⟩ := List.mem_iff_getElem.mp m
      have e4 := e.pre j b (by rw [List.getElem?_eq_getElem hj, ej])
      have := rh.mu b (List.mem_of_getElem? e4)
      intro hb
      rw [hb] at this
      cases this
    · rw [e.keep b o q m fun ps y => z ⟨ps, y⟩]
      exact fun y => by cases y
/-- a list of ours, that no number tells, is changed -/
theorem Kp.other {K : PySem.W.Frag} {H : Hp} {ρ : List Addr} {p : Addr} {o o' : HO} (hp : H p = some o) (hm : isM (some o) = true) : Kp K H ρ (upd H p o') ρ := by
  have ne : ∀ b u, H b = some u → isM (some u) = false → b ≠ p := fun b u e m z => by
    subst z
    rw [hp] at e
    cases e
    rw [hm] at m
    cases m
  refine ⟨fun a xs h => ?_, fun a xs h => ?_, fun _ _ e => e⟩
  · rcases h with ⟨u, hd, h⟩ | h
    · exact .inl ⟨u, hd, by rw [upd_ne (ne _ _ h rfl)]; exact h⟩
    · exact .inr h
  · rcases h with ⟨u, h⟩ | h
    · exact .inl ⟨u, by rw [upd_ne (ne _ _ h rfl)]; exact h⟩
    · exact .inr h
theorem RH.other {K : PySem.W.Frag} {H : Hp} {ρ : List Addr} {h : DHeap} (r : RH K H ρ h) {p : Addr} {o o' : HO} (hp : H p = some o) (hm : isM (some o) = true) (np : p ∉ ρ) : RH K (upd H p o') ρ h := by
  refine ⟨r.len, r.nd, fun n d a e1 e2 => ?_, tabs_upd (fun o1 e1 => by rw [hp] at e1; cases e1; exact hm) r.tab⟩
  rw [upd_ne (show a ≠ p from fun e => np (by rw [← e]; exact List.mem_of_getElem? e2))]
  exact (r.at_ n d a e1 e2).kp (Kp.other hp hm)
/-- a list of ours gets a number -/
theorem RH.adopt {K : PySem.W.Frag} {H0 H : Hp} {ρ0 ρ : List Addr} {h : DHeap} (r : RH K H ρ h) (e : Ext H0 ρ0 H ρ) {p : Addr} {o : HO} {c : Cell} (h0 : NoT H0 p) (hp : H p = some o) (np : p ∉ ρ) (hc : RC K H ρ c (some o)) :
    Ext H0 ρ0 H (ρ ++ [p]) ∧ RH K H (ρ ++ [p]) (h ++ [c]) := by
  have kp : Kp K H ρ H (ρ ++ [p]) := ⟨fun _ _ h => h, fun _ _ h => h, fun n a e => by rw [List.getElem?_append_left (List.getElem?_eq_some_iff.mp e).1]; exact e⟩
  refine ⟨⟨fun n a q => kp.pre _ _ (e.pre _ _ q), e.keep, fun b m n => ?_, e.mu⟩, ⟨by rw [List.length_append, List.length_append, r.len]; rfl, ?_, fun n d a e1 e2 => ?_, r.tab⟩⟩
  · rcases List.mem_append.mp m with m | m
    · exact e.fresh b m n
    · rw [List.mem_singleton.mp m]; exact h0
  · refine List.nodup_append.mpr ⟨r.nd, by simp, fun a ha b hb => ?_⟩
    rw [List.mem_singleton.mp hb]
    exact fun z => np (z ▸ ha)
  · by_cases hn : n < h.length
    · rw [List.getElem?_append_left hn] at e1
      rw [List.getElem?_append_left (by rw [r.len]; exact hn)] at e2
      exact (r.at_ n d a e1 e2).kp kp
    · have hn1 : n < h.length + 1 := by have := (List.getElem?_eq_some_iff.mp e1).1; simpa using this
      have hn2 : n = h.length := by omega
      subst hn2
      rw [List.getElem?_append_right (Nat.le_refl _)] at e1
      rw [List.getElem?_append_right (by rw [r.len]; exact Nat.le_refl _), r.len] at e2
      simp at e1 e2
      subst e1; subst e2
      rw [hp]
      exact hc.kp kp

/-- the names -/
def RE (K : PySem.W.Frag) (H : Hp) (ρ : List Addr) (σd : DEnv) (σ : L2.St) : Prop :=
  σd.length = σ.length ∧ ∀ (i : Nat) (d : D), σd[i]? = some (some d) → ∃ v, σ[i]? = some (some v) ∧ RV K H ρ d v
theorem RE.mono {K : PySem.W.Frag} {H H' : Hp} {ρ ρ' : List Addr} (e : Ext H ρ H' ρ') {σd : DEnv} {σ : L2.St} (h : RE K H ρ σd σ) : RE K H' ρ' σd σ :=
  ⟨h.1, fun i d q => let ⟨v, h1, h2⟩ := h.2 i d q; ⟨v, h1, RV.mono e _ _ h2⟩⟩
theorem RE.kp {K : PySem.W.Frag} {H H' : Hp} {ρ ρ' : List Addr} (e : Kp K H ρ H' ρ') {σd : DEnv} {σ : L2.St} (h : RE K H ρ σd σ) : RE K H' ρ' σd σ :=
  ⟨h.1, fun i d q => let ⟨v, h1, h2⟩ := h.2 i d q; ⟨v, h1, RV.kp e _ _ h2⟩⟩
theorem RE.set {K : PySem.W.Frag} {H : Hp} {ρ : List Addr} {σd : DEnv} {σ : L2.St} (h : RE K H ρ σd σ) (i : Nat) {d : D} {v : V} (r : RV K H ρ d v) : RE K H ρ (σd.set i (some d)) (σ.set i (some v)) := by
  refine ⟨by rw [List.length_set, List.length_set]; exact h.1, fun j e q => ?_⟩
  by_cases hj : i = j
  · subst hj
    have hi : i < σd.length := by
      have := (List.getElem?_eq_some_iff.mp q).1
      rwa [List.length_set] at this
    rw [List.getElem?_set_self hi] at q
    have e' : d = e := Option.some.inj (Option.some.inj q)
    subst e'
    exact ⟨v, List.getElem?_set_self (by rw [← h.1]; exact hi), r⟩
  · rw [List.getElem?_set_ne hj] at q
    obtain ⟨w, h1, h2⟩ := h.2 j e q
    exact ⟨w, by rw [List.getElem?_set_ne hj]; exact h1, h2⟩

/-! exceptions -/
structure EX where
  mg : Str → Option Value
  W : WX
/-- what X wishes of an exception -/
def wishOf (X : Cx) : WX := fun cls d σ H => ∀ u s', XE X (fun c' d' σ' H' => c' = cls ∧ d' = d ∧ σ' = σ ∧ H' = H) u s' → X.xe u s'
theorem takes_wish {X : Cx} : Takes X (wishOf X) := fun u s' ⟨a, B, sI, pins, σ, H, cls, d, e, I, nb, up, sky, na, os, ag, w⟩ => w u s' ⟨a, B, sI, pins, σ, H, cls, d, e, I, nb, up, sky, na, os, ag, rfl, rfl, rfl, rfl⟩
theorem wish_of {X : Cx} {V : WX} (tk : Takes X V) {cls : Value} {d : Option Addr} {σ : L2.St} {H : Hp} (h : V cls d σ H) : wishOf X cls d σ H := fun u s' ⟨a, B, sI, pins, σ', H', cls', d', e, I, nb, up, sky, na, os, ag, e1, e2, e3, e4⟩ => by
  subst e1; subst e2; subst e3; subst e4
  exact tk u s' ⟨a, B, sI, pins, _, _, _, _, e, I, nb, up, sky, na, os, ag, h⟩
def XY (X : Cx) : EX := ⟨X.mg, wishOf X⟩
/-- an exception by what is known of it -/
def RX (K : PySem.W.Frag) (mg : Str → Option Value) (H : Hp) (ρ : List Addr) (x : DX) (cls : Value) (d : Option Addr) : Prop :=
  mg x.cls = some cls ∧ ((x.fs = [] ∧ d = none) ∨ x.fs ≠ [] ∧ ∃ a vs, d = some a ∧ H a = some (.xd vs) ∧ x.fs.map (·.1) = vs.map (·.1) ∧ RVs K H ρ (x.fs.map (·.2)) (vs.map (·.2)))
def WishAt (K : PySem.W.Frag) (Y : EX) (x : DX) (s : DEnv) (H' : Hp) (ρ' : List Addr) : Prop :=
  ∀ σ' cls d, RE K H' ρ' s σ' → RX K Y.mg H' ρ' x cls d → Y.W cls d σ' H'

/-- what follows a result -/
def Post (K : PySem.W.Frag) (Y : EX) (H : Hp) (ρ : List Addr) {α β : Type} (R : Hp → List Addr → α → β → Prop) (r : Res α) (Q : β → Hp → Prop) : Prop :=
  match r with
  | .ok a h' => ∀ H' ρ' b, Ext H ρ H' ρ' → RH K H' ρ' h' → R H' ρ' a b → Q b H'
  | .bad => False
  | .exc x s h' => ∀ H' ρ', Ext H ρ H' ρ' → RH K H' ρ' h' → WishAt K Y x s H' ρ'
theorem Post.ext {K : PySem.W.Frag} {Y : EX} {H H1 : Hp} {ρ ρ1 : List Addr} {α β : Type} {R : Hp → List Addr → α → β → Prop} {r : Res α} {Q : β → Hp → Prop} (e : Ext H ρ H1 ρ1) (h : Post K Y H ρ R r Q) : Post K Y H1 ρ1 R r Q := by
  cases r with
  | ok a h' => exact fun H' ρ' b x y z => h H' ρ' b (e.trans x) y z
  | bad => exact h
  | exc x s h' => exact fun H' ρ' x y => h H' ρ' (e.trans x) y
theorem Post.bind {K : PySem.W.Frag} {Y : EX} {H : Hp} {ρ : List Addr} {α β γ δ : Type} {R : Hp → List Addr → α → β → Prop} {R' : Hp → List Addr → γ → δ → Prop} {r : Res α} {k : α → DHeap → Res γ} {Q : δ → Hp → Prop} (h : Post K Y H ρ R' (r.bind k) Q) :
    Post K Y H ρ R r (fun b H1 => ∃ a h1 ρ1, Ext H ρ H1 ρ1 ∧ RH K H1 ρ1 h1 ∧ R H1 ρ1 a b ∧ Post K Y H1 ρ1 R' (k a h1) Q) := by
  cases r with
  | ok a h1 => exact fun H' ρ' b x y z => ⟨a, h1, ρ', x, y, z, Post.ext x h⟩
  | bad => exact h
  | exc x s h' => exact h
theorem Post.mono {K : PySem.W.Frag} {Y : EX} {H : Hp} {ρ : List Addr} {α β : Type} {R : Hp → List Addr → α → β → Prop} {r : Res α} {Q Q' : β → Hp → Prop} (h : Post K Y H ρ R r Q) (q : ∀ b H, Q b H → Q' b H) : Post K Y H ρ R r Q' := by
  cases r with
  | ok a h' => exact fun H' ρ' b x y z => q _ _ (h H' ρ' b x y z)
  | bad => exact h
  | exc x s h' => exact h
theorem Post.ok {K : PySem.W.Frag} {Y : EX} {H : Hp} {ρ : List Addr} {α β : Type} {R : Hp → List Addr → α → β → Prop} {a : α} {b : β} {h : DHeap} {Q : β → Hp → Prop} (p : Post K Y H ρ R (.ok a h) Q) (rh : RH K H ρ h) (r : R H ρ a b) : Q b H :=
  p H ρ b rh.ext rh r

theorem Post.is_ok {K : PySem.W.Frag} {Y : EX} {H : Hp} {ρ : List Addr} {α β : Type} {R : Hp → List Addr → α → β → Prop} {r : Res α} {Q : β → Hp → Prop} (p : Post K Y H ρ R r Q) : (∃ a h', r = .ok a h') ∨ ∃ x s h', r = .exc x s h' := by
  cases r with
  | ok a h' => exact .inl ⟨a, h', rfl⟩
  | bad => exact p.elim
  | exc x s h' => exact .inr ⟨x, s, h', rfl⟩
/-- the least: no exception -/
theorem Post.weak {K : PySem.W.Frag} {Y : EX} {H : Hp} {ρ : List Addr} {α β : Type} {R : Hp → List Addr → α → β → Prop} {r : Res α} {Q : β → Hp → Prop} (p : Post K Y H ρ R r.calm Q) : Post K Y H ρ R r Q := by
  cases r with
  | ok a h' => exact p
  | bad => exact p
  | exc x s h' => exact p.elim

/-- a new cell -/
theorem RH.push {K : PySem.W.Frag} {H : Hp} {ρ : List Addr} {h : DHeap} (r : RH K H ρ h) {p : Addr} {o : HO} {c : Cell} (hp : H p = none) (hm : isM (some o) = true) (hc : RC K H ρ c (some o)) :
    Ext H ρ (upd H p o) (ρ ++ [p]) ∧ RH K (upd H p o) (ρ ++ [p]) (h ++ [c]) := by
  have np : p ∉ ρ := fun m => by have q := r.mu p m; rw [hp] at q; cases q
  have ex : Ext H ρ (upd H p o) (ρ ++ [p]) := by
    refine ⟨fun n a e => ?_, fun b u e m _ => ?_, fun b m n => ?_, r.mu⟩
    · rw [List.getElem?_append_left (List.getElem?_eq_some_iff.mp e).1]; exact e
    · rw [upd_ne (ne_of_none e hp)]; exact e
    · rcases List.mem_append.mp m with m | m
      · exact absurd m n
      · rw [List.mem_singleton.mp m]; exact .none hp
  refine ⟨ex, ⟨by rw [List.length_append, List.length_append, r.len]; rfl, ?_, fun n d a e1 e2 => ?_, tabs_upd (fun o1 e1 => by rw [hp] at e1; cases e1) r.tab⟩⟩
  · refine List.nodup_append.mpr ⟨r.nd, by simp, fun a ha b hb => ?_⟩
    rw [List.mem_singleton.mp hb]
    exact fun e => np (e ▸ ha)
  · by_cases hn : n < h.length
    · rw [List.getElem?_append_left hn] at e1
      rw [List.getElem?_append_left (by rw [r.len]; exact hn)] at e2
      have ha : a ≠ p := fun e => np (e ▸ List.mem_of_getElem? e2)
      rw [upd_ne ha]
      exact (r.at_ n d a e1 e2).mono ex
    · have hn1 : n < h.length + 1 := by have := (List.getElem?_eq_some_iff.mp e1).1; simpa using this
      have hn2 : n = h.length := by omega
      subst hn2
      rw [List.getElem?_append_right (Nat.le_refl _)] at e1
      rw [List.getElem?_append_right (by rw [r.len]; exact Nat.le_refl _), r.len] at e2
      simp at e1 e2
      subst e1; subst e2
      rw [upd_same]
      exact hc.mono ex
/-- a cell changed -/
theorem RH.put {K : PySem.W.Frag} {H : Hp} {ρ : List Addr} {h : DHeap} (r : RH K H ρ h) {n : Nat} {a : Addr} {o : HO} {c : Cell} (ha : ρ[n]? = some a) (hm : isM (some o) = true) (hc : RC K H ρ c (some o)) :
    Ext H ρ (upd H a o) ρ ∧ RH K (upd H a o) ρ (h.set n c) := by
  have ma : a ∈ ρ := List.mem_of_getElem? ha
  have ex : Ext H ρ (upd H a o) ρ := ⟨fun _ _ e => e, fun b u e m _ => by rw [upd_ne (show b ≠ a from fun z => m (by rw [z]; exact ma))]; exact e, fun b m n => absurd m n, r.mu⟩
  refine ⟨ex, ⟨by rw [List.length_set]; exact r.len, r.nd, fun j d b e1 e2 => ?_, tabs_upd (fun o1 e1 => by have q := r.mu a ma; rw [e1] at q; exact q) r.tab⟩⟩
  by_cases hj : n = j
  · subst hj
    have e : b = a := Option.some.inj (e2.symm.trans ha)
    subst e
    have hn : n < h.length := by have := (List.getElem?_eq_some_iff.mp e1).1; rwa [List.length_set] at this
    rw [List.getElem?_set_self hn] at e1
    cases e1
    rw [upd_same]
    exact hc.mono ex
  · rw [List.getElem?_set_ne hj] at e1
    have hb : b ≠ a := fun e => by
      subst e
      exact hj (nd_ix r.nd ha e2)
    rw [upd_ne hb]
    exact (r.at_ j d b e1 e2).mono ex
/-- a new thing that is not mutable, or not told -/
theorem RH.lay {K : PySem.W.Frag} {H : Hp} {ρ : List Addr} {h : DHeap} (r : RH K H ρ h) {p : Addr} (o : HO) (hp : H p = none) : Ext H ρ (upd H p o) ρ ∧ RH K (upd H p o) ρ h := by
  have np : p ∉ ρ := fun m => by have q := r.mu p m; rw [hp] at q; cases q
  have ex : Ext H ρ (upd H p o) ρ := ⟨fun _ _ e => e, fun b u e m _ => by rw [upd_ne (ne_of_none e hp)]; exact e, fun b m n => absurd m n, r.mu⟩
  refine ⟨ex, ⟨r.len, r.nd, fun n d a e1 e2 => ?_, tabs_upd (fun o1 e1 => by rw [hp] at e1; cases e1) r.tab⟩⟩
  rw [upd_ne (show a ≠ p from fun e => np (by rw [← e]; exact List.mem_of_getElem? e2))]
  exact (r.at_ n d a e1 e2).mono ex

theorem RVs.len {K : PySem.W.Frag} {H : Hp} {ρ : List Addr} : ∀ {ds : List D} {xs : List V}, RVs K H ρ ds xs → ds.length = xs.length
  | [], xs, h => by rw [show xs = [] from h]; rfl
  | d :: ds, xs, h => by
    obtain ⟨y, ys, rfl, _, h3⟩ := h
    rw [List.length_cons, List.length_cons, RVs.len h3]
theorem RVs.get {K : PySem.W.Frag} {H : Hp} {ρ : List Addr} : ∀ {ds : List D} {xs : List V} {i : Nat} {d : D}, RVs K H ρ ds xs → ds[i]? = some d → ∃ v, xs[i]? = some v ∧ RV K H ρ d v
  | [], _, _, _, _, e => by simp at e
  | d :: ds, xs, 0, d', h, e => by
    obtain ⟨y, ys, rfl, h2, _⟩ := h
    simp at e; subst e
    exact ⟨y, rfl, h2⟩
  | d :: ds, xs, i + 1, d', h, e => by
    obtain ⟨y, ys, rfl, _, h3⟩ := h
    simp at e
    obtain ⟨v, h4, h5⟩ := RVs.get h3 e
    exact ⟨v, by simpa using h4, h5⟩
theorem RVs.app {K : PySem.W.Frag} {H : Hp} {ρ : List Addr} : ∀ {ds es : List D} {xs ys : List V}, RVs K H ρ ds xs → RVs K H ρ es ys → RVs K H ρ (ds ++ es) (xs ++ ys)
  | [], es, xs, ys, h, q => by rw [show xs = [] from h]; exact q
  | d :: ds, es, xs, ys, h, q => by
    obtain ⟨y, zs, rfl, h2, h3⟩ := h
    exact ⟨y, zs ++ ys, rfl, h2, RVs.app h3 q⟩
theorem RVs.drop {K : PySem.W.Frag} {H : Hp} {ρ : List Addr} : ∀ (n : Nat) {ds : List D} {xs : List V}, RVs K H ρ ds xs → RVs K H ρ (ds.drop n) (xs.drop n)
  | 0, _, _, h => h
  | n + 1, [], xs, h => by rw [show xs = [] from h]; rfl
  | n + 1, d :: ds, xs, h => by
    obtain ⟨y, ys, rfl, _, h3⟩ := h
    exact RVs.drop n h3
theorem RVs.take {K : PySem.W.Frag} {H : Hp} {ρ : List Addr} : ∀ (n : Nat) {ds : List D} {xs : List V}, RVs K H ρ ds xs → RVs K H ρ (ds.take n) (xs.take n)
  | 0, _, _, h => rfl
  | n + 1, [], xs, h => by rw [show xs = [] from h]; rfl
  | n + 1, d :: ds, xs, h => by
    obtain ⟨y, ys, rfl, h2, h3⟩ := h
    exact ⟨y, ys.take n, rfl, h2, RVs.take n h3⟩
theorem RVs.one {K : PySem.W.Frag} {H : Hp} {ρ : List Addr} {d : D} {v : V} (h : RV K H ρ d v) : RVs K H ρ [d] [v] := ⟨v, [], rfl, h, rfl⟩
theorem RVs.setAt {K : PySem.W.Frag} {H : Hp} {ρ : List Addr} : ∀ (n : Nat) {ds : List D} {xs : List V} {d : D} {v : V}, RVs K H ρ ds xs → RV K H ρ d v → RVs K H ρ (ds.set n d) (xs.set n v)
  | _, [], xs, d, v, h, _ => by rw [show xs = [] from h]; rfl
  | 0, e :: ds, xs, d, v, h, r => by
    obtain ⟨y, ys, rfl, _, h3⟩ := h
    exact ⟨v, ys, rfl, r, h3⟩
  | n + 1, e :: ds, xs, d, v, h, r => by
    obtain ⟨y, ys, rfl, h2, h3⟩ := h
    exact ⟨y, ys.set n v, rfl, h2, RVs.setAt n h3 r⟩
theorem RVs.inv1 {K : PySem.W.Frag} {H : Hp} {ρ : List Addr} {d : D} {xs : List V} (h : RVs K H ρ [d] xs) : ∃ v, xs = [v] ∧ RV K H ρ d v := by
  obtain ⟨y, ys, rfl, h2, h3⟩ := h
  rw [show ys = [] from h3]
  exact ⟨y, rfl, h2⟩
theorem RVs.inv2 {K : PySem.W.Frag} {H : Hp} {ρ : List Addr} {d e : D} {xs : List V} (h : RVs K H ρ [d, e] xs) : ∃ v w, xs = [v, w] ∧ RV K H ρ d v ∧ RV K H ρ e w := by
  obtain ⟨y, ys, rfl, h2, h3⟩ := h
  obtain ⟨w, rfl, h4⟩ := RVs.inv1 h3
  exact ⟨y, w, rfl, h2, h4⟩
theorem RVs.ints {K : PySem.W.Frag} {H : Hp} {ρ : List Addr} : ∀ {ns : List Int} {xs : List V}, RVs K H ρ (ns.map D.int) xs → xs = ns.map V.int
  | [], _, h => h
  | n :: ns, xs, h => by
    obtain ⟨y, ys, rfl, h2, h3⟩ := h
    rw [show y = V.int n from h2, RVs.ints h3]; rfl
theorem RVs.ofInts {K : PySem.W.Frag} {H : Hp} {ρ : List Addr} : ∀ (ns : List Int), RVs K H ρ (ns.map D.int) (ns.map V.int)
  | [] => rfl
  | n :: ns => ⟨_, _, rfl, rfl, RVs.ofInts ns⟩

/-! ### judgements -/
def rdG (K : PySem.W.Frag) (Y : EX) {α β : Type} (R : Hp → List Addr → α → β → Prop) (f : DEnv → DHeap → Res α) : L2.St → Hp → (β → Hp → Prop) → Prop := fun σ H Q =>
  ∃ σd h ρ, RE K H ρ σd σ ∧ RH K H ρ h ∧ Post K Y H ρ R (f σd h) Q
abbrev M (α : Type) := DEnv → DHeap → Res α
structure DE (X : Cx) (e : Expr) (f : M D) : Prop where
  run : PE X e (rdG X.K (XY X) (RV X.K) f)
def RB (_ : Hp) (_ : List Addr) (a b : Bool) : Prop := a = b
structure DT (X : Cx) (e : Expr) (f : M Bool) : Prop where
  run : PT X e (rdG X.K (XY X) RB f)
structure DW (X : Cx) (e : Expr) (f : M Bool) : Prop where
  run : PW X e (rdG X.K (XY X) RB f)
structure DA (X : Cx) (es : List Expr) (f : M (List D)) : Prop where
  run : PA X es (rdG X.K (XY X) (RVs X.K) f)
inductive Fl where
  | nx (σ : DEnv) | rt (d : D) | bk (σ : DEnv) | ct (σ : DEnv)
/-- how a statement ends -/
def EndsAt (K : PySem.W.Frag) (H' : Hp) (ρ' : List Addr) (E : Ends) (fl : Fl) : Prop :=
  match fl with
  | .nx σd => ∀ σ, RE K H' ρ' σd σ → E.nx σ H'
  | .rt d => ∀ v, RV K H' ρ' d v → E.rt v H'
  | .bk σd => ∀ σ, RE K H' ρ' σd σ → E.bk σ H'
  | .ct σd => ∀ σ, RE K H' ρ' σd σ → E.ct σ H'
def PostS (K : PySem.W.Frag) (Y : EX) (H : Hp) (ρ : List Addr) (r : Res Fl) (E : Ends) : Prop :=
  match r with
  | .ok fl h' => ∀ H' ρ', Ext H ρ H' ρ' → RH K H' ρ' h' → EndsAt K H' ρ' E fl
  | .bad => False
  | .exc x s h' => ∀ H' ρ', Ext H ρ H' ρ' → RH K H' ρ' h' → WishAt K Y x s H' ρ'
def rdS (K : PySem.W.Frag) (Y : EX) (f : M Fl) : TS := fun E σ H => ∃ σd h ρ, RE K H ρ σd σ ∧ RH K H ρ h ∧ PostS K Y H ρ (f σd h) E
structure DS (X : Cx) (st : Stmt) (f : M Fl) : Prop where
  run : PS X st (rdS X.K (XY X) f)
structure DSs (X : Cx) (st : List Stmt) (f : M Fl) : Prop where
  run : PSs X st (rdS X.K (XY X) f)

theorem peI {X : Cx} {e : Expr} {t t' : TE} (h : PE X e t) (i : ∀ σ H Q, t' σ H Q → t σ H Q) : PE X e t' := ⟨fun pins s σ H Q I q => h.run pins s σ H Q I (i σ H Q q)⟩
theorem ptI {X : Cx} {e : Expr} {t t' : TT} (h : PT X e t) (i : ∀ σ H Q, t' σ H Q → t σ H Q) : PT X e t' := ⟨fun pins s σ H Q I q => h.run pins s σ H Q I (i σ H Q q)⟩
theorem pwI {X : Cx} {e : Expr} {t t' : TT} (h : PW X e t) (i : ∀ σ H Q, t' σ H Q → t σ H Q) : PW X e t' := ⟨fun wh pins s σ H Q I q => h.run wh pins s σ H Q I (i σ H Q q)⟩
theorem paI {X : Cx} {e : List Expr} {t t' : TA} (h : PA X e t) (i : ∀ σ H Q, t' σ H Q → t σ H Q) : PA X e t' := ⟨fun pos pins s σ H Q I q => h.run pos pins s σ H Q I (i σ H Q q)⟩
theorem psI {X : Cx} {e : Stmt} {t t' : TS} (h : PS X e t) (i : ∀ E σ H, t' E σ H → t E σ H) : PS X e t' := ⟨fun pins s σ H E I q => h.run pins s σ H E I (i E σ H q)⟩
theorem pssI {X : Cx} {e : List Stmt} {t t' : TS} (h : PSs X e t) (i : ∀ E σ H, t' E σ H → t E σ H) : PSs X e t' := ⟨fun pins s σ H E I q => h.run pins s σ H E I (i E σ H q)⟩

/-- statements behind a result -/
theorem PostS.ext {K : PySem.W.Frag} {Y : EX} {H H1 : Hp} {ρ ρ1 : List Addr} {r : Res Fl} {E : Ends} (e : Ext H ρ H1 ρ1) (h : PostS K Y H ρ r E) : PostS K Y H1 ρ1 r E := by
  cases r with
  | ok a h' => exact fun H' ρ' x y => h H' ρ' (e.trans x) y
  | bad => exact h
  | exc x s h' => exact fun H' ρ' x y => h H' ρ' (e.trans x) y
theorem PostS.bind {K : PySem.W.Frag} {Y : EX} {H : Hp} {ρ : List Addr} {α β : Type} {R : Hp → List Addr → α → β → Prop} {r : Res α} {k : α → DHeap → Res Fl} {E : Ends} (h : PostS K Y H ρ (r.bind k) E) :
    Post K Y H ρ R r (fun b H1 => ∃ a h1 ρ1, Ext H ρ H1 ρ1 ∧ RH K H1 ρ1 h1 ∧ R H1 ρ1 a b ∧ PostS K Y H1 ρ1 (k a h1) E) := by
  cases r with
  | ok a h1 => exact fun H' ρ' b x y z => ⟨a, h1, ρ', x, y, z, PostS.ext x h⟩
  | bad => exact h
  | exc x s h' => exact h
/-- a statement's result, then what follows -/
theorem PostS.seq {K : PySem.W.Frag} {Y : EX} {H : Hp} {ρ : List Addr} {r : Res Fl} {k : Fl → DHeap → Res Fl} {E E' : Ends} (h : PostS K Y H ρ (r.bind k) E)
    (q : ∀ fl h1 H1 ρ1, Ext H ρ H1 ρ1 → RH K H1 ρ1 h1 → PostS K Y H1 ρ1 (k fl h1) E → EndsAt K H1 ρ1 E' fl) : PostS K Y H ρ r E' := by
  cases r with
  | ok a h1 => exact fun H' ρ' x y => q a h1 H' ρ' x y (PostS.ext x h)
  | bad => exact h
  | exc x s h' => exact h
theorem PostS.ok {K : PySem.W.Frag} {Y : EX} {H : Hp} {ρ : List Addr} {fl : Fl} {h : DHeap} {E : Ends} (p : PostS K Y H ρ (.ok fl h) E) (rh : RH K H ρ h) : EndsAt K H ρ E fl := p H ρ rh.ext rh
end DL

set_option Elab.async false
set_option linter.all false
set_option maxRecDepth 100000
namespace DL
open PySem PySem.Spec PyProof.Rows L2
variable [TbC]
section
variable {X : Cx} {pos : Pos} {e a b : Expr} {fa fb fc : M D}

def vr (i : Nat) : M D := fun σ h => match σ[i]? with | some (some d) => .ok d h | _ => .bad
theorem de_vr (i : Nat) {x : Str} (hN : X.N[i]? = some x := by rfl) (hv : Vis X.env.scope x := by first | exact Or.inl rfl | exact Or.inr (Or.inl rfl) | exact Or.inr (Or.inr rfl)) (hd : (x == ("__debug__" : Str)) = false := by decide)
    (hcd : (x == ("__classdict__" : Str)) = false := by decide) : DE X (.Name x pos) (vr i) := ⟨peI (pv i hN hv hd hcd) fun σ H Q q => by
  obtain ⟨σd, h, ρ, re, rh, p⟩ := q
  unfold vr at p
  cases q1 : σd[i]? with
  | none => rw [q1] at p; exact p.elim
  | some o =>
    cases o with
    | none => rw [q1] at p; exact p.elim
    | some d =>
      rw [q1] at p
      obtain ⟨v, h1, h2⟩ := re.2 i d q1
      exact ⟨v, h1, p.ok rh h2⟩⟩
def cst (d : D) : M D := fun _ h => .ok d h
theorem de_c {d : D} {v : V} (hp : PE X e (tC v)) (hr : ∀ H ρ, RV X.K H ρ d v) : DE X e (cst d) := ⟨peI hp fun σ H Q q => by
  obtain ⟨σd, h, ρ, re, rh, p⟩ := q
  exact p.ok rh (hr _ _)⟩
theorem de_int {i j} : DE X (.Constant (.int i) j pos) (cst (.int i)) := de_c pe_int fun _ _ => rfl
theorem de_bl {i j} : DE X (.Constant (.bool i) j pos) (cst (.bl i)) := de_c pe_bl fun _ _ => rfl
theorem de_non {j} : DE X (.Constant .none j pos) (cst .non) := de_c pe_non fun _ _ => rfl
theorem de_str {x j} : DE X (.Constant (.str x) j pos) (cst (.str x)) := de_c pe_str fun _ _ => rfl

/-! operators, by values -/
def RO (K : PySem.W.Frag) (Y : EX) (m : D → D → DHeap → Res D) : R2 := fun x y H Q => ∃ dx dy h ρ, RV K H ρ dx x ∧ RV K H ρ dy y ∧ RH K H ρ h ∧ Post K Y H ρ (RV K) (m dx dy h) Q
theorem opI {f : Value → Value → Sem Value} {r r' : R2} (ho : OpR X f r) (i : ∀ x y H Q, r' x y H Q → r x y H Q) : OpR X f r' :=
  fun pins s σ H x y v u Q I rx ry q => ho pins s σ H x y v u Q I rx ry (i x y H Q q)
def bin2 (m : D → D → DHeap → Res D) (fa fb : M D) : M D := fun σ h => (fa σ h).bind fun x h1 => (fb σ h1).bind fun y h2 => m x y h2
theorem two {K : PySem.W.Frag} {Y : EX} {m : D → D → DHeap → Res D} {σ : L2.St} {H : Hp} {Q : VK} (q : rdG K Y (RV K) (bin2 m fa fb) σ H Q) :
    rdG K Y (RV K) fa σ H fun x H1 => rdG K Y (RV K) fb σ H1 fun y H2 => RO K Y m x y H2 Q := by
  obtain ⟨σd, h, ρ, re, rh, p⟩ := q
  refine ⟨σd, h, ρ, re, rh, p.bind.mono fun x H1 ⟨d, h1, ρ1, e1, rh1, r1, p1⟩ => ?_⟩
  exact ⟨σd, h1, ρ1, re.mono e1, rh1, p1.bind.mono fun y H2 ⟨d2, h2, ρ2, e2, rh2, r2, p2⟩ => ⟨d, d2, h2, ρ2, RV.mono e2 _ _ r1, r2, rh2, p2⟩⟩
theorem de_op {op : Operator} {m : D → D → DHeap → Res D} (ho : OpR X (binaryOp op) (RO X.K (XY X) m)) (ha : DE X a fa) (hb : DE X b fb) : DE X (.BinOp a op b pos) (bin2 m fa fb) :=
  ⟨peI (pe_op ho ha.run hb.run) fun _ _ _ q => two q⟩
theorem de_cmp {op : CmpOp} {m : D → D → DHeap → Res D} (ho : OpR X (compareOp op) (RO X.K (XY X) m)) (ha : DE X a fa) (hb : DE X b fb) (hm : behindInMarks op b = false) : DE X (.Compare a [op] [b] pos) (bin2 m fa fb) :=
  ⟨peI (pe_cmpR ho ha.run hb.run hm) fun _ _ _ q => two q⟩
def tst (f : M D) : M Bool := fun σ h => (f σ h).bind fun d h1 => match d with | .bl b => .ok b h1 | _ => .bad
theorem tst_rd {K : PySem.W.Frag} {Y : EX} {f : M D} {σ : L2.St} {H : Hp} {Q : Bool → Hp → Prop} (q : rdG K Y RB (tst f) σ H Q) : rdG K Y (RV K) f σ H fun x H1 => ∃ k, x = .bl k ∧ Q k H1 := by
  obtain ⟨σd, h, ρ, re, rh, p⟩ := q
  refine ⟨σd, h, ρ, re, rh, p.bind.mono fun x H1 ⟨d, h1, ρ1, e1, rh1, r1, p1⟩ => ?_⟩
  cases d with
  | bl k => exact ⟨k, r1, p1.ok rh1 (rfl : RB _ _ k k)⟩
  | _ => exact p1.elim
theorem dt_val {f : M D} (h : DE X e f) (he : ∀ whole, isTrue e X.env whole = (do let v ← whole; standAt e.pos; holding [v] (truthy v)) := by intro _; rfl) : DT X e (tst f) :=
  ⟨ptI (pt_val h.run he) fun _ _ _ q => tst_rd q⟩
theorem dt_cmp {op : CmpOp} {m : D → D → DHeap → Res D} (ho : OpR X (compareOp op) (RO X.K (XY X) m)) (ha : DE X a fa) (hb : DE X b fb) (hm : behindInMarks op b = false) : DT X (.Compare a [op] [b] pos) (tst (bin2 m fa fb)) :=
  ⟨ptI (pt_cmpR ho ha.run hb.run hm) fun σ H Q q => two (Q := fun x H' => ∃ k, x = .bl k ∧ Q k H') (tst_rd q)⟩

/-! and, or, not -/
def andT (f g : M Bool) : M Bool := fun σ h => (f σ h).bind fun b h1 => if b = true then g σ h1 else .ok false h1
def orT (f g : M Bool) : M Bool := fun σ h => (f σ h).bind fun b h1 => if b = true then .ok true h1 else g σ h1
def notT (f : M Bool) : M Bool := fun σ h => (f σ h).bind fun b h1 => .ok (!b) h1
variable {ta tb : M Bool} {rest : List Expr}
theorem dt_w (h : DW X e ta) : DT X e ta := ⟨h.run.pt⟩
theorem dw_and1 (ha : DT X a ta) : DW X (.BoolOp .And [a] pos) ta := ⟨pw_and1 ha.run⟩
theorem dw_or1 (ha : DT X a ta) : DW X (.BoolOp .Or [a] pos) ta := ⟨pw_or1 ha.run⟩
theorem dw_and (ha : DT X a ta) (hb : DW X (.BoolOp .And (b :: rest) pos) tb) : DW X (.BoolOp .And (a :: b :: rest) pos) (andT ta tb) :=
  ⟨pwI (pw_and ha.run hb.run) fun σ H Q q => by
    obtain ⟨σd, h, ρ, re, rh, p⟩ := q
    refine ⟨σd, h, ρ, re, rh, p.bind.mono fun x H1 ⟨d, h1, ρ1, e1, rh1, r1, p1⟩ => ?_⟩
    cases (show d = x from r1)
    cases x with
    | true => exact ⟨σd, h1, ρ1, re.mono e1, rh1, p1⟩
    | false => exact p1.ok rh1 (rfl : RB _ _ false false)⟩
theorem dw_or (ha : DT X a ta) (hb : DW X (.BoolOp .Or (b :: rest) pos) tb) : DW X (.BoolOp .Or (a :: b :: rest) pos) (orT ta tb) :=
  ⟨pwI (pw_or ha.run hb.run) fun σ H Q q => by
    obtain ⟨σd, h, ρ, re, rh, p⟩ := q
    refine ⟨σd, h, ρ, re, rh, p.bind.mono fun x H1 ⟨d, h1, ρ1, e1, rh1, r1, p1⟩ => ?_⟩
    cases (show d = x from r1)
    cases x with
    | false => exact ⟨σd, h1, ρ1, re.mono e1, rh1, p1⟩
    | true => exact p1.ok rh1 (rfl : RB _ _ true true)⟩
theorem dt_not (ha : DT X a ta) : DT X (.UnaryOp .Not a pos) (notT ta) :=
  ⟨ptI (pt_not ha.run) fun σ H Q q => by
    obtain ⟨σd, h, ρ, re, rh, p⟩ := q
    refine ⟨σd, h, ρ, re, rh, p.bind.mono fun x H1 ⟨d, h1, ρ1, e1, rh1, r1, p1⟩ => ?_⟩
    cases (show d = x from r1)
    exact p1.ok rh1 (rfl : RB _ _ _ _)⟩
def andV (f g : M D) : M D := fun σ h => (f σ h).bind fun d h1 => match d with | .bl b => (if b = true then g σ h1 else .ok (.bl false) h1) | _ => .bad
def orV (f g : M D) : M D := fun σ h => (f σ h).bind fun d h1 => match d with | .bl b => (if b = true then .ok (.bl true) h1 else g σ h1) | _ => .bad
def notV (f : M D) : M D := fun σ h => (f σ h).bind fun d h1 => match d with | .bl b => .ok (.bl (!b)) h1 | _ => .bad
theorem de_one {op} (ha : DE X a fa) : DE X (.BoolOp op [a] pos) fa := ⟨pe_one ha.run⟩
theorem de_and (ha : DE X a fa) (hb : DE X (.BoolOp .And (b :: rest) pos) fb) : DE X (.BoolOp .And (a :: b :: rest) pos) (andV fa fb) :=
  ⟨peI (pe_and ha.run hb.run) fun σ H Q q => by
    obtain ⟨σd, h, ρ, re, rh, p⟩ := q
    refine ⟨σd, h, ρ, re, rh, p.bind.mono fun x H1 ⟨d, h1, ρ1, e1, rh1, r1, p1⟩ => ?_⟩
    cases d with
    | bl k =>
      refine ⟨k, r1, ?_⟩
      cases k with
      | true => exact ⟨σd, h1, ρ1, re.mono e1, rh1, p1⟩
      | false => exact Post.ok p1 rh1 (rfl : RV X.K H1 ρ1 (.bl false) (.bl false))
    | _ => exact p1.elim⟩
theorem de_or (ha : DE X a fa) (hb : DE X (.BoolOp .Or (b :: rest) pos) fb) : DE X (.BoolOp .Or (a :: b :: rest) pos) (orV fa fb) :=
  ⟨peI (pe_or ha.run hb.run) fun σ H Q q => by
    obtain ⟨σd, h, ρ, re, rh, p⟩ := q
    refine ⟨σd, h, ρ, re, rh, p.bind.mono fun x H1 ⟨d, h1, ρ1, e1, rh1, r1, p1⟩ => ?_⟩
    cases d with
    | bl k =>
      refine ⟨k, r1, ?_⟩
      cases k with
      | false => exact ⟨σd, h1, ρ1, re.mono e1, rh1, p1⟩
      | true => exact Post.ok p1 rh1 (rfl : RV X.K H1 ρ1 (.bl true) (.bl true))
    | _ => exact p1.elim⟩
theorem de_not (ha : DE X a fa) : DE X (.UnaryOp .Not a pos) (notV fa) :=
  ⟨peI (pe_not ha.run) fun σ H Q q => by
    obtain ⟨σd, h, ρ, re, rh, p⟩ := q
    refine ⟨σd, h, ρ, re, rh, p.bind.mono fun x H1 ⟨d, h1, ρ1, e1, rh1, r1, p1⟩ => ?_⟩
    cases d with
    | bl k => exact ⟨k, r1, Post.ok p1 rh1 (rfl : RV X.K H1 ρ1 (.bl (!k)) (.bl (!k)))⟩
    | _ => exact p1.elim⟩
def ifV (t : M Bool) (f g : M D) : M D := fun σ h => (t σ h).bind fun b h1 => if b = true then f σ h1 else g σ h1
theorem de_if {c : Expr} (hc : DT X c ta) (ha : DE X a fa) (hb : DE X b fb) : DE X (.IfExp c a b pos) (ifV ta fa fb) :=
  ⟨peI (pe_ifExp hc.run ha.run hb.run) fun σ H Q q => by
    obtain ⟨σd, h, ρ, re, rh, p⟩ := q
    refine ⟨σd, h, ρ, re, rh, p.bind.mono fun x H1 ⟨d, h1, ρ1, e1, rh1, r1, p1⟩ => ?_⟩
    cases (show d = x from r1)
    cases x with
    | true => exact ⟨σd, h1, ρ1, re.mono e1, rh1, p1⟩
    | false => exact ⟨σd, h1, ρ1, re.mono e1, rh1, p1⟩⟩
end

/-! ### the operators -/
section
variable {X : Cx}
def addD : D → D → DHeap → Res D
  | .int i, .int j, h => .ok (.int (i + j)) h
  | .str x, .str y, h => if x.length + y.length ≤ sizeLine then .ok (.str (x ++ y)) h else .bad
  | .tup xs, .tup ys, h => if xs.length + ys.length ≤ sizeLine then .ok (.tup (xs ++ ys)) h else .bad
  | .ref m, .ref n, h => match h[m]?, h[n]? with
    | some (.lst xs), some (.lst ys) => if xs.length + ys.length ≤ sizeLine then .ok (.ref h.length) (h ++ [.lst (xs ++ ys)]) else .bad
    | _, _ => .bad
  | _, _, _ => .bad
theorem od_add : OpR X (binaryOp .Add) (RO X.K (XY X) addD) := opI (op_add.or (op_add_str.or (opCatU.or op_cat))) fun x y H Q q => by
  obtain ⟨dx, dy, h, ρ, rx, ry, rh, p⟩ := q
  cases dx with
  | int i =>
    cases dy with
    | int j => exact .inl ⟨i, j, rx, ry, Post.ok p rh (rfl : RV X.K H ρ (.int (i + j)) _)⟩
    | _ => exact p.elim
  | str i =>
    cases dy with
    | str j =>
      simp only [addD] at p
      split at p
      · rename_i hl
        exact .inr (.inl ⟨i, j, rx, ry, hl, Post.ok p rh (rfl : RV X.K H ρ (.str (i ++ j)) _)⟩)
      · exact p.elim
    | _ => exact p.elim
  | tup xs =>
    cases dy with
    | tup ys =>
      simp only [addD] at p
      split at p
      · rename_i hl
        obtain ⟨a, vs, e1, s1, r1⟩ := rx
        obtain ⟨b, ws, e2, s2, r2⟩ := ry
        refine .inr (.inr (.inl ⟨a, b, vs, ws, e1, e2, s1.sq, s2.sq, by rw [← r1.len, ← r2.len]; exact hl, fun e0 => ?_, fun e0 e3 => ?_, fun e0 e3 l hn ob hd => ?_⟩))
        · subst e0
          exact Post.ok p rh ⟨b, ws, rfl, s2, by simpa using r1.app r2⟩
        · subst e3
          exact Post.ok p rh ⟨a, vs, rfl, s1, by simpa using r1.app r2⟩
        · obtain ⟨x1, x2⟩ := rh.lay (.frz ob (.tup (vs ++ ws))) hn
          exact p _ _ _ x1 x2 ⟨l, _, rfl, .new hd, RVs.mono x1 _ _ (r1.app r2)⟩
      · exact p.elim
    | _ => exact p.elim
  | ref m =>
    cases dy with
    | ref n =>
      simp only [addD] at p
      split at p
      · rename_i xs ys hx hy
        split at p
        · rename_i hl
          obtain ⟨a, e1, a1⟩ := rx
          obtain ⟨b, e2, b1⟩ := ry
          obtain ⟨vs, v1, v2⟩ := rh.at_ _ _ _ hx a1
          obtain ⟨ws, w1, w2⟩ := rh.at_ _ _ _ hy b1
          refine .inr (.inr (.inr ⟨a, b, vs, ws, e1, e2, v1, w1, by rw [← v2.len, ← w2.len]; exact hl, fun l hn => ?_⟩))
          obtain ⟨x1, x2⟩ := rh.push (c := .lst (xs ++ ys)) hn (o := .lst (vs ++ ws)) rfl ⟨_, rfl, v2.app w2⟩
          exact p _ _ _ x1 x2 ⟨l, rfl, by rw [← rh.len]; simp⟩
        · exact p.elim
      · exact p.elim
    | _ => exact p.elim
  | _ => cases dy <;> exact p.elim
def intOp (C : Int → Int → Prop) [∀ i j, Decidable (C i j)] (g : Int → Int → Int) : D → D → DHeap → Res D
  | .int i, .int j, h => if C i j then .ok (.int (g i j)) h else .bad
  | _, _, _ => .bad
theorem od_int {f : Value → Value → Sem Value} {C : Int → Int → Prop} [∀ i j, Decidable (C i j)] {g : Int → Int → Int} (ho : OpR X f (rI C fun i j => .int (g i j))) : OpR X f (RO X.K (XY X) (intOp C g)) := opI ho fun x y H Q q => by
  obtain ⟨dx, dy, h, ρ, rx, ry, rh, p⟩ := q
  cases dx with
  | int i =>
    cases dy with
    | int j =>
      simp only [intOp] at p
      split at p
      · rename_i hc
        exact ⟨i, j, rx, ry, hc, Post.ok p rh (rfl : RV X.K H ρ (.int (g i j)) _)⟩
      · exact p.elim
    | _ => exact p.elim
  | _ => cases dy <;> exact p.elim
theorem rI_of {C : Int → Int → Prop} {g : Int → Int → V} {f : Value → Value → Sem Value} (ho : OpR X f (rI0 g)) : OpR X f (rI (fun _ _ => True) g) := opI ho fun x y H Q ⟨i, j, h1, h2, _, q⟩ => ⟨i, j, h1, h2, q⟩
instance (i j : Int) : Decidable (CMul i j) := by unfold CMul; infer_instance
instance (i j : Int) : Decidable (CDiv i j) := by unfold CDiv; infer_instance
instance (i j : Int) : Decidable (CPow i j) := by unfold CPow; infer_instance
def subD : D → D → DHeap → Res D := intOp (fun _ _ => True) (fun i j => i - j)
def mulD : D → D → DHeap → Res D := intOp CMul (fun i j => i * j)
def divD : D → D → DHeap → Res D := intOp CDiv (fun i j => i / j)
def modD : D → D → DHeap → Res D := intOp (fun _ j => 0 < j) (fun i j => i % j)
def powD : D → D → DHeap → Res D := intOp CPow (fun i j => i ^ j.toNat)
theorem od_sub : OpR X (binaryOp .Sub) (RO X.K (XY X) subD) := od_int (rI_of (C := fun _ _ => True) op_sub)
theorem od_mul : OpR X (binaryOp .Mult) (RO X.K (XY X) mulD) := od_int op_mul
theorem od_div : OpR X (binaryOp .FloorDiv) (RO X.K (XY X) divD) := od_int op_fdiv
theorem od_mod : OpR X (binaryOp .Mod) (RO X.K (XY X) modD) := od_int op_mod
theorem od_pow : OpR X (binaryOp .Pow) (RO X.K (XY X) powD) := od_int op_pow
def cmpI (g : Int → Int → Bool) : D → D → DHeap → Res D
  | .int i, .int j, h => .ok (.bl (g i j)) h
  | _, _, _ => .bad
theorem od_cmpI {f : Value → Value → Sem Value} {g : Int → Int → Bool} (ho : OpR X f (rI0 fun i j => .bl (g i j))) : OpR X f (RO X.K (XY X) (cmpI g)) := opI ho fun x y H Q q => by
  obtain ⟨dx, dy, h, ρ, rx, ry, rh, p⟩ := q
  cases dx with
  | int i =>
    cases dy with
    | int j => exact ⟨i, j, rx, ry, Post.ok p rh (rfl : RV X.K H ρ (.bl (g i j)) _)⟩
    | _ => exact p.elim
  | _ => cases dy <;> exact p.elim
def ltD : D → D → DHeap → Res D := cmpI fun i j => decide (i < j)
def leD : D → D → DHeap → Res D := cmpI fun i j => decide (i ≤ j)
def gtD : D → D → DHeap → Res D := cmpI fun i j => decide (j < i)
def geD : D → D → DHeap → Res D := cmpI fun i j => decide (j ≤ i)
theorem od_lt : OpR X (compareOp .Lt) (RO X.K (XY X) ltD) := od_cmpI op_lt
theorem od_le : OpR X (compareOp .LtE) (RO X.K (XY X) leD) := od_cmpI op_le
theorem od_gt : OpR X (compareOp .Gt) (RO X.K (XY X) gtD) := od_cmpI op_gt
theorem od_ge : OpR X (compareOp .GtE) (RO X.K (XY X) geD) := od_cmpI op_ge
def isNon : D → Bool
  | .non => true
  | _ => false
theorem RV.non_iff {K : PySem.W.Frag} {H : Hp} {ρ : List Addr} {d : D} {v : V} (r : RV K H ρ d v) : decide (v = .non) = isNon d := by
  cases d with
  | non => cases (show v = .non from r); rfl
  | bl b => cases (show v = .bl b from r); rfl
  | int b => cases (show v = .int b from r); rfl
  | str b => cases (show v = .str b from r); rfl
  | tup ds => obtain ⟨_, _, rfl, _⟩ := r; rfl
  | fl ds => obtain ⟨_, _, rfl, _⟩ := r; rfl
  | ref n => obtain ⟨_, rfl, _⟩ := r; rfl
def isD' : D → D → DHeap → Res D
  | x, .non, h => .ok (.bl (isNon x)) h
  | _, _, _ => .bad
def notD : D → D → DHeap → Res D
  | x, .non, h => .ok (.bl (!isNon x)) h
  | _, _, _ => .bad
theorem od_is : OpR X (compareOp .Is) (RO X.K (XY X) isD') := opI op_isN fun x y H Q q => by
  obtain ⟨dx, dy, h, ρ, rx, ry, rh, p⟩ := q
  cases dy with
  | non => exact ⟨ry, Post.ok p rh (show V.bl _ = V.bl _ by rw [rx.non_iff])⟩
  | _ => cases dx <;> exact p.elim
theorem od_isnot : OpR X (compareOp .IsNot) (RO X.K (XY X) notD) := opI op_notN fun x y H Q q => by
  obtain ⟨dx, dy, h, ρ, rx, ry, rh, p⟩ := q
  cases dy with
  | non => exact ⟨ry, Post.ok p rh (show V.bl _ = V.bl _ by rw [rx.non_iff])⟩
  | _ => cases dx <;> exact p.elim

/-! data without numbers, as the library's data -/
mutual
def toP : D → PyData
  | .non => .none | .bl b => .bool b | .int i => .int i | .str x => .str x | .tup ds => .tuple (toPs ds) | .fl ds => .list (toPs ds) | .ref _ => .none
def toPs : List D → List PyData
  | [] => []
  | d :: ds => toP d :: toPs ds
end
mutual
def pureD : D → Bool
  | .non => true | .bl _ => true | .int _ => true | .str _ => true | .tup ds => pureDs ds | .fl ds => pureDs ds | .ref _ => false
def pureDs : List D → Bool
  | [] => true
  | d :: ds => pureD d && pureDs ds
end
mutual
theorem dp_of {K : PySem.W.Frag} {H : Hp} {ρ : List Addr} : ∀ (d : D) (v : V), pureD d = true → RV K H ρ d v → Dp K H v (toP d)
  | .non, v, _, r => by cases (show v = .non from r); exact .non
  | .bl b, v, _, r => by cases (show v = .bl b from r); exact .bl b
  | .int b, v, _, r => by cases (show v = .int b from r); exact .int b
  | .str b, v, _, r => by cases (show v = .str b from r); exact .str b
  | .tup ds, v, p, r => by
    obtain ⟨a, xs, rfl, s, q⟩ := r
    exact .tup s.sq (dps_of ds xs p q)
  | .fl ds, v, p, r => by
    obtain ⟨a, xs, rfl, s, q⟩ := r
    exact .lst s.sq (dps_of ds xs p q)
  | .ref n, v, p, r => by cases p
theorem dps_of {K : PySem.W.Frag} {H : Hp} {ρ : List Addr} : ∀ (ds : List D) (xs : List V), pureDs ds = true → RVs K H ρ ds xs → DpAll K H xs (toPs ds)
  | [], xs, _, r => by cases (show xs = [] from r); exact .nil
  | d :: ds, xs, p, r => by
    obtain ⟨y, ys, rfl, h1, h2⟩ := r
    have q : (pureD d && pureDs ds) = true := p
    rw [Bool.and_eq_true] at q
    exact .cons (dp_of d y q.1 h1) (dps_of ds ys q.2 h2)
end
/-- a list's items, or the thing itself -/
def seen (h : DHeap) : D → Option D
  | .ref n => match h[n]? with | some (.lst ds) => some (.fl ds) | _ => none
  | d => some d
theorem dp_seen {K : PySem.W.Frag} {H : Hp} {ρ : List Addr} {h : DHeap} (rh : RH K H ρ h) {d d' : D} {v : V} (e : seen h d = some d') (p : pureD d' = true) (r : RV K H ρ d v) : Dp K H v (toP d') := by
  cases d with
  | ref n =>
    unfold seen at e
    simp only at e
    split at e
    · rename_i ds hn
      cases e
      obtain ⟨a, rfl, ha⟩ := r
      obtain ⟨xs, x1, x2⟩ := rh.at_ _ _ _ hn ha
      exact .lst (.of x1) (dps_of ds xs p x2)
    · cases e
  | _ => cases e; exact dp_of _ v p r
def okP (d : D) : Bool := pureD d && SeqAt.shaped (toP d)
def eqvD (d e : D) : Bool := PyData.eqv (toP d) (toP e)
def scalD : D → D → Option Bool
  | .int i, .int j => some (decide (i = j))
  | .str i, .str j => some (decide (i = j))
  | .bl i, .bl j => some (decide (i = j))
  | _, _ => none
def eqD : D → D → DHeap → Res D := fun x y h => match scalD x y with
  | some b => .ok (.bl b) h
  | none => match seen h x, seen h y with
    | some x', some y' => if okP x' = true ∧ okP y' = true then .ok (.bl (eqvD x' y')) h else .bad
    | _, _ => .bad
def neD : D → D → DHeap → Res D := fun x y h => match scalD x y with
  | some b => .ok (.bl (!b)) h
  | none => match seen h x, seen h y with
    | some x', some y' => if okP x' = true ∧ okP y' = true then .ok (.bl (!eqvD x' y')) h else .bad
    | _, _ => .bad
theorem scal_ok {K : PySem.W.Frag} {H : Hp} {ρ : List Addr} {dx dy : D} {x y : V} {b : Bool} (rx : RV K H ρ dx x) (ry : RV K H ρ dy y) (e : scalD dx dy = some b) : scal x y = true ∧ b = decide (x = y) := by
  cases dx <;> cases dy <;> first | (cases e; done) | skip
  · cases (show x = _ from rx); cases (show y = _ from ry); cases e; exact ⟨rfl, by simp⟩
  · cases (show x = _ from rx); cases (show y = _ from ry); cases e; exact ⟨rfl, by simp⟩
  · cases (show x = _ from rx); cases (show y = _ from ry); cases e; exact ⟨rfl, by simp⟩
theorem od_eq (hu : X.A.units + 64 < cLine) : OpR X (compareOp .Eq) (RO X.K (XY X) eqD) := opI (op_eq.or (op_eqD hu)) fun x y H Q q => by
  obtain ⟨dx, dy, h, ρ, rx, ry, rh, p⟩ := q
  unfold eqD at p
  cases e : scalD dx dy with
  | some b =>
    rw [e] at p
    obtain ⟨h1, h2⟩ := scal_ok rx ry e
    subst h2
    exact .inl ⟨h1, Post.ok p rh (rfl : RV X.K H ρ (.bl _) _)⟩
  | none =>
    rw [e] at p
    simp only at p
    split at p
    · rename_i x' y' hx hy
      split at p
      · rename_i hc
        obtain ⟨c1, c2⟩ := hc
        unfold okP at c1 c2
        rw [Bool.and_eq_true] at c1 c2
        exact .inr ⟨_, _, dp_seen rh hx c1.1 rx, dp_seen rh hy c2.1 ry, c1.2, c2.2, Post.ok p rh (rfl : RV X.K H ρ (.bl _) _)⟩
      · exact p.elim
    · exact p.elim
theorem od_ne (hu : X.A.units + 64 < cLine) : OpR X (compareOp .NotEq) (RO X.K (XY X) neD) := opI (op_ne.or (op_neD hu)) fun x y H Q q => by
  obtain ⟨dx, dy, h, ρ, rx, ry, rh, p⟩ := q
  unfold neD at p
  cases e : scalD dx dy with
  | some b =>
    rw [e] at p
    obtain ⟨h1, h2⟩ := scal_ok rx ry e
    subst h2
    exact .inl ⟨h1, Post.ok p rh (rfl : RV X.K H ρ (.bl _) _)⟩
  | none =>
    rw [e] at p
    simp only at p
    split at p
    · rename_i x' y' hx hy
      split at p
      · rename_i hc
        obtain ⟨c1, c2⟩ := hc
        unfold okP at c1 c2
        rw [Bool.and_eq_true] at c1 c2
        exact .inr ⟨_, _, dp_seen rh hx c1.1 rx, dp_seen rh hy c2.1 ry, c1.2, c2.2, Post.ok p rh (rfl : RV X.K H ρ (.bl _) _)⟩
      · exact p.elim
    · exact p.elim
end
end DL

set_option Elab.async false
set_option linter.all false
set_option maxRecDepth 100000
namespace DL
open PySem PySem.Spec PyProof.Rows L2
variable [TbC]
section
variable {X : Cx} {pos p : Pos} {x : Str} {e a b : Expr} {es : List Expr} {fa fb fc : M D} {f g : M (List D)}

/-! arguments, calls -/
def aNil : M (List D) := fun _ h => .ok [] h
def aCons (f : M D) (g : M (List D)) : M (List D) := fun σ h => (f σ h).bind fun d h1 => (g σ h1).bind fun ds h2 => .ok (d :: ds) h2
theorem da_nil : DA X [] aNil := ⟨paI pa_nil fun σ H Q q => by
  obtain ⟨σd, h, ρ, re, rh, p⟩ := q
  exact Post.ok p rh (show RVs X.K H ρ [] [] from rfl)⟩
theorem da_cons (ha : DE X e fa) (hr : DA X es g) (hs : starEach (e :: es) X.env = (false, eval e X.env) :: starEach es X.env := by rfl) : DA X (e :: es) (aCons fa g) :=
  ⟨paI (pa_cons ha.run hr.run hs) fun σ H Q q => by
    obtain ⟨σd, h, ρ, re, rh, p⟩ := q
    refine ⟨σd, h, ρ, re, rh, p.bind.mono fun x H1 ⟨d, h1, ρ1, e1, rh1, r1, p1⟩ => ?_⟩
    refine ⟨σd, h1, ρ1, re.mono e1, rh1, p1.bind.mono fun xs H2 ⟨ds, h2, ρ2, e2, rh2, r2, p2⟩ => ?_⟩
    exact Post.ok p2 rh2 (show RVs X.K H2 ρ2 (d :: ds) (x :: xs) from ⟨x, xs, rfl, RV.mono e2 _ _ r1, r2⟩)⟩
def RCl (K : PySem.W.Frag) (Y : EX) (m : List D → DHeap → Res D) : List V → Hp → VK → Prop := fun vs H Q => ∃ ds h ρ, RVs K H ρ ds vs ∧ RH K H ρ h ∧ Post K Y H ρ (RV K) (m ds h) Q
theorem clI {u : Value} {r r' : List V → Hp → VK → Prop} (ho : CallR X u r) (i : ∀ vs H Q, r' vs H Q → r vs H Q) : CallR X u r' :=
  fun pins s σ H vs us Q I rv q => ho pins s σ H vs us Q I rv (i vs H Q q)
def callM (m : List D → DHeap → Res D) (f : M (List D)) : M D := fun σ h => (f σ h).bind m
theorem call_rd {K : PySem.W.Frag} {Y : EX} {m : List D → DHeap → Res D} {σ : L2.St} {H : Hp} {Q : VK} (q : rdG K Y (RV K) (callM m f) σ H Q) : rdG K Y (RVs K) f σ H fun vs H1 => RCl K Y m vs H1 Q := by
  obtain ⟨σd, h, ρ, re, rh, p⟩ := q
  exact ⟨σd, h, ρ, re, rh, p.bind.mono fun x H1 ⟨d, h1, ρ1, e1, rh1, r1, p1⟩ => ⟨d, h1, ρ1, r1, rh1, p1⟩⟩
theorem de_callB {id : String} {m : List D → DHeap → Res D} (hc : CallR X (.builtin id) (RCl X.K (XY X) m)) (hg : Gl X x) (hm : X.mg x = none) (hv : bootBuiltins x = some (.builtin id)) (ha : DA X (e :: es) f) (hn : x ≠ "__name__" := by decide) (hdb : (x == ("__debug__" : Str)) = false := by decide)
    (he : starEach (e :: es) X.env = (false, eval e X.env) :: starEach es X.env := by rfl) (hpl : (backTo pos (starEach es X.env)).any (·.1) = false := by rfl) : DE X (.Call (.Name x p) (e :: es) [] pos) (callM m f) :=
  ⟨peI (pe_callB hc hg hm hv ha.run hn hdb he hpl) fun _ _ _ q => call_rd q⟩
theorem de_callTy {T : String} {m : List D → DHeap → Res D} (hc : CallR X (.type T) (RCl X.K (XY X) m)) (hg : Gl X x) (hm : X.mg x = none) (hv : bootBuiltins x = some (.type T)) (ha : DA X (e :: es) f) (hn : x ≠ "__name__" := by decide) (hdb : (x == ("__debug__" : Str)) = false := by decide)
    (he : starEach (e :: es) X.env = (false, eval e X.env) :: starEach es X.env := by rfl) (hpl : (backTo pos (starEach es X.env)).any (·.1) = false := by rfl) : DE X (.Call (.Name x p) (e :: es) [] pos) (callM m f) :=
  ⟨peI (pe_callTy hc hg hm hv ha.run hn hdb he hpl) fun _ _ _ q => call_rd q⟩

/-! what a sequence holds -/
def seqOf (h : DHeap) : D → Option (List D)
  | .tup ds => some ds
  | .fl ds => some ds
  | .ref n => match h[n]? with | some (.lst ds) => some ds | _ => none
  | _ => none
theorem seq_ok {K : PySem.W.Frag} {H : Hp} {ρ : List Addr} {h : DHeap} (rh : RH K H ρ h) {d : D} {ds : List D} {v : V} (e : seqOf h d = some ds) (r : RV K H ρ d v) :
    ∃ q xs, v = .ref q ∧ (SqL K H q xs ∨ SqU K H q xs) ∧ RVs K H ρ ds xs := by
  cases d with
  | tup es => cases e; obtain ⟨q, xs, h1, h2, h3⟩ := r; exact ⟨q, xs, h1, .inr h2, h3⟩
  | fl es => cases e; obtain ⟨q, xs, h1, h2, h3⟩ := r; exact ⟨q, xs, h1, .inl h2.sq, h3⟩
  | ref n =>
    unfold seqOf at e
    simp only at e
    split at e
    · rename_i es hn
      cases e
      obtain ⟨q, h1, h2⟩ := r
      obtain ⟨xs, x1, x2⟩ := rh.at_ _ _ _ hn h2
      exact ⟨q, xs, h1, .inl (.of x1), x2⟩
    · cases e
  | _ => cases e

def lenD : List D → DHeap → Res D
  | [.str x], h => if x.length ≤ sizeLine then .ok (.int x.length) h else .bad
  | [.ref n], h => match h[n]? with
    | some (.lst ds) => .ok (.int ds.length) h
    | some (.dic kvs) => .ok (.int kvs.length) h
    | none => .bad
  | [.tup ds], h => .ok (.int ds.length) h
  | [.fl ds], h => .ok (.int ds.length) h
  | _, _ => .bad
theorem len_seq {K : PySem.W.Frag} {Y : EX} {H : Hp} {ρ : List Addr} {h : DHeap} (rh : RH K H ρ h) {d : D} {v : V} {es : List D} {Q : VK} (e1 : seqOf h d = some es) (r1 : RV K H ρ d v) (p1 : Post K Y H ρ (RV K) (.ok (.int es.length) h) Q) :
    ∃ x n, [v] = [x] ∧ LenV K x H n ∧ Q (.int n) H := by
  obtain ⟨q, xs, rfl, hs, h3⟩ := seq_ok rh e1 r1
  refine ⟨.ref q, xs.length, rfl, ?_, ?_⟩
  · rcases hs with hs | hs
    · exact .inl ⟨xs, hs, rfl⟩
    · exact .inr ⟨xs, hs.sq, rfl⟩
  · rw [← h3.len]; exact Post.ok p1 rh (rfl : RV K H ρ (.int _) _)
theorem cd_len : CallR X (.builtin "len") (RCl X.K (XY X) lenD) := clI (call_len.or call_lenD) fun vs H Q q => by
  obtain ⟨ds, h, ρ, r, rh, p⟩ := q
  unfold lenD at p
  split at p
  case h_1 y =>
    obtain ⟨v, rfl, r1⟩ := r.inv1
    split at p
    · rename_i hl
      exact .inl ⟨v, y.length, rfl, by rw [show v = .str y from r1]; exact ⟨hl, rfl⟩, Post.ok p rh (rfl : RV X.K H ρ (.int _) _)⟩
    · exact p.elim
  case h_2 n =>
    obtain ⟨v, rfl, r1⟩ := r.inv1
    split at p
    · rename_i es hn
      exact .inl (len_seq rh (d := .ref n) (by unfold seqOf; simp only [hn]) r1 p)
    · rename_i kvs hn
      obtain ⟨q, rfl, h2⟩ := r1
      obtain ⟨ws, x1, x2, x3⟩ := rh.at_ _ _ _ hn h2
      refine .inr ⟨q, ws, rfl, x1, ?_⟩
      have hl : kvs.length = ws.length := by have := congrArg List.length x2; simpa using this
      rw [← hl]; exact Post.ok p rh (rfl : RV X.K H ρ (.int _) _)
    · exact p.elim
  case h_3 es =>
    obtain ⟨v, rfl, r1⟩ := r.inv1
    exact .inl (len_seq rh (d := .tup es) rfl r1 p)
  case h_4 es =>
    obtain ⟨v, rfl, r1⟩ := r.inv1
    exact .inl (len_seq rh (d := .fl es) rfl r1 p)
  case h_5 => exact p.elim
def intD : List D → DHeap → Res D
  | [.int i], h => .ok (.int i) h
  | [.bl k], h => .ok (.int (if k = true then 1 else 0)) h
  | _, _ => .bad
theorem cd_int : CallR X (.type "int") (RCl X.K (XY X) intD) := clI call_int1 fun vs H Q q => by
  obtain ⟨ds, h, ρ, r, rh, p⟩ := q
  rcases p.is_ok with ⟨_, _, e⟩ | ⟨_, _, _, e⟩
  case inr => unfold intD at e; split at e <;> cases e
  rw [e] at p
  unfold intD at e
  split at e
  · cases e
    obtain ⟨v, rfl, r1⟩ := r.inv1
    cases r1
    exact .inl ⟨_, rfl, Post.ok p rh (rfl : RV X.K H ρ (.int _) _)⟩
  · cases e
    obtain ⟨v, rfl, r1⟩ := r.inv1
    cases r1
    refine .inr ⟨_, rfl, Post.ok p rh ?_⟩
    rename_i k
    cases k <;> exact (rfl : RV X.K H ρ (.int _) _)
  · cases e
def absD : List D → DHeap → Res D
  | [.int i], h => .ok (.int (if i < 0 then -i else i)) h
  | _, _ => .bad
theorem cd_abs : CallR X (.builtin "abs") (RCl X.K (XY X) absD) := clI call_abs fun vs H Q q => by
  obtain ⟨ds, h, ρ, r, rh, p⟩ := q
  rcases p.is_ok with ⟨_, _, e⟩ | ⟨_, _, _, e⟩
  case inr => unfold absD at e; split at e <;> cases e
  rw [e] at p
  unfold absD at e
  split at e
  · cases e
    obtain ⟨v, rfl, r1⟩ := r.inv1
    cases r1
    exact ⟨_, rfl, Post.ok p rh (rfl : RV X.K H ρ (.int _) _)⟩
  · cases e
def max2D : List D → DHeap → Res D
  | [.int i, .int j], h => .ok (.int (if j > i then j else i)) h
  | _, _ => .bad
def min2D : List D → DHeap → Res D
  | [.int i, .int j], h => .ok (.int (if j < i then j else i)) h
  | _, _ => .bad
theorem cd_max2 (hc : X.calm = true) : CallR X (.builtin "max") (RCl X.K (XY X) max2D) := clI (call_max2 hc) fun vs H Q q => by
  obtain ⟨ds, h, ρ, r, rh, p⟩ := q
  rcases p.is_ok with ⟨_, _, e⟩ | ⟨_, _, _, e⟩
  case inr => unfold max2D at e; split at e <;> cases e
  rw [e] at p
  unfold max2D at e
  split at e
  · cases e
    obtain ⟨v, w, rfl, r1, r2⟩ := r.inv2
    cases r1
    cases r2
    exact ⟨_, _, rfl, Post.ok p rh (rfl : RV X.K H ρ (.int _) _)⟩
  · cases e
theorem cd_min2 (hc : X.calm = true) : CallR X (.builtin "min") (RCl X.K (XY X) min2D) := clI (call_min2 hc) fun vs H Q q => by
  obtain ⟨ds, h, ρ, r, rh, p⟩ := q
  rcases p.is_ok with ⟨_, _, e⟩ | ⟨_, _, _, e⟩
  case inr => unfold min2D at e; split at e <;> cases e
  rw [e] at p
  unfold min2D at e
  split at e
  · cases e
    obtain ⟨v, w, rfl, r1, r2⟩ := r.inv2
    cases r1
    cases r2
    exact ⟨_, _, rfl, Post.ok p rh (rfl : RV X.K H ρ (.int _) _)⟩
  · cases e
/-- the ints of a list -/
def intsOf : List D → Option (List Int)
  | [] => some []
  | .int i :: r => (intsOf r).map (i :: ·)
  | _ => none
def blsOf : List D → Option (List Bool)
  | [] => some []
  | .bl i :: r => (blsOf r).map (i :: ·)
  | _ => none
theorem intsOf_ok : ∀ {ds : List D} {ns : List Int}, intsOf ds = some ns → ds = ns.map D.int
  | [], ns, e => by cases e; rfl
  | d :: r, ns, e => by
    cases d with
    | int i =>
      simp only [intsOf] at e
      cases q : intsOf r with
      | none => rw [q] at e; cases e
      | some ms => rw [q] at e; cases e; rw [intsOf_ok q]; rfl
    | _ => cases e
theorem blsOf_ok : ∀ {ds : List D} {ns : List Bool}, blsOf ds = some ns → ds = ns.map D.bl
  | [], ns, e => by cases e; rfl
  | d :: r, ns, e => by
    cases d with
    | bl i =>
      simp only [blsOf] at e
      cases q : blsOf r with
      | none => rw [q] at e; cases e
      | some ms => rw [q] at e; cases e; rw [blsOf_ok q]; rfl
    | _ => cases e
theorem RVs.bls {K : PySem.W.Frag} {H : Hp} {ρ : List Addr} : ∀ {ns : List Bool} {xs : List V}, RVs K H ρ (ns.map D.bl) xs → xs = ns.map V.bl
  | [], _, h => h
  | n :: ns, xs, h => by
    obtain ⟨y, ys, rfl, h2, h3⟩ := h
    rw [show y = V.bl n from h2, RVs.bls h3]; rfl
def isTup : D → Bool
  | .tup _ => true
  | _ => false
theorem lst_ok {K : PySem.W.Frag} {H : Hp} {ρ : List Addr} {h : DHeap} (rh : RH K H ρ h) {d : D} {ds : List D} {v : V} (e : seqOf h d = some ds) (t : isTup d = false) (r : RV K H ρ d v) :
    ∃ q xs, v = .ref q ∧ SqL K H q xs ∧ RVs K H ρ ds xs := by
  cases d with
  | tup es => cases t
  | fl es => cases e; obtain ⟨q, xs, h1, h2, h3⟩ := r; exact ⟨q, xs, h1, h2.sq, h3⟩
  | ref n =>
    unfold seqOf at e
    simp only at e
    split at e
    · rename_i es hn
      cases e
      obtain ⟨q, h1, h2⟩ := r
      obtain ⟨xs, x1, x2⟩ := rh.at_ _ _ _ hn h2
      exact ⟨q, xs, h1, .of x1, x2⟩
    · cases e
  | _ => cases e
def overInts (g : List Int → Option D) : List D → DHeap → Res D
  | [d], h => if isTup d = true then .bad else match seqOf h d with
    | some ds => match intsOf ds with
      | some ns => match g ns with | some r => .ok r h | none => .bad
      | none => .bad
    | none => .bad
  | _, _ => .bad
def overBls (g : List Bool → D) : List D → DHeap → Res D
  | [d], h => if isTup d = true then .bad else match seqOf h d with
    | some ds => match blsOf ds with
      | some ns => .ok (g ns) h
      | none => .bad
    | none => .bad
  | _, _ => .bad
theorem overInts_inv {g : List Int → Option D} {vs : List V} {H : Hp} {Q : VK} (q : RCl X.K (XY X) (overInts g) vs H Q) : ∃ a ns r h ρ, vs = [V.ref a] ∧ SqL X.K H a (ns.map V.int) ∧ g ns = some r ∧ RH X.K H ρ h ∧ Post X.K (XY X) H ρ (RV X.K) (.ok r h) Q := by
  obtain ⟨ds, h, ρ, r, rh, p⟩ := q
  unfold overInts at p
  split at p
  case h_2 => exact p.elim
  case h_1 d =>
    obtain ⟨v, rfl, r1⟩ := r.inv1
    split at p
    · exact p.elim
    rename_i ht
    split at p
    · rename_i es he
      split at p
      · rename_i ns hn
        split at p
        · rename_i y hy
          obtain ⟨a, xs, rfl, hs, hr⟩ := lst_ok rh he (by simpa using ht) r1
          rw [intsOf_ok hn] at hr
          rw [hr.ints] at hs
          exact ⟨a, ns, y, h, ρ, rfl, hs, hy, rh, p⟩
        · exact p.elim
      · exact p.elim
    · exact p.elim
theorem overBls_inv {g : List Bool → D} {vs : List V} {H : Hp} {Q : VK} (q : RCl X.K (XY X) (overBls g) vs H Q) : ∃ a ns h ρ, vs = [V.ref a] ∧ SqL X.K H a (ns.map V.bl) ∧ RH X.K H ρ h ∧ Post X.K (XY X) H ρ (RV X.K) (.ok (g ns) h) Q := by
  obtain ⟨ds, h, ρ, r, rh, p⟩ := q
  unfold overBls at p
  split at p
  case h_2 => exact p.elim
  case h_1 d =>
    obtain ⟨v, rfl, r1⟩ := r.inv1
    split at p
    · exact p.elim
    rename_i ht
    split at p
    · rename_i es he
      split at p
      · rename_i ns hn
        obtain ⟨a, xs, rfl, hs, hr⟩ := lst_ok rh he (by simpa using ht) r1
        rw [blsOf_ok hn] at hr
        rw [hr.bls] at hs
        exact ⟨a, ns, h, ρ, rfl, hs, rh, p⟩
      · exact p.elim
    · exact p.elim
def sumD : List D → DHeap → Res D := overInts fun ns => some (.int ns.sum)
theorem cd_sum (hc : X.calm = true) : CallR X (.builtin "sum") (RCl X.K (XY X) sumD) := clI (cr_sum hc) fun vs H Q q => by
  obtain ⟨a, ns, r, h, ρ, rfl, hs, e, rh, p⟩ := overInts_inv q
  cases e
  exact ⟨a, ns, rfl, hs, Post.ok p rh (rfl : RV X.K H ρ (.int _) _)⟩
/-- the greatest of some ints -/
def maxL : List Int → Option Int
  | [] => none
  | i :: r => match maxL r with | none => some i | some m => some (if m > i then m else i)
theorem maxL_ge : ∀ {ns : List Int} {m : Int}, maxL ns = some m → m ∈ ns ∧ ∀ y, y ∈ ns → y ≤ m
  | [], m, e => by cases e
  | i :: r, m, e => by
    simp only [maxL] at e
    cases q : maxL r with
    | none =>
      rw [q] at e
      cases e
      have : r = [] := by
        cases r with
        | nil => rfl
        | cons j s => simp only [maxL] at q; split at q <;> cases q
      subst this
      exact ⟨List.mem_cons_self, fun y hy => by rw [List.mem_singleton.mp hy]; exact Int.le_refl _⟩
    | some k =>
      rw [q] at e
      obtain ⟨h1, h2⟩ := maxL_ge q
      simp only [Option.some.injEq] at e
      split at e
      · subst e
        refine ⟨List.mem_cons_of_mem _ h1, fun y hy => ?_⟩
        rcases List.mem_cons.mp hy with rfl | hy
        · omega
        · exact h2 y hy
      · subst e
        refine ⟨List.mem_cons_self, fun y hy => ?_⟩
        rcases List.mem_cons.mp hy with rfl | hy
        · exact Int.le_refl _
        · have := h2 y hy; omega
def maxD : List D → DHeap → Res D := overInts fun ns => (maxL ns).map .int
theorem cd_max (hc : X.calm = true) : CallR X (.builtin "max") (RCl X.K (XY X) maxD) := clI (cr_max hc) fun vs H Q q => by
  obtain ⟨a, ns, r, h, ρ, rfl, hs, e, rh, p⟩ := overInts_inv q
  cases em : maxL ns with
  | none => simp only [em] at e; cases e
  | some m =>
    simp only [em] at e
    cases e
    obtain ⟨h1, h2⟩ := maxL_ge em
    refine ⟨a, ns, rfl, hs, ?_, fun k hk hg => ?_⟩
    · cases ns with
      | nil => cases em
      | cons _ _ => exact Nat.succ_pos _
    · have : k = m := Int.le_antisymm (h2 k hk) (hg m h1)
      subst this
      exact Post.ok p rh (rfl : RV X.K H ρ (.int _) _)
def allD : List D → DHeap → Res D := overBls fun ns => .bl (ns.all id)
def anyD : List D → DHeap → Res D := overBls fun ns => .bl (ns.any id)
theorem cd_all (hc : X.calm = true) : CallR X (.builtin "all") (RCl X.K (XY X) allD) := clI (cr_all hc) fun vs H Q q => by
  obtain ⟨a, ns, h, ρ, rfl, hs, rh, p⟩ := overBls_inv q
  exact ⟨a, ns, rfl, hs, Post.ok p rh (rfl : RV X.K H ρ (.bl _) _)⟩
theorem cd_any (hc : X.calm = true) : CallR X (.builtin "any") (RCl X.K (XY X) anyD) := clI (cr_any hc) fun vs H Q q => by
  obtain ⟨a, ns, h, ρ, rfl, hs, rh, p⟩ := overBls_inv q
  exact ⟨a, ns, rfl, hs, Post.ok p rh (rfl : RV X.K H ρ (.bl _) _)⟩
def tupD : List D → DHeap → Res D
  | [d], h => match seqOf h d with | some ds => .ok (.tup ds) h | none => .bad
  | _, _ => .bad
theorem cd_tup : CallR X (.type "tuple") (RCl X.K (XY X) tupD) := clI callTupU fun vs H Q q => by
  obtain ⟨ds, h, ρ, r, rh, p⟩ := q
  unfold tupD at p
  split at p
  case h_2 => exact p.elim
  case h_1 d =>
    obtain ⟨v, rfl, r1⟩ := r.inv1
    split at p
    · rename_i es he
      obtain ⟨q, xs, rfl, hs, h3⟩ := seq_ok rh he r1
      refine ⟨q, xs, rfl, ?_⟩
      rcases hs with hs | hs
      · refine .inl ⟨hs, fun l hl ob hd => ?_⟩
        obtain ⟨x1, x2⟩ := rh.lay (.frz ob (.tup xs)) hl
        exact p _ _ _ x1 x2 ⟨l, xs, rfl, .new hd, RVs.mono x1 _ _ h3⟩
      · exact .inr ⟨hs.sq, Post.ok p rh ⟨q, xs, rfl, hs, h3⟩⟩
    · exact p.elim
def lstD : List D → DHeap → Res D
  | [d], h => match seqOf h d with | some ds => .ok (.ref h.length) (h ++ [.lst ds]) | none => .bad
  | _, _ => .bad
theorem cd_lst : CallR X (.type "list") (RCl X.K (XY X) lstD) := clI call_list_of fun vs H Q q => by
  obtain ⟨ds, h, ρ, r, rh, p⟩ := q
  unfold lstD at p
  split at p
  case h_2 => exact p.elim
  case h_1 d =>
    obtain ⟨v, rfl, r1⟩ := r.inv1
    split at p
    · rename_i es he
      obtain ⟨q, xs, rfl, hs, h3⟩ := seq_ok rh he r1
      refine ⟨q, xs, rfl, hs.imp id SqU.sq, fun l hl => ?_⟩
      obtain ⟨x1, x2⟩ := rh.push (c := .lst es) hl (o := .lst xs) rfl ⟨_, rfl, h3⟩
      exact p _ _ _ x1 x2 ⟨l, rfl, by rw [← rh.len]; simp⟩
    · exact p.elim

/-! isinstance -/
def isTy (T : String) : List D → DHeap → Res D
  | [.non], h => .ok (.bl false) h
  | [.bl _], h => .ok (.bl (T == "int" || T == "bool")) h
  | [.int _], h => .ok (.bl (T == "int")) h
  | [.str _], h => .ok (.bl (T == "str")) h
  | [.tup _], h => .ok (.bl (T == "tuple")) h
  | [.fl _], h => .ok (.bl (T == "list")) h
  | [.ref n], h => match h[n]? with
    | some (.lst _) => .ok (.bl (T == "list")) h
    | some (.dic _) => .ok (.bl (T == "dict")) h
    | none => .bad
  | _, _ => .bad
theorem tyx_of {K : PySem.W.Frag} {H : Hp} {ρ : List Addr} {h h' : DHeap} (rh : RH K H ρ h) {T : String} {d : D} {v : V} {r : D} (rv : RV K H ρ d v) (e : isTy T [d] h = .ok r h') (hT : T = "int" ∨ T = "tuple" ∨ T = "str" ∨ T = "list" ∨ T = "dict" ∨ T = "bool") :
    h' = h ∧ ∃ t b, r = .bl b ∧ TyX K H v t ∧ PySem.W.kitOne K t (.type T) = some b := by
  cases d with
  | non => cases e; cases (show v = _ from rv); exact ⟨rfl, _, _, rfl, .base .non, by rcases hT with rfl | rfl | rfl | rfl | rfl | rfl <;> exact kit_ty (by decide +kernel)⟩
  | bl _ => cases e; cases (show v = _ from rv); exact ⟨rfl, _, _, rfl, .base (.bl _), by rcases hT with rfl | rfl | rfl | rfl | rfl | rfl <;> exact kit_ty (by decide +kernel)⟩
  | int _ => cases e; cases (show v = _ from rv); exact ⟨rfl, _, _, rfl, .base (.int _), by rcases hT with rfl | rfl | rfl | rfl | rfl | rfl <;> exact kit_ty (by decide +kernel)⟩
  | str _ => cases e; cases (show v = _ from rv); exact ⟨rfl, _, _, rfl, .base (.str _), by rcases hT with rfl | rfl | rfl | rfl | rfl | rfl <;> exact kit_ty (by decide +kernel)⟩
  | tup ds =>
    cases e
    obtain ⟨a, xs, rfl, s, _⟩ := rv
    refine ⟨rfl, .type "tuple", _, rfl, ?_, by rcases hT with rfl | rfl | rfl | rfl | rfl | rfl <;> exact kit_ty (by decide +kernel)⟩
    rcases s with ⟨o, _, s⟩ | ⟨o, its, n, s, c, _⟩
    · exact .fTuple s
    · exact .kTuple s c
  | fl ds =>
    cases e
    obtain ⟨a, xs, rfl, s, _⟩ := rv
    refine ⟨rfl, .type "list", _, rfl, ?_, by rcases hT with rfl | rfl | rfl | rfl | rfl | rfl <;> exact kit_ty (by decide +kernel)⟩
    rcases s with ⟨o, s⟩ | ⟨o, its, n, s, c, _⟩
    · exact .base (.frz s)
    · exact .kList s c
  | ref n =>
    simp only [isTy] at e
    obtain ⟨a, rfl, ha⟩ := rv
    split at e
    · rename_i ds hn
      cases e
      obtain ⟨xs, x1, _⟩ := rh.at_ _ _ _ hn ha
      exact ⟨rfl, .type "list", _, rfl, .base (.lst x1), by rcases hT with rfl | rfl | rfl | rfl | rfl | rfl <;> exact kit_ty (by decide +kernel)⟩
    · rename_i ds hn
      cases e
      obtain ⟨xs, x1, _⟩ := rh.at_ _ _ _ hn ha
      exact ⟨rfl, .type "dict", _, rfl, .base (.dK x1), by rcases hT with rfl | rfl | rfl | rfl | rfl | rfl <;> exact kit_ty (by decide +kernel)⟩
    · cases e
theorem isTy_calm {T : String} {ds : List D} {h h2 : DHeap} {x : DX} {s : DEnv} (e : isTy T ds h = .exc x s h2) : False := by
  unfold isTy at e
  split at e <;> first | (cases e; done) | (split at e <;> cases e)
/-- isinstance(e, T) -/
def isiM (T : String) (f : M D) : M D := fun σ h => (f σ h).bind fun d h1 => isTy T [d] h1
theorem de_isi {T : Str} {n : String} {pT : Pos} (hT : n = "int" ∨ n = "tuple" ∨ n = "str" ∨ n = "list" ∨ n = "dict" ∨ n = "bool") (hg : Gl X "isinstance") (hm : X.mg "isinstance" = none) (hgT : Gl X T) (hmT : X.mg T = none) (hvT : bootBuiltins T = some (.type n)) (ha : DE X e fa)
    (hnT : T ≠ "__name__" := by decide) (hdT : (T == ("__debug__" : Str)) = false := by decide)
    (he : starEach [e, .Name T pT] X.env = (false, eval e X.env) :: starEach [.Name T pT] X.env := by rfl) (he2 : starEach [.Name T pT] X.env = (false, eval (.Name T pT) X.env) :: starEach [] X.env := by rfl)
    (hpl : (backTo pos (starEach [.Name T pT] X.env)).any (·.1) = false := by rfl) : DE X (.Call (.Name "isinstance" p) [e, .Name T pT] [] pos) (isiM n fa) :=
  ⟨peI (pe_callB call_isi hg hm (by decide +kernel) (pa_cons ha.run (pa_cons (pe_bltn (v := .ty n) hgT hmT hvT rfl hnT hdT) pa_nil he2) he) (by decide) (by decide) he hpl) fun σ H Q q => by
    obtain ⟨σd, h, ρ, re, rh, p⟩ := q
    refine ⟨σd, h, ρ, re, rh, p.bind.mono fun v H1 ⟨d, h1, ρ1, e1, rh1, r1, p1⟩ => ?_⟩
    cases ei : isTy n [d] h1 with
    | bad => rw [ei] at p1; exact p1.elim
    | exc x s h2 => exact (isTy_calm ei).elim
    | ok r h2 =>
      rw [ei] at p1
      obtain ⟨rfl, t, b, rfl, tx, kt⟩ := tyx_of rh1 r1 ei hT
      exact ⟨v, .ty n, t, .type n, b, rfl, .ty n, tx, kt, Post.ok p1 rh1 (rfl : RV X.K H1 ρ1 (.bl b) _)⟩⟩
end
end DL

set_option Elab.async false
set_option linter.all false
set_option maxRecDepth 100000
namespace DL
open PySem PySem.Spec PyProof.Rows L2
variable [TbC]

/-! dicts with ints and texts as keys -/
def keyD : D → Option Key
  | .int i => some (.inl i)
  | .str x => some (.inr x)
  | _ => none
def lookD (kvs : List (Key × D)) (k : Key) : Option D := (kvs.find? fun kv => decide (kv.1 = k)).map (·.2)
def putD (kvs : List (Key × D)) (k : Key) (v : D) : List (Key × D) :=
  if (kvs.any fun kv => decide (kv.1 = k)) = true then kvs.map (fun kv => if kv.1 = k then (kv.1, v) else kv) else kvs ++ [(k, v)]
theorem key_rv {K : PySem.W.Frag} {H : Hp} {ρ : List Addr} {d : D} {v : V} {k : Key} (e : keyD d = some k) (r : RV K H ρ d v) : v = kV k := by
  cases d with
  | int i => cases e; exact r
  | str i => cases e; exact r
  | _ => cases e
theorem RKVs.cons_inv {K : PySem.W.Frag} {H : Hp} {ρ : List Addr} {kv : Key × D} {kvs : List (Key × D)} {vs : List (Key × V)} (r : RKVs K H ρ (kv :: kvs) vs) : ∃ v ws, vs = (kv.1, v) :: ws ∧ RV K H ρ kv.2 v ∧ RKVs K H ρ kvs ws := by
  obtain ⟨e, q⟩ := r
  cases vs with
  | nil => cases e
  | cons w ws =>
    rw [List.map_cons, List.map_cons] at e
    obtain ⟨e1, e2⟩ := List.cons.inj e
    obtain ⟨y, ys, h1, h2, h3⟩ := q
    rw [List.map_cons] at h1
    obtain ⟨f1, f2⟩ := List.cons.inj h1
    exact ⟨y, ws, by rw [← f1, e1], h2, e2, by rw [f2]; exact h3⟩
theorem RKVs.nil_inv {K : PySem.W.Frag} {H : Hp} {ρ : List Addr} {vs : List (Key × V)} (r : RKVs K H ρ [] vs) : vs = [] := by
  obtain ⟨e, _⟩ := r
  cases vs with
  | nil => rfl
  | cons _ _ => cases e
theorem RKVs.nil {K : PySem.W.Frag} {H : Hp} {ρ : List Addr} : RKVs K H ρ [] [] := ⟨rfl, rfl⟩
theorem RKVs.cons {K : PySem.W.Frag} {H : Hp} {ρ : List Addr} {k : Key} {d : D} {v : V} {kvs : List (Key × D)} {vs : List (Key × V)} (r : RV K H ρ d v) (q : RKVs K H ρ kvs vs) : RKVs K H ρ ((k, d) :: kvs) ((k, v) :: vs) :=
  ⟨by rw [List.map_cons, List.map_cons, q.1], v, vs.map (·.2), rfl, r, q.2⟩
theorem RKVs.look {K : PySem.W.Frag} {H : Hp} {ρ : List Addr} (k : Key) : ∀ {kvs : List (Key × D)} {vs : List (Key × V)}, RKVs K H ρ kvs vs → match lookD kvs k with | some d => ∃ v, valV vs k = some v ∧ RV K H ρ d v | none => valV vs k = none
  | [], vs, r => by rw [r.nil_inv]; rfl
  | kv :: kvs, vs, r => by
    obtain ⟨v, ws, rfl, h1, h2⟩ := r.cons_inv
    by_cases e : kv.1 = k
    · have : lookD (kv :: kvs) k = some kv.2 := by simp [lookD, List.find?_cons, e]
      rw [this]
      exact ⟨v, valV_pos e, h1⟩
    · have : lookD (kv :: kvs) k = lookD kvs k := by simp [lookD, List.find?_cons, e]
      rw [this, valV_neg (p := (kv.1, v)) e]
      exact RKVs.look k h2
theorem RKVs.any {K : PySem.W.Frag} {H : Hp} {ρ : List Addr} (k : Key) : ∀ {kvs : List (Key × D)} {vs : List (Key × V)}, RKVs K H ρ kvs vs → (kvs.any fun kv => decide (kv.1 = k)) = vs.any fun kv => decide (kv.1 = k)
  | [], vs, r => by rw [r.nil_inv]; rfl
  | kv :: kvs, vs, r => by
    obtain ⟨v, ws, rfl, h1, h2⟩ := r.cons_inv
    rw [List.any_cons, List.any_cons, RKVs.any k h2]
theorem RKVs.repl {K : PySem.W.Frag} {H : Hp} {ρ : List Addr} (k : Key) {d : D} {v : V} (rd : RV K H ρ d v) : ∀ {kvs : List (Key × D)} {vs : List (Key × V)}, RKVs K H ρ kvs vs →
    RKVs K H ρ (kvs.map fun kv => if kv.1 = k then (kv.1, d) else kv) (vs.map fun kv => if kv.1 = k then (kv.1, v) else kv)
  | [], vs, r => by rw [r.nil_inv]; exact .nil
  | kv :: kvs, vs, r => by
    obtain ⟨w, ws, rfl, h1, h2⟩ := r.cons_inv
    rw [List.map_cons, List.map_cons]
    by_cases e : kv.1 = k
    · rw [if_pos e, if_pos e]; exact .cons rd (RKVs.repl k rd h2)
    · rw [if_neg e, if_neg e]; exact .cons h1 (RKVs.repl k rd h2)
theorem RKVs.snoc {K : PySem.W.Frag} {H : Hp} {ρ : List Addr} (k : Key) {d : D} {v : V} (rd : RV K H ρ d v) : ∀ {kvs : List (Key × D)} {vs : List (Key × V)}, RKVs K H ρ kvs vs → RKVs K H ρ (kvs ++ [(k, d)]) (vs ++ [(k, v)])
  | [], vs, r => by rw [r.nil_inv]; exact .cons rd .nil
  | kv :: kvs, vs, r => by
    obtain ⟨w, ws, rfl, h1, h2⟩ := r.cons_inv
    exact .cons h1 (RKVs.snoc k rd h2)
theorem RKVs.put {K : PySem.W.Frag} {H : Hp} {ρ : List Addr} (k : Key) {d : D} {v : V} (rd : RV K H ρ d v) {kvs : List (Key × D)} {vs : List (Key × V)} (r : RKVs K H ρ kvs vs) : RKVs K H ρ (putD kvs k d) (putK vs k v) := by
  unfold putD putK
  rw [r.any k]
  split
  · exact r.repl k rd
  · exact r.snoc k rd
theorem RKVs.len {K : PySem.W.Frag} {H : Hp} {ρ : List Addr} {kvs : List (Key × D)} {vs : List (Key × V)} (r : RKVs K H ρ kvs vs) : kvs.length = vs.length := by
  have := congrArg List.length r.1
  simpa using this

section
variable {X : Cx} {pos p apos cpos : Pos} {x : Str} {e a b o i : Expr} {es : List Expr} {fa fb fc fo fi fe : M D} {f g : M (List D)}

/-! subscripts -/
def ixD : D → D → DHeap → Res D := fun x y h => match y with
  | .int i => match seqOf h x with
    | some ds => match atI ds i with | some d => .ok d h | none => .bad
    | none => match x with
      | .str z => if z.length ≤ sizeLine then (match atI z.cps.toList i with | some c => .ok (.str ⟨#[c]⟩) h | none => .bad) else .bad
      | .ref n => match h[n]? with | some (.dic kvs) => (match lookD kvs (.inl i) with | some d => .ok d h | none => .bad) | _ => .bad
      | _ => .bad
  | .str k => match x with
    | .ref n => match h[n]? with | some (.dic kvs) => (match lookD kvs (.inr k) with | some d => .ok d h | none => .bad) | _ => .bad
    | _ => .bad
  | _ => .bad
theorem RVs.atI {K : PySem.W.Frag} {H : Hp} {ρ : List Addr} {ds : List D} {xs : List V} {i : Int} {d : D} (r : RVs K H ρ ds xs) (e : atI ds i = some d) : ∃ v, L2.atI xs i = some v ∧ RV K H ρ d v := by
  unfold L2.atI at e ⊢
  rw [r.len] at e
  cases q : ixN xs.length i with
  | none => rw [q] at e; cases e
  | some j =>
    rw [q] at e
    exact r.get e
def rIxDict (K : PySem.W.Frag) : R2 := fun x y H Q => ∃ a v, x = .ref a ∧ DGet H a y (some v) ∧ Q v H
theorem ix_dict (hu : X.A.units + 1 < cLine) : IxR X (rIxDict X.K) := by
  intro value slice pins s σ H x y v u Q I rx ry h hs
  obtain ⟨a, w, rfl, g, q⟩ := h
  cases rx
  exact tail_any (dict_typeIs I g) PySem.F.slot_dict_getitem.lookup (d_getItem hu I g ry fun w' s' I' rw' => ⟨w, H, I', rw', q⟩) hs
theorem dic_get {K : PySem.W.Frag} {H : Hp} {ρ : List Addr} {h : DHeap} (rh : RH K H ρ h) {n : Nat} {kvs : List (Key × D)} {k : Key} {d : D} {x y : V} (hn : h[n]? = some (.dic kvs)) (l : lookD kvs k = some d) (rx : RV K H ρ (.ref n) x) (ey : y = kV k) :
    ∃ a v, x = .ref a ∧ DGet H a y (some v) ∧ RV K H ρ d v := by
  obtain ⟨a, rfl, ha⟩ := rx
  obtain ⟨vs, x1, x2⟩ := rh.at_ _ _ _ hn ha
  have q := x2.look k
  rw [l] at q
  obtain ⟨v, q1, q2⟩ := q
  subst ey
  exact ⟨a, v, rfl, by rw [← q1]; exact .k x1, q2⟩
theorem ixI {r r' : R2} (ho : IxR X r) (i : ∀ x y H Q, r' x y H Q → r x y H Q) : IxR X r' :=
  fun value slice pins s σ H x y v u Q I rx ry q => ho value slice pins s σ H x y v u Q I rx ry (i x y H Q q)
theorem id_ix (hu : X.A.units + 1 < cLine) : IxR X (RO X.K (XY X) ixD) := ixI (ix_seq.or (ix_dict hu)) fun x y H Q q => by
  obtain ⟨dx, dy, h, ρ, rx, ry, rh, p⟩ := q
  unfold ixD at p
  split at p
  · rename_i i
    split at p
    · rename_i ds hs
      split at p
      · rename_i d hd
        obtain ⟨a, xs, rfl, hq, hr⟩ := seq_ok rh hs rx
        obtain ⟨v, hv, rv⟩ := hr.atI hd
        rcases hq with hq | hq
        · exact .inl (.inl ⟨a, xs, i, v, rfl, ry, hq, hv, Post.ok p rh rv⟩)
        · exact .inl (.inr (.inl ⟨a, xs, i, v, rfl, ry, hq.sq, hv, Post.ok p rh rv⟩))
      · exact p.elim
    · split at p
      · rename_i z hs
        split at p
        · rename_i hz
          split at p
          · rename_i c hc
            exact .inl (.inr (.inr ⟨z, i, c, rx, ry, hz, hc, Post.ok p rh (rfl : RV X.K H ρ (.str _) _)⟩))
          · exact p.elim
        · exact p.elim
      · split at p
        · rename_i kvs hn
          split at p
          · rename_i d hd
            obtain ⟨a, v, e1, g, r⟩ := dic_get (k := .inl i) rh hn hd rx ry
            exact .inr ⟨a, v, e1, g, Post.ok p rh r⟩
          · exact p.elim
        · exact p.elim
      · exact p.elim
  · rename_i k
    split at p
    · split at p
      · rename_i kvs hn
        split at p
        · rename_i d hd
          obtain ⟨a, v, e1, g, r⟩ := dic_get (k := .inr k) rh hn hd rx ry
          exact .inr ⟨a, v, e1, g, Post.ok p rh r⟩
        · exact p.elim
      · exact p.elim
    · exact p.elim
  · exact p.elim
theorem de_ix (hu : X.A.units + 1 < cLine) (ha : DE X a fa) (hb : DE X b fb) (hs : PlainIx b) : DE X (.Subscript a b pos) (bin2 ixD fa fb) := ⟨peI (pe_ix (id_ix hu) ha.run hb.run hs) fun _ _ _ q => two q⟩

/-! slices -/
def RO1 (_ : Hp) (_ : List Addr) (a b : Option Int) : Prop := a = b
structure DO (X : Cx) (e : Option Expr) (f : M (Option Int)) : Prop where
  run : PO X e (rdG X.K (XY X) RO1 f)
def oNone : M (Option Int) := fun _ h => .ok none h
def oSome (f : M D) : M (Option Int) := fun σ h => (f σ h).bind fun d h1 => match d with | .int i => .ok (some i) h1 | _ => .bad
theorem poI {e : Option Expr} {t t' : TO} (h : PO X e t) (i : ∀ σ H Q, t' σ H Q → t σ H Q) : PO X e t' := ⟨fun pins s σ H Q I q => h.run pins s σ H Q I (i σ H Q q)⟩
theorem do_none : DO X none oNone := ⟨poI po_none fun σ H Q q => by
  obtain ⟨σd, h, ρ, re, rh, p⟩ := q
  exact Post.ok p rh (rfl : RO1 _ _ none none)⟩
theorem do_some (h : DE X e fa) : DO X (some e) (oSome fa) := ⟨poI (po_some h.run) fun σ H Q q => by
  obtain ⟨σd, h, ρ, re, rh, p⟩ := q
  refine ⟨σd, h, ρ, re, rh, p.bind.mono fun v H1 ⟨d, h1, ρ1, e1, rh1, r1, p1⟩ => ?_⟩
  cases d with
  | int i => exact ⟨i, r1, Post.ok p1 rh1 (rfl : RO1 _ _ _ _)⟩
  | _ => exact p1.elim⟩
def cutL {α : Type} (xs : List α) (lo hi : Option Int) : List α := (xs.drop (HT.sIx xs.length 0 lo)).take (HT.sIx xs.length xs.length hi - HT.sIx xs.length 0 lo)
def slD (x : D) (lo hi : Option Int) (h : DHeap) : Res D := match x with
  | .tup ds => .ok (.tup (cutL ds lo hi)) h
  | .str z => if z.length ≤ sizeLine then .ok (.str (cutS z lo hi)) h else .bad
  | d => match seqOf h d with | some ds => .ok (.ref h.length) (h ++ [.lst (cutL ds lo hi)]) | none => .bad
def slM (f : M D) (l u : M (Option Int)) : M D := fun σ h => (f σ h).bind fun x h1 => (l σ h1).bind fun lo h2 => (u σ h2).bind fun hi h3 => slD x lo hi h3
theorem RVs.cut {K : PySem.W.Frag} {H : Hp} {ρ : List Addr} {ds : List D} {xs : List V} (r : RVs K H ρ ds xs) (lo hi : Option Int) : RVs K H ρ (cutL ds lo hi) (cutV xs lo hi) := by
  unfold cutL cutV
  rw [r.len]
  exact (r.drop _).take _
theorem cut_whole {xs : List V} {lo hi : Option Int} (h : HT.sIx xs.length 0 lo = 0 ∧ HT.sIx xs.length xs.length hi = xs.length) : cutV xs lo hi = xs := by
  unfold cutV
  rw [h.1, h.2, Nat.sub_zero, List.drop_zero, List.take_length]
theorem de_sl {lo hi : Option Expr} {fl fh : M (Option Int)} {p2 : Pos} (ha : DE X a fa) (hl : DO X lo fl) (hh : DO X hi fh) : DE X (.Subscript a (.Slice lo hi none p2) pos) (slM fa fl fh) :=
  ⟨peI (pe_slice (slTupU.or (sl_list.or sl_str)) ha.run hl.run hh.run) fun σ H Q q => by
    obtain ⟨σd, h, ρ, re, rh, p⟩ := q
    refine ⟨σd, h, ρ, re, rh, p.bind.mono fun v H1 ⟨x, h1, ρ1, e1, rh1, r1, p1⟩ => ?_⟩
    refine ⟨σd, h1, ρ1, re.mono e1, rh1, p1.bind.mono fun l H2 ⟨l', h2, ρ2, e2, rh2, r2, p2⟩ => ?_⟩
    refine ⟨σd, h2, ρ2, (re.mono e1).mono e2, rh2, p2.bind.mono fun u H3 ⟨u', h3, ρ3, e3, rh3, r3, p3⟩ => ?_⟩
    cases (show l' = l from r2)
    cases (show u' = u from r3)
    have rx := RV.mono e3 _ _ (RV.mono e2 _ _ r1)
    have seq : ∀ {ds : List D}, seqOf h3 x = some ds → isTup x = false → Post X.K (XY X) H3 ρ3 (RV X.K) (.ok (.ref h3.length) (h3 ++ [.lst (cutL ds l u)])) Q → rSlL X.K v l u H3 Q := fun {ds} hs ht pp => by
      obtain ⟨q, xs, rfl, hq, hr⟩ := lst_ok rh3 hs ht rx
      refine ⟨q, xs, rfl, hq, fun a ha => ?_⟩
      obtain ⟨x1, x2⟩ := rh3.push (c := .lst (cutL ds l u)) ha (o := .lst (cutV xs l u)) rfl ⟨_, rfl, hr.cut l u⟩
      exact pp _ _ _ x1 x2 ⟨a, rfl, by rw [← rh3.len]; simp⟩
    cases x with
    | tup ds =>
      obtain ⟨a, xs, rfl, hs, hr⟩ := rx
      refine .inl ⟨a, xs, rfl, hs.sq, fun hw => ?_, fun hw q hq ob hd => ?_⟩
      · have hc := hr.cut l u
        rw [cut_whole hw] at hc
        exact Post.ok p3 rh3 ⟨a, xs, rfl, hs, hc⟩
      · obtain ⟨x1, x2⟩ := rh3.lay (.frz ob (.tup (cutV xs l u))) hq
        exact p3 _ _ _ x1 x2 ⟨q, _, rfl, .new hd, RVs.mono x1 _ _ (hr.cut l u)⟩
    | str z =>
      simp only [slD] at p3
      split at p3
      · rename_i hz
        exact .inr (.inr ⟨z, rx, hz, Post.ok p3 rh3 (rfl : RV X.K H3 ρ3 (.str _) _)⟩)
      · exact p3.elim
    | fl ds => exact .inr (.inl (seq rfl rfl p3))
    | ref n =>
      simp only [slD] at p3
      split at p3
      · rename_i ds hs
        exact .inr (.inl (seq hs rfl p3))
      · exact p3.elim
    | _ => exact p3.elim⟩

/-! displays -/
def tupM (f : M (List D)) : M D := fun σ h => (f σ h).bind fun ds h1 => if ds.length ≤ sizeLine then .ok (.tup ds) h1 else .bad
def lstM (f : M (List D)) : M D := fun σ h => (f σ h).bind fun ds h1 => if ds.length ≤ sizeLine then .ok (.ref h1.length) (h1 ++ [.lst ds]) else .bad
theorem de_tup {x1} (hf : DA X es f) : DE X (.Tuple es x1 pos) (tupM f) := ⟨peI (peTupU hf.run) fun σ H Q q => by
  obtain ⟨σd, h, ρ, re, rh, p⟩ := q
  refine ⟨σd, h, ρ, re, rh, p.bind.mono fun vs H1 ⟨ds, h1, ρ1, e1, rh1, r1, p1⟩ => ?_⟩
  split at p1
  · rename_i hl
    refine ⟨by rw [← r1.len]; exact hl, fun q hq ob hd => ?_⟩
    obtain ⟨x1, x2⟩ := rh1.lay (.frz ob (.tup vs)) hq
    exact p1 _ _ _ x1 x2 ⟨q, _, rfl, .new hd, RVs.mono x1 _ _ r1⟩
  · exact p1.elim⟩
theorem de_lst (hf : DA X es f) : DE X (.List es pos) (lstM f) := ⟨peI (pe_lst hf.run) fun σ H Q q => by
  obtain ⟨σd, h, ρ, re, rh, p⟩ := q
  refine ⟨σd, h, ρ, re, rh, p.bind.mono fun vs H1 ⟨ds, h1, ρ1, e1, rh1, r1, p1⟩ => ?_⟩
  split at p1
  · rename_i hl
    refine ⟨by rw [← r1.len]; exact hl, fun q hq => ?_⟩
    obtain ⟨x1, x2⟩ := rh1.push (c := .lst ds) hq (o := .lst vs) rfl ⟨_, rfl, r1⟩
    exact p1 _ _ _ x1 x2 ⟨q, rfl, by rw [← rh1.len]; simp⟩
  · exact p1.elim⟩
def newDic : M D := fun _ h => .ok (.ref h.length) (h ++ [.dic []])
theorem de_dic : DE X (.Dict [] [] pos) newDic := ⟨peI pe_dnewK fun σ H Q q => by
  obtain ⟨σd, h, ρ, re, rh, p⟩ := q
  intro q hq
  obtain ⟨x1, x2⟩ := rh.push (c := .dic []) hq (o := .dK []) rfl ⟨_, rfl, .nil⟩
  exact p _ _ _ x1 x2 ⟨q, rfl, by rw [← rh.len]; simp⟩⟩

/-! a list grows -/
def appM (fo fe : M D) : M D := fun σ h => (fo σ h).bind fun x h1 => match x with
  | .ref n => match h1[n]? with
    | some (.lst _) => (fe σ h1).bind fun y h2 => match h2[n]? with
      | some (.lst ds) => if ds.length < sizeLine then .ok .non (h2.set n (.lst (ds ++ [y]))) else .bad
      | _ => .bad
    | _ => .bad
  | _ => .bad
theorem de_app (ho : DE X o fo) (he : DE X e fe) (hbase : attributeBase o "append" X.env (eval o X.env) = eval o X.env := by rfl)
    (hfew : ((backTo cpos (starEach (e :: []) X.env)).all (fun x => !x.1) && (backToKw cpos (keywordEach [] X.env)).all (fun x => x.1.isSome)
      && decide ((e :: []).length + ([] : List Keyword).length + (if ([] : List Keyword).isEmpty then 0 else 1) < 30)) = true := by rfl)
    (hline : (apos.endLine == cpos.line) = true := by rfl) (hs : starEach (e :: []) X.env = (false, eval e X.env) :: starEach [] X.env := by rfl) (hplain : (backTo cpos (starEach [] X.env)).any (·.1) = false := by rfl) :
    DE X (.Call (.Attribute o "append" apos) [e] [] cpos) (appM fo fe) :=
  ⟨peI (pe_bm PySem.F.plainAttrs_list PySem.F.slot_list_append PySem.F.type_list_append mt_append ho.run (pa_cons he.run pa_nil hs) hbase hfew hline hs hplain) fun σ H Q q => by
    obtain ⟨σd, h, ρ, re, rh, p⟩ := q
    refine ⟨σd, h, ρ, re, rh, p.bind.mono fun v H1 ⟨x, h1, ρ1, e1, rh1, r1, p1⟩ => ?_⟩
    cases x with
    | ref n =>
      simp only at p1
      split at p1
      · rename_i es hn
        obtain ⟨a, rfl, ha⟩ := r1
        obtain ⟨xs, x1, x2⟩ := rh1.at_ _ _ _ hn ha
        refine ⟨Or.inl ⟨rfl, _, SqL.of x1⟩, σd, h1, ρ1, re.mono e1, rh1, p1.bind.mono fun w H2 ⟨y, h2, ρ2, e2, rh2, r2, p2⟩ => ?_⟩
        split at p2
        · rename_i ds hn2
          split at p2
          · rename_i hl
            obtain ⟨ys, y1, y2⟩ := rh2.at_ _ _ _ hn2 (e2.pre _ _ ha)
            refine ⟨a, ys, w, rfl, rfl, y1, by rw [← y2.len]; exact hl, ?_⟩
            obtain ⟨z1, z2⟩ := rh2.put (e2.pre _ _ ha) (o := .lst (ys ++ [w])) rfl (c := .lst (ds ++ [y])) ⟨_, rfl, y2.app (RVs.one r2)⟩
            exact p2 _ _ _ z1 z2 rfl
          · exact p2.elim
        · exact p2.elim
      · exact p1.elim
    | _ => exact p1.elim⟩
end
end DL

set_option Elab.async false
set_option linter.all false
set_option maxRecDepth 100000
namespace DL
open PySem PySem.Spec PyProof.Rows L2
variable [TbC]
def Mx (xs : List Int) (m : Int) : Prop := m ∈ xs ∧ ∀ y, y ∈ xs → y ≤ m
section
variable {prog : Program} {w : World} {A : Around} {E : Value → Shared → Prop}
theorem tree_kw {id : String} {b : Builtin} {args : List Value} {kw : List (Str × Value)} {s : Shared} {Q : Value → Shared → Prop} (hk : builtinKind id = none) (hp : plainId id = true) (hb : entryFor table id = some b) (ha : argsOk id ⟨args, kw⟩)
    (hc : wpAny (model prog w) A.in1 (b ⟨args, kw⟩) (fun fin s' => match fin with
      | .done f => (match (Except.ok f : Result) with | .ok (.ret v) => Q v s' | .ok _ => False | .error e => E e s')
      | .again c' => c'.quiet = true ∧ codeAny (model prog w) A c' (fun r s' => match r with | .ok (.ret v) => Q v s' | .ok _ => False | .error e => E e s') s') E s) : wpAny (model prog w) A (call (.builtin id) args kw) Q E s := by
  apply wpAny_call
  apply codeAny_call_builtin hp hb
  simp only [checkBuiltinCall, hk]
  cases hsig : Manifest.signature? id with
  | none => exact wpAny_pure hc
  | some sig =>
    have ha' : Bind.checkArgs id sig ⟨args, kw⟩ = pure () := by simpa only [argsOk, hsig] using ha
    simp only [ha']
    exact wpAny_pure hc

theorem mx_loop {R : Result → Shared → Prop} {it l S : Addr} {its : List Value} {ns : List Int} {d : Value} (hh : A.in1.handled = none) (hi : IntsAre its ns) (h1 : it ≠ S) (h2 : l ≠ S) (h3 : l ≠ it) :
    ∀ (k j : Nat) (s : Shared) (vs : Array Value) (c : Nat), its.length - j = k → j ≤ its.length → s.heap.IsListIter it l j → s.heap.IsList l its.toArray →
    s.heap.get? S = some { cls := .type "list", dict := none, data := .seq vs c, slots := #[] } → ((j = 0 ∧ vs = #[]) ∨ ∃ m t, vs = #[.int m t, .int m t] ∧ Mx (ns.take j) m) →
    (∀ v h' tk, (∀ b o, b ≠ it → b ≠ S → s.heap.get? b = some o → h'.get? b = some o) → ((ns = [] ∧ v = d) ∨ ∃ m t, v = .int m t ∧ Mx ns m) → R (.ok (.ret v)) { s with heap := h', toks := tk }) →
    codeAny (model prog w) A (.builtin "max.loop" ⟨[.ref it, .none, .ref S], [("default", d)]⟩) R s := by
  have nm : (toString "max" ++ toString ".loop" : String) = "max.loop" := by decide
  have hlen : its.length = ns.length := hi.length
  intro k
  induction k with
  | zero =>
    intro j s vs c hk hj st hl hS hv hR
    have ej : j = its.length := by omega
    apply codeAny_builtin F.entry_max_loop
    rw [Around.under_plainId F.plain_max_loop _]
    show wpAny _ A.in1 (seqItems? (.ref S) >>= _) _ _ s
    apply wpAny_bind
    apply wpAny_seqItems hS rfl
    show wpAny _ A.in1 (tryCatch (pyNext (.ref it)) _ >>= _) _ _ s
    apply wpAny_bind
    apply wpAny_tryCatch
    refine wpAny_pyNext_list_end hh st hl (by rw [ej]; simp) fun h' eb => ?_
    have hS' := eb S _ (Ne.symm h1) hS
    rcases hv with ⟨e0, rfl⟩ | ⟨m, t, rfl, hm⟩
    · show wpAny _ A.in1 (rule _ >>= _) _ _ _
      refine wpAny_bind (wpAny_rule ?_)
      refine wpAny_pure (hR d h' s.toks (fun b o n1 n2 e => eb b o n1 e) (.inl ⟨?_, rfl⟩))
      apply List.length_eq_zero_iff.mp
      omega
    · show wpAny _ A.in1 (updateSeq S (fun _ => #[]) >>= _) _ _ _
      apply wpAny_bind
      refine wpAny_updateSeq hS' rfl (wpAny_bind (wpAny_letGo (wpAny_pure ?_)))
      refine hR (.int m t) _ s.toks (fun b o n1 n2 e => (Heap.get?_update_other _ _ (Ne.symm n2)).trans (eb b o n1 e)) (.inr ⟨m, t, rfl, ?_⟩)
      rw [ej, hlen, List.take_length] at hm
      exact hm
  | succ k ih =>
    intro j s vs c hk hj st hl hS hv hR
    have hlt : j < its.length := by omega
    have hltn : j < ns.length := by omega
    obtain ⟨t, et⟩ : ∃ t, its[j]? = some (.int ns[j] t) := by
      obtain ⟨u, e1, e2⟩ := (vals_of_ints hi).get (i := j) (x := .int ns[j]) (by simp [hltn])
      obtain ⟨t, rfl⟩ := e2
      exact ⟨t, e1⟩
    have ht : ns.take (j + 1) = ns.take j ++ [ns[j]] := by rw [List.take_add_one]; simp [hltn]
    apply codeAny_builtin F.entry_max_loop
    rw [Around.under_plainId F.plain_max_loop _]
    show wpAny _ A.in1 (seqItems? (.ref S) >>= _) _ _ s
    apply wpAny_bind
    apply wpAny_seqItems hS rfl
    show wpAny _ A.in1 (tryCatch (pyNext (.ref it)) _ >>= _) _ _ s
    apply wpAny_bind
    apply wpAny_tryCatch
    refine wpAny_pyNext_list_item st hl (x := .int ns[j] t) (by simpa using et) fun h' st' sb => ?_
    have hS' := (sb.2 S (Ne.symm h1)).trans hS
    have hl' : h'.IsList l its.toArray := by
      obtain ⟨o, e, r⟩ := hl
      exact ⟨o, (sb.2 l h3).trans e, r⟩
    rcases hv with ⟨e0, rfl⟩ | ⟨m, tm, rfl, hm⟩
    · show wpAny _ A.in1 (updateSeq S (fun _ => #[.int ns[j] t, .int ns[j] t]) >>= _) _ _ _
      apply wpAny_bind
      refine wpAny_updateSeq hS' rfl ?_
      rw [nm]
      refine wpAny_pure ⟨plainId_quiet F.plain_max_loop _, ih (j + 1) _ _ _ (by omega) hlt ?_ ?_ (Heap.get?_update_self _ hS' rfl) (.inr ⟨ns[j], t, rfl, ?_⟩) fun v h'' tk kp hv => ?_⟩
      · obtain ⟨o, e, r⟩ := st'
        exact ⟨o, (Heap.get?_update_other _ _ (Ne.symm h1)).trans e, r⟩
      · obtain ⟨o, e, r⟩ := hl'
        exact ⟨o, (Heap.get?_update_other _ _ (Ne.symm h2)).trans e, r⟩
      · rw [ht, show ns.take j = [] by simp [e0]]
        exact ⟨by simp, fun y hy => by simp at hy; omega⟩
      · exact hR v h'' tk (fun b o n1 n2 e => kp b o n1 n2 ((Heap.get?_update_other _ _ (Ne.symm n2)).trans ((sb.2 b n1).trans e))) hv
    · show wpAny _ A.in1 (tryCatch (holding [.int ns[j] t, .int ns[j] t] (richCompare .Gt (.int ns[j] t) (.int m tm) >>= _)) _ >>= _) _ _ _
      apply wpAny_bind
      apply wpAny_tryCatch
      apply wpAny_holding
      apply wpAny_bind
      refine CmpOf.ints_gt (P := fun i v => ∃ t, v = .int (if i = 0 then ns[j] else m) t) (fun i => if i = 0 then ns[j] else m) (fun _ _ x => x) 0 1 _ _ _ _ _ ⟨t, rfl⟩ ⟨tm, rfl⟩ ?_
      refine wpAny_bind (wpAny_holding (wpAny_truthy_bool ?_))
      refine wpAny_bind (wpAny_letGo (wpAny_pure ?_))
      have eb : (fun i j_1 : Nat => decide ((if i = 0 then ns[j] else m) > if j_1 = 0 then ns[j] else m)) 0 1 = decide (ns[j] > m) := by simp
      rw [eb]
      by_cases hgt : ns[j] > m
      · rw [decide_eq_true hgt]
        simp only [if_true]
        apply wpAny_bind
        refine wpAny_updateSeq hS' rfl (wpAny_bind (wpAny_letGo ?_))
        rw [nm]
        refine wpAny_pure ⟨plainId_quiet F.plain_max_loop _, ih (j + 1) _ _ _ (by omega) hlt ?_ ?_ (Heap.get?_update_self _ hS' rfl) (.inr ⟨ns[j], t, rfl, ?_⟩) fun v h'' tk kp hv => ?_⟩
        · obtain ⟨o, e, r⟩ := st'
          exact ⟨o, (Heap.get?_update_other _ _ (Ne.symm h1)).trans e, r⟩
        · obtain ⟨o, e, r⟩ := hl'
          exact ⟨o, (Heap.get?_update_other _ _ (Ne.symm h2)).trans e, r⟩
        · rw [ht]
          refine ⟨List.mem_append_right _ List.mem_cons_self, fun y hy => ?_⟩
          rcases List.mem_append.mp hy with q | q
          · have := hm.2 y q; omega
          · simp at q; omega
        · exact hR v h'' tk (fun b o n1 n2 e => kp b o n1 n2 ((Heap.get?_update_other _ _ (Ne.symm n2)).trans ((sb.2 b n1).trans e))) hv
      · rw [decide_eq_false hgt]
        simp only [Bool.false_eq_true, if_false]
        refine wpAny_bind (wpAny_letGo ?_)
        rw [nm]
        refine wpAny_pure ⟨plainId_quiet F.plain_max_loop _, ih (j + 1) _ _ _ (by omega) hlt st' hl' hS' (.inr ⟨m, tm, rfl, ?_⟩) fun v h'' tk kp hv => ?_⟩
        · rw [ht]
          refine ⟨List.mem_append_left _ hm.1, fun y hy => ?_⟩
          rcases List.mem_append.mp hy with q | q
          · exact hm.2 y q
          · simp at q; omega
        · exact hR v h'' tk (fun b o n1 n2 e => kp b o n1 n2 ((sb.2 b n1).trans e)) hv
theorem args_maxd (a d : Value) : argsOk "max" ⟨[a], [(Str.ofString "default", d)]⟩ := by unfold argsOk; kernel_rfl
/-- max(l, default=d) -/
theorem mx_call {l : Addr} {its : List Value} {ns : List Int} {d : Value} {s : Shared} {Q : Value → Shared → Prop} (hh : A.handled = none) (hi : IntsAre its ns) (hl : s.heap.IsList l its.toArray)
    (hQ : ∀ v h' tk, (∀ b o, s.heap.get? b = some o → h'.get? b = some o) → ((ns = [] ∧ v = d) ∨ ∃ m t, v = .int m t ∧ Mx ns m) → Q v { s with heap := h', toks := tk }) : wpAny (model prog w) A (call (.builtin "max") [.ref l] [(Str.ofString "default", d)]) Q E s := by
  have nm : (toString "max" ++ toString ".loop" : String) = "max.loop" := by decide
  have lt : l < s.heap.objs.size := by obtain ⟨_, e, _⟩ := hl; exact Heap.lt_size e
  refine tree_kw F.kind_max F.plain_max F.entry_max (args_maxd _ _) ?_
  show wpAny _ A.in1 (Builtin.Builtins.bindParams "max" ["key", "default"] 0 ⟨[], [(Str.ofString "default", d)]⟩ >>= _) _ _ s
  refine wpAny_bind (wpAny_of_eq (show Builtin.Builtins.bindParams "max" ["key", "default"] 0 ⟨[], [(Str.ofString "default", d)]⟩ = pure [none, some d] from rfl) ?_)
  refine wpAny_bind (wpAny_pure ?_)
  apply wpAny_bind
  refine wpAny_pyIter_list hl ?_
  refine wpAny_bind (wpAny_newObj_type ?_)
  rw [nm]
  have z1 : (s.heap.push { cls := .type "list_iterator", data := .fields #[.ref l, .int 0 0] }).objs.size = s.heap.objs.size + 1 := Heap.size_push ..
  refine wpAny_pure ⟨plainId_quiet F.plain_max_loop _, mx_loop hh hi (it := s.heap.objs.size) (l := l) ?_ ?_ ?_ its.length 0 _ #[] _ rfl (Nat.zero_le _) ?_ ?_ (Heap.get?_push_size _ rfl) (.inl ⟨rfl, rfl⟩) fun v h' tk kp hv => ?_⟩
  · rw [z1]; exact Nat.ne_of_lt (Nat.lt_succ_self _)
  · rw [z1]; exact Nat.ne_of_lt (Nat.lt_succ_of_lt lt)
  · exact Nat.ne_of_lt lt
  · refine ⟨_, Heap.get?_push_of_some _ (Heap.get?_push_size _ rfl), rfl, rfl⟩
  · obtain ⟨o, e, r⟩ := hl
    exact ⟨o, Heap.get?_push_of_some _ (Heap.get?_push_of_some _ e), r⟩
  · refine hQ v h' tk (fun b o e => kp b o ?_ ?_ (Heap.get?_push_of_some _ (Heap.get?_push_of_some _ e))) hv
    · exact Nat.ne_of_lt (Heap.lt_size e)
    · rw [z1]; exact Nat.ne_of_lt (Nat.lt_succ_of_lt (Heap.lt_size e))
end
end DL

set_option Elab.async false
set_option linter.all false
set_option maxRecDepth 100000
namespace DL
open PySem PySem.Spec PyProof.Rows L2
variable [TbC]
section
variable {X : Cx} {pos pos' p apos cpos : Pos} {x : Str} {e a b o i : Expr} {st : Stmt} {sts rest : List Stmt} {fa fb fc fo fi fe : M D} {f g : M Fl} {t : M Bool}

/-! small statements -/
def sNil : M Fl := fun σ h => .ok (.nx σ) h
def sSeq (f g : M Fl) : M Fl := fun σ h => (f σ h).bind fun fl h1 => match fl with | .nx σ1 => g σ1 h1 | .rt d => .ok (.rt d) h1 | .bk s => .ok (.bk s) h1 | .ct s => .ok (.ct s) h1
theorem dss_nil : DSs X [] sNil := ⟨pssI pss_nil fun E σ H q => by
  obtain ⟨σd, h, ρ, re, rh, p⟩ := q
  exact (p.ok rh) σ re⟩
theorem dss_one (h : DS X st f) : DSs X [st] f := ⟨pss_one h.run⟩
theorem dss_cons (h1 : DS X st f) (h2 : DSs X rest g) : DSs X (st :: rest) (sSeq f g) := ⟨pssI (pss_cons h1.run h2.run) fun E σ H q => by
  obtain ⟨σd, h, ρ, re, rh, p⟩ := q
  refine ⟨σd, h, ρ, re, rh, p.seq fun fl h1 H1 ρ1 e1 rh1 p1 => ?_⟩
  cases fl with
  | nx σ1 => exact fun s rs => ⟨σ1, h1, ρ1, rs, rh1, p1⟩
  | rt d => exact p1.ok rh1
  | bk s => exact p1.ok rh1
  | ct s => exact p1.ok rh1⟩
def sExpr (f : M D) : M Fl := fun σ h => (f σ h).bind fun _ h1 => .ok (.nx σ) h1
def sRet (f : M D) : M Fl := fun σ h => (f σ h).bind fun d h1 => .ok (.rt d) h1
def sRetN : M Fl := fun _ h => .ok (.rt .non) h
def sBrk : M Fl := fun σ h => .ok (.bk σ) h
def sCt : M Fl := fun σ h => .ok (.ct σ) h
def sIf (t : M Bool) (f g : M Fl) : M Fl := fun σ h => (t σ h).bind fun b h1 => if b = true then f σ h1 else g σ h1
theorem ds_expr (he : DE X e fe) (hs : swapsWith e none pos.line X.env = pure false := by rfl) : DS X (.Expr e pos) (sExpr fe) := ⟨psI (ps_expr he.run hs) fun E σ H q => by
  obtain ⟨σd, h, ρ, re, rh, p⟩ := q
  exact ⟨σd, h, ρ, re, rh, p.bind.mono fun v H1 ⟨d, h1, ρ1, e1, rh1, r1, p1⟩ => (p1.ok rh1) σ (re.mono e1)⟩⟩
theorem ds_ret (he : DE X e fe) : DS X (.Return (some e) pos) (sRet fe) := ⟨psI (ps_ret he.run) fun E σ H q => by
  obtain ⟨σd, h, ρ, re, rh, p⟩ := q
  exact ⟨σd, h, ρ, re, rh, p.bind.mono fun v H1 ⟨d, h1, ρ1, e1, rh1, r1, p1⟩ => (p1.ok rh1) v r1⟩⟩
theorem ds_retN : DS X (.Return none pos) sRetN := ⟨psI ps_retN fun E σ H q => by
  obtain ⟨σd, h, ρ, re, rh, p⟩ := q
  exact (p.ok rh) _ rfl⟩
theorem ds_pass : DS X (.Pass pos) sNil := ⟨psI ps_pass fun E σ H q => by
  obtain ⟨σd, h, ρ, re, rh, p⟩ := q
  exact (p.ok rh) σ re⟩
theorem ds_break : DS X (.Break pos) sBrk := ⟨psI ps_break fun E σ H q => by
  obtain ⟨σd, h, ρ, re, rh, p⟩ := q
  exact (p.ok rh) σ re⟩
theorem ds_continue : DS X (.Continue pos) sCt := ⟨psI ps_continue fun E σ H q => by
  obtain ⟨σd, h, ρ, re, rh, p⟩ := q
  exact (p.ok rh) σ re⟩
theorem ds_if {c : Expr} {u v : List Stmt} (hc : DT X c t) (ha : DSs X u f) (hb : DSs X v g) : DS X (.If c u v pos) (sIf t f g) := ⟨psI (ps_if hc.run ha.run hb.run) fun E σ H q => by
  obtain ⟨σd, h, ρ, re, rh, p⟩ := q
  refine ⟨σd, h, ρ, re, rh, p.bind.mono fun x H1 ⟨d, h1, ρ1, e1, rh1, r1, p1⟩ => ?_⟩
  cases (show d = x from r1)
  cases x with
  | true => exact ⟨σd, h1, ρ1, re.mono e1, rh1, p1⟩
  | false => exact ⟨σd, h1, ρ1, re.mono e1, rh1, p1⟩⟩

/-! targets -/
def rdT (K : PySem.W.Frag) (Y : EX) (g : D → M DEnv) : TG := fun v σ H Q => ∃ d σd h ρ, RV K H ρ d v ∧ RE K H ρ σd σ ∧ RH K H ρ h ∧ Post K Y H ρ (RE K) (g d σd h) Q
structure DG (X : Cx) (tg : Expr) (g : D → M DEnv) : Prop where
  run : PG X tg (rdT X.K (XY X) g)
theorem pgI {tg : Expr} {t t' : TG} (h : PG X tg t) (i : ∀ v σ H Q, t' v σ H Q → t v σ H Q) : PG X tg t' := ⟨fun pins s σ H v u Q I r q => h.run pins s σ H v u Q I r (i v σ H Q q)⟩
def gN (i : Nat) : D → M DEnv := fun d σ h => .ok (σ.set i (some d)) h
theorem dg_name {i : Nat} (hN : X.N.Nodup) (hi : X.N[i]? = some x) (hx : Loc X.env.scope x) (hf : X.fn x = true ∨ X.env.scope.names.lookup x = some .local := by first | exact .inl rfl | exact .inr rfl | assumption) : DG X (.Name x pos) (gN i) :=
  ⟨pgI (pg_name hN hi hx hf) fun v σ H Q q => by
    obtain ⟨d, σd, h, ρ, rd, re, rh, p⟩ := q
    exact Post.ok p rh (re.set i rd)⟩
def sAsg (f : M D) (g : D → M DEnv) : M Fl := fun σ h => (f σ h).bind fun d h1 => (g d σ h1).bind fun σ1 h2 => .ok (.nx σ1) h2
def sSet (i : Nat) (f : M D) : M Fl := fun σ h => (f σ h).bind fun d h1 => .ok (.nx (σ.set i (some d))) h1
theorem ds_set {i : Nat} (hN : X.N.Nodup) (hi : X.N[i]? = some x) (hx : Loc X.env.scope x) (he : DE X e fe) (hs : swapsWith e (some (.Name x pos')) pos.line X.env = pure false := by rfl) (hf : X.fn x = true ∨ X.env.scope.names.lookup x = some .local := by first | exact .inl rfl | exact .inr rfl | assumption) :
    DS X (.Assign [.Name x pos'] e pos) (sSet i fe) := ⟨psI (ps_set hN hi hx he.run hs hf) fun E σ H q => by
  obtain ⟨σd, h, ρ, re, rh, p⟩ := q
  exact ⟨σd, h, ρ, re, rh, p.bind.mono fun v H1 ⟨d, h1, ρ1, e1, rh1, r1, p1⟩ => (p1.ok rh1) _ ((re.mono e1).set i r1)⟩⟩
theorem ds_asg {tg : Expr} {gg : D → M DEnv} (he : DE X e fe) (hg : DG X tg gg) (hs : swapsWithSole [tg] e pos.line X.env = pure false := by rfl) (hw : swappedStores [tg] e X.env = pure none := by rfl)
    (h1 : (assignEach [tg] X.env).map (·.2) = [assign tg X.env] := by rfl) : DS X (.Assign [tg] e pos) (sAsg fe gg) := ⟨psI (ps_asg he.run hg.run hs hw h1) fun E σ H q => by
  obtain ⟨σd, h, ρ, re, rh, p⟩ := q
  refine ⟨σd, h, ρ, re, rh, p.bind.mono fun v H1 ⟨d, h1, ρ1, e1, rh1, r1, p1⟩ => ?_⟩
  exact ⟨d, σd, h1, ρ1, r1, re.mono e1, rh1, p1.bind.mono fun s H2 ⟨s', h2, ρ2, e2, rh2, r2, p2⟩ => (p2.ok rh2) _ r2⟩⟩
/-- o[i] = v -/
def setD (o i v : D) (h : DHeap) : Res Unit := match o with
  | .ref n => match h[n]? with
    | some (.lst ds) => (match i with | .int k => (match ixN ds.length k with | some j => .ok () (h.set n (.lst (ds.set j v))) | none => .bad) | _ => .bad)
    | some (.dic kvs) => (match keyD i with | some k => if kvs.length < sizeLine then .ok () (h.set n (.dic (putD kvs k v))) else .bad | none => .bad)
    | none => .bad
  | _ => .bad
def gSb (fo fi : M D) : D → M DEnv := fun v σ h => (fo σ h).bind fun o h1 => (fi σ h1).bind fun i h2 => (setD o i v h2).bind fun _ h3 => .ok σ h3
def rSetDic : TSet := fun o i v H Q => ∃ a H', o = .ref a ∧ DPut H a i v H' ∧ Q H'
theorem set_dic (hu : X.A.units + 1 < cLine) : PSet X rSetDic := by
  intro pins s σ H o i v ov iv u Q I ro ri rv h
  obtain ⟨a, H', rfl, g, q⟩ := h
  cases ro
  exact d_setItem hu I g ri rv fun s' I' => ⟨H', I', q⟩
theorem PSet.or {r r' : TSet} (h : PSet X r) (h' : PSet X r') : PSet X (fun o i v H Q => r o i v H Q ∨ r' o i v H Q) := by
  intro pins s σ H o i v ov iv u Q I ro ri rv q
  rcases q with q | q
  · exact h pins s σ H o i v ov iv u Q I ro ri rv q
  · exact h' pins s σ H o i v ov iv u Q I ro ri rv q
theorem dg_sub (hu : X.A.units + 1 < cLine) (ho : DE X o fo) (hi : DE X i fi)
    (ha : ∀ v, assign (.Subscript o i pos) X.env v = (do
      let ov ← holding [v] (eval o X.env)
      let iv ← holding [v, ov] (eval i X.env)
      standAt pos
      holding [v, ov, iv] (setItem ov iv v)
      release [v, ov, iv] []) := by intro _; rfl) : DG X (.Subscript o i pos) (gSb fo fi) :=
  ⟨pgI (pg_sub ho.run hi.run (PSet.or set_list (set_dic hu)) ha) fun v σ H Q q => by
    obtain ⟨d, σd, h, ρ, rd, re, rh, p⟩ := q
    refine ⟨σd, h, ρ, re, rh, p.bind.mono fun y H1 ⟨od, h1, ρ1, e1, rh1, r1, p1⟩ => ?_⟩
    refine ⟨σd, h1, ρ1, re.mono e1, rh1, p1.bind.mono fun z H2 ⟨id, h2, ρ2, e2, rh2, r2, p2⟩ => ?_⟩
    have rv := RV.mono e2 _ _ (RV.mono e1 _ _ rd)
    have ro := RV.mono e2 _ _ r1
    have re2 := (re.mono e1).mono e2
    unfold setD at p2
    cases od with
    | ref n =>
      simp only at p2
      split at p2
      · rename_i ds hn
        cases id with
        | int k =>
          simp only at p2
          split at p2
          · rename_i j hj
            obtain ⟨a, rfl, ha⟩ := ro
            obtain ⟨xs, x1, x2⟩ := rh2.at_ _ _ _ hn ha
            refine .inl ⟨a, xs, k, j, rfl, r2, x1, by rw [← x2.len]; exact hj, ?_⟩
            obtain ⟨z1, z2⟩ := rh2.put ha (o := .lst (xs.set j v)) rfl (c := .lst (ds.set j d)) ⟨_, rfl, x2.setAt j rv⟩
            exact p2 _ _ _ z1 z2 (re2.mono z1)
          · exact p2.elim
        | _ => exact p2.elim
      · rename_i kvs hn
        split at p2
        · rename_i k hk
          split at p2
          · rename_i hl
            obtain ⟨a, rfl, ha⟩ := ro
            obtain ⟨vs, x1, x2⟩ := rh2.at_ _ _ _ hn ha
            have ek := key_rv hk r2
            refine .inr ⟨a, _, rfl, by rw [ek]; exact .k x1 (by rw [← x2.len]; exact hl), ?_⟩
            obtain ⟨z1, z2⟩ := rh2.put ha (o := .dK (putK vs k v)) rfl (c := .dic (putD kvs k d)) ⟨_, rfl, x2.put k rv⟩
            exact p2 _ _ _ z1 z2 (re2.mono z1)
          · exact p2.elim
        · exact p2.elim
      · exact p2.elim
    | _ => exact p2.elim⟩
/-- a, b = .. -/
def rdTs (K : PySem.W.Frag) (Y : EX) (g : List D → M DEnv) : TGs := fun vs σ H Q => ∃ ds σd h ρ, RVs K H ρ ds vs ∧ RE K H ρ σd σ ∧ RH K H ρ h ∧ Post K Y H ρ (RE K) (g ds σd h) Q
structure DGs (X : Cx) (ts : List Expr) (g : List D → M DEnv) : Prop where
  run : PGs X ts (rdTs X.K (XY X) g)
def gsNil : List D → M DEnv := fun ds σ h => match ds with | [] => .ok σ h | _ => .bad
def gsCons (g : D → M DEnv) (gs : List D → M DEnv) : List D → M DEnv := fun ds σ h => match ds with | d :: r => (g d σ h).bind fun σ1 h1 => gs r σ1 h1 | [] => .bad
theorem pgsI {ts : List Expr} {t t' : TGs} (h : PGs X ts t) (i : ∀ v σ H Q, t' v σ H Q → t v σ H Q) : PGs X ts t' := ⟨fun pins s σ H v u Q I r q => h.run pins s σ H v u Q I r (i v σ H Q q)⟩
theorem dgs_nil : DGs X [] gsNil := ⟨pgsI pgs_nil fun v σ H Q q => by
  obtain ⟨ds, σd, h, ρ, rd, re, rh, p⟩ := q
  cases ds with
  | nil => exact ⟨rd, Post.ok p rh re⟩
  | cons _ _ => exact p.elim⟩
theorem dgs_cons {es : List Expr} {gg : D → M DEnv} {gs : List D → M DEnv} (h1 : DG X e gg) (h2 : DGs X es gs) (hs : (assignEach (e :: es) X.env).map (·.2) = assign e X.env :: (assignEach es X.env).map (·.2) := by rfl) : DGs X (e :: es) (gsCons gg gs) :=
  ⟨pgsI (pgs_cons h1.run h2.run hs) fun v σ H Q q => by
    obtain ⟨ds, σd, h, ρ, rd, re, rh, p⟩ := q
    cases ds with
    | nil => exact p.elim
    | cons d r =>
      obtain ⟨y, ys, rfl, r1, r2⟩ := rd
      refine ⟨y, ys, rfl, d, σd, h, ρ, r1, re, rh, Post.mono (Post.bind p) fun s H1 ⟨s', h1, ρ1, e1, rh1, re1, p1⟩ => ?_⟩
      exact ⟨r, s', h1, ρ1, RVs.mono e1 _ _ r2, re1, rh1, p1⟩⟩
def gTp (n : Nat) (gs : List D → M DEnv) : D → M DEnv := fun d σ h => match d with | .tup ds => if ds.length = n then gs ds σ h else .bad | _ => .bad
theorem dg_tup {es : List Expr} {k n : Nat} {gs : List D → M DEnv} (hc : X.calm = true) (hg : DGs X es gs) (hn : (assignEach es X.env).length = n := by rfl) (hst : (assignEach es X.env).findIdx? (·.1) = none := by rfl) : DG X (.Tuple es k pos) (gTp n gs) :=
  ⟨pgI (pg_tup hc hg.run hn hst) fun v σ H Q q => by
    obtain ⟨d, σd, h, ρ, rd, re, rh, p⟩ := q
    cases d with
    | tup ds =>
      unfold gTp at p
      simp only at p
      split at p
      · rename_i hl
        obtain ⟨a, xs, rfl, hs, hr⟩ := rd
        exact ⟨a, xs, rfl, hs.sq, by rw [← hr.len]; exact hl, ds, σd, h, ρ, hr, re, rh, p⟩
      · exact p.elim
    | _ => exact p.elim⟩

/-! what is walked -/
structure Src where
  items : List D
  at_ : Option Nat
def Src.chk (s : Src) (h : DHeap) : Prop := match s.at_ with | none => True | some n => h[n]? = some (.lst s.items)
structure IterOk (K : PySem.W.Frag) (s : Src) (J : It) (H : Hp) (ρ : List Addr) : Prop where
  go : ∀ H2 ρ2 h2 i d, Ext H ρ H2 ρ2 → RH K H2 ρ2 h2 → s.chk h2 → s.items[i]? = some d → J.go i H2 ∧ ∀ v H3, J.yld i H2 v H3 → H3 = H2 ∧ RV K H2 ρ2 d v
  stop : ∀ H2 ρ2 h2 i, Ext H ρ H2 ρ2 → RH K H2 ρ2 h2 → s.chk h2 → s.items.length ≤ i → J.stop i H2
def PostI (K : PySem.W.Frag) (Y : EX) (H : Hp) (ρ : List Addr) (r : Res Src) (R : It → Hp → Prop) : Prop := match r with
  | .ok s h' => ∀ H' ρ' J, Ext H ρ H' ρ' → RH K H' ρ' h' → IterOk K s J H' ρ' → R J H'
  | .bad => False
  | .exc x s h' => ∀ H' ρ', Ext H ρ H' ρ' → RH K H' ρ' h' → WishAt K Y x s H' ρ'
def rdI (K : PySem.W.Frag) (Y : EX) (f : M Src) : TI := fun σ H R => ∃ σd h ρ, RE K H ρ σd σ ∧ RH K H ρ h ∧ PostI K Y H ρ (f σd h) R
structure DI (X : Cx) (tg iter : Expr) (f : M Src) : Prop where
  run : PI X tg iter (rdI X.K (XY X) f)
theorem piI {tg iter : Expr} {w w' : TI} (h : PI X tg iter w) (i : ∀ σ H R, w' σ H R → w σ H R) : PI X tg iter w' := ⟨fun pins s σ H R I q => h.run pins s σ H R I (i σ H R q)⟩
/-- a walk by the value -/
def iVal (K : PySem.W.Frag) (tl : TE) : TI := fun σ H R => tl σ H fun x H1 => (∃ a, x = .ref a ∧ (∃ xs, SqL K H1 a xs) ∧ R (Itl K a) H1) ∨ (∃ a, x = .ref a ∧ (∃ xs, SqT K H1 a xs) ∧ R (Itt K a) H1) ∨ ∃ z, x = .str z ∧ R (Its z) H1
theorem pi_val {tg l : Expr} {tl : TE} (hl : PE X l tl) : PI X tg l (iVal X.K tl) := by
  refine ⟨fun pins s σ H R I h => ?_⟩
  refine thn (hl.run pins s σ H _ I h) fun v s1 ⟨x, H1, I1, r1, q1⟩ => ?_
  rcases q1 with ⟨a, rfl, ⟨xs, hq⟩, q⟩ | ⟨a, rfl, ⟨xs, hq⟩, q⟩ | ⟨z, rfl, q⟩
  · cases r1
    obtain ⟨its, rv, pl, hz⟩ := I1.list hq
    exact wpAny_pyIter_list pl.isList (pi_one (tk := s1.toks) I1 _ (turn_list a _) ⟨_, Heap.get?_push_size _ rfl, rfl, rfl⟩ q)
  · cases r1
    obtain ⟨its, rv, pl, hz⟩ := I1.tuple hq
    exact wpAny_pyIter_tuple (show s1.heap.IsTuple a its.toArray from pl) (pi_one (tk := s1.toks) I1 _ (turn_tuple a _) ⟨_, Heap.get?_push_size _ rfl, rfl, rfl⟩ q)
  · obtain ⟨t, rfl⟩ := r1
    cases ha : z.cps.all (· < 128)
    · exact wpAny_pyIter_wide ha (pi_one (tk := s1.toks) I1 _ (turn_str _ z t "str_iterator" (.inr rfl)) ⟨_, Heap.get?_push_size _ rfl, rfl, rfl⟩ q)
    · exact wpAny_pyIter_ascii ha (pi_one (tk := s1.toks) I1 _ (turn_str _ z t "str_ascii_iterator" (.inl rfl)) ⟨_, Heap.get?_push_size _ rfl, rfl, rfl⟩ q)
def srcD (h : DHeap) : D → Option Src
  | .tup ds => some ⟨ds, none⟩
  | .fl ds => some ⟨ds, none⟩
  | .ref n => match h[n]? with | some (.lst ds) => some ⟨ds, some n⟩ | _ => none
  | .str z => some ⟨z.cps.toList.map fun c => .str ⟨#[c]⟩, none⟩
  | _ => none
def srcM (f : M D) : M Src := fun σ h => (f σ h).bind fun d h1 => match srcD h1 d with | some s => .ok s h1 | none => .bad
theorem di_val {tg l : Expr} {fl : M D} (hl : DE X l fl) : DI X tg l (srcM fl) := ⟨piI (pi_val hl.run) fun σ H R q => by
  obtain ⟨σd, h, ρ, re, rh, p⟩ := q
  refine ⟨σd, h, ρ, re, rh, ?_⟩
  unfold srcM at p
  cases e0 : fl σd h with
  | bad => rw [e0] at p; exact p.elim
  | exc y s h1 => rw [e0] at p; exact p
  | ok d h1 =>
    rw [e0] at p
    intro H1 ρ1 v e1 rh1 r1
    simp only [Res.bind] at p
    cases d with
    | tup ds =>
      obtain ⟨a, xs, rfl, hs, hr⟩ := r1
      refine .inr (.inl ⟨a, rfl, ⟨xs, hs.sq⟩, p H1 ρ1 _ e1 rh1 ⟨fun H2 ρ2 h2 i d e2 rh2 _ ed => ?_, fun H2 ρ2 h2 i e2 rh2 _ hl => ⟨xs, (e2.sqT hs).sq, by rw [← hr.len]; exact hl⟩⟩⟩)
      obtain ⟨v, ev, rv⟩ := hr.get ed
      exact ⟨⟨xs, v, (e2.sqT hs).sq, ev⟩, fun w H3 ⟨e3, y⟩ => ⟨e3, by rw [Option.some.inj ((y xs ((e2.sqT hs).sq)).symm.trans ev)]; exact RV.mono e2 _ _ rv⟩⟩
    | fl ds =>
      obtain ⟨a, xs, rfl, hs, hr⟩ := r1
      refine .inl ⟨a, rfl, ⟨xs, hs.sq⟩, p H1 ρ1 _ e1 rh1 ⟨fun H2 ρ2 h2 i d e2 rh2 _ ed => ?_, fun H2 ρ2 h2 i e2 rh2 _ hl => ⟨xs, (e2.frL hs).sq, by rw [← hr.len]; exact hl⟩⟩⟩
      obtain ⟨v, ev, rv⟩ := hr.get ed
      exact ⟨⟨xs, v, (e2.frL hs).sq, ev⟩, fun w H3 ⟨e3, y⟩ => ⟨e3, by rw [Option.some.inj ((y xs (e2.frL hs).sq).symm.trans ev)]; exact RV.mono e2 _ _ rv⟩⟩
    | ref n =>
      simp only [srcD] at p
      cases hn : h1[n]? with
      | none => rw [hn] at p; exact p.elim
      | some c =>
        cases c with
        | dic kvs => rw [hn] at p; exact p.elim
        | lst ds =>
          rw [hn] at p
          obtain ⟨a, rfl, ha⟩ := r1
          obtain ⟨xs, x1, x2⟩ := rh1.at_ _ _ _ hn ha
          refine .inl ⟨a, rfl, ⟨xs, .of x1⟩, p H1 ρ1 _ e1 rh1 ⟨fun H2 ρ2 h2 i d e2 rh2 hc ed => ?_, fun H2 ρ2 h2 i e2 rh2 hc hl => ?_⟩⟩
          · obtain ⟨ys, y1, y2⟩ := rh2.at_ _ _ _ (show h2[n]? = some (.lst ds) from hc) (e2.pre _ _ ha)
            obtain ⟨v, ev, rv⟩ := y2.get ed
            exact ⟨⟨ys, v, .of y1, ev⟩, fun w H3 ⟨e3, y⟩ => ⟨e3, by rw [Option.some.inj ((y ys (.of y1)).symm.trans ev)]; exact rv⟩⟩
          · obtain ⟨ys, y1, y2⟩ := rh2.at_ _ _ _ (show h2[n]? = some (.lst ds) from hc) (e2.pre _ _ ha)
            exact ⟨ys, .of y1, by rw [← y2.len]; exact hl⟩
    | str z =>
      cases (show v = .str z from r1)
      refine .inr (.inr ⟨z, rfl, p H1 ρ1 _ e1 rh1 ⟨fun H2 ρ2 h2 i d e2 rh2 _ ed => ?_, fun H2 ρ2 h2 i e2 rh2 _ hl => by
        show z.cps.size ≤ i
        simpa using hl⟩⟩)
      simp only [List.getElem?_map, Option.map_eq_some_iff, Array.getElem?_toList] at ed
      obtain ⟨c, ec, rfl⟩ := ed
      refine ⟨(Array.getElem?_eq_some_iff.mp ec).1, fun w H3 ⟨e3, c', ec', ew⟩ => ⟨e3, ?_⟩⟩
      rw [ec] at ec'
      cases ec'
      exact ew
    | _ => exact p.elim⟩
def rangeL (lo : Int) (n : Nat) : List D := (List.range n).map fun (i : Nat) => D.int (lo + (i : Int))
def rng1 (f : M D) : M Src := fun σ h => (f σ h).bind fun d h1 => match d with | .int j => if -(2 ^ 62) ≤ j ∧ j < 2 ^ 62 then .ok ⟨rangeL 0 j.toNat, none⟩ h1 else .bad | _ => .bad
def rng2 (f g : M D) : M Src := fun σ h => (f σ h).bind fun d h1 => (g σ h1).bind fun e h2 => match d, e with
  | .int i, .int j => if -(2 ^ 62) ≤ i ∧ i < 2 ^ 62 ∧ -(2 ^ 62) ≤ j ∧ j < 2 ^ 62 then .ok ⟨rangeL i (j - i).toNat, none⟩ h2 else .bad
  | _, _ => .bad
theorem range_ok {K : PySem.W.Frag} {lo : Int} {n : Nat} {H : Hp} {ρ : List Addr} : IterOk K ⟨rangeL lo n, none⟩ (Itr lo n) H ρ := by
  refine ⟨fun H2 ρ2 h2 i d e2 rh2 _ ed => ?_, fun H2 ρ2 h2 i e2 rh2 _ hl => by
    show n ≤ i
    simpa [rangeL] using hl⟩
  simp only [rangeL, List.getElem?_map, Option.map_eq_some_iff] at ed
  obtain ⟨j, ej, rfl⟩ := ed
  obtain ⟨hj, e⟩ := List.getElem?_eq_some_iff.mp ej
  simp at hj e
  subst e
  exact ⟨hj, fun v H3 ⟨e3, ev⟩ => ⟨e3, ev⟩⟩
theorem di_rng1 {tg : Expr} (hg : Gl X "range") (hm : X.mg "range" = none) (ha : DE X a fa) (hs : starEach [a] X.env = [(false, eval a X.env)] := by rfl) (hs2 : starEach [a] X.env = (false, eval a X.env) :: starEach [] X.env := by rfl) : DI X tg (.Call (.Name "range" p) [a] [] pos) (rng1 fa) :=
  ⟨piI (pi_range1 hg hm (pa_cons ha.run pa_nil hs2) hs) fun σ H R q => by
    obtain ⟨σd, h, ρ, re, rh, p⟩ := q
    refine ⟨σd, h, ρ, re, rh, ?_⟩
    unfold rng1 at p
    cases e0 : fa σd h with
    | bad => rw [e0] at p; exact p.elim
    | exc y s h1 => rw [e0] at p; exact p
    | ok d h1 =>
      rw [e0] at p
      intro H1 ρ1 v e1 rh1 r1
      simp only [Res.bind] at p
      cases d with
      | int j =>
        simp only at p
        split at p
        · rename_i hj
          cases (show v = .int j from r1)
          exact ⟨j, rfl, hj.1, hj.2, p H1 ρ1 _ e1 rh1 range_ok⟩
        · exact p.elim
      | _ => exact p.elim⟩
theorem di_rng2 {tg : Expr} (hg : Gl X "range") (hm : X.mg "range" = none) (ha : DE X a fa) (hb : DE X b fb) (hs : starEach [a, b] X.env = [(false, eval a X.env), (false, eval b X.env)] := by rfl) (hs2 : starEach [b] X.env = [(false, eval b X.env)] := by rfl)
    (hs3 : starEach [a, b] X.env = (false, eval a X.env) :: starEach [b] X.env := by rfl) (hs4 : starEach [b] X.env = (false, eval b X.env) :: starEach [] X.env := by rfl) : DI X tg (.Call (.Name "range" p) [a, b] [] pos) (rng2 fa fb) :=
  ⟨piI (pi_range2 hg hm (pa_cons ha.run (pa_cons hb.run pa_nil hs4) hs3) hs hs2) fun σ H R q => by
    obtain ⟨σd, h, ρ, re, rh, p⟩ := q
    refine ⟨σd, h, ρ, re, rh, ?_⟩
    unfold rng2 at p
    cases e0 : fa σd h with
    | bad => rw [e0] at p; exact p.elim
    | exc y s h1 => rw [e0] at p; exact p
    | ok d h1 =>
      rw [e0] at p
      intro H1 ρ1 v e1 rh1 r1
      refine ⟨σd, h1, ρ1, re.mono e1, rh1, ?_⟩
      simp only [Res.bind] at p
      cases e3 : fb σd h1 with
      | bad => rw [e3] at p; exact p.elim
      | exc y s h2 => rw [e3] at p; exact fun H' ρ' x1 x2 => p H' ρ' (e1.trans x1) x2
      | ok d2 h2 =>
        rw [e3] at p
        intro H2 ρ2 v2 e2 rh2 r2
        simp only [Res.bind] at p
        split at p
        · rename_i i j
          split at p
          · rename_i hj
            cases (show v = .int i from r1)
            cases (show v2 = .int j from r2)
            exact ⟨i, j, rfl, hj, p H2 ρ2 _ (e1.trans e2) rh2 range_ok⟩
          · exact p.elim
        · exact p.elim⟩

/-! for -/
open Classical in
noncomputable def loopS (s : Src) (gg : D → M DEnv) (body : M Fl) : List D → M Fl
  | [], σ, h => if s.chk h then .ok (.nx σ) h else .bad
  | x :: r, σ, h => if s.chk h then (gg x σ h).bind fun σ1 h1 => (body σ1 h1).bind fun fl h2 => match fl with
    | .nx σ2 => loopS s gg body r σ2 h2
    | .ct σ2 => loopS s gg body r σ2 h2
    | .bk σ2 => .ok (.nx σ2) h2
    | .rt d => .ok (.rt d) h2
    else .bad
noncomputable def sFor (src : M Src) (gg : D → M DEnv) (body : M Fl) : M Fl := fun σ h => (src σ h).bind fun s h1 => loopS s gg body s.items σ h1
theorem drop_cons {α : Type} {l : List α} {i : Nat} {d : α} (h : l[i]? = some d) : l.drop i = d :: l.drop (i + 1) := by
  obtain ⟨hi, e⟩ := List.getElem?_eq_some_iff.mp h
  rw [List.drop_eq_getElem_cons hi, e]
theorem ds_for {tg iter : Expr} {body : List Stmt} {src : M Src} {gg : D → M DEnv} {fb : M Fl} (hp : PassesOwn (model X.prog X.w) X.A X.env X.xe) (hc : X.calm = true) (hi : DI X tg iter src) (hg : DG X tg gg) (hb : DSs X body fb)
    (hs : ∀ x, foldedSetIterable iter X.env x = pure x := by intro _; rfl) : DS X (.For tg iter body [] pos) (sFor src gg fb) := ⟨psI (ps_for hp hc hi.run hg.run hb.run hs) fun E σ H q => by
  obtain ⟨σd, h, ρ, re, rh, p⟩ := q
  refine ⟨σd, h, ρ, re, rh, ?_⟩
  unfold sFor at p
  cases e0 : src σd h with
  | bad => rw [e0] at p; exact p.elim
  | exc y s h1 => rw [e0] at p; exact p
  | ok s h1 =>
    rw [e0] at p
    intro H1 ρ1 J e1 rh1 ok
    simp only [Res.bind] at p
    refine ⟨fun i m σ H => i ≤ s.items.length ∧ m = s.items.length - i ∧ ∃ σd h ρ2, Ext H1 ρ1 H ρ2 ∧ RE X.K H ρ2 σd σ ∧ RH X.K H ρ2 h ∧ PostS X.K (XY X) H ρ2 (loopS s gg fb (s.items.drop i) σd h) E, ⟨_, Nat.zero_le _, rfl, σd, h1, ρ1, rh1.ext, re.mono e1, rh1, PostS.ext e1 p⟩, ?_⟩
    rintro i m σ2 H2 ⟨hi, rfl, σd2, h2, ρ2, e2, re2, rh2, p2⟩
    by_cases hlt : i < s.items.length
    · have ed : s.items[i]? = some s.items[i] := List.getElem?_eq_getElem hlt
      rw [drop_cons ed] at p2
      unfold loopS at p2
      split at p2
      · rename_i hck
        obtain ⟨g1, g2⟩ := ok.go H2 ρ2 h2 i _ e2 rh2 hck ed
        refine .inr ⟨g1, fun σ' H' => i + 1 ≤ s.items.length ∧ ∃ σd h ρ2, Ext H1 ρ1 H' ρ2 ∧ RE X.K H' ρ2 σd σ' ∧ RH X.K H' ρ2 h ∧ PostS X.K (XY X) H' ρ2 (loopS s gg fb (s.items.drop (i + 1)) σd h) E, fun σ' H' ⟨n1, n2⟩ => ⟨s.items.length - (i + 1), by omega, n1, rfl, n2⟩, fun v H3 y => ?_⟩
        obtain ⟨rfl, rv⟩ := g2 v H3 y
        refine ⟨_, σd2, h2, ρ2, rv, re2, rh2, p2.bind.mono fun σ4 H4 ⟨σd4, h4, ρ4, e4, rh4, re4, p4⟩ => ?_⟩
        refine ⟨σd4, h4, ρ4, re4, rh4, p4.seq fun fl h5 H5 ρ5 e5 rh5 p5 => ?_⟩
        cases fl with
        | nx σ5 => exact fun σ6 r6 => ⟨hlt, σ5, h5, ρ5, (e2.trans e4).trans e5, r6, rh5, p5⟩
        | ct σ5 => exact fun σ6 r6 => ⟨hlt, σ5, h5, ρ5, (e2.trans e4).trans e5, r6, rh5, p5⟩
        | bk σ5 => exact p5.ok rh5
        | rt d => exact p5.ok rh5
      · exact p2.elim
    · have ei : i = s.items.length := by omega
      subst ei
      rw [List.drop_length] at p2
      unfold loopS at p2
      split at p2
      · rename_i hck
        exact .inl ⟨ok.stop H2 ρ2 h2 _ e2 rh2 hck (Nat.le_refl _), (p2.ok rh2) _ re2⟩
      · exact p2.elim⟩

/-! while -/
noncomputable def whileS (t : M Bool) (body : M Fl) : Nat → M Fl
  | 0, _, _ => .bad
  | n + 1, σ, h => (t σ h).bind fun b h1 => if b = true then (body σ h1).bind fun fl h2 => match fl with
    | .nx σ2 => whileS t body n σ2 h2
    | .ct σ2 => whileS t body n σ2 h2
    | .bk σ2 => .ok (.nx σ2) h2
    | .rt d => .ok (.rt d) h2
    else .ok (.nx σ) h1
open Classical in
noncomputable def sWhile (t : M Bool) (body : M Fl) : M Fl := fun σ h => if q : ∃ n, whileS t body n σ h ≠ .bad then whileS t body (Classical.choose q) σ h else .bad
theorem ds_while {c : Expr} {body : List Stmt} {tb : M Fl} (hp : PassesOwn (model X.prog X.w) X.A X.env X.xe) (hc : DT X c t) (hb : DSs X body tb) : DS X (.While c body [] pos) (sWhile t tb) := ⟨psI (ps_while hp hc.run hb.run) fun E σ H q => by
  obtain ⟨σd, h, ρ, re, rh, p⟩ := q
  unfold sWhile at p
  split at p
  · rename_i q
    generalize Classical.choose q = n at p
    refine ⟨fun m σ H => ∃ σd h ρ, RE X.K H ρ σd σ ∧ RH X.K H ρ h ∧ PostS X.K (XY X) H ρ (whileS t tb m σd h) E, ⟨n, σd, h, ρ, re, rh, p⟩, ?_⟩
    rintro m σ1 H1 ⟨σd1, h1, ρ1, re1, rh1, p1⟩
    cases m with
    | zero => exact p1.elim
    | succ m =>
      unfold whileS at p1
      refine ⟨σd1, h1, ρ1, re1, rh1, p1.bind.mono fun b H2 ⟨b', h2, ρ2, e2, rh2, r2, p2⟩ => ?_⟩
      cases (show b' = b from r2)
      cases b with
      | true =>
        simp only [if_true] at p2 ⊢
        refine ⟨fun σ' H' => ∃ σd h ρ, RE X.K H' ρ σd σ' ∧ RH X.K H' ρ h ∧ PostS X.K (XY X) H' ρ (whileS t tb m σd h) E, fun σ' H' z => ⟨m, Nat.lt_succ_self _, z⟩, σd1, h2, ρ2, re1.mono e2, rh2, p2.seq fun fl h5 H5 ρ5 e5 rh5 p5 => ?_⟩
        cases fl with
        | nx σ5 => exact fun σ6 r6 => ⟨σ5, h5, ρ5, r6, rh5, p5⟩
        | ct σ5 => exact fun σ6 r6 => ⟨σ5, h5, ρ5, r6, rh5, p5⟩
        | bk σ5 => exact p5.ok rh5
        | rt d => exact p5.ok rh5
      | false =>
        simp only [Bool.false_eq_true, if_false] at p2 ⊢
        exact (p2.ok rh2) _ (re1.mono e2)
  · exact p.elim⟩
end
end DL

set_option Elab.async false
set_option linter.all false
set_option maxRecDepth 100000
namespace DL
open PySem PySem.Spec PyProof.Rows L2
variable [TbC]
section
variable {X : Cx} {pos pos' p apos cpos : Pos} {x : Str} {e a b o i elt tg iter : Expr} {fa fb fc fo fi fe : M D} {t : M Bool}

/-! comprehensions: the new list has no number yet -/
def PostC (K : PySem.W.Frag) (Y : EX) (H : Hp) (ρ : List Addr) (r : Res (List D)) (Q : VK) : Prop := match r with
  | .ok ys h' => ∀ H' ρ' L vs, Ext H ρ H' ρ' → RH K H' ρ' h' → NoT H L → H' L = some (.lst vs) → L ∉ ρ' → RVs K H' ρ' ys vs → Q (.ref L) H'
  | .bad => False
  | .exc x s h' => ∀ H' ρ', Ext H ρ H' ρ' → RH K H' ρ' h' → WishAt K Y x s H' ρ'
def rdC (K : PySem.W.Frag) (Y : EX) (f : M (List D)) : TE := fun σ H Q => ∃ σd h ρ, RE K H ρ σd σ ∧ RH K H ρ h ∧ PostC K Y H ρ (f σd h) Q
structure DC (X : Cx) (e : Expr) (f : M (List D)) : Prop where
  run : PE X e (rdC X.K (XY X) f)
structure DTs (X : Cx) (ifs : List Expr) (f : M Bool) : Prop where
  run : PTs X ifs (rdG X.K (XY X) RB f)
theorem ptsI {ifs : List Expr} {t t' : TT} (h : PTs X ifs t) (i : ∀ σ H Q, t' σ H Q → t σ H Q) : PTs X ifs t' := ⟨fun pins s σ H Q I q => h.run pins s σ H Q I (i σ H Q q)⟩
/-- where no exception may be -/
def Y0 (mg : Str → Option Value) : EX := ⟨mg, fun _ _ _ _ => False⟩
theorem rdG.weak {K : PySem.W.Frag} {Y : EX} {α β : Type} {R : Hp → List Addr → α → β → Prop} {f : DEnv → DHeap → Res α} {σ : L2.St} {H : Hp} {Q : β → Hp → Prop} (q : rdG K (Y0 Y.mg) R f σ H Q) : rdG K Y R f σ H Q := by
  obtain ⟨σd, h, ρ, re, rh, p⟩ := q
  refine ⟨σd, h, ρ, re, rh, ?_⟩
  generalize f σd h = r at p ⊢
  cases r with
  | ok a h' => exact p
  | bad => exact p
  | exc x s h' => exact fun H' ρ' x1 x2 σ' cls d re' rx => (p H' ρ' x1 x2 σ' cls d re' rx).elim
def tTrue : M Bool := fun _ h => .ok true h
theorem dts_nil : DTs X [] tTrue := ⟨ptsI pts_nil fun σ H Q q => by
  obtain ⟨σd, h, ρ, re, rh, p⟩ := q
  exact Post.ok p rh (rfl : RB _ _ true true)⟩
theorem dts_one {c : Expr} (h : DT X c t) : DTs X [c] t := ⟨pts_one h.run⟩
open Classical in
noncomputable def loopC (s : Src) (step : D → DHeap → Res (Option D)) : List D → DHeap → Res (List D)
  | [], h => if s.chk h then .ok [] h else .bad
  | x :: r, h => if s.chk h then (step x h).bind fun o h1 => (loopC s step r h1).bind fun ys h2 => .ok (match o with | some y => y :: ys | none => ys) h2 else .bad
def stepC (i : Nat) (t : M Bool) (te : M D) (σ : DEnv) : D → DHeap → Res (Option D) := fun x h =>
  (t (σ.set i (some x)) h).bind fun b h1 => if b = true then (te (σ.set i (some x)) h1).bind fun y h2 => .ok (some y) h2 else .ok none h1
noncomputable def compM (src : M Src) (i : Nat) (t : M Bool) (te : M D) : M (List D) := fun σ h => (src σ h).bind fun s h1 => if s.items.length ≤ sizeLine then (loopC s (stepC i t te σ) s.items h1).calm else .bad
theorem loopC_len {s : Src} {step : D → DHeap → Res (Option D)} : ∀ {l : List D} {h h' : DHeap} {ys : List D}, loopC s step l h = .ok ys h' → ys.length ≤ l.length
  | [], h, h', ys, e => by
    unfold loopC at e
    split at e
    · cases e; exact Nat.le_refl _
    · cases e
  | x :: r, h, h', ys, e => by
    unfold loopC at e
    split at e
    · cases e1 : step x h with
      | bad => rw [e1] at e; cases e
      | exc y s h1 => rw [e1] at e; cases e
      | ok o h1 =>
        rw [e1] at e
        simp only [Res.bind] at e
        cases e2 : loopC s step r h1 with
        | bad => rw [e2] at e; cases e
        | exc y s h2 => rw [e2] at e; cases e
        | ok zs h2 =>
          rw [e2] at e
          have := loopC_len e2
          cases o with
          | none => cases e; exact Nat.le_succ_of_le this
          | some y => cases e; exact Nat.succ_le_succ this
    · cases e
theorem comp_rd {K : PySem.W.Frag} {Y Y' : EX} {src : M Src} {ii : Nat} {σ : L2.St} {H : Hp} {Q : VK} (q : rdC K Y (compM src ii t fe) σ H Q) : tLc (rdI K Y src) (gName ii) (rdG K Y' RB t) (rdG K Y' (RV K) fe) [ii] σ H Q := by
  obtain ⟨σd, h, ρ, re, rh, p⟩ := q
  refine ⟨σd, h, ρ, re, rh, ?_⟩
  unfold compM at p
  cases e0 : src σd h with
  | bad => rw [e0] at p; exact p.elim
  | exc y s h1 => rw [e0] at p; exact p
  | ok s h1 =>
    rw [e0] at p
    simp only [Res.bind] at p
    split at p
    case isFalse => exact p.elim
    rename_i hsz
    intro H1 ρ1 J e1 rh1 iok L hL
    have hL0 : NoT H L := e1.noT rh1 hL
    refine ⟨fun i m H2 => i ≤ s.items.length ∧ m = s.items.length - i ∧ ∃ h2 ρ2 acc accV, Ext H1 ρ1 H2 ρ2 ∧ RH K H2 ρ2 h2 ∧ H2 L = some (.lst accV) ∧ L ∉ ρ2 ∧ RVs K H2 ρ2 acc accV ∧ acc.length ≤ i ∧
      ∃ ys h3, loopC s (stepC ii t fe σd) (s.items.drop i) h2 = .ok ys h3 ∧ PostC K Y H ρ (.ok (acc ++ ys) h3) Q, ?_, ?_⟩
    · obtain ⟨x1, x2⟩ := rh1.lay (.lst []) hL
      cases e5 : loopC s (stepC ii t fe σd) s.items h1 with
      | bad => rw [e5] at p; exact p.elim
      | exc y s2 h3 => rw [e5] at p; exact p.elim
      | ok ys h3 =>
        rw [e5] at p
        exact ⟨_, Nat.zero_le _, rfl, h1, ρ1, [], [], x1, x2, upd_same, fun m => (by have := rh1.mu L m; rw [hL] at this; cases this), rfl, Nat.le_refl _, ys, h3, e5, p⟩
    · rintro i m H2 ⟨hi, rfl, h2, ρ2, acc, accV, e2, rh2, hL2, nL, racc, hacc, ys, h3, el, pc⟩
      by_cases hlt : i < s.items.length
      · have ed : s.items[i]? = some s.items[i] := List.getElem?_eq_getElem hlt
        rw [drop_cons ed] at el
        unfold loopC at el
        split at el
        case isFalse => cases el
        rename_i hck
        obtain ⟨g1, g2⟩ := iok.go H2 ρ2 h2 i _ e2 rh2 hck ed
        generalize s.items[i] = d at el g2
        refine .inr ⟨g1, fun H' => i + 1 ≤ s.items.length ∧ ∃ h2 ρ2 acc accV, Ext H1 ρ1 H' ρ2 ∧ RH K H' ρ2 h2 ∧ H' L = some (.lst accV) ∧ L ∉ ρ2 ∧ RVs K H' ρ2 acc accV ∧ acc.length ≤ i + 1 ∧
          ∃ ys h3, loopC s (stepC ii t fe σd) (s.items.drop (i + 1)) h2 = .ok ys h3 ∧ PostC K Y H ρ (.ok (acc ++ ys) h3) Q, fun H' ⟨n1, n2⟩ => ⟨s.items.length - (i + 1), by omega, n1, rfl, n2⟩, fun v H3 y => ?_⟩
        obtain ⟨rfl, rv⟩ := g2 v H3 y
        have re2 : RE K H3 ρ2 σd σ := (re.mono e1).mono e2
        have rw2 : RE K H3 ρ2 (σd.set ii (some d)) ((wipe σ [ii]).set ii (some v)) := by
          show RE K H3 ρ2 (σd.set ii (some d)) ((σ.set ii none).set ii (some v))
          rw [List.set_set]
          exact re2.set ii rv
        refine ⟨?_, σd.set ii (some d), h2, ρ2, rw2, rh2, ?_⟩
        · show ((σ.set ii none).set ii (some v)).set ii none = σ.set ii none
          rw [List.set_set, List.set_set]
        obtain ⟨G, hG⟩ : ∃ G, G = loopC s (stepC ii t fe σd) (s.items.drop (i + 1)) := ⟨_, rfl⟩
        rw [← hG] at el
        unfold stepC at el
        cases e6 : t (σd.set ii (some d)) h2 with
        | bad => rw [e6] at el; cases el
        | exc y s2 h4 => rw [e6] at el; cases el
        | ok bt h4 =>
          rw [e6] at el
          simp only [Res.bind] at el
          intro H4 ρ4 b4 x4 rh4 r4
          cases (show bt = b4 from r4)
          have hL4 : H4 L = some (.lst accV) := x4.keepM hL2 nL
          have nL4 : L ∉ ρ4 := fun m => (x4.fresh L m nL).m hL2 rfl
          cases bt with
          | false =>
            simp only [Bool.false_eq_true, if_false] at el ⊢
            cases e7 : G h4 with
            | bad => rw [e7] at el; cases el
            | exc y s2 h5 => rw [e7] at el; cases el
            | ok zs h5 =>
              rw [e7] at el
              rw [hG] at e7
              cases el
              exact ⟨hlt, h4, ρ4, acc, accV, e2.trans x4, rh4, x4.keepM hL2 nL, nL4, RVs.mono x4 _ _ racc, Nat.le_succ_of_le hacc, ys, h3, e7, pc⟩
          | true =>
            simp only [if_true] at el ⊢
            cases e8 : fe (σd.set ii (some d)) h4 with
            | bad => rw [e8] at el; cases el
            | exc y2 s2 h6 => rw [e8] at el; cases el
            | ok y h6 =>
              rw [e8] at el
              simp only at el
              refine ⟨σd.set ii (some d), h4, ρ4, rw2.mono x4, rh4, ?_⟩
              rw [e8]
              intro H6 ρ6 w6 x6 rh6 r6
              have nL6 : L ∉ ρ6 := fun m => (x6.fresh L m nL4).m hL4 rfl
              have hL6 : H6 L = some (.lst accV) := x6.keepM (x4.keepM hL2 nL) nL4
              have racc6 := RVs.mono x6 _ _ (RVs.mono x4 _ _ racc)
              refine ⟨accV, hL6, by rw [← racc.len]; omega, ?_⟩
              have kp := Kp.other (K := K) (ρ := ρ6) (o' := .lst (accV ++ [w6])) hL6 rfl
              have x7 : Ext H1 ρ1 (upd H6 L (.lst (accV ++ [w6]))) ρ6 := by
                have xx := (e2.trans x4).trans x6
                exact xx.updN (.none hL)
              cases e7 : G h6 with
              | bad => rw [e7] at el; cases el
              | exc y s2 h5 => rw [e7] at el; cases el
              | ok zs h5 =>
                rw [e7] at el
                rw [hG] at e7
                cases el
                refine ⟨hlt, h6, ρ6, acc ++ [y], accV ++ [w6], x7, rh6.other hL6 rfl nL6, upd_same, nL6, (RVs.kp kp _ _ racc6).app (RVs.one (RV.kp kp _ _ r6)), by rw [List.length_append]; exact Nat.succ_le_succ hacc, zs, h3, e7, ?_⟩
                rw [List.append_assoc]
                exact pc
      · have ei : i = s.items.length := by omega
        subst ei
        rw [List.drop_length] at el
        unfold loopC at el
        split at el
        · rename_i hck
          cases el
          rw [List.append_nil] at pc
          exact .inl ⟨iok.stop H2 ρ2 h2 _ e2 rh2 hck (Nat.le_refl _), pc H2 ρ2 L accV (e1.trans e2) rh2 hL0 hL2 nL racc⟩
        · cases el
theorem dc_comp {ifs : List Expr} {scope : Scope} {src : M Src} {ii : Nat} {xi : Str} (hc : X.calm = true) (hN : X.N.Nodup) (hi : DI X tg iter src) (ok : BlkOk X.N X.env.scope scope [(xi, ii)])
    (hg : ∀ (s : Shared) (H : Hp) (C : Addr) (cl : List (Str × Addr)) (fp : List Addr), PG (X.blk s H scope (compEnvC scope cl C X.env) fp) tg (gName ii))
    (ht : ∀ (s : Shared) (H : Hp) (C : Addr) (cl : List (Str × Addr)) (fp : List Addr), DTs (X.blk s H scope (compEnvC scope cl C X.env) fp) ifs t)
    (he : ∀ (s : Shared) (H : Hp) (C : Addr) (cl : List (Str × Addr)) (fp : List Addr), DE (X.blk s H scope (compEnvC scope cl C X.env) fp) elt fe) (hs : ∀ x, foldedSetIterable iter X.env x = pure x := by intro _; rfl) :
    DC X (.ListComp elt [⟨tg, iter, ifs, 0⟩] scope pos) (compM src ii t fe) :=
  ⟨peI (pe_lc (tt := rdG X.K (Y0 X.mg) RB t) (te := rdG X.K (Y0 X.mg) (RV X.K) fe) hc hN hi.run ok hg (fun s H C cl fp => ptsI (ht s H C cl fp).run fun _ _ _ q => rdG.weak q) (fun s H C cl fp => peI (he s H C cl fp).run fun _ _ _ q => rdG.weak q) hs) fun σ H Q q => comp_rd q⟩
def sSetC (i : Nat) (f : M (List D)) : M Fl := fun σ h => (f σ h).bind fun ys h1 => .ok (.nx (σ.set i (some (.ref h1.length)))) (h1 ++ [.lst ys])
theorem ds_setC {ifs : List Expr} {scope : Scope} {src : M Src} {ii i : Nat} {xi y : Str} {py spos : Pos} (hc : X.calm = true) (hN : X.N.Nodup) (hy : X.N[i]? = some y) (hyl : X.env.scope.names.lookup y = some .local)
    (hsw : swapsWith (.ListComp elt [⟨tg, iter, ifs, 0⟩] scope pos) (some (.Name y py)) spos.line X.env = pure true) (hi : DI X tg iter src) (ok : BlkOk X.N X.env.scope scope [(xi, ii)])
    (hg : ∀ (s : Shared) (H : Hp) (C : Addr) (cl : List (Str × Addr)) (fp : List Addr), PG (X.blk s H scope (compEnvC scope cl C X.env) fp) tg (gName ii))
    (ht : ∀ (s : Shared) (H : Hp) (C : Addr) (cl : List (Str × Addr)) (fp : List Addr), DTs (X.blk s H scope (compEnvC scope cl C X.env) fp) ifs t)
    (he : ∀ (s : Shared) (H : Hp) (C : Addr) (cl : List (Str × Addr)) (fp : List Addr), DE (X.blk s H scope (compEnvC scope cl C X.env) fp) elt fe) (hs : ∀ x, foldedSetIterable iter X.env x = pure x := by intro _; rfl) :
    DS X (.Assign [.Name y py] (.ListComp elt [⟨tg, iter, ifs, 0⟩] scope pos) spos) (sSetC i (compM src ii t fe)) :=
  ⟨psI (ps_setLc (tt := rdG X.K (Y0 X.mg) RB t) (te := rdG X.K (Y0 X.mg) (RV X.K) fe) hc hN hy hyl hsw hi.run ok hg (fun s H C cl fp => ptsI (ht s H C cl fp).run fun _ _ _ q => rdG.weak q) (fun s H C cl fp => peI (he s H C cl fp).run fun _ _ _ q => rdG.weak q) hs) fun E σ H q => by
    refine comp_rd (K := X.K) (Y := XY X) (Q := fun x H1 => E.nx (σ.set i (some x)) H1) ?_
    obtain ⟨σd, h, ρ, re, rh, p⟩ := q
    refine ⟨σd, h, ρ, re, rh, ?_⟩
    unfold sSetC at p
    cases e0 : compM src ii t fe σd h with
    | bad => rw [e0] at p; exact p.elim
    | exc y s h1 => rw [e0] at p; exact p
    | ok ys h1 =>
      rw [e0] at p
      intro H' ρ' L vs x1 rh1 hL0 hL nL rvs
      obtain ⟨y1, y2⟩ := rh1.adopt x1 (c := .lst ys) hL0 hL nL ⟨_, rfl, rvs⟩
      exact p H' _ y1 y2 _ ((re.mono y1).set i ⟨L, rfl, by rw [← rh1.len]; simp⟩)⟩
end
end DL

set_option Elab.async false
set_option linter.all false
set_option maxRecDepth 100000
namespace DL
open PySem PySem.Spec PyProof.Rows L2
variable [TbC]
section
variable {X : Cx} {pos pos' p apos cpos : Pos} {x : Str} {e a b o i elt tg iter : Expr} {es : List Expr} {fa fb fc fo fi fe : M D} {t : M Bool} {f : M (List D)}

/-! a comprehension as a list, or handed to a built-in at once -/
def compL (f : M (List D)) : M D := fun σ h => (f σ h).bind fun ys h1 => .ok (.ref h1.length) (h1 ++ [.lst ys])
theorem de_comp (hf : DC X e f) : DE X e (compL f) := ⟨peI hf.run fun σ H Q q => by
  obtain ⟨σd, h, ρ, re, rh, p⟩ := q
  refine ⟨σd, h, ρ, re, rh, ?_⟩
  unfold compL at p
  cases e0 : f σd h with
  | bad => rw [e0] at p; exact p.elim
  | exc y s h1 => rw [e0] at p; exact p
  | ok ys h1 =>
    rw [e0] at p
    intro H' ρ' L vs x1 rh1 hL0 hL nL rvs
    obtain ⟨y1, y2⟩ := rh1.adopt x1 (c := .lst ys) hL0 hL nL ⟨_, rfl, rvs⟩
    exact p H' _ _ y1 y2 ⟨L, rfl, by rw [← rh1.len]; simp⟩⟩
def RClC (K : PySem.W.Frag) (Y : EX) (m : List D → DHeap → Res D) : List V → Hp → VK → Prop := fun vs H Q => ∃ L xs ys h ρ, vs = [.ref L] ∧ H L = some (.lst xs) ∧ RVs K H ρ ys xs ∧ RH K H ρ h ∧ Post K Y H ρ (RV K) (m ys h) Q
def compCall (m : List D → DHeap → Res D) (f : M (List D)) : M D := fun σ h => (f σ h).bind m
theorem compCall_rd {K : PySem.W.Frag} {Y : EX} {m : List D → DHeap → Res D} {σ : L2.St} {H : Hp} {Q : VK} (q : rdG K Y (RV K) (compCall m f) σ H Q) : rdC K Y f σ H fun x H1 => RClC K Y m [x] H1 Q := by
  obtain ⟨σd, h, ρ, re, rh, p⟩ := q
  refine ⟨σd, h, ρ, re, rh, ?_⟩
  unfold compCall at p
  cases e0 : f σd h with
  | bad => rw [e0] at p; exact p.elim
  | exc y s h1 => rw [e0] at p; exact p
  | ok ys h1 =>
    rw [e0] at p
    exact fun H' ρ' L vs x1 rh1 hL0 hL nL rvs => ⟨L, vs, ys, h1, ρ', rfl, hL, rvs, rh1, Post.ext x1 p⟩
theorem de_compB {id : String} {m : List D → DHeap → Res D} (hc : CallR X (.builtin id) (RClC X.K (XY X) m)) (hg : Gl X x) (hm : X.mg x = none) (hv : bootBuiltins x = some (.builtin id)) (hf : DC X e f) (hn : x ≠ "__name__" := by decide) (hdb : (x == ("__debug__" : Str)) = false := by decide)
    (he : starEach [e] X.env = (false, eval e X.env) :: starEach [] X.env := by rfl) (hpl : (backTo pos (starEach [] X.env)).any (·.1) = false := by rfl) : DE X (.Call (.Name x p) [e] [] pos) (compCall m f) :=
  ⟨peI (pe_callB hc hg hm hv (pa_cons hf.run pa_nil he) hn hdb he hpl) fun _ _ _ q => compCall_rd q⟩
theorem de_compTy {T : String} {m : List D → DHeap → Res D} (hc : CallR X (.type T) (RClC X.K (XY X) m)) (hg : Gl X x) (hm : X.mg x = none) (hv : bootBuiltins x = some (.type T)) (hf : DC X e f) (hn : x ≠ "__name__" := by decide) (hdb : (x == ("__debug__" : Str)) = false := by decide)
    (he : starEach [e] X.env = (false, eval e X.env) :: starEach [] X.env := by rfl) (hpl : (backTo pos (starEach [] X.env)).any (·.1) = false := by rfl) : DE X (.Call (.Name x p) [e] [] pos) (compCall m f) :=
  ⟨peI (pe_callTy hc hg hm hv (pa_cons hf.run pa_nil he) hn hdb he hpl) fun _ _ _ q => compCall_rd q⟩
def cTup : List D → DHeap → Res D := fun ys h => .ok (.tup ys) h
theorem cc_tup : CallR X (.type "tuple") (RClC X.K (XY X) cTup) := clI callTupU fun vs H Q q => by
  obtain ⟨L, xs, ys, h, ρ, rfl, hL, rv, rh, p⟩ := q
  refine ⟨L, xs, rfl, .inl ⟨.of hL, fun l hl ob hd => ?_⟩⟩
  obtain ⟨x1, x2⟩ := rh.lay (.frz ob (.tup xs)) hl
  exact p _ _ _ x1 x2 ⟨l, xs, rfl, .new hd, RVs.mono x1 _ _ rv⟩
def cInts (g : List Int → Option D) : List D → DHeap → Res D := fun ys h => match intsOf ys with
  | some ns => match g ns with | some r => .ok r h | none => .bad
  | none => .bad
def cBls (g : List Bool → D) : List D → DHeap → Res D := fun ys h => match blsOf ys with
  | some ns => .ok (g ns) h
  | none => .bad
theorem cInts_inv {g : List Int → Option D} {vs : List V} {H : Hp} {Q : VK} (q : RClC X.K (XY X) (cInts g) vs H Q) : ∃ a ns r h ρ, vs = [V.ref a] ∧ SqL X.K H a (ns.map V.int) ∧ g ns = some r ∧ RH X.K H ρ h ∧ Post X.K (XY X) H ρ (RV X.K) (.ok r h) Q := by
  obtain ⟨L, xs, ys, h, ρ, rfl, hL, rv, rh, p⟩ := q
  unfold cInts at p
  split at p
  · rename_i ns hn
    split at p
    · rename_i r hr
      rw [intsOf_ok hn] at rv
      rw [rv.ints] at hL
      exact ⟨L, ns, r, h, ρ, rfl, .of hL, hr, rh, p⟩
    · exact p.elim
  · exact p.elim
theorem cBls_inv {g : List Bool → D} {vs : List V} {H : Hp} {Q : VK} (q : RClC X.K (XY X) (cBls g) vs H Q) : ∃ a ns h ρ, vs = [V.ref a] ∧ SqL X.K H a (ns.map V.bl) ∧ RH X.K H ρ h ∧ Post X.K (XY X) H ρ (RV X.K) (.ok (g ns) h) Q := by
  obtain ⟨L, xs, ys, h, ρ, rfl, hL, rv, rh, p⟩ := q
  unfold cBls at p
  split at p
  · rename_i ns hn
    rw [blsOf_ok hn] at rv
    rw [rv.bls] at hL
    exact ⟨L, ns, h, ρ, rfl, .of hL, rh, p⟩
  · exact p.elim
def cSum : List D → DHeap → Res D := cInts fun ns => some (.int ns.sum)
theorem cc_sum (hc : X.calm = true) : CallR X (.builtin "sum") (RClC X.K (XY X) cSum) := clI (cr_sum hc) fun vs H Q q => by
  obtain ⟨a, ns, r, h, ρ, rfl, hs, e, rh, p⟩ := cInts_inv q
  cases e
  exact ⟨a, ns, rfl, hs, Post.ok p rh (rfl : RV X.K H ρ (.int _) _)⟩
theorem max_any {ns : List Int} {m k : Int} (e : maxL ns = some m) (h : k ∈ ns) (g : ∀ y, y ∈ ns → y ≤ k) : k = m := by
  obtain ⟨h1, h2⟩ := maxL_ge e
  exact Int.le_antisymm (h2 k h) (g m h1)
def cMax : List D → DHeap → Res D := cInts fun ns => (maxL ns).map .int
theorem cc_max (hc : X.calm = true) : CallR X (.builtin "max") (RClC X.K (XY X) cMax) := clI (cr_max hc) fun vs H Q q => by
  obtain ⟨a, ns, r, h, ρ, rfl, hs, e, rh, p⟩ := cInts_inv q
  cases em : maxL ns with
  | none => simp only [em] at e; cases e
  | some m =>
    simp only [em] at e
    cases e
    refine ⟨a, ns, rfl, hs, ?_, fun k hk hg => ?_⟩
    · cases ns with
      | nil => cases em
      | cons _ _ => exact Nat.succ_pos _
    · rw [max_any em hk hg]
      exact Post.ok p rh (rfl : RV X.K H ρ (.int _) _)
def cAll : List D → DHeap → Res D := cBls fun ns => .bl (ns.all id)
def cAny : List D → DHeap → Res D := cBls fun ns => .bl (ns.any id)
theorem cc_all (hc : X.calm = true) : CallR X (.builtin "all") (RClC X.K (XY X) cAll) := clI (cr_all hc) fun vs H Q q => by
  obtain ⟨a, ns, h, ρ, rfl, hs, rh, p⟩ := cBls_inv q
  exact ⟨a, ns, rfl, hs, Post.ok p rh (rfl : RV X.K H ρ (.bl _) _)⟩
theorem cc_any (hc : X.calm = true) : CallR X (.builtin "any") (RClC X.K (XY X) cAny) := clI (cr_any hc) fun vs H Q q => by
  obtain ⟨a, ns, h, ρ, rfl, hs, rh, p⟩ := cBls_inv q
  exact ⟨a, ns, rfl, hs, Post.ok p rh (rfl : RV X.K H ρ (.bl _) _)⟩

/-! max(.., default=..) -/
def rMaxD (K : PySem.W.Frag) : List V → List V → Hp → VK → Prop := fun vs zs H Q => ∃ a ns d, vs = [V.ref a] ∧ zs = [d] ∧ SqL K H a (ns.map V.int) ∧ (ns = [] → Q d H) ∧ ∀ m, Mx ns m → Q (.int m) H
theorem cr_maxD (hc : X.calm = true) : CallRK X (.builtin "max") [Str.ofString "default"] (rMaxD X.K) := by
  intro pins s σ H vs zs us ws Q I r rz h
  obtain ⟨a, ns, d, rfl, rfl, hs, q1, q2⟩ := h
  obtain rfl := Vals.ref1 r
  obtain ⟨w1, rfl, e1⟩ := vals1 rz
  obtain ⟨its, rv, hl, hz⟩ := I.list hs
  refine mx_call (I.ok.hd hc) rv.ints hl.isList fun v h' tk kp hv => ?_
  rcases hv with ⟨e, rfl⟩ | ⟨m, tm, rfl, hm⟩
  · exact ⟨d, H, I.kept kp, e1, q1 e⟩
  · exact ⟨.int m, H, I.kept kp, ⟨_, rfl⟩, q2 m hm⟩
/-- the default is read behind the list -/
def compMaxD (f : M (List D)) (g : M D) : M D := fun σ h => (f σ h).bind fun ys h1 => match intsOf ys with
  | some ns => (g σ h1).bind fun d h2 => match maxL ns with | some m => .ok (.int m) h2 | none => .ok d h2
  | none => .bad
theorem Ext.lst {H H' : Hp} {ρ ρ' : List Addr} (e : Ext H ρ H' ρ') {L : Addr} {xs : List V} (h : H L = some (.lst xs)) (n : L ∉ ρ) : H' L = some (.lst xs) := e.keepM h n
theorem de_maxD {kp : Pos} (hg : Gl X "max") (hm : X.mg "max" = none) (hc : X.calm = true) (hf : DC X e f) (hd : DE X a fa)
    (he : backTo pos (starEach [e] X.env) = (false, eval e X.env) :: backTo pos (starEach [] X.env) := by rfl) (hpl : (backTo pos (starEach [e] X.env)).any (·.1) = false := by rfl)
    (hall : (backToKw pos (keywordEach [⟨some (Str.ofString "default"), a, kp⟩] X.env)).all (·.1.isSome) = true := by rfl) (hnone : (backToKw pos (keywordEach [⟨some (Str.ofString "default"), a, kp⟩] X.env)).any (·.1.isNone) = false := by rfl)
    (hks : (backToKw pos (keywordEach [⟨some (Str.ofString "default"), a, kp⟩] X.env)).filterMap (·.1) = [Str.ofString "default"] := by rfl) (hs : starEach [e] X.env = (false, eval e X.env) :: starEach [] X.env := by rfl) :
    DE X (.Call (.Name "max" p) [e] [⟨some (Str.ofString "default"), a, kp⟩] pos) (compMaxD f fa) :=
  ⟨peI (pe_callBK (cr_maxD hc) hg hm boot_max (pa_cons hf.run pa_nil hs) (pk_cons hd.run pk_nil) (by decide) (by decide) he hpl hall hnone hks) fun σ H Q q => by
    obtain ⟨σd, h, ρ, re, rh, p⟩ := q
    refine ⟨σd, h, ρ, re, rh, ?_⟩
    unfold compMaxD at p
    cases e0 : f σd h with
    | bad => rw [e0] at p; exact p.elim
    | exc y s h1 => rw [e0] at p; exact p
    | ok ys h1 =>
      rw [e0] at p
      simp only [Res.bind] at p
      split at p
      case h_2 => exact p.elim
      rename_i ns hn
      intro H' ρ' L vs x1 rh1 hL0 hL nL rvs
      refine ⟨σd, h1, ρ', re.mono x1, rh1, Post.mono (Post.bind (Post.ext x1 p)) fun v H2 ⟨d, h2, ρ2, e2, rh2, r2, p2⟩ => ?_⟩
      rw [intsOf_ok hn] at rvs
      rw [rvs.ints] at hL
      refine ⟨L, ns, v, rfl, rfl, .of (e2.lst hL nL), fun en => ?_, fun m hm => ?_⟩
      · subst en
        exact Post.ok p2 rh2 r2
      · cases em : maxL ns with
        | none =>
          cases ns with
          | nil => exact absurd hm.1 List.not_mem_nil
          | cons k r => simp only [maxL] at em; split at em <;> cases em
        | some k =>
          rw [em] at p2
          rw [max_any em hm.1 hm.2]
          exact Post.ok p2 rh2 (rfl : RV X.K H2 ρ2 (.int _) _)⟩
end

/-! a def by its meaning -/
def EOf (mg : Str → Option Value) (E : XK) : EX := ⟨mg, fun c d _ H => E c d H⟩
structure FnG (P : Program) (w : World) (K : PySem.W.Frag) (mg : Str → Option Value) (base : Heap) (k : Nat) (f : Addr) (fd : FuncData) (ps : List Str) (m : List D → DHeap → Res D) : Prop where
  len : ∀ vs H Q E, RCl K (EOf mg E) m vs H Q → vs.length = ps.length
  run : ∀ (A : Around) (outer : List Env) (s : Shared) (H : Hp) (args : Args) (us : List Value) (vs : List V) (Q : VK) (E : XK), Room k A → A.guards = some [] → Env0 P w K mg base A outer s H → BindsTo s fd args (ps.zip us) → Vals vs us → RCl K (EOf mg E) m vs H Q →
    codeAny (model P w) A (.call (.ref f) args) (CR (L2.CX P w) outer P w H s Q E) s
structure Defn (P : Program) (w : World) (K : PySem.W.Frag) (mg : Str → Option Value) (base : Heap) (k : Nat) (x : Str) (m : List D → DHeap → Res D) : Prop where
  ex : ∃ (f : Addr) (fd : FuncData) (ps : List Str), FnG P w K mg base k f fd ps m ∧ mg x = some (.ref f) ∧ PySem.W.keepIn K (.ref f) = true ∧ Binds K fd ps []
def runDef (np n : Nat) (body : M Fl) : List D → DHeap → Res D := fun ds h => if ds.length = np then (body (ds.map some ++ List.replicate (n - np) none) h).bind fun fl h1 => match fl with
  | .rt d => .ok d h1
  | .nx _ => .ok .non h1
  | .bk _ => .bad
  | .ct _ => .bad
  else .bad
/-- a def called: its exception comes with the caller's names -/
def callF (m : List D → DHeap → Res D) (f : M (List D)) : M D := fun σ h => (f σ h).bind fun ds h1 => (m ds h1).at σ
section
variable {X : Cx} {pos p : Pos} {x : Str} {e : Expr} {es : List Expr} {f : M (List D)} {k : Nat} {m : List D → DHeap → Res D}
theorem callF_at {K : PySem.W.Frag} {Y : EX} {σd : DEnv} {σ : L2.St} {H : Hp} {ρ : List Addr} {r : Res D} {Q : VK} (re : RE K H ρ σd σ) (p : Post K Y H ρ (RV K) (r.at σd) Q) : Post K (EOf Y.mg fun c d H => Y.W c d σ H) H ρ (RV K) r Q := by
  cases r with
  | ok d h => exact p
  | bad => exact p
  | exc x s h' => exact fun H' ρ' x1 x2 σ' cls d _ rx => p H' ρ' x1 x2 σ cls d (re.mono x1) rx
theorem callF_rd {K : PySem.W.Frag} {Y : EX} {σ : L2.St} {H : Hp} {Q : VK} (q : rdG K Y (RV K) (callF m f) σ H Q) : rdG K Y (RVs K) f σ H fun vs H1 => RCl K (EOf Y.mg fun c d H => Y.W c d σ H) m vs H1 Q := by
  obtain ⟨σd, h, ρ, re, rh, p⟩ := q
  exact ⟨σd, h, ρ, re, rh, p.bind.mono fun x H1 ⟨d, h1, ρ1, e1, rh1, r1, p1⟩ => ⟨d, h1, ρ1, r1, rh1, callF_at (re.mono e1) p1⟩⟩
theorem run_fnG {fa : Addr} {fd : FuncData} {ps : List Str} {pins : List (Addr × Obj)} {σ : L2.St} {H : Hp} {s : Shared} {Q : VK} {us : List Value} {vs : List V} (F : FnG X.prog X.w X.K X.mg X.base k fa fd ps m) (hr : Room k X.A) (hgu : X.A.guards = some []) (hb : Binds X.K fd ps [])
    (I : Inv X pins σ H s) (r : Vals vs us) (q : RCl X.K (EOf X.mg fun c d H => wishOf X c d σ H) m vs H Q) : wpAny (model X.prog X.w) X.A (call (.ref fa) us) (EP X pins σ Q) X.xe s := by
  have hl : (us ++ []).length = ps.length := by rw [List.append_nil, ← r.length]; exact F.len _ _ _ _ q
  refine wpAny_call (codeAny_mono (F.run X.A X.stack s H ⟨us, []⟩ us vs Q _ hr hgu I.env0 (by have := hb s us I.kIn hl; rwa [List.append_nil] at this) r q) fun r' s' hq => ?_)
  cases r' with
  | error e => exact L2.passAt takes_wish σ pins H s e s' I hq
  | ok fl =>
    cases fl with
    | ret u => exact I.after hq
    | next => exact False.elim hq
    | brk => exact False.elim hq
    | cont => exact False.elim hq
theorem de_call (F : Defn X.prog X.w X.K X.mg X.base k x m) (hr : Room k X.A) (hgu : X.A.guards = some []) (hg : Gl X x) (ha : DA X (e :: es) f) (hdb : (x == ("__debug__" : Str)) = false := by decide)
    (he : starEach (e :: es) X.env = (false, eval e X.env) :: starEach es X.env := by rfl) (hpl : (backTo pos (starEach es X.env)).any (·.1) = false := by rfl) : DE X (.Call (.Name x p) (e :: es) [] pos) (callF m f) := by
  obtain ⟨fa, fd, ps, G, hm, hk, hb⟩ := F.ex
  refine ⟨⟨fun pins s σ H Q I q => ?_⟩⟩
  refine wpAny_Call_Name_kw (ld_glob I hg hm ?_ hdb)
  refine PySem.W.callWith_K (h₀ := X.base) I.ok.mod.kin hk (thn (ha.run.run pos pins s σ H _ I (callF_rd q)) fun us s1 ⟨vs, H1, I1, r, q⟩ => ⟨I1.kIn, ?_⟩) he hpl
  exact run_fnG G hr hgu hb I1 r q
theorem de_call0 (F : Defn X.prog X.w X.K X.mg X.base k x m) (hr : Room k X.A) (hgu : X.A.guards = some []) (hg : Gl X x) (hdb : (x == ("__debug__" : Str)) = false := by decide) : DE X (.Call (.Name x p) [] [] pos) (callF m aNil) := by
  obtain ⟨fa, fd, ps, G, hm, hk, hb⟩ := F.ex
  refine ⟨⟨fun pins s σ H Q I q => ?_⟩⟩
  refine wpAny_Call_Name_kw (ld_glob I hg hm ?_ hdb)
  obtain ⟨σd, h, ρ, re, rh, pp⟩ := q
  exact PySem.W.callWith_K0 I.kIn hk (run_fnG (us := []) G hr hgu hb I .nil ⟨[], h, ρ, rfl, rh, callF_at re pp⟩)
end
section
variable {P : Program} {w : World} {K : PySem.W.Frag} {mg : Str → Option Value} {base : Heap} {k : Nat}
theorem RE.start {H : Hp} {ρ : List Addr} {n : Nat} : ∀ {ds : List D} {vs : List V}, RVs K H ρ ds vs → RE K H ρ (ds.map some ++ List.replicate n none) (vs.map some ++ List.replicate n none) := by
  intro ds vs r
  refine ⟨by rw [List.length_append, List.length_append, List.length_map, List.length_map, r.len, List.length_replicate, List.length_replicate], fun i d q => ?_⟩
  by_cases hi : i < ds.length
  · rw [List.getElem?_append_left (by simpa using hi), List.getElem?_map] at q
    cases e : ds[i]? with
    | none => rw [e] at q; cases q
    | some d' =>
      rw [e] at q
      cases q
      obtain ⟨v, e1, e2⟩ := r.get e
      exact ⟨v, by rw [List.getElem?_append_left (by rw [List.length_map, ← r.len]; exact hi), List.getElem?_map, e1]; rfl, e2⟩
  · rw [List.getElem?_append_right (by simpa using hi), List.getElem?_replicate] at q
    split at q <;> cases q
theorem runDef_len {Y : EX} {np n : Nat} {B : M Fl} {vs : List V} {H : Hp} {Q : VK} (q : RCl K Y (runDef np n B) vs H Q) : vs.length = np := by
  obtain ⟨ds, h, ρ, r, rh, p⟩ := q
  unfold runDef at p
  split at p
  · rename_i hl
    rw [← r.len]; exact hl
  · exact p.elim
/-- the code object of the def at f -/
def CodeAt (K : PySem.W.Frag) (f : Addr) (cdv : Value) : Prop := ∃ (o : Obj) (fd : FuncData), K.lookup f = some o ∧ o.data = .func fd ∧ fd.code = cdv
/-- THE RULE: a def's meaning is that of its body -/
theorem okG {x qual : Str} {st : Stmt} {f : Addr} {fd : FuncData} {N ps : List Str} {B : M Fl} (F : Fun K x qual st f fd) (S : FnScope N ps (defScope st))
    (hbody : ∀ (cdv : Value) (hlk : CodeAt K f cdv) (A : Around) (outer : List Env) (s : Shared) (H : Hp) (E : XK), Room k (A.deeper (envOfC qual (defScope st) s.heap.objs.size f cdv)) → (A.deeper (envOfC qual (defScope st) s.heap.objs.size f cdv)).guards = some [] →
      PassesOwn (model P w) (cxOf (L2.CX P w) P w K mg base N qual (defScope st) f cdv A outer s H E).A (cxOf (L2.CX P w) P w K mg base N qual (defScope st) f cdv A outer s H E).env (cxOf (L2.CX P w) P w K mg base N qual (defScope st) f cdv A outer s H E).xe →
      DSs (cxOf (L2.CX P w) P w K mg base N qual (defScope st) f cdv A outer s H E) (defBody st) B) : FnG P w K mg base (k + 1) f fd ps (runDef ps.length N.length B) := by
  obtain ⟨oc, od, kV, doc, pm, an, cdv, ct, osl, rfl, lk, hcd⟩ := F.ex
  refine ⟨fun vs H Q E q => runDef_len q, fun A outer s H args us vs Q E hr hgu e0 hb r hsp => ?_⟩
  have hl := runDef_len hsp
  have KX : K.In s.heap := e0.mod.kin.keeps fun b o e => (e0.bs b o e).1
  have hkind : ∀ y ∈ ps.zip us, (defScope st).names.lookup y.1 = some .local ∨ ((defScope st).names.lookup y.1 = some .cell ∧ ((cellsFrom (s.heap.objs.size + 1) (defScope st).names []).lookup y.1).isSome = true) := fun y hy =>
    (S.par y.1 (List.of_mem_zip hy).1).imp id fun q => ⟨q, PySem.W.cellsFrom_some _ _ _ (.inl q)⟩
  apply codeAny_call_function hr.depth (KX _ _ lk) rfl S.co S.gen rfl (PySem.W.codeRec_of KX hcd)
  apply hb
  refine wpAny_newFunctionEnv_cells S.kind hkind fun env he s1 x => ?_
  subst he
  refine ⟨(e0.mod.nolimit.keeps fun b o e => (e0.bs b o e).1).keeps x.toInCall.keep, codeAny_func ?_⟩
  have ht := (hbody cdv ⟨_, _, lk, rfl, rfl⟩ A outer s H E (hr.deeper _) hgu (passes_of rfl)).run
  have I : Inv (cxOf (L2.CX P w) P w K mg base N qual (defScope st) f cdv A outer s H E) [] (L2.start N vs) H s1 := inv_start S hr.hd e0 hl r x
  obtain ⟨ds, h, ρ, rv, rh, pp⟩ := hsp
  unfold runDef at pp
  split at pp
  case isFalse => exact pp.elim
  have hq : rdS K (XY (cxOf (L2.CX P w) P w K mg base N qual (defScope st) f cdv A outer s H E)) B { nx := fun _ H' => Q .non H', rt := Q } (L2.start N vs) H := by
    have es : L2.start N vs = vs.map some ++ List.replicate (N.length - ps.length) none := by unfold L2.start; rw [hl]
    rw [es]
    refine ⟨_, h, ρ, RE.start rv, rh, ?_⟩
    generalize B _ h = r0 at pp ⊢
    cases r0 with
    | bad => exact pp.elim
    | exc y s2 h1 => exact fun H' ρ' x1 x2 σ' cls d re rx => wish_of (V := fun cls d _ H => E cls d H) (takes_of rfl rfl rfl rfl) (pp H' ρ' x1 x2 σ' cls d re rx)
    | ok fl h1 =>
      cases fl with
      | rt d => exact fun H' ρ' x1 x2 v rv' => pp H' ρ' v x1 x2 rv'
      | nx σ' => exact fun H' ρ' x1 x2 _ _ => pp H' ρ' .non x1 x2 rfl
      | bk σ' => exact pp.elim
      | ct σ' => exact pp.elim
  refine wpAny_mono (ht.run [] s1 (L2.start N vs) H _ I hq) (fun fl s' hs => ?_) fun _ _ hs => hs
  cases fl with
  | ret u =>
    obtain ⟨v, σ', H', J, rv', q⟩ := hs
    exact ⟨v, H', J.os, J.bare, J.base, J.hok, rv', q⟩
  | next =>
    obtain ⟨σ', H', J, q⟩ := hs
    exact ⟨.non, H', J.os, J.bare, J.base, J.hok, rfl, q⟩
  | brk =>
    obtain ⟨_, _, _, q⟩ := hs
    exact False.elim q
  | cont =>
    obtain ⟨_, _, _, q⟩ := hs
    exact False.elim q
/-- a meaning that is never asked -/
theorem badG {f : Addr} {fd : FuncData} {ps : List Str} : FnG P w K mg base k f fd ps (fun _ _ => .bad) :=
  ⟨fun vs H Q E ⟨_, _, _, _, _, p⟩ => p.elim, fun _ _ _ _ _ _ _ _ _ _ _ _ _ _ ⟨_, _, _, _, _, p⟩ => p.elim⟩
end

/-! the law's end -/
theorem endG {P : Program} {w : World} {K : PySem.W.Frag} {mg mb : Str → Option Value} {k : Nat} {fa a : Addr} {cs : List (Addr × Addr × Str)} (hcs : TbC.tabs = cs.map (·.2)) {fd : FuncData} {x : Str} {m : List D → DHeap → Res D} {s₁ : Shared} {vs : List Value} {ns : List Int}
    (KX : K.In s₁.heap) (hns : s₁.heap.Ns mainGlobals mg) (hb : s₁.heap.Ns builtinsNs mb) (hbb : ∀ x : Str, x ≠ "__name__" → mb x = bootBuiltins x) (hlim : s₁.heap.NoLimit) (hg : s₁.gens = #[])
    (hT : ∀ p ∈ cs, s₁.heap.get? p.2.1 = some { cls := .none, data := .fields #[] }) (nT : ∀ p ∈ cs, K.lookup p.2.1 = none) (C : ∀ p ∈ cs, PySem.W.CodeHd s₁.heap p.1 p.2.1)
    (hbm : ∃ (bm : Addr) (ob : Obj), mg "__builtins__" = some (.ref bm) ∧ bm ≠ builtinsNs ∧ s₁.heap.get? bm = some ob ∧ ob.cls = .type "module" ∧ ob.dict = some builtinsNs ∧ ob.data = .plain)
    (ha : s₁.heap.get? a = some { cls := .type "list", data := .seq vs.toArray }) (hi : IntsAre vs ns) (hl : ns.length ≤ sizeLine) (hr : Room k callerA)
    (F : ∀ base : Heap, K.In base → base.Ns mainGlobals mg → (∀ p ∈ cs, LamX.TabB base mg p.1 p.2.1) → FnG P w K mg base k fa fd [x] m) (hbind : ∀ (s : Shared) (u : Value), BindsTo s fd ⟨[u], []⟩ [(x, u)]) (hm : ∃ h', m [.fl (ns.map .int)] [] = .ok (.bl true) h') :
    codeAny (model P w) callerA (.call (.ref fa) ⟨[.ref a], []⟩) (fun r s' => r = .ok (.ret (.bool true)) ∧ OldK s₁.heap s'.heap ∧ s'.os = s₁.os ∧ AllBare s'.gens) s₁ := by
  have rv := vals_ints hi
  have lenV := hi.length
  have isT : ∀ b : Addr, b ∈ cs.map (·.2.1) → s₁.heap.get? b = some { cls := .none, data := .fields #[] } := fun b hb => by
    obtain ⟨p, hp, e⟩ := List.mem_map.mp hb
    rw [← e]
    exact hT p hp
  have aT : a ∉ cs.map (·.2.1) := fun z => by
    have q := isT a z
    rw [ha] at q
    have z' : Data.seq vs.toArray _ = Data.fields #[] := congrArg Obj.data (Option.some.inj q)
    cases z'
  have memT : ∀ p ∈ cs, p.2.1 ∈ cs.map (·.2.1) := fun p hp => List.mem_map.mpr ⟨p, hp, rfl⟩
  have core : ∀ H : Hp, (∀ p ∈ cs, H p.2.1 = some (.tbl #[])) → (∀ b, H b = none ∨ b ∈ cs.map (·.2.1) ∨ ∃ o xs, H b = some (.frz o (.lst xs))) → FrL K H a (ns.map V.int) → HOk P w H s₁.heap → (∀ b, H b ≠ none → b = a ∨ b ∈ cs.map (·.2.1)) → (H a ≠ none → K.lookup a = none) →
      codeAny (model P w) callerA (.call (.ref fa) ⟨[.ref a], []⟩) (fun r s' => r = .ok (.ret (.bool true)) ∧ OldK s₁.heap s'.heap ∧ s'.os = s₁.os ∧ AllBare s'.gens) s₁ := by
    intro H hH hO hS hok hA hK
    have base_of : ∀ {b : Addr} {o : Obj}, s₁.heap.get? b = some o → H b = none → (hidT s₁.heap H).get? b = some o := fun e n => hidT_get e n
    have noD : ∀ {b : Addr} {o : Obj}, s₁.heap.get? b = some o → (∀ vs n, o.data ≠ .seq vs n) → o.data ≠ .fields #[] → H b = none := fun {b o} e h1 h2 => by
      cases q : H b with
      | none => rfl
      | some u =>
        rcases hA b (by rw [q]; simp) with e' | e'
        · rw [e', ha] at e
          cases e
          exact (h1 _ _ rfl).elim
        · rw [isT b e'] at e
          cases e
          exact (h2 rfl).elim
    have noA : ∀ {b : Addr} {o : Obj} {es : Array DictEntry} {ep : Nat}, s₁.heap.get? b = some o → o.data = .dict es ep → H b = none := fun {b o es ep} e d => by
      refine noD e (fun vs n z => ?_) fun z => ?_
      · rw [d] at z
        cases z
      · rw [d] at z
        cases z
    have nsK : ∀ {b : Addr} {m : Str → Option Value}, s₁.heap.Ns b m → (hidT s₁.heap H).Ns b m := fun {b m} ⟨o, es, ep, e, d, r⟩ => ⟨o, es, ep, base_of e (noA e d), d, r⟩
    have kb : K.In (hidT s₁.heap H) := fun b o e => base_of (KX b o e) (by
      cases q : H b with
      | none => rfl
      | some u =>
        rcases hA b (by rw [q]; simp) with e' | e'
        · rw [e'] at e q
          rw [hK (by rw [q]; simp)] at e
          cases e
        · obtain ⟨p, hp, ep⟩ := List.mem_map.mp e'
          rw [← ep, nT p hp] at e
          cases e)
    have hM : L2.Mod K mg (hidT s₁.heap H) := ⟨kb, nsK hns, ⟨mb, nsK hb, hbb⟩, let ⟨mc, h1, h2⟩ := hlim; ⟨mc, nsK h1, h2⟩⟩
    have TB : ∀ p ∈ cs, LamX.TabB (hidT s₁.heap H) mg p.1 p.2.1 := fun p hp => by
      have hTp := hT p hp
      refine ⟨?_, ?_, fun z => ?_⟩
      · obtain ⟨o, us, file, tf, flags, tg, inF, text, tt, e1, r1, r2, r3, r4, r5, r6, r7, r8, hne⟩ := C p hp
        refine ⟨o, us, file, tf, flags, tg, inF, text, tt, base_of e1 (noD e1 (fun vs n z => ?_) fun z => ?_), r1, r2, r3, r4, r5, r6, r7, r8, hne⟩
        · rw [r2] at z
          cases z
        · rw [r2] at z
          cases z
          simp at r3
      · obtain ⟨bm, ob, b1, b2, b3, b4, b5, b6⟩ := hbm
        have nG : bm ≠ mainGlobals := fun q => by
          obtain ⟨o, es, ep, e, hd, _⟩ := hns
          rw [q, e] at b3
          cases b3
          rw [hd] at b6
          cases b6
        have nP : bm ≠ p.2.1 := fun q => by
          rw [q, hTp] at b3
          cases b3
          cases b6
        refine ⟨bm, ob, b1, b2, nG, nP, base_of b3 (noD b3 (fun vs n z => ?_) fun z => ?_), b4, b5, b6⟩
        · rw [b6] at z
          cases z
        · rw [b6] at z
          cases z
      · obtain ⟨o, es, ep, e, hd, _⟩ := hns
        rw [z, hTp] at e
        cases e
        cases hd
    have e0 : Env0 P w K mg (hidT s₁.heap H) callerA [] s₁ H := ⟨rfl, hM, fun b o e => of_hidT e, Nat.le_of_eq (hidT_size _ _), trivial, fun b hb => absurd (show b ∈ ([] : List Addr) from hb) (by simp), hok, .of_eq hg⟩
    have tabs : LamX.Tabs TbC.tabs H := by
      rw [hcs]
      intro p hp
      obtain ⟨q, hq, rfl⟩ := List.mem_map.mp hp
      exact LamX.TabS.nil (hH q hq)
    obtain ⟨h', em⟩ := hm
    have rcl : RCl K (EOf mg fun _ _ _ => False) m [.ref a] H (fun v _ => v = .bl true) := by
      refine ⟨[.fl (ns.map .int)], [], [], ⟨.ref a, [], rfl, ⟨a, _, rfl, hS, RVs.ofInts ns⟩, rfl⟩, ⟨rfl, List.nodup_nil, fun n c b e _ => by simp at e, tabs⟩, ?_⟩
      rw [em]
      exact fun H' ρ' v _ _ r => r
    refine codeAny_mono ((F _ kb (nsK hns) TB).run callerA [] s₁ H ⟨[.ref a], []⟩ [.ref a] [.ref a] _ _ hr rfl e0 (hbind s₁ (.ref a)) (.cons rfl .nil) rcl) fun r s' h => ?_
    cases r with
    | error e =>
      obtain ⟨_, _, _, _, _, _, _, _, _, _, _, _, z⟩ := h
      exact z.elim
    | ok fl =>
      cases fl with
      | next => exact False.elim h
      | brk => exact False.elim h
      | cont => exact False.elim h
      | ret u =>
        obtain ⟨v, H', os, bare, un, hok', r', q⟩ := h
        obtain rfl : v = .bl true := q
        obtain rfl : u = Value.bool true := r'
        have key : ∀ b o, b ∉ cs.map (·.2.1) → s₁.heap.get? b = some o → s'.heap.get? b = some o := fun b o nb e => by
          cases q : H b with
          | none => exact un.keep b o e q (by intro z; exact absurd (show b ∈ ([] : List Addr) from z) (by simp)) (by simp)
          | some u =>
            rcases hO b with z | z | ⟨ob, xs, z⟩
            · rw [q] at z; cases z
            · exact absurd z nb
            · have z2 := un.frzs b ob _ z
              obtain ⟨e1, _⟩ := hok b _ z
              obtain ⟨e2, _⟩ := hok' b _ z2
              rw [e] at e1; cases e1
              exact e2
        have grown : ∀ p ∈ cs, ∃ more : Array Value, s'.heap.get? p.2.1 = some { cls := .none, data := .fields more } := fun p hp => by
          obtain ⟨more, z⟩ := un.tbls p.2.1 #[] (hH p hp)
          exact ⟨_, hok' p.2.1 _ z⟩
        refine ⟨rfl, ⟨fun b o e => ?_, fun b o e => ?_⟩, os, bare⟩
        · by_cases hb : b ∈ cs.map (·.2.1)
          · obtain ⟨p, hp, ep⟩ := List.mem_map.mp hb
            obtain ⟨more, hm⟩ := grown p hp
            rw [← ep] at e ⊢
            rw [hT p hp] at e
            cases e
            exact .inr (.inl ⟨((C p hp).tab (hT p hp)).isCodeTable, rfl, #[], more, rfl, by rw [Array.empty_append]; exact hm⟩)
          · exact .inl (key b o hb e)
        · by_cases hb : b ∈ cs.map (·.2.1)
          · obtain ⟨p, hp, ep⟩ := List.mem_map.mp hb
            obtain ⟨more, hm⟩ := grown p hp
            rw [← ep]
            exact ⟨_, hm⟩
          · exact ⟨o, key b o hb e⟩
  cases hk : K.lookup a with
  | some o =>
    have e := KX a o hk
    rw [ha] at e
    cases e
    refine core (fun b => if b ∈ cs.map (·.2.1) then some (.tbl #[]) else none) (fun p hp => if_pos (memT p hp)) (fun b => ?_) (.inr ⟨_, vs.toArray, _, hk, rfl, rfl, rfl, by rw [List.size_toArray, lenV]; exact hl, by simpa using rv⟩) (fun b u z => ?_) (fun b z => ?_) fun z => absurd (show (if a ∈ cs.map (·.2.1) then some (HO.tbl #[]) else none) = none from if_neg aT) z
    · by_cases hb : b ∈ cs.map (·.2.1)
      · exact .inr (.inl hb)
      · exact .inl (if_neg hb)
    · by_cases hb : b ∈ cs.map (·.2.1)
      · have z' := (if_pos hb).symm.trans z
        cases z'
        exact isT b hb
      · have z' := (if_neg hb).symm.trans z
        cases z'
    · by_cases hb : b ∈ cs.map (·.2.1)
      · exact .inr hb
      · exact absurd (if_neg hb) z
  | none =>
    refine core (fun b => if b = a then some (.frz { cls := .type "list", data := .seq vs.toArray } (.lst (ns.map V.int))) else if b ∈ cs.map (·.2.1) then some (.tbl #[]) else none) (fun p hp => (if_neg (show ¬ p.2.1 = a from fun z => aT (by rw [← z]; exact memT p hp))).trans (if_pos (memT p hp))) (fun b => ?_)
      (.inl ⟨{ cls := .type "list", data := .seq vs.toArray }, if_pos rfl⟩) (fun b u z => ?_) (fun b z => ?_) fun _ => hk
    · by_cases hb : b = a
      · exact .inr (.inr ⟨_, _, if_pos hb⟩)
      · by_cases hb2 : b ∈ cs.map (·.2.1)
        · exact .inr (.inl hb2)
        · exact .inl ((if_neg hb).trans (if_neg hb2))
    · by_cases hb : b = a
      · have z' := (if_pos hb).symm.trans z
        cases z'
        rw [hb]
        exact ⟨ha, by rw [List.length_map]; exact hl, vs, _, rv, ha⟩
      · have z1 := (if_neg hb).symm.trans z
        by_cases hb2 : b ∈ cs.map (·.2.1)
        · have z' := (if_pos hb2).symm.trans z1
          cases z'
          exact isT b hb2
        · have z' := (if_neg hb2).symm.trans z1
          cases z'
    · by_cases hb : b = a
      · exact .inl hb
      · by_cases hb2 : b ∈ cs.map (·.2.1)
        · exact .inr hb2
        · exact absurd ((if_neg hb).trans (if_neg hb2)) z
/-- the tables of the program's defs, all empty -/
def TabsOf (q : Program) (mg : Str → Option Value) (h : Heap) : Prop := ∀ d ∈ recsOf q, ∃ a o fd c P, mg d.name = some (.ref a) ∧ h.get? a = some o ∧ o.data = .func fd ∧ fd.code = .ref c ∧ h.IsCode c P #[] ∧ h.TableAt c P #[]
/-- the table of a def that the fragment knows -/
theorem tab_known {q : Program} {mg : Str → Option Value} {h : Heap} {K : PySem.W.Frag} {x : Str} {f C P : Addr} {o : Obj} {fd : FuncData} {e : Value} {dd : Option Addr} {vs : Array Value} {sl : Array (Option Value)} (KX : K.In h) (T : TabsOf q mg h) (hx : ((recsOf q).any fun e => e.name == x) = true) (hm : mg x = some (.ref f))
    (k1 : K.lookup f = some o) (k2 : o.data = .func fd) (k3 : fd.code = .ref C) (k4 : K.lookup C = some ⟨e, dd, .fields vs, sl⟩) (k5 : vs[11]? = some (.ref P)) : h.get? P = some { cls := .none, data := .fields #[] } ∧ PySem.W.CodeHd h C P := by
  obtain ⟨dL, hmm, hn1⟩ := List.any_eq_true.mp hx
  have hn2 : dL.name = x := beq_iff_eq.mp hn1
  obtain ⟨a', o', fd', c', P', h1, h2, h3, h4, h5, h6⟩ := T dL hmm
  rw [hn2, hm] at h1
  cases h1
  have g1 := KX _ _ k1
  rw [g1] at h2
  cases h2
  rw [k2] at h3
  cases h3
  rw [k3] at h4
  cases h4
  have hd := PySem.W.CodeHd.of h5 h6
  obtain ⟨⟨oc, vc, e1, _, e3, e4⟩, hP⟩ := h6
  have g2 := KX _ _ k4
  rw [g2] at e1
  cases e1
  cases e3
  rw [k5] at e4
  cases e4
  exact ⟨hP, hd⟩
theorem walkG {l : PySem.W.OpenLaw} {n k : Nat} {q : Program} {loose : List Str} {XP : (Str → Option Value) → Heap → Prop} {YP : World → Heap → Prop} {d : DefRec} {K : Params → PySem.W.Frag} {m : List D → DHeap → Res D} {x : Str}
    (hn : l.most = some n) (hn2 : n ≤ sizeLine) (hdf : d.params.defaults = []) (hr : Room k callerA) (hY : ∀ (w : World) (h : Heap), YP w h → (K w.params).In h)
    (F : ∀ (w : World) (mg : Str → Option Value) (fa : Addr) (h : Heap), (K w.params).In h → h.Ns mainGlobals mg → mg d.name = some (.ref fa) → TabsOf q mg h →
      ∃ (tc : TbC) (cs : List (Addr × Addr × Str)) (fd : FuncData), tc.tabs = cs.map (·.2) ∧ (∀ p ∈ cs, h.get? p.2.1 = some { cls := .none, data := .fields #[] }) ∧ (∀ p ∈ cs, (K w.params).lookup p.2.1 = none) ∧ (∀ p ∈ cs, PySem.W.CodeHd h p.1 p.2.1) ∧ (∀ (s : Shared) (u : Value), BindsTo s fd ⟨[u], []⟩ [(x, u)]) ∧
        ∀ base : Heap, (K w.params).In base → base.Ns mainGlobals mg → (∀ p ∈ cs, LamX.TabB base mg p.1 p.2.1) → @FnG tc l.prog w (K w.params) mg base k fa fd [x] m)
    (hm : ∀ ns : List Int, ns.length ≤ n → ∃ h', m [.fl (ns.map .int)] [] = .ok (.bl true) h') : PySem.W.WalkO q loose XP YP l.row.toRowW d [] (fun f vs => PySem.call f vs) := by
  refine Att.attach_call hn hdf fun w s₀ s₁ mg mb fa o pm cd doc a vs ns G Y ho hd hcd hmg hobj hints hlen hg => ?_
  have KX := hY w _ Y
  obtain ⟨tc, cs, fd, hcs, hT, nT, C, hb, hF⟩ := F w mg fa _ KX G.T.g hmg G.T.tab
  exact @endG tc _ _ _ _ _ _ _ _ cs hcs _ _ _ _ _ _ KX G.T.g G.T.b G.T.builtins G.T.nolimit hg hT nT C G.T.bmain hobj hints (Nat.le_trans hlen hn2) hr hF hb (hm ns hlen)
end DL

set_option Elab.async false
set_option linter.all false
set_option maxRecDepth 100000
namespace DL
open PySem PySem.Spec PyProof.Rows L2
variable [TbC]
mutual
theorem noDict : ∀ d : D, (toP d).hasDict = false
  | .non => rfl
  | .bl _ => rfl
  | .int _ => rfl
  | .str _ => rfl
  | .tup ds => by show PyData.hasDictAll (toPs ds) = false; exact noDicts ds
  | .fl ds => by show PyData.hasDictAll (toPs ds) = false; exact noDicts ds
  | .ref _ => rfl
theorem noDicts : ∀ ds : List D, PyData.hasDictAll (toPs ds) = false
  | [] => rfl
  | d :: ds => by
    show ((toP d).hasDict || PyData.hasDictAll (toPs ds)) = false
    rw [noDict d, noDicts ds]
    rfl
end
/-- what may be shown -/
def okR (d : D) : Prop := pureD d = true ∧ (toP d).showable = true ∧ (toP d).depth ≤ 128 ∧ (toP d).shown.length ≤ sizeLine
instance (d : D) : Decidable (okR d) := by unfold okR; infer_instance
def reprD : List D → DHeap → Res D
  | [d], h => match seen h d with
    | some d' => if okR d' then .ok (.str (toP d').shown) h else .bad
    | none => .bad
  | _, _ => .bad
section
variable {X : Cx}
theorem cd_repr (hgu : X.A.guards = some []) (hu : X.A.units + 200 < cLine) : CallR X (.builtin "repr") (RCl X.K (XY X) reprD) := by
  intro pins s σ H vs us Q I rv q
  obtain ⟨ds, h, ρ, r, rh, p⟩ := q
  unfold reprD at p
  split at p
  case h_2 => exact p.elim
  case h_1 d =>
    obtain ⟨v, rfl, r1⟩ := r.inv1
    obtain ⟨u, rfl, ru⟩ := vals1 rv
    split at p
    case h_2 => exact p.elim
    rename_i d' hs
    split at p
    case isFalse => exact p.elim
    rename_i hok
    obtain ⟨o1, o2, o3, o4⟩ := hok
    have dp := dp_seen rh hs o1 r1
    have fin : Q (.str (toP d').shown) H := Post.ok p rh (rfl : RV X.K H ρ (.str _) _)
    obtain ⟨as, rd⟩ := Dp.reads I _ _ _ dp ru
    have onref : ∀ a, u = Value.ref a → wpAny (model X.prog X.w) X.A (call (.builtin "repr") [u]) (EP X pins σ Q) X.xe s := fun a e => by
      subst e
      exact repr_of_reads' rd o2 (PyData.noDict_hsm (noDict d')) hgu (by omega) (fun _ _ e => e) (fun h' tk tk2 kp => ⟨.str _, H, I.kept kp, ⟨_, rfl⟩, fin⟩) o4
    generalize toP d' = pd at *
    cases dp with
    | non => cases (show u = Value.none from ru); exact PySem.P.repr_of_none ⟨.str _, H, I.tok _, ⟨_, rfl⟩, fin⟩
    | bl b =>
      cases (show u = Value.bool b from ru)
      refine PySem.P.repr_of_bool ⟨.str _, H, I.tok _, ⟨_, rfl⟩, ?_⟩
      simp only [PyData.shown] at fin
      exact fin
    | int i =>
      obtain ⟨t, rfl⟩ := ru
      exact PySem.P.repr_of_int (by simpa [PyData.showable] using o2) ⟨.str _, H, I.tok _, ⟨_, rfl⟩, by simpa [PyData.shown] using fin⟩
    | str z =>
      obtain ⟨t, rfl⟩ := ru
      exact PySem.P.repr_of_str ⟨.str _, H, I.tok _, ⟨_, rfl⟩, by simpa [PyData.shown] using fin⟩ (by simpa [PyData.shown] using o4)
    | lst _ _ => exact onref _ ru
    | tup _ _ => exact onref _ ru
end
end DL
namespace DL
open PySem PySem.Spec PyProof.Rows L2
theorem u200 {A : Around} {k : Nat} (hr : Room k A) : A.units + 200 < cLine := by have := hr.un; omega
end DL

set_option Elab.async false
set_option linter.all false
set_option maxRecDepth 100000
namespace DL
open PySem PySem.Spec PyProof.Rows L2
variable [TbC]
/-! a value's truth -/
def truB (d : D) (h : DHeap) : Option Bool := match d with
  | .non => some false
  | .bl b => some b
  | .int i => some (i != 0)
  | .tup ds => some (!ds.isEmpty)
  | .fl ds => some (!ds.isEmpty)
  | .ref n => match h[n]? with | some (.lst ds) => some (!ds.isEmpty) | some (.dic kvs) => some (!kvs.isEmpty) | none => none
  | .str _ => none
def tru (f : M D) : M Bool := fun σ h => (f σ h).bind fun d h1 => match truB d h1 with | some b => .ok b h1 | none => .bad
theorem RVs.emp {K : PySem.W.Frag} {H : Hp} {ρ : List Addr} {ds : List D} {xs : List V} (r : RVs K H ρ ds xs) : ds.isEmpty = xs.isEmpty := by
  have := r.len
  cases ds <;> cases xs <;> first | rfl | (simp at this)
theorem RKVs.emp {K : PySem.W.Frag} {H : Hp} {ρ : List Addr} {ds : List (Key × D)} {xs : List (Key × V)} (r : RKVs K H ρ ds xs) : ds.isEmpty = xs.isEmpty := by
  have := r.len
  cases ds <;> cases xs <;> first | rfl | (simp at this)
section
variable {X : Cx} {pos p apos cpos : Pos} {x : Str} {e a b o i : Expr} {es : List Expr} {fa fb fc fo fi fe ff : M D} {f g : M (List D)}
theorem tru_of {K : PySem.W.Frag} {H : Hp} {ρ : List Addr} {h : DHeap} {d : D} {v : V} {k : Bool} (rh : RH K H ρ h) (r : RV K H ρ d v) (e : truB d h = some k) : TruV K v H k := by
  cases d with
  | non => cases (show v = _ from r); cases e; exact (rfl : _ = _)
  | bl b => cases (show v = _ from r); cases e; exact (rfl : _ = _)
  | int i => cases (show v = _ from r); cases e; exact (rfl : _ = _)
  | str z => cases e
  | tup ds =>
    obtain ⟨a, xs, rfl, hs, hr⟩ := r
    cases e
    exact .inr (.inl ⟨xs, hs.sq, by rw [hr.emp]⟩)
  | fl ds =>
    obtain ⟨a, xs, rfl, hs, hr⟩ := r
    cases e
    exact .inl ⟨xs, hs.sq, by rw [hr.emp]⟩
  | ref n =>
    obtain ⟨a, rfl, ha⟩ := r
    unfold truB at e
    simp only at e
    split at e
    · rename_i ds hn
      cases e
      obtain ⟨xs, x1, x2⟩ := rh.at_ _ _ _ hn ha
      exact .inl ⟨xs, .of x1, by rw [x2.emp]⟩
    · rename_i kvs hn
      cases e
      obtain ⟨xs, x1, x2⟩ := rh.at_ _ _ _ hn ha
      exact .inr (.inr ⟨xs, x1, by rw [x2.emp]⟩)
    · cases e
theorem dt_tru {f : M D} (h : DE X e f) (he : ∀ whole, isTrue e X.env whole = (do let v ← whole; standAt e.pos; holding [v] (truthy v)) := by intro _; rfl) : DT X e (tru f) :=
  ⟨ptI (pt_truth h.run he) fun σ H Q q => by
    obtain ⟨σd, h, ρ, re, rh, p⟩ := q
    refine ⟨σd, h, ρ, re, rh, p.bind.mono fun x H1 ⟨d, h1, ρ1, e1, rh1, r1, p1⟩ => ?_⟩
    split at p1
    · rename_i k hk
      exact ⟨k, tru_of rh1 r1 hk, p1.ok rh1 (rfl : RB _ _ k k)⟩
    · exact p1.elim⟩
/-! x in l -/
def inB (x y : D) (h : DHeap) : Option Bool := match y with
  | .ref n => match h[n]? with
    | some (.dic kvs) => (keyD x).map fun k => (lookD kvs k).isSome
    | some (.lst ds) => match seen h x with | some x' => if okP x' = true ∧ okP (.fl ds) = true then some (ds.any fun z => eqvD z x') else none | none => none
    | none => none
  | .fl ds => match seen h x with | some x' => if okP x' = true ∧ okP (.fl ds) = true then some (ds.any fun z => eqvD z x') else none | none => none
  | .tup ds => match keyD x with
    | some k => if (ds.all fun z => (keyD z).isSome) = true then some (ds.any fun z => decide (keyD z = some k)) else none
    | none => none
  | .str z => match x with
    | .str w => match w.cps.toList with
      | [c] => some (decide (c ∈ z.cps.toList))
      | _ => none
    | _ => none
  | _ => none
def inD : D → D → DHeap → Res D := fun x y h => match inB x y h with | some b => .ok (.bl b) h | none => .bad
def ninD : D → D → DHeap → Res D := fun x y h => match inB x y h with | some b => .ok (.bl (!b)) h | none => .bad
theorem any_toPs (f : PyData → Bool) : ∀ ds : List D, (toPs ds).any f = ds.any fun z => f (toP z)
  | [] => rfl
  | d :: ds => by rw [toPs, List.any_cons, List.any_cons, any_toPs f ds]
theorem op_in_dict (hu : X.A.units + 1 < cLine) : OpR X (compareOp .In) (fun x y H Q => ∃ a o, y = .ref a ∧ DGet H a x o ∧ Q (.bl o.isSome) H) := by
  intro pins s σ H x y v u Q I rx ry q
  obtain ⟨a, o, rfl, g, q⟩ := q
  cases ry
  exact d_in hu I g rx fun s' I' => ⟨.bl _, H, I', rfl, q⟩
theorem op_nin_dict (hu : X.A.units + 1 < cLine) : OpR X (compareOp .NotIn) (fun x y H Q => ∃ a o, y = .ref a ∧ DGet H a x o ∧ Q (.bl (!o.isSome)) H) := by
  intro pins s σ H x y v u Q I rx ry q
  obtain ⟨a, o, rfl, g, q⟩ := q
  cases ry
  exact d_notIn hu I g rx fun s' I' => ⟨.bl _, H, I', rfl, q⟩
theorem eqV_kV (a b : Key) : eqV (kV a) (kV b) = decide (a = b) := by
  cases a with
  | inl a => cases b with
    | inl b => show (a == b) = _; by_cases e : a = b <;> simp [e]
    | inr b => simp [kV, eqV]
  | inr a => cases b with
    | inl b => simp [kV, eqV]
    | inr b => show (a == b) = _; by_cases e : a = b <;> simp [e]
theorem flat_kV (a : Key) : flatV (kV a) = true := by cases a <;> rfl
theorem in_tup {K : PySem.W.Frag} {H : Hp} {ρ : List Addr} {k : Key} : ∀ {ds : List D} {xs : List V}, RVs K H ρ ds xs → (ds.all fun z => (keyD z).isSome) = true → xs.all flatV = true ∧ inV (kV k) xs = ds.any fun z => decide (keyD z = some k)
  | [], xs, r, _ => by
    have r : xs = [] := r
    subst r
    exact ⟨rfl, rfl⟩
  | d :: ds, xs, r, h => by
    obtain ⟨v, vs, rfl, r1, r2⟩ := r
    rw [List.all_cons, Bool.and_eq_true] at h
    obtain ⟨key, ek⟩ := Option.isSome_iff_exists.mp h.1
    have hv := key_rv ek r1
    subst hv
    obtain ⟨q1, q2⟩ := in_tup r2 h.2
    refine ⟨by rw [List.all_cons, q1, flat_kV]; rfl, ?_⟩
    unfold inV at q2 ⊢
    rw [List.any_cons, List.any_cons, q2, eqV_kV, ek]
    congr 1
    by_cases e : key = k
    · rw [decide_eq_true e, decide_eq_true (by rw [e])]
    · rw [decide_eq_false e, decide_eq_false fun z => e (Option.some.inj z)]
theorem in_of {K : PySem.W.Frag} {H : Hp} {ρ : List Addr} {h : DHeap} {dx dy : D} {x y : V} {k : Bool} (rh : RH K H ρ h) (rx : RV K H ρ dx x) (ry : RV K H ρ dy y) (e : inB dx dy h = some k) :
    (∃ d ds, Dp K H x d ∧ Dp K H y (.list ds) ∧ SeqAt.shaped d = true ∧ SeqAt.shaped (.list ds) = true ∧ k = ds.any fun z => PyData.eqv z d) ∨ (∃ a o, y = .ref a ∧ DGet H a x o ∧ k = o.isSome) ∨ (∃ p xs, y = .ref p ∧ SqT K H p xs ∧ flatV x = true ∧ xs.all flatV = true ∧ k = inV x xs) ∨ ∃ (c : Nat) (z : Str), x = .str ⟨#[c]⟩ ∧ y = .str z ∧ k = decide (c ∈ z.cps.toList) := by
  have lst : ∀ (ds : List D), Dp K H y (.list (toPs ds)) ∨ pureDs ds = false → (match seen h dx with | some x' => if okP x' = true ∧ okP (.fl ds) = true then some (ds.any fun z => eqvD z x') else none | none => none) = some k →
      (∃ d ds, Dp K H x d ∧ Dp K H y (.list ds) ∧ SeqAt.shaped d = true ∧ SeqAt.shaped (.list ds) = true ∧ k = ds.any fun z => PyData.eqv z d) := fun ds hy e => by
    split at e
    · rename_i x' hx
      split at e
      · rename_i hc
        cases e
        obtain ⟨c1, c2⟩ := hc
        unfold okP at c1 c2
        rw [Bool.and_eq_true] at c1 c2
        have hp : pureDs ds = true := c2.1
        refine ⟨_, _, dp_seen rh hx c1.1 rx, ?_, c1.2, c2.2, (any_toPs (fun z => PyData.eqv z (toP x')) ds).symm⟩
        rcases hy with hy | hy
        · exact hy
        · rw [hp] at hy; cases hy
      · cases e
    · cases e
  cases dy with
  | ref n =>
    obtain ⟨a, rfl, ha⟩ := ry
    unfold inB at e
    simp only at e
    split at e
    · rename_i kvs hn
      obtain ⟨vs, x1, x2⟩ := rh.at_ _ _ _ hn ha
      cases ek : keyD dx with
      | none => rw [ek] at e; cases e
      | some key =>
        rw [ek] at e
        cases e
        have hv := key_rv ek rx
        subst hv
        refine .inr (.inl ⟨a, _, rfl, .k x1, ?_⟩)
        have q := x2.look key
        cases el : lookD kvs key with
        | none => rw [el] at q; show (lookD kvs key).isSome = _; rw [el, q]; rfl
        | some d => rw [el] at q; obtain ⟨v, q1, _⟩ := q; show (lookD kvs key).isSome = _; rw [el, q1]; rfl
    · rename_i ds hn
      obtain ⟨xs, x1, x2⟩ := rh.at_ _ _ _ hn ha
      refine .inl (lst ds ?_ e)
      cases hp : pureDs ds with
      | true => exact .inl (.lst (.of x1) (dps_of ds xs hp x2))
      | false => exact .inr rfl
    · cases e
  | fl ds =>
    obtain ⟨a, xs, rfl, s, q⟩ := ry
    refine .inl (lst ds ?_ e)
    cases hp : pureDs ds with
    | true => exact .inl (.lst s.sq (dps_of ds xs hp q))
    | false => exact .inr rfl
  | tup ds =>
    obtain ⟨a, xs, rfl, s, q⟩ := ry
    unfold inB at e
    simp only at e
    split at e
    · rename_i key hk
      split at e
      · rename_i hc
        have hv := key_rv hk rx
        subst hv
        obtain ⟨q1, q2⟩ := in_tup (k := key) q hc
        exact .inr (.inr (.inl ⟨a, xs, rfl, s.sq, flat_kV _, q1, by cases e; exact q2.symm⟩))
      · cases e
    · cases e
  | str z =>
    unfold inB at e
    simp only at e
    split at e
    · rename_i w
      split at e
      · rename_i c hw
        have hz : y = .str z := ry
        have hx : x = .str w := rx
        have ew : w = ⟨#[c]⟩ := by
          obtain ⟨⟨l⟩⟩ := w
          have hw : l = [c] := hw
          rw [hw]
        exact .inr (.inr (.inr ⟨c, z, by rw [hx, ew], hz, by cases e; rfl⟩))
      · cases e
    · cases e
  | _ => cases e
theorem od_in (hu : X.A.units + 200 < cLine) : OpR X (compareOp .In) (RO X.K (XY X) inD) := opI ((((op_inD (by omega)).or (op_in_dict (by omega))).or op_in_seq).or op_in_sign) fun x y H Q q => by
  obtain ⟨dx, dy, h, ρ, rx, ry, rh, p⟩ := q
  unfold inD at p
  split at p
  · rename_i k hk
    rcases in_of rh rx ry hk with ⟨d, ds, h1, h2, h3, h4, rfl⟩ | ⟨a, o, h1, h2, rfl⟩ | ⟨a, xs, h1, h2, h3, h4, rfl⟩ | ⟨c, z, h1, h2, rfl⟩
    · exact .inl (.inl (.inl ⟨d, ds, h1, h2, h3, h4, Post.ok p rh (rfl : RV X.K H ρ (.bl _) _)⟩))
    · exact .inl (.inl (.inr ⟨a, o, h1, h2, Post.ok p rh (rfl : RV X.K H ρ (.bl _) _)⟩))
    · exact .inl (.inr ⟨a, xs, h1, .inr h2, h3, h4, Post.ok p rh (rfl : RV X.K H ρ (.bl _) _)⟩)
    · exact .inr ⟨c, z, h1, h2, Post.ok p rh (rfl : RV X.K H ρ (.bl _) _)⟩
  · exact p.elim
theorem od_notin (hu : X.A.units + 200 < cLine) : OpR X (compareOp .NotIn) (RO X.K (XY X) ninD) := opI ((((op_notInD (by omega)).or (op_nin_dict (by omega))).or op_notIn_seq).or op_notIn_sign) fun x y H Q q => by
  obtain ⟨dx, dy, h, ρ, rx, ry, rh, p⟩ := q
  unfold ninD at p
  split at p
  · rename_i k hk
    rcases in_of rh rx ry hk with ⟨d, ds, h1, h2, h3, h4, rfl⟩ | ⟨a, o, h1, h2, rfl⟩ | ⟨a, xs, h1, h2, h3, h4, rfl⟩ | ⟨c, z, h1, h2, rfl⟩
    · exact .inl (.inl (.inl ⟨d, ds, h1, h2, h3, h4, Post.ok p rh (rfl : RV X.K H ρ (.bl _) _)⟩))
    · exact .inl (.inl (.inr ⟨a, o, h1, h2, Post.ok p rh (rfl : RV X.K H ρ (.bl _) _)⟩))
    · exact .inl (.inr ⟨a, xs, h1, .inr h2, h3, h4, Post.ok p rh (rfl : RV X.K H ρ (.bl _) _)⟩)
    · exact .inr ⟨c, z, h1, h2, Post.ok p rh (rfl : RV X.K H ρ (.bl _) _)⟩
  · exact p.elim
/-! d.get -/
def getM1 (fo fe : M D) : M D := fun σ h => (fo σ h).bind fun x h1 => match x with
  | .ref n => match h1[n]? with
    | some (.dic _) => (fe σ h1).bind fun y h2 => match h2[n]?, keyD y with
      | some (.dic kvs), some k => .ok ((lookD kvs k).getD .non) h2
      | _, _ => .bad
    | _ => .bad
  | _ => .bad
def getM2 (fo fe ff : M D) : M D := fun σ h => (fo σ h).bind fun x h1 => match x with
  | .ref n => match h1[n]? with
    | some (.dic _) => (fe σ h1).bind fun y h2 => (ff σ h2).bind fun z h3 => match h3[n]?, keyD y with
      | some (.dic kvs), some k => .ok ((lookD kvs k).getD z) h3
      | _, _ => .bad
    | _ => .bad
  | _ => .bad
theorem get_rv {K : PySem.W.Frag} {H : Hp} {ρ : List Addr} {kvs : List (Key × D)} {vs : List (Key × V)} {k : Key} {z : D} {w : V} (r : RKVs K H ρ kvs vs) (rz : RV K H ρ z w) : RV K H ρ ((lookD kvs k).getD z) ((valV vs k).getD w) := by
  have q := r.look k
  cases el : lookD kvs k with
  | none => rw [el] at q; rw [q]; exact rz
  | some d => rw [el] at q; obtain ⟨v, q1, q2⟩ := q; rw [q1]; exact q2
theorem de_get1 (hu : X.A.units + 1 < cLine) (ho : DE X o fo) (he : DE X e fe) (m : M1 X o "get" apos e cpos := by exact ⟨rfl, rfl, rfl, rfl⟩) : DE X (.Call (.Attribute o "get" apos) [e] [] cpos) (getM1 fo fe) :=
  ⟨peI (pe_dget1 hu ho.run he.run m) fun σ H Q q => by
    obtain ⟨σd, h, ρ, re, rh, p⟩ := q
    refine ⟨σd, h, ρ, re, rh, p.bind.mono fun v H1 ⟨x, h1, ρ1, e1, rh1, r1, p1⟩ => ?_⟩
    cases x with
    | ref n =>
      simp only at p1
      split at p1
      · rename_i kvs0 hn
        obtain ⟨a, rfl, ha⟩ := r1
        obtain ⟨vs0, x1, x2⟩ := rh1.at_ _ _ _ hn ha
        refine ⟨a, rfl, .inl ⟨vs0, .inl x1⟩, σd, h1, ρ1, re.mono e1, rh1, p1.bind.mono fun w H2 ⟨y, h2, ρ2, e2, rh2, r2, p2⟩ => ?_⟩
        split at p2
        · rename_i kvs k hn2 hk
          obtain ⟨vs, y1, y2⟩ := rh2.at_ _ _ _ hn2 (e2.pre _ _ ha)
          have hv := key_rv hk r2
          subst hv
          exact ⟨_, .k y1, Post.ok p2 rh2 (get_rv y2 (rfl : RV X.K H2 ρ2 .non .non))⟩
        · exact p2.elim
      · exact p1.elim
    | _ => exact p1.elim⟩
theorem de_get2 (hu : X.A.units + 1 < cLine) (ho : DE X o fo) (he : DE X e fe) (hf : DE X a ff) (m : M2 X o "get" apos e a cpos := by exact ⟨rfl, rfl, rfl, rfl⟩) : DE X (.Call (.Attribute o "get" apos) [e, a] [] cpos) (getM2 fo fe ff) :=
  ⟨peI (pe_dget2 hu ho.run he.run hf.run m) fun σ H Q q => by
    obtain ⟨σd, h, ρ, re, rh, p⟩ := q
    refine ⟨σd, h, ρ, re, rh, p.bind.mono fun v H1 ⟨x, h1, ρ1, e1, rh1, r1, p1⟩ => ?_⟩
    cases x with
    | ref n =>
      simp only at p1
      split at p1
      · rename_i kvs0 hn
        obtain ⟨a, rfl, ha⟩ := r1
        obtain ⟨vs0, x1, x2⟩ := rh1.at_ _ _ _ hn ha
        refine ⟨a, rfl, .inl ⟨vs0, .inl x1⟩, σd, h1, ρ1, re.mono e1, rh1, p1.bind.mono fun w H2 ⟨y, h2, ρ2, e2, rh2, r2, p2⟩ => ?_⟩
        refine ⟨σd, h2, ρ2, (re.mono e1).mono e2, rh2, p2.bind.mono fun u H3 ⟨z, h3, ρ3, e3, rh3, r3, p3⟩ => ?_⟩
        split at p3
        · rename_i kvs k hn2 hk
          obtain ⟨vs, y1, y2⟩ := rh3.at_ _ _ _ hn2 (e3.pre _ _ (e2.pre _ _ ha))
          have hv := key_rv hk r2
          subst hv
          exact ⟨_, .k y1, Post.ok p3 rh3 (get_rv y2 r3)⟩
        · exact p3.elim
      · exact p1.elim
    | _ => exact p1.elim⟩
/-! list(x), x a dict too -/
def keyV : Key → D
  | .inl i => .int i
  | .inr z => .str z
def lisD : List D → DHeap → Res D
  | [.ref n], h => match h[n]? with
    | some (.lst ds) => .ok (.ref h.length) (h ++ [.lst ds])
    | some (.dic kvs) => .ok (.ref h.length) (h ++ [.lst (kvs.map fun kv => keyV kv.1)])
    | none => .bad
  | [.tup ds], h => .ok (.ref h.length) (h ++ [.lst ds])
  | [.fl ds], h => .ok (.ref h.length) (h ++ [.lst ds])
  | _, _ => .bad
theorem RKVs.keys {K : PySem.W.Frag} {H : Hp} {ρ : List Addr} : ∀ {kvs : List (Key × D)} {vs : List (Key × V)}, RKVs K H ρ kvs vs → RVs K H ρ (kvs.map fun kv => keyV kv.1) (vs.map fun kv => kV kv.1)
  | [], vs, r => by rw [r.nil_inv]; exact rfl
  | kv :: kvs, vs, r => by
    obtain ⟨v, ws, rfl, h1, h2⟩ := r.cons_inv
    refine ⟨_, _, rfl, ?_, RKVs.keys h2⟩
    obtain ⟨k, d⟩ := kv
    cases k <;> exact (rfl : _ = _)
theorem clO {u : Value} {r1 r2 : List V → Hp → VK → Prop} (h1 : CallR X u r1) (h2 : CallR X u r2) : CallR X u (fun vs H Q => r1 vs H Q ∨ r2 vs H Q) := fun pins s σ H vs us Q I rv q => q.elim (h1 pins s σ H vs us Q I rv) (h2 pins s σ H vs us Q I rv)
theorem cd_lis (hc : X.calm = true) : CallR X (.type "list") (RCl X.K (XY X) lisD) := clI (clO call_list_of (call_list_dK hc)) fun vs H Q q => by
  obtain ⟨ds, h, ρ, r, rh, p⟩ := q
  have seq : ∀ {d : D} {v : V} {es : List D}, seqOf h d = some es → RV X.K H ρ d v → Post X.K (XY X) H ρ (RV X.K) (.ok (.ref h.length) (h ++ [.lst es])) Q → ∃ p ys, [v] = [.ref p] ∧ (SqL X.K H p ys ∨ SqT X.K H p ys) ∧ ∀ l, H l = none → Q (.ref l) (upd H l (.lst ys)) := fun {d v es} he r1 p => by
    obtain ⟨q, xs, rfl, hs, h3⟩ := seq_ok rh he r1
    refine ⟨q, xs, rfl, hs.imp id SqU.sq, fun l hl => ?_⟩
    obtain ⟨x1, x2⟩ := rh.push (c := .lst es) hl (o := .lst xs) rfl ⟨_, rfl, h3⟩
    exact p _ _ _ x1 x2 ⟨l, rfl, by rw [← rh.len]; simp⟩
  unfold lisD at p
  split at p
  · rename_i n
    obtain ⟨v, rfl, r1⟩ := r.inv1
    split at p
    · rename_i ds hn
      exact .inl (seq (d := .ref n) (by simp only [seqOf, hn]) r1 p)
    · rename_i kvs hn
      obtain ⟨a, rfl, ha⟩ := r1
      obtain ⟨vs, x1, x2⟩ := rh.at_ _ _ _ hn ha
      refine .inr ⟨a, vs, rfl, x1, fun l hl => ?_⟩
      obtain ⟨y1, y2⟩ := rh.push (c := .lst (kvs.map fun kv => keyV kv.1)) hl (o := .lst (vs.map fun kv => kV kv.1)) rfl ⟨_, rfl, x2.keys⟩
      exact p _ _ _ y1 y2 ⟨l, rfl, by rw [← rh.len]; simp⟩
    · exact p.elim
  · obtain ⟨v, rfl, r1⟩ := r.inv1
    exact .inl (seq rfl r1 p)
  · obtain ⟨v, rfl, r1⟩ := r.inv1
    exact .inl (seq rfl r1 p)
  · exact p.elim
/-! l.pop() -/
def popM (fo : M D) : M D := fun σ h => (fo σ h).bind fun x h1 => match x with
  | .ref n => match h1[n]? with
    | some (.lst ds) => (match ds[ds.length - 1]? with | some y => .ok y (h1.set n (.lst ds.dropLast)) | none => .bad)
    | _ => .bad
  | _ => .bad
theorem RVs.init {K : PySem.W.Frag} {H : Hp} {ρ : List Addr} {ds : List D} {xs : List V} (r : RVs K H ρ ds xs) : RVs K H ρ ds.dropLast xs.dropLast := by
  rw [List.dropLast_eq_take, List.dropLast_eq_take, ← r.len]
  exact r.take _
theorem de_pop (ho : DE X o fo) (hbase : attributeBase o "pop" X.env (eval o X.env) = eval o X.env := by rfl) (hline : (apos.endLine == cpos.line) = true := by rfl) : DE X (.Call (.Attribute o "pop" apos) [] [] cpos) (popM fo) :=
  ⟨peI (pe_bm0 PySem.F.plainAttrs_list PySem.F.slot_list_pop PySem.F.type_list_pop mt_pop ho.run hbase hline) fun σ H Q q => by
    obtain ⟨σd, h, ρ, re, rh, p⟩ := q
    refine ⟨σd, h, ρ, re, rh, p.bind.mono fun v H1 ⟨x, h1, ρ1, e1, rh1, r1, p1⟩ => ?_⟩
    cases x with
    | ref n =>
      simp only at p1
      split at p1
      · rename_i ds hn
        split at p1
        · rename_i y hy
          obtain ⟨a, rfl, ha⟩ := r1
          obtain ⟨xs, x1, x2⟩ := rh1.at_ _ _ _ hn ha
          refine ⟨Or.inl ⟨rfl, _, SqL.of x1⟩, ?_⟩
          obtain ⟨w, hw, rw'⟩ := x2.get hy
          obtain ⟨z1, z2⟩ := rh1.put ha (o := .lst xs.dropLast) rfl (c := .lst ds.dropLast) ⟨_, rfl, x2.init⟩
          exact ⟨a, xs, w, rfl, rfl, x1, by rw [← x2.len]; exact hw, p1 _ _ _ z1 z2 (RV.mono z1 _ _ rw')⟩
        · exact p1.elim
      · exact p1.elim
    | _ => exact p1.elim⟩
end
end DL

set_option Elab.async false
set_option linter.all false
set_option maxRecDepth 100000
namespace DL
open PySem PySem.Spec PyProof.Rows L2
variable [TbC]
theorem srt_one : ∀ {l r : List Int}, l.Perm r → l.Pairwise (· ≤ ·) → r.Pairwise (· ≤ ·) → l = r
  | [], r, p, _, _ => p.nil_eq
  | a :: l, [], p, _, _ => absurd p.length_eq (by simp)
  | a :: l, b :: r, p, h1, h2 => by
    rw [List.pairwise_cons] at h1 h2
    have ha : a = b := by
      have m1 : a ∈ b :: r := p.mem_iff.mp List.mem_cons_self
      have m2 : b ∈ a :: l := p.mem_iff.mpr List.mem_cons_self
      rcases List.mem_cons.mp m1 with e | e
      · exact e
      · rcases List.mem_cons.mp m2 with f | f
        · exact f.symm
        · have := h1.1 b f
          have := h2.1 a e
          omega
    subst ha
    rw [srt_one (List.perm_cons a |>.mp p) h1.2 h2.2]
def srtI (ns : List Int) : List Int := ns.mergeSort fun a b => decide (a ≤ b)
theorem srtI_perm (ns : List Int) : (srtI ns).Perm ns := List.mergeSort_perm _ _
theorem srtI_sorted (ns : List Int) : (srtI ns).Pairwise (· ≤ ·) := by
  have h := List.pairwise_mergeSort (le := fun a b : Int => decide (a ≤ b)) (fun a b c h1 h2 => by simp only [decide_eq_true_eq] at *; omega) (fun a b => by simp only [Bool.or_eq_true, decide_eq_true_eq]; omega) ns
  exact h.imp fun h => of_decide_eq_true h
theorem srtI_is {ns l : List Int} (p : l.Perm ns) (h : l.Pairwise (· ≤ ·)) : l = srtI ns := srt_one (p.trans (srtI_perm ns).symm) h (srtI_sorted ns)
def srtD : List D → DHeap → Res D
  | [.ref n], h => match h[n]? with
    | some (.lst ds) => (match intsOf ds with | some ns => .ok (.ref h.length) (h ++ [.lst ((srtI ns).map D.int)]) | none => .bad)
    | some (.dic kvs) => (match intsOf (kvs.map fun kv => keyV kv.1) with | some ns => if ns.length < 64 then .ok (.ref h.length) (h ++ [.lst ((srtI ns).map D.int)]) else .bad | none => .bad)
    | none => .bad
  | _, _ => .bad
theorem ints_keys : ∀ {kvs : List (Key × D)} {ns : List Int}, intsOf (kvs.map fun kv => keyV kv.1) = some ns → kvs.map (·.1) = ns.map Sum.inl
  | [], ns, e => by cases e; rfl
  | (k, d) :: kvs, ns, e => by
    cases k with
    | inr z => cases e
    | inl i =>
      rw [List.map_cons, keyV, intsOf] at e
      cases e2 : intsOf (kvs.map fun kv => keyV kv.1) with
      | none => rw [e2] at e; cases e
      | some ms =>
        rw [e2] at e
        cases e
        rw [List.map_cons, ints_keys e2]
        rfl
theorem rv_ints {K : PySem.W.Frag} {H : Hp} {ρ : List Addr} : ∀ {ns : List Int}, RVs K H ρ (ns.map D.int) (ns.map V.int)
  | [] => rfl
  | n :: ns => ⟨_, _, rfl, rfl, rv_ints⟩
theorem ints_rv {K : PySem.W.Frag} {H : Hp} {ρ : List Addr} : ∀ {ds : List D} {ns : List Int} {xs : List V}, intsOf ds = some ns → RVs K H ρ ds xs → xs = ns.map V.int
  | [], ns, xs, e, r => by cases e; exact r
  | d :: ds, ns, xs, e, r => by
    obtain ⟨y, ys, rfl, h1, h2⟩ := r
    cases d with
    | int i =>
      rw [intsOf] at e
      cases e2 : intsOf ds with
      | none => rw [e2] at e; cases e
      | some ms =>
        rw [e2] at e
        cases e
        rw [ints_rv e2 h2, show y = V.int i from h1]
        rfl
    | _ => cases e
section
variable {X : Cx}
theorem cd_srt (hc : X.calm = true) : CallR X (.builtin "sorted") (RCl X.K (XY X) srtD) := clI (clO cr_sortedI (call_sortedDI hc)) fun vs H Q q => by
  obtain ⟨ds, h, ρ, r, rh, p⟩ := q
  unfold srtD at p
  split at p
  · rename_i n
    obtain ⟨v, rfl, r1⟩ := r.inv1
    obtain ⟨a, rfl, ha⟩ := r1
    have fin : ∀ {ns : List Int}, Post X.K (XY X) H ρ (RV X.K) (.ok (.ref h.length) (h ++ [.lst ((srtI ns).map D.int)])) Q → ∀ (ys : List Int) (p : Addr), ys.Perm ns → ys.Pairwise (· ≤ ·) → H p = none → Q (.ref p) (upd H p (.lst (ys.map V.int))) := fun {ns} p ys q h1 h2 hq => by
      cases srtI_is h1 h2
      obtain ⟨y1, y2⟩ := rh.push (c := .lst ((srtI ns).map D.int)) hq (o := .lst ((srtI ns).map V.int)) rfl ⟨_, rfl, rv_ints⟩
      exact p _ _ _ y1 y2 ⟨q, rfl, by rw [← rh.len]; simp⟩
    split at p
    · rename_i es hn
      split at p
      · rename_i ns hi
        obtain ⟨xs, x1, x2⟩ := rh.at_ _ _ _ hn ha
        have := ints_rv hi x2
        subst this
        exact .inl ⟨a, ns, rfl, .of x1, fin p⟩
      · exact p.elim
    · rename_i kvs hn
      split at p
      · rename_i ns hi
        split at p
        · rename_i hl
          obtain ⟨vs, x1, x2⟩ := rh.at_ _ _ _ hn ha
          exact .inr ⟨a, vs, ns, rfl, .inl x1, by rw [← x2.1]; exact ints_keys hi, hl, fin p⟩
        · exact p.elim
      · exact p.elim
    · exact p.elim
  · exact p.elim
end
end DL

set_option Elab.async false
set_option linter.all false
set_option maxRecDepth 100000
namespace DL
open PySem PySem.Spec PyProof.Rows L2
variable [TbC]
/-! str(n) -/
def strD : List D → DHeap → Res D
  | [.int i], h => if 0 ≤ i ∧ i < 4294967296 then .ok (.str (toString i : String)) h else .bad
  | _, _ => .bad
theorem log_lt {i : Int} (h0 : 0 ≤ i) (h1 : i < 4294967296) : i.natAbs.log2 < 1920 := by
  obtain ⟨n, rfl⟩ : ∃ n : Nat, i = n := ⟨i.toNat, by omega⟩
  rw [Int.natAbs_natCast]
  have : n.log2 ≤ 32 := by
    rcases Nat.eq_zero_or_pos n with e | e
    · subst e; decide
    · exact Nat.le_of_lt ((Nat.log2_lt (by omega)).mpr (show n < 2 ^ 32 by omega))
  omega
section
variable {X : Cx} {pos p apos cpos : Pos} {e o : Expr} {fo fe : M D}
theorem cd_str : CallR X (.type "str") (RCl X.K (XY X) strD) := clI call_str_int fun vs H Q q => by
  obtain ⟨ds, h, ρ, r, rh, p⟩ := q
  unfold strD at p
  split at p
  · rename_i i
    obtain ⟨v, rfl, r1⟩ := r.inv1
    split at p
    · rename_i hc
      exact ⟨i, by rw [show v = V.int i from r1], log_lt hc.1 hc.2, Post.ok p rh (rfl : RV X.K H ρ (.str _) _)⟩
    · exact p.elim
  · exact p.elim
/-! l.pop(i) -/
def popAtM (fo fe : M D) : M D := fun σ h => (fo σ h).bind fun x h1 => match x with
  | .ref n => match h1[n]? with
    | some (.lst _) => (fe σ h1).bind fun y h2 => match y, h2[n]? with
      | .int i, some (.lst ds) => if 0 ≤ i ∧ i < 4294967296 then (match ds[i.toNat]? with | some d => .ok d (h2.set n (.lst (ds.eraseIdx i.toNat))) | none => .bad) else .bad
      | _, _ => .bad
    | _ => .bad
  | _ => .bad
theorem RVs.erase {K : PySem.W.Frag} {H : Hp} {ρ : List Addr} : ∀ {ds : List D} {xs : List V} (i : Nat), RVs K H ρ ds xs → RVs K H ρ (ds.eraseIdx i) (xs.eraseIdx i)
  | [], xs, i, r => by cases (show xs = [] from r); exact rfl
  | d :: ds, xs, i, r => by
    obtain ⟨y, ys, rfl, h1, h2⟩ := r
    cases i with
    | zero => exact h2
    | succ i => exact ⟨y, _, rfl, h1, RVs.erase i h2⟩
theorem de_popAt (ho : DE X o fo) (he : DE X e fe) (hbase : attributeBase o "pop" X.env (eval o X.env) = eval o X.env := by rfl)
    (hfew : ((backTo cpos (starEach (e :: []) X.env)).all (fun x => !x.1) && (backToKw cpos (keywordEach [] X.env)).all (fun x => x.1.isSome)
      && decide ((e :: []).length + ([] : List Keyword).length + (if ([] : List Keyword).isEmpty then 0 else 1) < 30)) = true := by rfl)
    (hline : (apos.endLine == cpos.line) = true := by rfl) (hs : starEach (e :: []) X.env = (false, eval e X.env) :: starEach [] X.env := by rfl) (hplain : (backTo cpos (starEach [] X.env)).any (·.1) = false := by rfl) :
    DE X (.Call (.Attribute o "pop" apos) [e] [] cpos) (popAtM fo fe) :=
  ⟨peI (pe_bm PySem.F.plainAttrs_list PySem.F.slot_list_pop PySem.F.type_list_pop mt_popAt ho.run (pa_cons he.run pa_nil hs) hbase hfew hline hs hplain) fun σ H Q q => by
    obtain ⟨σd, h, ρ, re, rh, p⟩ := q
    refine ⟨σd, h, ρ, re, rh, p.bind.mono fun v H1 ⟨x, h1, ρ1, e1, rh1, r1, p1⟩ => ?_⟩
    cases x with
    | ref n =>
      simp only at p1
      split at p1
      · rename_i es hn
        obtain ⟨a, rfl, ha⟩ := r1
        obtain ⟨xs, x1, x2⟩ := rh1.at_ _ _ _ hn ha
        refine ⟨Or.inl ⟨rfl, _, SqL.of x1⟩, σd, h1, ρ1, re.mono e1, rh1, p1.bind.mono fun w H2 ⟨y, h2, ρ2, e2, rh2, r2, p2⟩ => ?_⟩
        split at p2
        · rename_i i ds hn2
          split at p2
          · rename_i hi
            split at p2
            · rename_i d hd
              obtain ⟨ys, y1, y2⟩ := rh2.at_ _ _ _ hn2 (e2.pre _ _ ha)
              obtain ⟨u, hu, ru⟩ := y2.get hd
              have hlt : i.toNat < ys.length := (List.getElem?_eq_some_iff.mp hu).1
              obtain ⟨z1, z2⟩ := rh2.put (e2.pre _ _ ha) (o := .lst (ys.eraseIdx i.toNat)) rfl (c := .lst (ds.eraseIdx i.toNat)) ⟨_, rfl, y2.erase i.toNat⟩
              refine ⟨a, ys, i, i.toNat, u, rfl, by rw [show w = V.int i from r2], y1, by omega, by omega, ?_, hu, p2 _ _ _ z1 z2 (RV.mono z1 _ _ ru)⟩
              unfold seqIndex?
              have e0 : ¬ i < 0 := by omega
              simp only [e0, if_false]
              first | (rw [if_pos (by omega)]) | (simp; omega)
            · exact p2.elim
          · exact p2.elim
        · exact p2.elim
      · exact p1.elim
    | _ => exact p1.elim⟩
end
end DL

set_option Elab.async false
set_option linter.all false
set_option maxRecDepth 100000
namespace DL
open PySem PySem.Spec PyProof.Rows L2
variable [TbC]
def lexGeI : List Int → List Int → Bool
  | [], [] => true
  | [], _ :: _ => false
  | _ :: _, [] => true
  | x :: xs, y :: ys => if x = y then lexGeI xs ys else decide (y ≤ x)
theorem lex_shift {e r : Nat → Bool} {z : Bool} : ∀ (k i : Nat), Ob.lexAt e r z (i + 1) k = Ob.lexAt (fun j => e (j + 1)) (fun j => r (j + 1)) z i k
  | 0, i => rfl
  | k + 1, i => by rw [Ob.lexAt_succ, Ob.lexAt_succ, lex_shift k (i + 1)]
theorem lexGe_eq : ∀ ns ms : List Int, Ob.lexAt (fun j => decide (ns.getD j 0 = ms.getD j 0)) (fun j => decide (ms.getD j 0 ≤ ns.getD j 0)) (decide (ms.length ≤ ns.length)) 0 (min ns.length ms.length) = lexGeI ns ms
  | [], [] => rfl
  | [], _ :: _ => rfl
  | _ :: _, [] => rfl
  | x :: xs, y :: ys => by
    have h : min (x :: xs).length (y :: ys).length = min xs.length ys.length + 1 := by simp only [List.length_cons]; omega
    rw [h, Ob.lexAt_succ, lex_shift, lexGeI]
    have ih := lexGe_eq xs ys
    have e1 : decide ((y :: ys).length ≤ (x :: xs).length) = decide (ys.length ≤ xs.length) := decide_eq_decide.mpr (by simp only [List.length_cons]; omega)
    rw [e1]
    show (if decide (x = y) = true then Ob.lexAt (fun j => decide (xs.getD j 0 = ys.getD j 0)) (fun j => decide (ys.getD j 0 ≤ xs.getD j 0)) (decide (ys.length ≤ xs.length)) 0 (min xs.length ys.length) else decide (y ≤ x)) = _
    rw [ih]
    by_cases e : x = y
    · rw [if_pos (decide_eq_true e), if_pos e]
    · rw [if_neg (by rw [decide_eq_false e]; decide), if_neg e]
section
variable {X : Cx}
theorem op_geT (hu : X.A.units < cLine) : OpR X (compareOp .GtE) (fun x y H Q => ∃ (a b : Addr) (ns ms : List Int), x = .ref a ∧ y = .ref b ∧ SqT X.K H a (ns.map V.int) ∧ SqT X.K H b (ms.map V.int) ∧ Q (.bl (lexGeI ns ms)) H) := by
  intro pins s σ H x y v u Q I rx ry h
  obtain ⟨a, b, ns, ms, rfl, rfl, ha, hb, q⟩ := h
  cases rx
  cases ry
  obtain ⟨its, r1, p1, _⟩ := I.tuple ha
  obtain ⟨its2, r2, p2, _⟩ := I.tuple hb
  have i1 : IntsAre its ns := Vals.ints r1
  have i2 : IntsAre its2 ms := Vals.ints r2
  have e1 : its.toArray.size = ns.length := by rw [List.size_toArray]; exact i1.length
  have e2 : its2.toArray.size = ms.length := by rw [List.size_toArray]; exact i2.length
  have at1 : ∀ j (h1 : j < its.toArray.size), ∃ t, its.toArray[j] = .int (ns.getD j 0) t := fun j h1 => PyProof.Rows.IntsAre.int_at i1 _ _ (by simp at h1; simp [h1])
  have at2 : ∀ j (h1 : j < its2.toArray.size), ∃ t, its2.toArray[j] = .int (ms.getD j 0) t := fun j h1 => PyProof.Rows.IntsAre.int_at i2 _ _ (by simp at h1; simp [h1])
  have R := Ob.RcOp.tuples_ge (A := X.A) (s := s) (e := fun j => decide (ns.getD j 0 = ms.getD j 0)) (r := fun j => decide (ms.getD j 0 ≤ ns.getD j 0)) p1 p2 hu (fun j h1 h2 => by
    obtain ⟨t, et⟩ := at1 j h1
    obtain ⟨t', et'⟩ := at2 j h2
    rw [et, et']
    have z : (ns.getD j 0 == ms.getD j 0) = decide (ns.getD j 0 = ms.getD j 0) := by
      by_cases q : ns.getD j 0 = ms.getD j 0
      · rw [decide_eq_true q]; exact beq_iff_eq.mpr q
      · rw [decide_eq_false q]; exact beq_eq_false_iff_ne.mpr q
    rw [← z]
    exact SeqAt.EqAt.int_int _ _ _ _) (fun j h1 h2 _ => by
    obtain ⟨t, et⟩ := at1 j h1
    obtain ⟨t', et'⟩ := at2 j h2
    rw [et, et']
    exact Ob.RcOp.ge_int _ _ _ _)
  rw [e1, e2, lexGe_eq] at R
  have z : wpAny (model X.prog X.w) X.A (compareOp .GtE (.ref a) (.ref b)) (EP X pins σ Q) X.xe s := R X.prog X.w X.xe (EP X pins σ Q) ⟨.bl _, H, I, rfl, q⟩
  exact z
def geA : D → D → DHeap → Res D
  | .int i, .int j, h => .ok (.bl (decide (j ≤ i))) h
  | .tup xs, .tup ys, h => match intsOf xs, intsOf ys with | some ns, some ms => .ok (.bl (lexGeI ns ms)) h | _, _ => .bad
  | _, _, _ => .bad
theorem od_geA (hu : X.A.units < cLine) : OpR X (compareOp .GtE) (RO X.K (XY X) geA) := opI (op_ge.or (op_geT hu)) fun x y H Q q => by
  obtain ⟨dx, dy, h, ρ, rx, ry, rh, p⟩ := q
  cases dx with
  | int i =>
    cases dy with
    | int j => exact .inl ⟨i, j, rx, ry, Post.ok p rh (rfl : RV X.K H ρ (.bl _) _)⟩
    | _ => exact p.elim
  | tup xs =>
    cases dy with
    | tup ys =>
      simp only [geA] at p
      split at p
      · rename_i ns ms h1 h2
        obtain ⟨a, vs, e1, s1, r1⟩ := rx
        obtain ⟨b, ws, e2, s2, r2⟩ := ry
        have k1 := ints_rv h1 r1
        have k2 := ints_rv h2 r2
        subst k1 k2
        exact .inr ⟨a, b, ns, ms, e1, e2, s1.sq, s2.sq, Post.ok p rh (rfl : RV X.K H ρ (.bl _) _)⟩
      · exact p.elim
    | _ => exact p.elim
  | _ => cases dy <;> exact p.elim
end
end DL

set_option Elab.async false
set_option linter.all false
set_option maxRecDepth 100000
namespace DL
open PySem PySem.Spec PyProof.Rows L2
variable [TbC]
open PySem.AutoSeq1 (wpAny_loadPart')
open PySem.MeetsSeq PySem.MeetsSeq2 PySem.MeetsSeq3
/-! l.extend(t), t a tuple -/
theorem list_extend_tup (l : Addr) (items : Array Value) (n : Nat) (b : Addr) (items2 : Array Value) (n2 : Nat) (dd : Option Addr) (sl : Array (Option Value)) (hs0 : ¬(!items.isEmpty && Builtin.List.listTooLong (items.size + items2.size)) = true) (hs1 : items.size ≤ sizeLine) (hs2 : items.size + items2.size ≤ sizeLine + 1) :
    Meets (Builtin.«list.extend» ⟨[.ref l, .ref b], []⟩) (fun _ R s => s.heap.get? l = some { cls := .type "list", dict := none, data := .seq items n, slots := #[] } ∧ s.heap.get? b = some { cls := .type "tuple", dict := dd, data := .seq items2 n2, slots := sl } ∧ R (.ok (.ret Value.none)) { s with heap := s.heap.update l (Obj.mapSeq fun x => x ++ items2), toks := s.toks }) :=
  .of_wp fun prog w A R s h => by
    obtain ⟨hp, g, d, tk, os⟩ := s; obtain ⟨hl, hb, h⟩ := h; have f1 := AutoSeq1.idx_int; have f2 := AutoSeq1.sub_tuple_tuple; have f3 := AutoSeq1.sub_list_list; have f4 := AutoSeq1.sub_tuple_list; have f5 := AutoSeq1.sub_list_tuple;
    have hz' : (items ++ items2).size ≤ sizeLine + 1 := by rw [Array.size_append]; exact hs2
    wp_walk using (wpAny_updateSeq hl rfl (hz := hs1) (_hz' := hz')), wpAny_loadPart' hl, wpAny_loadPart' hb; exact ⟨_, rfl, h⟩
section
variable {X : Cx}
def rExtendT : V → List V → Hp → VK → Prop := fun x vs H Q => ∃ l b xs zs, x = .ref l ∧ vs = [.ref b] ∧ H l = some (.lst xs) ∧ SqT X.K H b zs ∧ xs.length + zs.length ≤ sizeLine ∧ Q .non (upd H l (.lst (xs ++ zs)))
theorem mt_extendT : MtM X "list.extend" (rExtendT (X := X)) := by
  intro pins s σ H x vs v us Q I rx rv h
  obtain ⟨l, b, xs, zs, rfl, rfl, hH, hB, hz, q⟩ := h
  cases rx
  obtain ⟨u, rfl, ru⟩ := rv.one
  cases ru
  obtain ⟨z, its, n, r, hl, e⟩ := I.lstM hH
  obtain ⟨its2, r2, ⟨o, ho, hc, n2, hd⟩, _⟩ := I.tuple hB
  obtain ⟨cls, dd, data, sl⟩ := o
  cases hc
  cases hd
  have hl2 := r2.length
  have hsz : its.toArray.size + its2.toArray.size ≤ sizeLine := by rw [List.size_toArray, List.size_toArray]; omega
  have hlong : ¬ (!its.toArray.isEmpty && Builtin.List.listTooLong (its.toArray.size + its2.toArray.size)) = true := by
    rw [notLongL hsz, Bool.and_false]
    exact Bool.false_ne_true
  refine call_meets F.slot_list_extend ⟨_, e, rfl⟩ F.entry_list_extend (F.args_list_extend_2 _ _)
    (list_extend_tup l its.toArray n b its2.toArray n2 dd sl hlong (by rw [List.size_toArray]; omega) (by omega)) ⟨e, ho, ?_⟩
  refine ⟨.non, _, I.lset (its' := its ++ its2) hH e (by simp) (r.append r2) ?_, rfl, q⟩
  rw [List.length_append]
  omega
end
section
variable {X : Cx}
theorem mt_extendO : MtM X "list.extend" (fun x vs H Q => rExtend x vs H Q ∨ rExtendT (X := X) x vs H Q) := by
  intro pins s σ H x vs v us Q I rx rv h
  rcases h with h | h
  · exact mt_extend _ _ _ _ _ _ _ _ _ I rx rv h
  · exact mt_extendT _ _ _ _ _ _ _ _ _ I rx rv h
end
section
variable {X : Cx} {apos cpos : Pos} {e o : Expr} {fo fe : M D}
/-! l.extend(m), m a list -/
def extM (fo fe : M D) : M D := fun σ h => (fo σ h).bind fun x h1 => match x with
  | .ref n => match h1[n]? with
    | some (.lst _) => (fe σ h1).bind fun y h2 => match y, h2[n]? with
      | .tup es, some (.lst ds) => if ds.length + es.length ≤ sizeLine then .ok .non (h2.set n (.lst (ds ++ es))) else .bad
      | .ref k, some (.lst ds) => (match h2[k]? with | some (.lst es) => if ds.length + es.length ≤ sizeLine then .ok .non (h2.set n (.lst (ds ++ es))) else .bad | _ => .bad)
      | _, _ => .bad
    | _ => .bad
  | _ => .bad
theorem de_ext (ho : DE X o fo) (he : DE X e fe) (hbase : attributeBase o "extend" X.env (eval o X.env) = eval o X.env := by rfl)
    (hfew : ((backTo cpos (starEach (e :: []) X.env)).all (fun x => !x.1) && (backToKw cpos (keywordEach [] X.env)).all (fun x => x.1.isSome)
      && decide ((e :: []).length + ([] : List Keyword).length + (if ([] : List Keyword).isEmpty then 0 else 1) < 30)) = true := by rfl)
    (hline : (apos.endLine == cpos.line) = true := by rfl) (hs : starEach (e :: []) X.env = (false, eval e X.env) :: starEach [] X.env := by rfl) (hplain : (backTo cpos (starEach [] X.env)).any (·.1) = false := by rfl) :
    DE X (.Call (.Attribute o "extend" apos) [e] [] cpos) (extM fo fe) :=
  ⟨peI (pe_bm PySem.F.plainAttrs_list PySem.F.slot_list_extend PySem.F.type_list_extend mt_extendO ho.run (pa_cons he.run pa_nil hs) hbase hfew hline hs hplain) fun σ H Q q => by
    obtain ⟨σd, h, ρ, re, rh, p⟩ := q
    refine ⟨σd, h, ρ, re, rh, p.bind.mono fun v H1 ⟨x, h1, ρ1, e1, rh1, r1, p1⟩ => ?_⟩
    cases x with
    | ref n =>
      simp only at p1
      split at p1
      · rename_i es hn
        obtain ⟨a, rfl, ha⟩ := r1
        obtain ⟨xs, x1, x2⟩ := rh1.at_ _ _ _ hn ha
        refine ⟨Or.inl ⟨rfl, _, SqL.of x1⟩, σd, h1, ρ1, re.mono e1, rh1, p1.bind.mono fun w H2 ⟨y, h2, ρ2, e2, rh2, r2, p2⟩ => ?_⟩
        split at p2
        · rename_i es2 ds hn2
          split at p2
          · rename_i hl
            obtain ⟨b, ws, rfl, hb, w2⟩ := r2
            obtain ⟨ys, y1, y2⟩ := rh2.at_ _ _ _ hn2 (e2.pre _ _ ha)
            obtain ⟨z1, z2⟩ := rh2.put (e2.pre _ _ ha) (o := .lst (ys ++ ws)) rfl (c := .lst (ds ++ es2)) ⟨_, rfl, y2.app w2⟩
            exact .inr ⟨a, b, ys, ws, rfl, rfl, y1, hb.sq, by rw [← y2.len, ← w2.len]; exact hl, p2 _ _ _ z1 z2 rfl⟩
          · exact p2.elim
        · rename_i k ds hn2
          split at p2
          · rename_i es2 hk2
            split at p2
            · rename_i hl
              obtain ⟨b, rfl, hb⟩ := r2
              obtain ⟨ys, y1, y2⟩ := rh2.at_ _ _ _ hn2 (e2.pre _ _ ha)
              obtain ⟨zs, w1, w2⟩ := rh2.at_ _ _ _ hk2 hb
              obtain ⟨z1, z2⟩ := rh2.put (e2.pre _ _ ha) (o := .lst (ys ++ zs)) rfl (c := .lst (ds ++ es2)) ⟨_, rfl, y2.app w2⟩
              exact .inl ⟨a, b, ys, zs, rfl, rfl, y1, w1, by rw [← y2.len, ← w2.len]; exact hl, p2 _ _ _ z1 z2 rfl⟩
            · exact p2.elim
          · exact p2.elim
        · exact p2.elim
      · exact p1.elim
    | _ => exact p1.elim⟩
end
end DL

set_option Elab.async false
set_option linter.all false
set_option maxRecDepth 100000
namespace DL
open PySem PySem.Spec PyProof.Rows L2
variable [TbC]
/-! raise, try -/
/-- an own exception class over ValueError, without __init__ -/
structure XCls (K : PySem.W.Frag) (mg : Str → Option Value) (n : Str) (C : Addr) : Prop where
  gm : mg n = some (.ref C)
  ex : PySem.W.excIn K C [.type "ValueError", .type "Exception", .type "BaseException", .type "object"] "ValueError.__new__" = true
  kp : PySem.W.keepIn K (.ref C) = true
  sb : PySem.W.subIn K (.ref C) (.type "BaseException") = some true
  ty : PySem.W.typeIn K (.ref C) = some (.type "type")
theorem RE.wipe {K : PySem.W.Frag} {H : Hp} {ρ : List Addr} {σd : DEnv} {σ : L2.St} (h : RE K H ρ σd σ) (i : Nat) (o : Option V) : RE K H ρ (σd.set i none) (σ.set i o) := by
  refine ⟨by rw [List.length_set, List.length_set]; exact h.1, fun j e q => ?_⟩
  by_cases hj : i = j
  · subst hj
    by_cases hi : i < σd.length
    · rw [List.getElem?_set_self hi] at q; cases q
    · rw [List.getElem?_eq_none (by simpa using hi)] at q; cases q
  · rw [List.getElem?_set_ne hj] at q
    obtain ⟨w, h1, h2⟩ := h.2 j e q
    exact ⟨w, by rw [List.getElem?_set_ne hj]; exact h1, h2⟩
section
variable {X : Cx} {pos pos' p p2 : Pos} {x m : Str} {e a b : Expr} {es : List Expr} {fa fb : M D} {f : M (List D)} {C : Addr} {i : Nat} {ad : Addr}
def sRaise (c : Str) : M Fl := fun σ h => .exc ⟨c, []⟩ σ h
theorem ds_raise {j : Nat} (hc : X.calm = true) (F : XCls X.K X.mg x C) (hg : Gl X x) (hdb : (x == ("__debug__" : Str)) = false := by decide) : DS X (.Raise (some (.Call (.Name x p) [.Constant (.str m) j p2] [] pos')) none pos) (sRaise x) :=
  ⟨psI (ps_raise hc takes_wish (pmk_own PySem.F.excBase_ValueError F.ex F.gm F.kp (raises_own F.sb F.ty) hg hdb)) fun E σ H q => by
    obtain ⟨σd, h, ρ, re, rh, p⟩ := q
    exact p H ρ rh.ext rh σ (.ref C) none re ⟨F.gm, .inl ⟨rfl, rfl⟩⟩⟩
def unset (i : Nat) : Fl → Fl
  | .nx s => .nx (s.set i none)
  | .rt d => .rt d
  | .bk s => .bk (s.set i none)
  | .ct s => .ct (s.set i none)
def sTryA (i : Nat) (tab : List (Str × Bool)) (body : M Fl) (suite : DX → M Fl) : M Fl := fun σ h => match body σ h with
  | .exc x s h' => match tab.lookup x.cls with
    | some true => if i < s.length then (suite x (s.set i none) h').calm.bind fun fl h2 => .ok (unset i fl) h2 else .bad
    | some false => .exc x s h'
    | none => .bad
  | r => r
def sTry (tab : List (Str × Bool)) (body : M Fl) (suite : DX → M Fl) : M Fl := fun σ h => match body σ h with
  | .exc x s h' => match tab.lookup x.cls with
    | some true => (suite x s h').calm
    | some false => .exc x s h'
    | none => .bad
  | r => r
/-- in an except suite: slot i holds the exception -/
structure DEx (X : Cx) (i : Nat) (a : Addr) (e : Expr) (f : M D) : Prop where
  run : PE X e (fun σ H Q => σ[i]? = some (some (.ref a)) ∧ rdG X.K (Y0 X.mg) (RV X.K) f σ H Q)
structure DAx (X : Cx) (i : Nat) (a : Addr) (es : List Expr) (f : M (List D)) : Prop where
  run : PA X es (fun σ H Q => σ[i]? = some (some (.ref a)) ∧ rdG X.K (Y0 X.mg) (RVs X.K) f σ H Q)
structure DSx (X : Cx) (i : Nat) (a : Addr) (st : List Stmt) (f : M Fl) : Prop where
  run : PSs X st (fun E σ H => σ[i]? = some (some (.ref a)) ∧ rdS X.K (Y0 X.mg) f E σ H)
theorem dx_of (h : DE X e fa) : DEx X i ad e fa := ⟨peI h.run fun σ H Q q => rdG.weak q.2⟩
theorem dx_and {rest : List Expr} (ha : DEx X i ad a fa) (hb : DEx X i ad (.BoolOp .And (b :: rest) pos) fb) : DEx X i ad (.BoolOp .And (a :: b :: rest) pos) (andV fa fb) :=
  ⟨peI (pe_and ha.run hb.run) fun σ H Q q => by
    obtain ⟨q0, σd, h, ρ, re, rh, p⟩ := q
    refine ⟨q0, σd, h, ρ, re, rh, p.bind.mono fun x H1 ⟨d, h1, ρ1, e1, rh1, r1, p1⟩ => ?_⟩
    cases d with
    | bl k =>
      refine ⟨k, r1, ?_⟩
      cases k with
      | true => exact ⟨q0, σd, h1, ρ1, re.mono e1, rh1, p1⟩
      | false => exact Post.ok p1 rh1 (rfl : RV X.K H1 ρ1 (.bl false) (.bl false))
    | _ => exact p1.elim⟩
theorem dx_one {op} (ha : DEx X i ad a fa) : DEx X i ad (.BoolOp op [a] pos) fa := ⟨pe_one ha.run⟩
theorem dxa_nil : DAx X i ad [] aNil := ⟨paI pa_nil fun σ H Q q => by
  obtain ⟨_, σd, h, ρ, re, rh, p⟩ := q
  exact Post.ok p rh (show RVs X.K H ρ [] [] from rfl)⟩
theorem dxa_cons (ha : DEx X i ad e fa) (hr : DAx X i ad es f) (hs : starEach (e :: es) X.env = (false, eval e X.env) :: starEach es X.env := by rfl) : DAx X i ad (e :: es) (aCons fa f) :=
  ⟨paI (pa_cons ha.run hr.run hs) fun σ H Q q => by
    obtain ⟨q0, σd, h, ρ, re, rh, p⟩ := q
    refine ⟨q0, σd, h, ρ, re, rh, p.bind.mono fun x H1 ⟨d, h1, ρ1, e1, rh1, r1, p1⟩ => ?_⟩
    refine ⟨q0, σd, h1, ρ1, re.mono e1, rh1, p1.bind.mono fun xs H2 ⟨ds, h2, ρ2, e2, rh2, r2, p2⟩ => ?_⟩
    exact Post.ok p2 rh2 (show RVs X.K H2 ρ2 (d :: ds) (x :: xs) from ⟨x, xs, rfl, RV.mono e2 _ _ r1, r2⟩)⟩
theorem dx_tup {x1} (hf : DAx X i ad es f) : DEx X i ad (.Tuple es x1 pos) (tupM f) := ⟨peI (peTupU hf.run) fun σ H Q q => by
  obtain ⟨q0, σd, h, ρ, re, rh, p⟩ := q
  refine ⟨q0, σd, h, ρ, re, rh, p.bind.mono fun vs H1 ⟨ds, h1, ρ1, e1, rh1, r1, p1⟩ => ?_⟩
  split at p1
  · rename_i hl
    refine ⟨by rw [← r1.len]; exact hl, fun q hq ob hd => ?_⟩
    obtain ⟨x1, x2⟩ := rh1.lay (.frz ob (.tup vs)) hq
    exact p1 _ _ _ x1 x2 ⟨q, _, rfl, .new hd, RVs.mono x1 _ _ r1⟩
  · exact p1.elim⟩
/-- isinstance(e, T), e the exception -/
def isxM (tab : List (Str × Bool)) (x : DX) : M D := fun _ h => match x.fs, tab.lookup x.cls with | [], some b => .ok (.bl b) h | _, _ => .bad
theorem dsx_ret (he : DEx X i ad e fa) : DSx X i ad [.Return (some e) pos] (sRet fa) := ⟨pssI (pss_one (ps_ret he.run)) fun E σ H q => by
  obtain ⟨q0, σd, h, ρ, re, rh, p⟩ := q
  exact ⟨q0, σd, h, ρ, re, rh, p.bind.mono fun v H1 ⟨d, h1, ρ1, e1, rh1, r1, p1⟩ => (p1.ok rh1) v r1⟩⟩
theorem dsx_set {k : Nat} (hN : X.N.Nodup) (hi : X.N[k]? = some x) (hx : Loc X.env.scope x) (he : DEx X i ad e fa) (hs : swapsWith e (some (.Name x pos')) pos.line X.env = pure false := by rfl) (hf : X.fn x = true ∨ X.env.scope.names.lookup x = some .local := by first | exact .inl rfl | exact .inr rfl | assumption) :
    DSx X i ad [.Assign [.Name x pos'] e pos] (sSet k fa) := ⟨pssI (pss_one (ps_set hN hi hx he.run hs hf)) fun E σ H q => by
  obtain ⟨q0, σd, h, ρ, re, rh, p⟩ := q
  exact ⟨q0, σd, h, ρ, re, rh, p.bind.mono fun v H1 ⟨d, h1, ρ1, e1, rh1, r1, p1⟩ => (p1.ok rh1) _ ((re.mono e1).set k r1)⟩⟩
theorem dsx_of {st : List Stmt} {g : M Fl} (h : DSs X st g) : DSx X i ad st g := ⟨pssI h.run fun E σ H q => by
  obtain ⟨_, σd, h, ρ, re, rh, p⟩ := q
  refine ⟨σd, h, ρ, re, rh, ?_⟩
  generalize g σd h = r at p ⊢
  cases r with
  | ok a h' => exact p
  | bad => exact p
  | exc x s h' => exact fun H' ρ' x1 x2 σ' cls d re' rx => (p H' ρ' x1 x2 σ' cls d re' rx).elim⟩
theorem rdS.wk {K : PySem.W.Frag} {mg : Str → Option Value} {V : WX} {g : M Fl} {E : Ends} {σ : L2.St} {H : Hp} {X' : Cx} (hm : X'.mg = mg) (tk : Takes X' V) (q : rdS K ⟨mg, V⟩ g E σ H) : rdS K (XY X') g E σ H := by
  obtain ⟨σd, h, ρ, re, rh, p⟩ := q
  refine ⟨σd, h, ρ, re, rh, ?_⟩
  generalize g σd h = r at p ⊢
  cases r with
  | ok a h' => exact p
  | bad => exact p
  | exc x s h' =>
    intro H' ρ' x1 x2 σ' cls d re' rx
    refine wish_of tk (p H' ρ' x1 x2 σ' cls d re' ?_)
    rw [← hm]
    exact rx
theorem ds_tryA {n : Str} {c : Value} {body suite : List Stmt} {b₀ : Stmt} {np : Pos} {tab : List (Str × Bool)} {gb : M Fl} {gs : DX → M Fl} (hs : X.stack = X.env :: X.outer) (hf : X.env.frame = some X.env.locals) (hN : X.N.Nodup) (hi : X.N[i]? = some n) (hln : X.env.kindOf n = some .local)
    (hc : Names X x c) (hT : ∀ n b cls, tab.lookup n = some b → X.mg n = some cls → PySem.W.exmOne X.K cls c = some b)
    (hb : ∀ (pn : List (Addr × Obj)) (xe : Value → Shared → Prop), PassesOwn (model X.prog X.w) X.A X.env xe → DSs (X.tr pn xe) body gb)
    (hsu : ∀ (a : Addr) (oe : Obj) (cls : Value) (d : Option Addr) (pn : List (Addr × Obj)) (y : DX), Zc cls d oe → (∃ vs, oe.data = .fields vs) → X.mg y.cls = some cls → (y.fs = [] → d = none) → DSx (X.suite a ((a, oe) :: pn)) i a (b₀ :: suite) (gs y)) :
    DS X (.Try body [.ExceptHandler (some (.Name x np)) (some n) (b₀ :: suite) pos'] [] [] pos) (sTryA i tab gb gs) := by
  refine ⟨psI (ps_try_as (tb := fun W => rdS X.K ⟨X.mg, W⟩ gb) (ts := fun a cls d E σ H => ∃ y : DX, X.mg y.cls = some cls ∧ (y.fs = [] → d = none) ∧ σ[i]? = some (some (.ref a)) ∧ rdS X.K (Y0 X.mg) (gs y) E σ H) hs hf hN hi hln hc takes_wish (fun W pn xe tk hp => pssI (hb pn xe hp).run fun E σ H q => rdS.wk rfl tk q) (fun a oe cls d pn hz hfl => ⟨fun pins s σ H E I q => ?_⟩)) fun E σ H q => ?_⟩
  · obtain ⟨y, h1, h2, h3, h4⟩ := q
    exact (hsu a oe cls d pn y hz hfl h1 h2).run.run pins s σ H E I ⟨h3, h4⟩
  · obtain ⟨σd, h, ρ, re, rh, p⟩ := q
    refine ⟨σd, h, ρ, re, rh, ?_⟩
    unfold sTryA at p
    generalize gb σd h = r at p ⊢
    cases r with
    | ok fl h1 => exact p
    | bad => exact p.elim
    | exc y s h1 =>
      intro H' ρ' x1 x2 σ' cls d re' rx
      simp only at p
      split at p
      case h_3 => exact p.elim
      case h_2 el => exact ⟨false, hT _ _ _ el rx.1, (by intro z; cases z), fun _ => p H' ρ' x1 x2 σ' cls d re' rx⟩
      case h_1 el =>
        split at p
        case isFalse => exact p.elim
        rename_i hil
        refine ⟨true, hT _ _ _ el rx.1, fun _ a ha => ⟨y, rx.1, fun e => ?_, List.getElem?_set_self (by rw [← re'.1]; exact hil), s.set i none, h1, ρ', re'.wipe i _, x2, ?_⟩, (by intro z; cases z)⟩
        · rcases rx.2 with ⟨_, z⟩ | ⟨z, _⟩
          · exact z
          · exact (z e).elim
        generalize gs y (s.set i none) h1 = r at p ⊢
        cases r with
        | bad => exact p.elim
        | exc y2 s2 h2 => exact p.elim
        | ok fl h2 =>
          intro H2 ρ2 y1 y2
          have p2 := p H2 ρ2 (x1.trans y1) y2
          cases fl with
          | nx s5 => exact fun σ5 r5 => p2 _ (r5.wipe i none)
          | bk s5 => exact fun σ5 r5 => p2 _ (r5.wipe i none)
          | ct s5 => exact fun σ5 r5 => p2 _ (r5.wipe i none)
          | rt d => exact p2
theorem ds_try {c : Value} {body suite : List Stmt} {b₀ : Stmt} {np : Pos} {tab : List (Str × Bool)} {gb : M Fl} {gs : DX → M Fl} (hs : X.stack = X.env :: X.outer) (hf : X.env.frame = some X.env.locals)
    (hc : Names X x c) (hT : ∀ n b cls, tab.lookup n = some b → X.mg n = some cls → PySem.W.exmOne X.K cls c = some b)
    (hb : ∀ (pn : List (Addr × Obj)) (xe : Value → Shared → Prop), PassesOwn (model X.prog X.w) X.A X.env xe → DSs (X.tr pn xe) body gb)
    (hsu : ∀ (a : Addr) (oe : Obj) (cls : Value) (d : Option Addr) (pn : List (Addr × Obj)) (y : DX), Zc cls d oe → (∃ vs, oe.data = .fields vs) → X.mg y.cls = some cls → (y.fs = [] → d = none) → DSs (X.suite a ((a, oe) :: pn)) (b₀ :: suite) (gs y)) :
    DS X (.Try body [.ExceptHandler (some (.Name x np)) none (b₀ :: suite) pos'] [] [] pos) (sTry tab gb gs) := by
  refine ⟨psI (ps_try_only (tb := fun W => rdS X.K ⟨X.mg, W⟩ gb) (ts := fun a cls d E σ H => ∃ y : DX, X.mg y.cls = some cls ∧ (y.fs = [] → d = none) ∧ rdS X.K (Y0 X.mg) (gs y) E σ H) hs hf hc takes_wish (fun W pn xe tk hp => pssI (hb pn xe hp).run fun E σ H q => rdS.wk rfl tk q) (fun a oe cls d pn hz hfl => ⟨fun pins s σ H E I q => ?_⟩)) fun E σ H q => ?_⟩
  · obtain ⟨y, h1, h2, h4⟩ := q
    refine (hsu a oe cls d pn y hz hfl h1 h2).run.run pins s σ H E I (rdS.wk (X' := X.suite a ((a, oe) :: pn)) (V := fun _ _ _ _ => False) rfl L2.takes0 h4)
  · obtain ⟨σd, h, ρ, re, rh, p⟩ := q
    refine ⟨σd, h, ρ, re, rh, ?_⟩
    unfold sTry at p
    generalize gb σd h = r at p ⊢
    cases r with
    | ok fl h1 => exact p
    | bad => exact p.elim
    | exc y s h1 =>
      intro H' ρ' x1 x2 σ' cls d re' rx
      simp only at p
      split at p
      case h_3 => exact p.elim
      case h_2 el => exact ⟨false, hT _ _ _ el rx.1, (by intro z; cases z), fun _ => p H' ρ' x1 x2 σ' cls d re' rx⟩
      case h_1 el =>
        refine ⟨true, hT _ _ _ el rx.1, fun _ a ha => ⟨y, rx.1, fun e => ?_, s, h1, ρ', re', x2, ?_⟩, (by intro z; cases z)⟩
        · rcases rx.2 with ⟨_, z⟩ | ⟨z, _⟩
          · exact z
          · exact (z e).elim
        generalize gs y s h1 = r at p ⊢
        cases r with
        | bad => exact p.elim
        | exc y2 s2 h2 => exact p.elim
        | ok fl h2 => exact fun H2 ρ2 y1 y2 => p H2 ρ2 (x1.trans y1) y2
end
section
variable {X : Cx} {pos p : Pos} {i : Nat} {a : Addr}
theorem dx_isE {T n : Str} {pT pn2 : Pos} {oe : Obj} {cls : Value} {d : Option Addr} {pn : List (Addr × Obj)} {tab : List (Str × Bool)} {y : DX} {cv : V} {tv : Value} (hz : Zc cls d oe) (hf : ∃ vs, oe.data = .fields vs) (hy : X.mg y.cls = some cls) (hd : y.fs = [] → d = none)
    (hg : Gl X "isinstance") (hm : X.mg "isinstance" = none) (hcv : ∀ u, RelV cv u → u = tv) (hT : ∀ n b, tab.lookup n = some b → ∃ D, X.mg n = some (.ref D) ∧ ExcC X.K D ∧ PySem.W.kitOne X.K (.ref D) tv = some b)
    (hN : X.N[i]? = some n) (hv : Vis X.env.scope n) (ht : PE (X.suite a ((a, oe) :: pn)) (.Name T pT) (tC cv)) (hnd : (n == ("__debug__" : Str)) = false := by decide) (hncd : (n == ("__classdict__" : Str)) = false := by decide)
    (he : starEach [.Name n pn2, .Name T pT] X.env = (false, eval (.Name n pn2) X.env) :: starEach [.Name T pT] X.env := by rfl) (he2 : starEach [.Name T pT] X.env = (false, eval (.Name T pT) X.env) :: starEach [] X.env := by rfl)
    (hpl : (backTo pos (starEach [.Name T pT] X.env)).any (·.1) = false := by rfl) :
    DEx (X.suite a ((a, oe) :: pn)) i a (.Call (.Name "isinstance" p) [.Name n pn2, .Name T pT] [] pos) (isxM tab y) := by
  refine ⟨⟨fun pins s σ H Q I q => ?_⟩⟩
  obtain ⟨q0, σd, h, ρ, re, rh, pp⟩ := q
  unfold isxM at pp
  split at pp
  case h_2 => exact pp.elim
  rename_i b e1 e2
  obtain ⟨D, hD, C, hk⟩ := hT _ _ e2
  obtain rfl : cls = .ref D := Option.some.inj (hy.symm.trans hD)
  obtain rfl := hd e1
  exact (pe_callB (call_isE C hz hf) hg hm (by decide +kernel) (pa_cons (pv i hN hv hnd hncd) (pa_cons ht pa_nil he2) he) (by decide) (by decide) he hpl).run pins s σ H Q I
    ⟨_, q0, cv, tv, b, rfl, hcv, hk, Post.ok pp rh (rfl : RV X.K H ρ (.bl b) (.bl b))⟩
end
end DL

set_option Elab.async false
set_option linter.all false
set_option maxRecDepth 100000
namespace DL
open PySem PySem.Spec PyProof.Rows L2
variable [TbC]
/-! {k: v for x in xs}: as the list of pairs, then put one by one -/
def putP (acc : List (Key × D)) : D → List (Key × D)
  | .tup [k, v] => match keyD k with | some kk => putD acc kk v | none => acc
  | _ => acc
def foldP (acc : List (Key × D)) (ys : List D) : List (Key × D) := ys.foldl putP acc
theorem putD_len (l : List (Key × D)) (k : Key) (v : D) : (putD l k v).length ≤ l.length + 1 := by
  unfold putD
  split
  · rw [List.length_map]; omega
  · rw [List.length_append]; simp
theorem putP_len (l : List (Key × D)) (y : D) : (putP l y).length ≤ l.length + 1 := by
  unfold putP
  split
  · split
    · exact putD_len _ _ _
    · omega
  · omega
theorem foldP_len : ∀ (ys : List D) (l : List (Key × D)), (foldP l ys).length ≤ l.length + ys.length
  | [], l => Nat.le_refl _
  | y :: ys, l => by
    have h1 := foldP_len ys (putP l y)
    have h2 := putP_len l y
    show (foldP (putP l y) ys).length ≤ _
    rw [List.length_cons]
    omega
theorem foldP_snoc (l : List (Key × D)) (ys : List D) (y : D) : foldP l (ys ++ [y]) = putP (foldP l ys) y := by
  unfold foldP
  rw [List.foldl_append]
  rfl
def pairM (fk fv : M D) : M D := fun σ h => (fk σ h).bind fun k h1 => (fv σ h1).bind fun v h2 => match keyD k with | some _ => .ok (.tup [k, v]) h2 | none => .bad
section
variable {X : Cx} {pos pos' p apos cpos : Pos} {x : Str} {e a b o i kx vx tg iter : Expr} {fa fb fc fk fv : M D} {t : M Bool}
def PostD (K : PySem.W.Frag) (Y : EX) (H : Hp) (ρ : List Addr) (r : Res (List D)) (Q : VK) : Prop := match r with
  | .ok ys h' => ∀ H' ρ' L vs, Ext H ρ H' ρ' → RH K H' ρ' h' → NoT H L → H' L = some (.dK vs) → L ∉ ρ' → RKVs K H' ρ' (foldP [] ys) vs → Q (.ref L) H'
  | .bad => False
  | .exc x s h' => ∀ H' ρ', Ext H ρ H' ρ' → RH K H' ρ' h' → WishAt K Y x s H' ρ'
def rdDc (K : PySem.W.Frag) (Y : EX) (f : M (List D)) : TE := fun σ H Q => ∃ σd h ρ, RE K H ρ σd σ ∧ RH K H ρ h ∧ PostD K Y H ρ (f σd h) Q
theorem RKVs.kp {K : PySem.W.Frag} {H H' : Hp} {ρ ρ' : List Addr} (e : Kp K H ρ H' ρ') {kvs : List (Key × D)} {vs : List (Key × V)} (r : RKVs K H ρ kvs vs) : RKVs K H' ρ' kvs vs := ⟨r.1, RVs.kp e _ _ r.2⟩
theorem dcomp_rd {K : PySem.W.Frag} {Y Y' : EX} {src : M Src} {ii : Nat} {σ : L2.St} {H : Hp} {Q : VK} (q : rdDc K Y (compM src ii t (pairM fk fv)) σ H Q) : tDc (rdI K Y src) (gName ii) (rdG K Y' RB t) (rdG K Y' (RV K) fk) (rdG K Y' (RV K) fv) [ii] σ H Q := by
  obtain ⟨σd, h, ρ, re, rh, p⟩ := q
  refine ⟨σd, h, ρ, re, rh, ?_⟩
  unfold compM at p
  cases e0 : src σd h with
  | bad => rw [e0] at p; exact p.elim
  | exc y s h1 => rw [e0] at p; exact p
  | ok s h1 =>
    rw [e0] at p
    simp only [Res.bind] at p
    split at p
    case isFalse => exact p.elim
    rename_i hsz
    intro H1 ρ1 J e1 rh1 iok L hL
    have hL0 : NoT H L := e1.noT rh1 hL
    refine ⟨fun i m H2 => i ≤ s.items.length ∧ m = s.items.length - i ∧ ∃ h2 ρ2 acc accV, Ext H1 ρ1 H2 ρ2 ∧ RH K H2 ρ2 h2 ∧ H2 L = some (.dK accV) ∧ L ∉ ρ2 ∧ RKVs K H2 ρ2 (foldP [] acc) accV ∧ acc.length ≤ i ∧
      ∃ ys h3, loopC s (stepC ii t (pairM fk fv) σd) (s.items.drop i) h2 = .ok ys h3 ∧ PostD K Y H ρ (.ok (acc ++ ys) h3) Q, ?_, ?_⟩
    · obtain ⟨x1, x2⟩ := rh1.lay (.dK []) hL
      cases e5 : loopC s (stepC ii t (pairM fk fv) σd) s.items h1 with
      | bad => rw [e5] at p; exact p.elim
      | exc y s2 h3 => rw [e5] at p; exact p.elim
      | ok ys h3 =>
        rw [e5] at p
        exact ⟨_, Nat.zero_le _, rfl, h1, ρ1, [], [], x1, x2, upd_same, fun m => (by have := rh1.mu L m; rw [hL] at this; cases this), .nil, Nat.le_refl _, ys, h3, e5, p⟩
    · rintro i m H2 ⟨hi, rfl, h2, ρ2, acc, accV, e2, rh2, hL2, nL, racc, hacc, ys, h3, el, pc⟩
      by_cases hlt : i < s.items.length
      · have ed : s.items[i]? = some s.items[i] := List.getElem?_eq_getElem hlt
        rw [drop_cons ed] at el
        unfold loopC at el
        split at el
        case isFalse => cases el
        rename_i hck
        obtain ⟨g1, g2⟩ := iok.go H2 ρ2 h2 i _ e2 rh2 hck ed
        generalize s.items[i] = d at el g2
        refine .inr ⟨g1, fun H' => i + 1 ≤ s.items.length ∧ ∃ h2 ρ2 acc accV, Ext H1 ρ1 H' ρ2 ∧ RH K H' ρ2 h2 ∧ H' L = some (.dK accV) ∧ L ∉ ρ2 ∧ RKVs K H' ρ2 (foldP [] acc) accV ∧ acc.length ≤ i + 1 ∧
          ∃ ys h3, loopC s (stepC ii t (pairM fk fv) σd) (s.items.drop (i + 1)) h2 = .ok ys h3 ∧ PostD K Y H ρ (.ok (acc ++ ys) h3) Q, fun H' ⟨n1, n2⟩ => ⟨s.items.length - (i + 1), by omega, n1, rfl, n2⟩, fun v H3 y => ?_⟩
        obtain ⟨rfl, rv⟩ := g2 v H3 y
        have re2 : RE K H3 ρ2 σd σ := (re.mono e1).mono e2
        have rw2 : RE K H3 ρ2 (σd.set ii (some d)) ((wipe σ [ii]).set ii (some v)) := by
          show RE K H3 ρ2 (σd.set ii (some d)) ((σ.set ii none).set ii (some v))
          rw [List.set_set]
          exact re2.set ii rv
        refine ⟨?_, σd.set ii (some d), h2, ρ2, rw2, rh2, ?_⟩
        · show ((σ.set ii none).set ii (some v)).set ii none = σ.set ii none
          rw [List.set_set, List.set_set]
        obtain ⟨G, hG⟩ : ∃ G, G = loopC s (stepC ii t (pairM fk fv) σd) (s.items.drop (i + 1)) := ⟨_, rfl⟩
        rw [← hG] at el
        unfold stepC at el
        cases e6 : t (σd.set ii (some d)) h2 with
        | bad => rw [e6] at el; cases el
        | exc y s2 h4 => rw [e6] at el; cases el
        | ok bt h4 =>
          rw [e6] at el
          simp only [Res.bind] at el
          intro H4 ρ4 b4 x4 rh4 r4
          cases (show bt = b4 from r4)
          have hL4 : H4 L = some (.dK accV) := x4.keepM hL2 nL
          have nL4 : L ∉ ρ4 := fun m => (x4.fresh L m nL).m hL2 rfl
          cases bt with
          | false =>
            simp only [Bool.false_eq_true, if_false] at el ⊢
            cases e7 : G h4 with
            | bad => rw [e7] at el; cases el
            | exc y s2 h5 => rw [e7] at el; cases el
            | ok zs h5 =>
              rw [e7] at el
              rw [hG] at e7
              cases el
              exact ⟨hlt, h4, ρ4, acc, accV, e2.trans x4, rh4, x4.keepM hL2 nL, nL4, racc.kp x4.kp, Nat.le_succ_of_le hacc, ys, h3, e7, pc⟩
          | true =>
            simp only [if_true] at el ⊢
            unfold pairM at el
            cases e8 : fk (σd.set ii (some d)) h4 with
            | bad => rw [e8] at el; cases el
            | exc y2 s2 h6 => rw [e8] at el; cases el
            | ok kd h6 =>
              rw [e8] at el
              simp only [Res.bind] at el
              refine ⟨σd.set ii (some d), h4, ρ4, rw2.mono x4, rh4, ?_⟩
              rw [e8]
              intro H6 ρ6 w6 x6 rh6 r6
              have nL6 : L ∉ ρ6 := fun m => (x6.fresh L m nL4).m hL4 rfl
              have hL6 : H6 L = some (.dK accV) := x6.keepM hL4 nL4
              cases e9 : fv (σd.set ii (some d)) h6 with
              | bad => rw [e9] at el; cases el
              | exc y2 s2 h8 => rw [e9] at el; cases el
              | ok vd h8 =>
                rw [e9] at el
                simp only [Res.bind] at el
                refine ⟨σd.set ii (some d), h6, ρ6, (rw2.mono x4).mono x6, rh6, ?_⟩
                rw [e9]
                intro H8 ρ8 w8 x8 rh8 r8
                have nL8 : L ∉ ρ8 := fun m => (x8.fresh L m nL6).m hL6 rfl
                have hL8 : H8 L = some (.dK accV) := x8.keepM hL6 nL6
                cases ek : keyD kd with
                | none => rw [ek] at el; cases el
                | some kk =>
                  rw [ek] at el
                  simp only at el
                  have racc8 := ((racc.kp x4.kp).kp x6.kp).kp x8.kp
                  have hlen : accV.length < sizeLine := by
                    rw [← racc.len]
                    have := foldP_len acc []
                    rw [List.length_nil] at this
                    omega
                  refine ⟨accV, kk, key_rv ek r6, hL8, hlen, ?_⟩
                  have kp := Kp.other (K := K) (ρ := ρ8) (o' := .dK (putK accV kk w8)) hL8 rfl
                  have x7 : Ext H1 ρ1 (upd H8 L (.dK (putK accV kk w8))) ρ8 := by
                    have xx := ((e2.trans x4).trans x6).trans x8
                    exact xx.updN (.none hL)
                  cases e7 : G h8 with
                  | bad => rw [e7] at el; cases el
                  | exc y s2 h5 => rw [e7] at el; cases el
                  | ok zs h5 =>
                    rw [e7] at el
                    rw [hG] at e7
                    cases el
                    refine ⟨hlt, h8, ρ8, acc ++ [.tup [kd, vd]], putK accV kk w8, x7, rh8.other hL8 rfl nL8, upd_same, nL8, ?_, by rw [List.length_append]; exact Nat.succ_le_succ hacc, zs, h3, e7, ?_⟩
                    · rw [foldP_snoc]
                      show RKVs K _ _ (match keyD kd with | some kk => putD (foldP [] acc) kk vd | none => foldP [] acc) _
                      rw [ek]
                      exact ((racc8).kp kp).put kk (RV.kp kp _ _ r8)
                    · rw [List.append_assoc]
                      exact pc
      · have ei : i = s.items.length := by omega
        subst ei
        rw [List.drop_length] at el
        unfold loopC at el
        split at el
        · rename_i hck
          cases el
          rw [List.append_nil] at pc
          exact .inl ⟨iok.stop H2 ρ2 h2 _ e2 rh2 hck (Nat.le_refl _), pc H2 ρ2 L accV (e1.trans e2) rh2 hL0 hL2 nL racc⟩
        · cases el
noncomputable def dcompM (f : M (List D)) : M D := fun σ h => (f σ h).bind fun ys h1 => .ok (.ref h1.length) (h1 ++ [.dic (foldP [] ys)])
theorem de_dcomp {ifs : List Expr} {scope : Scope} {src : M Src} {ii : Nat} {xi : Str} (hc : X.calm = true) (hN : X.N.Nodup) (hi : DI X tg iter src) (ok : BlkOk X.N X.env.scope scope [(xi, ii)])
    (hg : ∀ (s : Shared) (H : Hp) (C : Addr) (cl : List (Str × Addr)) (fp : List Addr), PG (X.blk s H scope (compEnvC scope cl C X.env) fp) tg (gName ii))
    (ht : ∀ (s : Shared) (H : Hp) (C : Addr) (cl : List (Str × Addr)) (fp : List Addr), DTs (X.blk s H scope (compEnvC scope cl C X.env) fp) ifs t)
    (hk : ∀ (s : Shared) (H : Hp) (C : Addr) (cl : List (Str × Addr)) (fp : List Addr), DE (X.blk s H scope (compEnvC scope cl C X.env) fp) kx fk)
    (he : ∀ (s : Shared) (H : Hp) (C : Addr) (cl : List (Str × Addr)) (fp : List Addr), DE (X.blk s H scope (compEnvC scope cl C X.env) fp) vx fv) (hs : ∀ x, foldedSetIterable iter X.env x = pure x := by intro _; rfl) :
    DE X (.DictComp kx vx [⟨tg, iter, ifs, 0⟩] scope pos) (dcompM (compM src ii t (pairM fk fv))) :=
  ⟨peI (pe_dc (tt := rdG X.K (Y0 X.mg) RB t) (tk := rdG X.K (Y0 X.mg) (RV X.K) fk) (tv := rdG X.K (Y0 X.mg) (RV X.K) fv) hc hN hi.run ok hg (fun s H C cl fp => ptsI (ht s H C cl fp).run fun _ _ _ q => rdG.weak q) (fun s H C cl fp => peI (hk s H C cl fp).run fun _ _ _ q => rdG.weak q) (fun s H C cl fp => peI (he s H C cl fp).run fun _ _ _ q => rdG.weak q) hs) fun σ H Q q => by
    refine dcomp_rd (K := X.K) (Y := XY X) ?_
    obtain ⟨σd, h, ρ, re, rh, p⟩ := q
    refine ⟨σd, h, ρ, re, rh, ?_⟩
    unfold dcompM at p
    cases e0 : compM src ii t (pairM fk fv) σd h with
    | bad => rw [e0] at p; exact p.elim
    | exc y s h1 => rw [e0] at p; exact p
    | ok ys h1 =>
      rw [e0] at p
      intro H' ρ' L vs x1 rh1 hL0 hL nL rvs
      obtain ⟨y1, y2⟩ := rh1.adopt x1 (c := .dic (foldP [] ys)) hL0 hL nL ⟨_, rfl, rvs⟩
      exact p H' _ _ y1 y2 ⟨L, rfl, by rw [← rh1.len]; simp⟩⟩
end
end DL

set_option Elab.async false
set_option linter.all false
set_option maxRecDepth 100000
namespace DL
open PySem PySem.Spec PyProof.Rows L2
variable [TbC]
/-! dict(d), dict(a list of pairs) -/
def isPr : D → Bool
  | .tup [k, _] => (keyD k).isSome
  | _ => false
def keyed (ds : List D) : Bool := ds.all isPr
theorem RKVs.fold {K : PySem.W.Frag} {H : Hp} {ρ : List Addr} : ∀ {ds : List D} {xs : List V} {acc : List (Key × D)} {accV : List (Key × V)}, keyed ds = true → RVs K H ρ ds xs → RKVs K H ρ acc accV →
    ∃ (ps : List Addr) (kvs : List (Key × V)), xs = ps.map V.ref ∧ Paired (fun p kv => SqT K H p [kV kv.1, kv.2]) ps kvs ∧ RKVs K H ρ (foldP acc ds) (mergeK accV kvs)
  | [], xs, acc, accV, _, r, q => by
    rw [show xs = [] from r]
    exact ⟨[], [], rfl, .nil, q⟩
  | d :: ds, xs, acc, accV, hk, r, q => by
    obtain ⟨y, ys, rfl, r1, r2⟩ := r
    have hk : (isPr d && keyed ds) = true := hk
    rw [Bool.and_eq_true] at hk
    obtain ⟨h1, h2⟩ := hk
    unfold isPr at h1
    split at h1
    case h_2 => cases h1
    rename_i k v
    obtain ⟨kk, ek⟩ := Option.isSome_iff_exists.mp h1
    obtain ⟨a, zs, rfl, hs, hz⟩ := r1
    obtain ⟨vk, vv, rfl, rk, rv⟩ := hz.inv2
    have hv := key_rv ek rk
    subst hv
    have q2 : RKVs K H ρ (putP acc (.tup [k, v])) (putK accV kk vv) := by
      show RKVs K H ρ (match keyD k with | some kk => putD acc kk v | none => acc) _
      rw [ek]
      exact q.put kk rv
    obtain ⟨ps, kvs, e1, e2, e3⟩ := RKVs.fold h2 r2 q2
    exact ⟨a :: ps, (kk, vv) :: kvs, by rw [e1]; rfl, .cons hs.sq e2, e3⟩
def dicD : List D → DHeap → Res D
  | [.ref n], h => match h[n]? with
    | some (.dic kvs) => .ok (.ref h.length) (h ++ [.dic kvs])
    | some (.lst ds) => if keyed ds = true then .ok (.ref h.length) (h ++ [.dic (foldP [] ds)]) else .bad
    | none => .bad
  | _, _ => .bad
section
variable {X : Cx} {pos : Pos} {a b c : Expr} {fa fb fc : M D}
theorem cd_dict (hc : X.calm = true) : CallR X (.type "dict") (RCl X.K (XY X) dicD) := clI (clO call_dictD (call_dictP hc)) fun vs H Q q => by
  obtain ⟨ds, h, ρ, r, rh, p⟩ := q
  unfold dicD at p
  split at p
  case h_2 => exact p.elim
  case h_1 n =>
    obtain ⟨v, rfl, r1⟩ := r.inv1
    obtain ⟨l, rfl, hl⟩ := r1
    split at p
    · rename_i kvs hn
      obtain ⟨ws, x1, x2⟩ := rh.at_ _ _ _ hn hl
      refine .inl ⟨l, ws, rfl, .inl x1, fun q hq => ?_⟩
      obtain ⟨y1, y2⟩ := rh.push (c := .dic kvs) hq (o := .dK ws) rfl ⟨_, rfl, x2⟩
      exact p _ _ _ y1 y2 ⟨q, rfl, by rw [← rh.len]; simp⟩
    · rename_i es hn
      split at p
      case isFalse => exact p.elim
      rename_i hk
      obtain ⟨xs, x1, x2⟩ := rh.at_ _ _ _ hn hl
      obtain ⟨ps, kvs, rfl, e2, e3⟩ := RKVs.fold hk x2 RKVs.nil
      refine .inr ⟨l, ps, kvs, rfl, .of x1, e2, fun q hq => ?_⟩
      obtain ⟨y1, y2⟩ := rh.push (c := .dic (foldP [] es)) hq (o := .dK (mergeK [] kvs)) rfl ⟨_, rfl, e3⟩
      exact p _ _ _ y1 y2 ⟨q, rfl, by rw [← rh.len]; simp⟩
    · exact p.elim
/-! a op b op' c -/
def chainM (m m' : D → D → DHeap → Res D) (fa fb fc : M D) : M D := fun σ h => (fa σ h).bind fun x h1 => (fb σ h1).bind fun y h2 => (m x y h2).bind fun z h3 => match z with
  | .bl k => if k = true then (fc σ h3).bind fun w h4 => m' y w h4 else .ok (.bl false) h3
  | _ => .bad
theorem de_chain {op op' : CmpOp} {m m' : D → D → DHeap → Res D} (ho : OpR X (compareOp op) (RO X.K (XY X) m)) (ho' : OpR X (compareOp op') (RO X.K (XY X) m')) (ha : DE X a fa) (hb : DE X b fb) (hc : DE X c fc) (hm : lastMarks [op, op'] [b, c] = false := by with_unfolding_all rfl) :
    DE X (.Compare a [op, op'] [b, c] pos) (chainM m m' fa fb fc) := ⟨peI (pe_chain ho ho' ha.run hb.run hc.run hm) fun σ H Q q => by
  obtain ⟨σd, h, ρ, re, rh, p⟩ := q
  refine ⟨σd, h, ρ, re, rh, p.bind.mono fun x H1 ⟨d, h1, ρ1, e1, rh1, r1, p1⟩ => ?_⟩
  refine ⟨σd, h1, ρ1, re.mono e1, rh1, p1.bind.mono fun y H2 ⟨d2, h2, ρ2, e2, rh2, r2, p2⟩ => ?_⟩
  refine ⟨d, d2, h2, ρ2, RV.mono e2 _ _ r1, r2, rh2, p2.bind.mono fun z H3 ⟨d3, h3, ρ3, e3, rh3, r3, p3⟩ => ?_⟩
  cases d3 with
  | bl k =>
    refine ⟨k, r3, ?_⟩
    cases k with
    | true =>
      exact ⟨σd, h3, ρ3, ((re.mono e1).mono e2).mono e3, rh3, p3.bind.mono fun w H4 ⟨d4, h4, ρ4, e4, rh4, r4, p4⟩ => ⟨d2, d4, h4, ρ4, RV.mono e4 _ _ (RV.mono e3 _ _ r2), r4, rh4, p4⟩⟩
    | false => exact Post.ok p3 rh3 (rfl : RV X.K H3 ρ3 (.bl false) (.bl false))
  | _ => exact p3.elim⟩
theorem dt_chain {op op' : CmpOp} {m m' : D → D → DHeap → Res D} (ho : OpR X (compareOp op) (RO X.K (XY X) m)) (ho' : OpR X (compareOp op') (RO X.K (XY X) m')) (ha : DE X a fa) (hb : DE X b fb) (hc : DE X c fc) (hm : lastMarks [op, op'] [b, c] = false := by with_unfolding_all rfl) :
    DT X (.Compare a [op, op'] [b, c] pos) (tst (chainM m m' fa fb fc)) := ⟨ptI (pt_chain ho ho' ha.run hb.run hc.run hm) fun σ H Q q => by
  obtain ⟨σd, h, ρ, re, rh, p⟩ := tst_rd q
  refine ⟨σd, h, ρ, re, rh, p.bind.mono fun x H1 ⟨d, h1, ρ1, e1, rh1, r1, p1⟩ => ?_⟩
  refine ⟨σd, h1, ρ1, re.mono e1, rh1, p1.bind.mono fun y H2 ⟨d2, h2, ρ2, e2, rh2, r2, p2⟩ => ?_⟩
  refine ⟨d, d2, h2, ρ2, RV.mono e2 _ _ r1, r2, rh2, p2.bind.mono fun z H3 ⟨d3, h3, ρ3, e3, rh3, r3, p3⟩ => ?_⟩
  cases d3 with
  | bl k =>
    refine ⟨k, r3, ?_⟩
    cases k with
    | true =>
      exact ⟨σd, h3, ρ3, ((re.mono e1).mono e2).mono e3, rh3, p3.bind.mono fun w H4 ⟨d4, h4, ρ4, e4, rh4, r4, p4⟩ => ⟨d2, d4, h4, ρ4, RV.mono e4 _ _ (RV.mono e3 _ _ r2), r4, rh4, p4⟩⟩
    | false => exact Post.ok p3 rh3 (rfl : RV X.K H3 ρ3 (.bl false) (.bl false))
  | _ => exact p3.elim⟩
end
end DL
namespace DL
open PySem PySem.Spec PyProof.Rows L2
variable [TbC]
/-! tables of classes -/
theorem tab_nil {K : PySem.W.Frag} {mg : Str → Option Value} {c : Value} : ∀ (n : Str) (b : Bool) (cls : Value), ([] : List (Str × Bool)).lookup n = some b → mg n = some cls → PySem.W.exmOne K cls c = some b := fun _ _ _ e _ => by cases e
theorem tab_cons {K : PySem.W.Frag} {mg : Str → Option Value} {c : Value} {n₀ : Str} {b₀ : Bool} {C : Addr} {tab : List (Str × Bool)} (h : mg n₀ = some (.ref C)) (h1 : PySem.W.exmOne K (.ref C) c = some b₀)
    (hr : ∀ (n : Str) (b : Bool) (cls : Value), tab.lookup n = some b → mg n = some cls → PySem.W.exmOne K cls c = some b) : ∀ (n : Str) (b : Bool) (cls : Value), ((n₀, b₀) :: tab).lookup n = some b → mg n = some cls → PySem.W.exmOne K cls c = some b := fun n b cls e hm => by
  rw [List.lookup_cons] at e
  split at e
  · rename_i q
    have q' : n = n₀ := by simpa using q
    subst q'
    rw [h] at hm
    cases hm
    cases e
    exact h1
  · exact hr n b cls e hm
theorem tabI_nil {K : PySem.W.Frag} {mg : Str → Option Value} {tv : Value} : ∀ (n : Str) (b : Bool), ([] : List (Str × Bool)).lookup n = some b → ∃ D, mg n = some (.ref D) ∧ ExcC K D ∧ PySem.W.kitOne K (.ref D) tv = some b := fun _ _ e => by cases e
theorem tabI_cons {K : PySem.W.Frag} {mg : Str → Option Value} {tv : Value} {n₀ : Str} {b₀ : Bool} {C : Addr} {tab : List (Str × Bool)} (h : mg n₀ = some (.ref C)) (hx : ExcC K C) (h1 : PySem.W.kitOne K (.ref C) tv = some b₀)
    (hr : ∀ (n : Str) (b : Bool), tab.lookup n = some b → ∃ D, mg n = some (.ref D) ∧ ExcC K D ∧ PySem.W.kitOne K (.ref D) tv = some b) : ∀ (n : Str) (b : Bool), ((n₀, b₀) :: tab).lookup n = some b → ∃ D, mg n = some (.ref D) ∧ ExcC K D ∧ PySem.W.kitOne K (.ref D) tv = some b := fun n b e => by
  rw [List.lookup_cons] at e
  split at e
  · rename_i q
    have q' : n = n₀ := by simpa using q
    subst q'
    cases e
    exact ⟨C, h, hx, h1⟩
  · exact hr n b e
theorem rel_ref {a : Addr} : ∀ u, RelV (.ref a) u → u = .ref a := fun u h => h
theorem rel_ty {T : String} : ∀ u, RelV (.ty T) u → u = .type T := fun u h => h
end DL
namespace DL
open PySem PySem.Spec PyProof.Rows L2
variable [TbC]
/-! constants of the module -/
structure GC (K : PySem.W.Frag) (mg : Str → Option Value) (x : Str) (d : D) : Prop where
  ex : ∃ u v, mg x = some u ∧ RelV v u ∧ ∀ H ρ, RV K H ρ d v
theorem de_glob {X : Cx} {x : Str} {d : D} {pos : Pos} (h : GC X.K X.mg x d) (hg : Gl X x) (hd : (x == ("__debug__" : Str)) = false := by decide) : DE X (.Name x pos) (cst d) := by
  obtain ⟨u, v, hm, r, hv⟩ := h.ex
  exact de_c (pe_glob hg hm r hd) hv
theorem gc_int {K : PySem.W.Frag} {mg : Str → Option Value} {x : Str} {i : Int} {t : Tok} (h : mg x = some (.int i t)) : GC K mg x (.int i) := ⟨⟨_, .int i, h, ⟨t, rfl⟩, fun _ _ => rfl⟩⟩
theorem gc_str {K : PySem.W.Frag} {mg : Str → Option Value} {x : Str} {i : Str} {t : Tok} (h : mg x = some (.str i t)) : GC K mg x (.str i) := ⟨⟨_, .str i, h, ⟨t, rfl⟩, fun _ _ => rfl⟩⟩
/-- a value of the module by what it is -/
structure KV (K : PySem.W.Frag) (d : D) (u : Value) : Prop where
  ex : ∃ v, RelV v u ∧ ∀ H ρ, RV K H ρ d v
theorem kv_int {K : PySem.W.Frag} {i : Int} {t : Tok} : KV K (.int i) (.int i t) := ⟨⟨.int i, ⟨t, rfl⟩, fun _ _ => rfl⟩⟩
theorem kv_str {K : PySem.W.Frag} {i : Str} {t : Tok} : KV K (.str i) (.str i t) := ⟨⟨.str i, ⟨t, rfl⟩, fun _ _ => rfl⟩⟩
inductive KVs (K : PySem.W.Frag) : List D → List Value → Prop
  | nil : KVs K [] []
  | cons {d ds u us} : KV K d u → KVs K ds us → KVs K (d :: ds) (u :: us)
theorem KVs.out {K : PySem.W.Frag} : ∀ {ds : List D} {us : List Value}, KVs K ds us → ∃ vs, Vals vs us ∧ ∀ H ρ, RVs K H ρ ds vs
  | _, _, .nil => ⟨[], .nil, fun _ _ => rfl⟩
  | _, _, .cons h t => by
    obtain ⟨v, r, hv⟩ := h.ex
    obtain ⟨vs, rs, hs⟩ := t.out
    exact ⟨v :: vs, .cons r rs, fun H ρ => ⟨v, vs, rfl, hv H ρ, hs H ρ⟩⟩
theorem kv_tup {K : PySem.W.Frag} {a : Addr} {its : Array Value} {n : Nat} {sl : Array (Option Value)} {ds : List D} (h : K.lookup a = some ⟨.type "tuple", none, .seq its n, sl⟩) (hz : its.size ≤ 1000) (r : KVs K ds its.toList) : KV K (.tup ds) (.ref a) := by
  obtain ⟨vs, rs, hs⟩ := r.out
  exact ⟨⟨.ref a, rfl, fun H ρ => ⟨a, vs, rfl, .inr ⟨_, its, n, h, rfl, rfl, rfl, by rw [sizeLine_eq]; omega, rs⟩, hs H ρ⟩⟩⟩
theorem gc_of {K : PySem.W.Frag} {mg : Str → Option Value} {x : Str} {d : D} {u : Value} (h : mg x = some u) (k : KV K d u) : GC K mg x d := by
  obtain ⟨v, r, hv⟩ := k.ex
  exact ⟨⟨u, v, h, r, hv⟩⟩
end DL
namespace DL
open PySem PySem.Spec PyProof.Rows L2
variable [TbC]
/-! a, b = x, y -/
def sPar (i j : Nat) (f : M (List D)) : M Fl := fun σ h => (f σ h).bind fun ds h1 => match ds with | [x, y] => .ok (.nx ((σ.set i (some x)).set j (some y))) h1 | _ => .bad
theorem ds_par {X : Cx} {i j : Nat} {x y : Str} {a b : Expr} {f : M (List D)} {px py pt pos : Pos} {kt k2 pt2} (hc : X.calm = true) (hN : X.N.Nodup) (hi : X.N[i]? = some x) (hj : X.N[j]? = some y) (hij : i ≠ j)
    (hx : X.env.scope.names.lookup x = some .local) (hy : X.env.scope.names.lookup y = some .local) (ha : DA X [a, b] f)
    (hw : swappedStores [.Tuple [.Name x px, .Name y py] kt pt] (.Tuple [a, b] k2 pt2) X.env = pure (some [x, y]))
    (hs : swapsWithSole [.Tuple [.Name x px, .Name y py] kt pt] (.Tuple [a, b] k2 pt2) pos.line X.env = pure false := by rfl) :
    DS X (.Assign [.Tuple [.Name x px, .Name y py] kt pt] (.Tuple [a, b] k2 pt2) pos) (sPar i j f) := ⟨psI (ps_par hc hN hi hj hij hx hy ha.run hw hs) fun E σ H q => by
  obtain ⟨σd, h, ρ, re, rh, p⟩ := q
  refine ⟨σd, h, ρ, re, rh, p.bind.mono fun vs H1 ⟨ds, h1, ρ1, e1, rh1, r1, p1⟩ => ?_⟩
  split at p1
  case h_2 => exact p1.elim
  rename_i dx dy
  obtain ⟨v, w, rfl, rv, rw'⟩ := r1.inv2
  exact ⟨v, w, rfl, (p1.ok rh1) _ (((re.mono e1).set i rv).set j rw')⟩⟩
end DL

set_option Elab.async false
set_option linter.all false
set_option maxRecDepth 100000
namespace DL
open PySem PySem.Spec PyProof.Rows L2
variable [TbC]
section
variable {X : Cx} {pos : Pos} {k v : Expr} {fk fv : M D}
/-! {k: v}: the new dict stands empty while the pair is made -/
def disp1 (fk fv : M D) : M D := fun σ h => (fk σ (h ++ [.dic []])).bind fun x h1 => (fv σ h1).bind fun y h2 => match keyD x, h2[h.length]? with
  | some key, some (.dic []) => .ok (.ref h.length) (h2.set h.length (.dic [(key, y)]))
  | _, _ => .bad
theorem de_disp1 (hk : DE X k fk) (hv : DE X v fv) : DE X (.Dict [some k] [v] pos) (disp1 fk fv) :=
  ⟨peI (pe_disp (pps_cons hk.run hv.run pps_nil) rfl rfl (by simp) (by simp)) fun σ H Q q => by
    obtain ⟨σd, h, ρ, re, rh, p⟩ := q
    intro a ha
    obtain ⟨x1, x2⟩ := rh.push (c := .dic []) ha (o := .dK []) rfl ⟨_, rfl, .nil⟩
    have hn : (ρ ++ [a])[h.length]? = some a := by rw [← rh.len]; simp
    refine ⟨σd, _, _, re.mono x1, x2, (p.ext x1).bind.mono fun w1 H1 ⟨x, h1, ρ1, e1, rh1, r1, p1⟩ => ?_⟩
    refine ⟨σd, h1, ρ1, (re.mono x1).mono e1, rh1, p1.bind.mono fun w2 H2 ⟨y, h2, ρ2, e2, rh2, r2, p2⟩ => ?_⟩
    split at p2
    · rename_i key hkey hcell
      have ea := e2.pre _ _ (e1.pre _ _ hn)
      obtain ⟨vs, y1, y2⟩ := rh2.at_ _ _ _ hcell ea
      have hv0 : vs = [] := List.map_eq_nil_iff.mp y2.1.symm
      subst hv0
      have hx := key_rv hkey r1
      subst hx
      obtain ⟨z1, z2⟩ := rh2.put ea (o := .dK [(key, w2)]) rfl (c := .dic [(key, y)]) ⟨_, rfl, ⟨rfl, ⟨w2, [], rfl, r2, rfl⟩⟩⟩
      exact ⟨y1, [(key, w2)], rfl, by simp, p2 _ _ _ z1 z2 ⟨a, rfl, ea⟩⟩
    · exact p2.elim⟩
end
end DL

set_option Elab.async false
set_option linter.all false
set_option maxRecDepth 100000
namespace DL
open PySem PySem.Spec PyProof.Rows L2
variable [TbC]
section
variable {prog : Program} {w : World} {A : Around} {E : Value → Shared → Prop}
theorem mxt_loop {R : Result → Shared → Prop} {it l S : Addr} {its : List Value} {ns : List Int} {d : Value} (hh : A.in1.handled = none) (hi : IntsAre its ns) (h1 : it ≠ S) (h2 : l ≠ S) (h3 : l ≠ it) :
    ∀ (k j : Nat) (s : Shared) (vs : Array Value) (c : Nat), its.length - j = k → j ≤ its.length → s.heap.IsTupleIter it l j → s.heap.IsTuple l its.toArray →
    s.heap.get? S = some { cls := .type "list", dict := none, data := .seq vs c, slots := #[] } → ((j = 0 ∧ vs = #[]) ∨ ∃ m t, vs = #[.int m t, .int m t] ∧ Mx (ns.take j) m) →
    (∀ v h' tk, (∀ b o, b ≠ it → b ≠ S → s.heap.get? b = some o → h'.get? b = some o) → ((ns = [] ∧ v = d) ∨ ∃ m t, v = .int m t ∧ Mx ns m) → R (.ok (.ret v)) { s with heap := h', toks := tk }) →
    codeAny (model prog w) A (.builtin "max.loop" ⟨[.ref it, .none, .ref S], [("default", d)]⟩) R s := by
  have nm : (toString "max" ++ toString ".loop" : String) = "max.loop" := by decide
  have hlen : its.length = ns.length := hi.length
  intro k
  induction k with
  | zero =>
    intro j s vs c hk hj st hl hS hv hR
    have ej : j = its.length := by omega
    apply codeAny_builtin F.entry_max_loop
    rw [Around.under_plainId F.plain_max_loop _]
    show wpAny _ A.in1 (seqItems? (.ref S) >>= _) _ _ s
    apply wpAny_bind
    apply wpAny_seqItems hS rfl
    show wpAny _ A.in1 (tryCatch (pyNext (.ref it)) _ >>= _) _ _ s
    apply wpAny_bind
    apply wpAny_tryCatch
    refine wpAny_pyNext_tuple_end hh st hl (by rw [ej]; simp) fun h' eb => ?_
    have hS' := eb S _ (Ne.symm h1) hS
    rcases hv with ⟨e0, rfl⟩ | ⟨m, t, rfl, hm⟩
    · show wpAny _ A.in1 (rule _ >>= _) _ _ _
      refine wpAny_bind (wpAny_rule ?_)
      refine wpAny_pure (hR d h' s.toks (fun b o n1 n2 e => eb b o n1 e) (.inl ⟨?_, rfl⟩))
      apply List.length_eq_zero_iff.mp
      omega
    · show wpAny _ A.in1 (updateSeq S (fun _ => #[]) >>= _) _ _ _
      apply wpAny_bind
      refine wpAny_updateSeq hS' rfl (wpAny_bind (wpAny_letGo (wpAny_pure ?_)))
      refine hR (.int m t) _ s.toks (fun b o n1 n2 e => (Heap.get?_update_other _ _ (Ne.symm n2)).trans (eb b o n1 e)) (.inr ⟨m, t, rfl, ?_⟩)
      rw [ej, hlen, List.take_length] at hm
      exact hm
  | succ k ih =>
    intro j s vs c hk hj st hl hS hv hR
    have hlt : j < its.length := by omega
    have hltn : j < ns.length := by omega
    obtain ⟨t, et⟩ : ∃ t, its[j]? = some (.int ns[j] t) := by
      obtain ⟨u, e1, e2⟩ := (vals_of_ints hi).get (i := j) (x := .int ns[j]) (by simp [hltn])
      obtain ⟨t, rfl⟩ := e2
      exact ⟨t, e1⟩
    have ht : ns.take (j + 1) = ns.take j ++ [ns[j]] := by rw [List.take_add_one]; simp [hltn]
    apply codeAny_builtin F.entry_max_loop
    rw [Around.under_plainId F.plain_max_loop _]
    show wpAny _ A.in1 (seqItems? (.ref S) >>= _) _ _ s
    apply wpAny_bind
    apply wpAny_seqItems hS rfl
    show wpAny _ A.in1 (tryCatch (pyNext (.ref it)) _ >>= _) _ _ s
    apply wpAny_bind
    apply wpAny_tryCatch
    refine wpAny_pyNext_tuple_item st hl (x := .int ns[j] t) (by simpa using et) fun h' st' sb => ?_
    have hS' := (sb.2 S (Ne.symm h1)).trans hS
    have hl' : h'.IsTuple l its.toArray := by
      obtain ⟨o, e, r⟩ := hl
      exact ⟨o, (sb.2 l h3).trans e, r⟩
    rcases hv with ⟨e0, rfl⟩ | ⟨m, tm, rfl, hm⟩
    · show wpAny _ A.in1 (updateSeq S (fun _ => #[.int ns[j] t, .int ns[j] t]) >>= _) _ _ _
      apply wpAny_bind
      refine wpAny_updateSeq hS' rfl ?_
      rw [nm]
      refine wpAny_pure ⟨plainId_quiet F.plain_max_loop _, ih (j + 1) _ _ _ (by omega) hlt ?_ ?_ (Heap.get?_update_self _ hS' rfl) (.inr ⟨ns[j], t, rfl, ?_⟩) fun v h'' tk kp hv => ?_⟩
      · obtain ⟨o, e, r⟩ := st'
        exact ⟨o, (Heap.get?_update_other _ _ (Ne.symm h1)).trans e, r⟩
      · obtain ⟨o, e, r⟩ := hl'
        exact ⟨o, (Heap.get?_update_other _ _ (Ne.symm h2)).trans e, r⟩
      · rw [ht, show ns.take j = [] by simp [e0]]
        exact ⟨by simp, fun y hy => by simp at hy; omega⟩
      · exact hR v h'' tk (fun b o n1 n2 e => kp b o n1 n2 ((Heap.get?_update_other _ _ (Ne.symm n2)).trans ((sb.2 b n1).trans e))) hv
    · show wpAny _ A.in1 (tryCatch (holding [.int ns[j] t, .int ns[j] t] (richCompare .Gt (.int ns[j] t) (.int m tm) >>= _)) _ >>= _) _ _ _
      apply wpAny_bind
      apply wpAny_tryCatch
      apply wpAny_holding
      apply wpAny_bind
      refine CmpOf.ints_gt (P := fun i v => ∃ t, v = .int (if i = 0 then ns[j] else m) t) (fun i => if i = 0 then ns[j] else m) (fun _ _ x => x) 0 1 _ _ _ _ _ ⟨t, rfl⟩ ⟨tm, rfl⟩ ?_
      refine wpAny_bind (wpAny_holding (wpAny_truthy_bool ?_))
      refine wpAny_bind (wpAny_letGo (wpAny_pure ?_))
      have eb : (fun i j_1 : Nat => decide ((if i = 0 then ns[j] else m) > if j_1 = 0 then ns[j] else m)) 0 1 = decide (ns[j] > m) := by simp
      rw [eb]
      by_cases hgt : ns[j] > m
      · rw [decide_eq_true hgt]
        simp only [if_true]
        apply wpAny_bind
        refine wpAny_updateSeq hS' rfl (wpAny_bind (wpAny_letGo ?_))
        rw [nm]
        refine wpAny_pure ⟨plainId_quiet F.plain_max_loop _, ih (j + 1) _ _ _ (by omega) hlt ?_ ?_ (Heap.get?_update_self _ hS' rfl) (.inr ⟨ns[j], t, rfl, ?_⟩) fun v h'' tk kp hv => ?_⟩
        · obtain ⟨o, e, r⟩ := st'
          exact ⟨o, (Heap.get?_update_other _ _ (Ne.symm h1)).trans e, r⟩
        · obtain ⟨o, e, r⟩ := hl'
          exact ⟨o, (Heap.get?_update_other _ _ (Ne.symm h2)).trans e, r⟩
        · rw [ht]
          refine ⟨List.mem_append_right _ List.mem_cons_self, fun y hy => ?_⟩
          rcases List.mem_append.mp hy with q | q
          · have := hm.2 y q; omega
          · simp at q; omega
        · exact hR v h'' tk (fun b o n1 n2 e => kp b o n1 n2 ((Heap.get?_update_other _ _ (Ne.symm n2)).trans ((sb.2 b n1).trans e))) hv
      · rw [decide_eq_false hgt]
        simp only [Bool.false_eq_true, if_false]
        refine wpAny_bind (wpAny_letGo ?_)
        rw [nm]
        refine wpAny_pure ⟨plainId_quiet F.plain_max_loop _, ih (j + 1) _ _ _ (by omega) hlt st' hl' hS' (.inr ⟨m, tm, rfl, ?_⟩) fun v h'' tk kp hv => ?_⟩
        · rw [ht]
          refine ⟨List.mem_append_left _ hm.1, fun y hy => ?_⟩
          rcases List.mem_append.mp hy with q | q
          · exact hm.2 y q
          · simp at q; omega
        · exact hR v h'' tk (fun b o n1 n2 e => kp b o n1 n2 ((sb.2 b n1).trans e)) hv
/-- max(l, default=d) -/
theorem mxt_call {l : Addr} {its : List Value} {ns : List Int} {d : Value} {s : Shared} {Q : Value → Shared → Prop} (hh : A.handled = none) (hi : IntsAre its ns) (hl : s.heap.IsTuple l its.toArray)
    (hQ : ∀ v h' tk, (∀ b o, s.heap.get? b = some o → h'.get? b = some o) → ((ns = [] ∧ v = d) ∨ ∃ m t, v = .int m t ∧ Mx ns m) → Q v { s with heap := h', toks := tk }) : wpAny (model prog w) A (call (.builtin "max") [.ref l] [(Str.ofString "default", d)]) Q E s := by
  have nm : (toString "max" ++ toString ".loop" : String) = "max.loop" := by decide
  have lt : l < s.heap.objs.size := by obtain ⟨_, e, _⟩ := hl; exact Heap.lt_size e
  refine tree_kw F.kind_max F.plain_max F.entry_max (args_maxd _ _) ?_
  show wpAny _ A.in1 (Builtin.Builtins.bindParams "max" ["key", "default"] 0 ⟨[], [(Str.ofString "default", d)]⟩ >>= _) _ _ s
  refine wpAny_bind (wpAny_of_eq (show Builtin.Builtins.bindParams "max" ["key", "default"] 0 ⟨[], [(Str.ofString "default", d)]⟩ = pure [none, some d] from rfl) ?_)
  refine wpAny_bind (wpAny_pure ?_)
  apply wpAny_bind
  refine wpAny_pyIter_tuple hl ?_
  refine wpAny_bind (wpAny_newObj_type ?_)
  rw [nm]
  have z1 : (s.heap.push { cls := .type "tuple_iterator", data := .fields #[.ref l, .int 0 0] }).objs.size = s.heap.objs.size + 1 := Heap.size_push ..
  refine wpAny_pure ⟨plainId_quiet F.plain_max_loop _, mxt_loop hh hi (it := s.heap.objs.size) (l := l) ?_ ?_ ?_ its.length 0 _ #[] _ rfl (Nat.zero_le _) ?_ ?_ (Heap.get?_push_size _ rfl) (.inl ⟨rfl, rfl⟩) fun v h' tk kp hv => ?_⟩
  · rw [z1]; exact Nat.ne_of_lt (Nat.lt_succ_self _)
  · rw [z1]; exact Nat.ne_of_lt (Nat.lt_succ_of_lt lt)
  · exact Nat.ne_of_lt lt
  · refine ⟨_, Heap.get?_push_of_some _ (Heap.get?_push_size _ rfl), rfl, rfl⟩
  · obtain ⟨o, e, r⟩ := hl
    exact ⟨o, Heap.get?_push_of_some _ (Heap.get?_push_of_some _ e), r⟩
  · refine hQ v h' tk (fun b o e => kp b o ?_ ?_ (Heap.get?_push_of_some _ (Heap.get?_push_of_some _ e))) hv
    · exact Nat.ne_of_lt (Heap.lt_size e)
    · rw [z1]; exact Nat.ne_of_lt (Nat.lt_succ_of_lt (Heap.lt_size e))
end
/-! max(e, default=a), e a list or a tuple of whole numbers -/
section
variable {X : Cx} {pos pos' p apos cpos : Pos} {x : Str} {e a b c : Expr} {fe fa fb fc : M D}
def rMaxDv (K : PySem.W.Frag) : List V → List V → Hp → VK → Prop := fun vs zs H Q => ∃ a ns d, vs = [V.ref a] ∧ zs = [d] ∧ (SqL K H a (ns.map V.int) ∨ SqT K H a (ns.map V.int)) ∧ (ns = [] → Q d H) ∧ ∀ m, Mx ns m → Q (.int m) H
theorem cr_maxDv (hc : X.calm = true) : CallRK X (.builtin "max") [Str.ofString "default"] (rMaxDv X.K) := by
  intro pins s σ H vs zs us ws Q I r rz h
  obtain ⟨a, ns, d, rfl, rfl, hs, q1, q2⟩ := h
  obtain rfl := Vals.ref1 r
  obtain ⟨w1, rfl, e1⟩ := vals1 rz
  rcases hs with hs | hs
  · obtain ⟨its, rv, hl, hz⟩ := I.list hs
    refine mx_call (I.ok.hd hc) rv.ints hl.isList fun v h' tk kp hv => ?_
    rcases hv with ⟨e, rfl⟩ | ⟨m, tm, rfl, hm⟩
    · exact ⟨d, H, I.kept kp, e1, q1 e⟩
    · exact ⟨.int m, H, I.kept kp, ⟨_, rfl⟩, q2 m hm⟩
  · obtain ⟨its, rv, hl, hz⟩ := I.tuple hs
    refine mxt_call (I.ok.hd hc) rv.ints hl fun v h' tk kp hv => ?_
    rcases hv with ⟨e, rfl⟩ | ⟨m, tm, rfl, hm⟩
    · exact ⟨d, H, I.kept kp, e1, q1 e⟩
    · exact ⟨.int m, H, I.kept kp, ⟨_, rfl⟩, q2 m hm⟩
def maxDv (f g : M D) : M D := fun σ h => (f σ h).bind fun x h1 => (g σ h1).bind fun d h2 => match seqOf h2 x with
  | some ds => (match intsOf ds with | some ns => (match maxL ns with | some m => .ok (.int m) h2 | none => .ok d h2) | none => .bad)
  | none => .bad
theorem de_maxDv {kp : Pos} (hg : Gl X "max") (hm : X.mg "max" = none) (hc : X.calm = true) (hf : DE X e fe) (hd : DE X a fa)
    (he : backTo pos (starEach [e] X.env) = (false, eval e X.env) :: backTo pos (starEach [] X.env) := by rfl) (hpl : (backTo pos (starEach [e] X.env)).any (·.1) = false := by rfl)
    (hall : (backToKw pos (keywordEach [⟨some (Str.ofString "default"), a, kp⟩] X.env)).all (·.1.isSome) = true := by rfl) (hnone : (backToKw pos (keywordEach [⟨some (Str.ofString "default"), a, kp⟩] X.env)).any (·.1.isNone) = false := by rfl)
    (hks : (backToKw pos (keywordEach [⟨some (Str.ofString "default"), a, kp⟩] X.env)).filterMap (·.1) = [Str.ofString "default"] := by rfl) (hs : starEach [e] X.env = (false, eval e X.env) :: starEach [] X.env := by rfl) :
    DE X (.Call (.Name "max" p) [e] [⟨some (Str.ofString "default"), a, kp⟩] pos) (maxDv fe fa) :=
  ⟨peI (pe_callBK (cr_maxDv hc) hg hm boot_max (pa_cons hf.run pa_nil hs) (pk_cons hd.run pk_nil) (by decide) (by decide) he hpl hall hnone hks) fun σ H Q q => by
    obtain ⟨σd, h, ρ, re, rh, p⟩ := q
    refine ⟨σd, h, ρ, re, rh, p.bind.mono fun v H1 ⟨x, h1, ρ1, e1, rh1, r1, p1⟩ => ?_⟩
    refine ⟨σd, h1, ρ1, re.mono e1, rh1, p1.bind.mono fun w H2 ⟨d, h2, ρ2, e2, rh2, r2, p2⟩ => ?_⟩
    split at p2
    case h_2 => exact p2.elim
    rename_i ds hs
    split at p2
    case h_2 => exact p2.elim
    rename_i ns hn
    obtain ⟨b, xs, rfl, hq, hr⟩ := seq_ok rh2 hs (RV.mono e2 _ _ r1)
    rw [intsOf_ok hn] at hr
    rw [hr.ints] at hq
    refine ⟨b, ns, w, rfl, rfl, hq.imp id SqU.sq, fun en => ?_, fun m hm => ?_⟩
    · subst en
      exact Post.ok p2 rh2 r2
    · cases em : maxL ns with
      | none =>
        cases ns with
        | nil => exact absurd hm.1 List.not_mem_nil
        | cons k r => simp only [maxL] at em; split at em <;> cases em
      | some k =>
        rw [em] at p2
        rw [max_any em hm.1 hm.2]
        exact Post.ok p2 rh2 (rfl : RV X.K H2 ρ2 (.int _) _)⟩
/-! range(i, j, c) walked -/
def rngL (i c : Int) (n : Nat) : List D := (List.range n).map fun (k : Nat) => D.int (i + (k : Int) * c)
open Classical in
noncomputable def rng3 (f g k : M D) : M Src := fun σ h => (f σ h).bind fun x h1 => (g σ h1).bind fun y h2 => (k σ h2).bind fun z h3 => match x, y, z with
  | .int i, .int j, .int c => if RgC i j c (Builtin.Range.rangeSize i j c).toNat then .ok ⟨rngL i c (Builtin.Range.rangeSize i j c).toNat, none⟩ h3 else .bad
  | _, _, _ => .bad
theorem rngC_ok {K : PySem.W.Frag} {lo c : Int} {n : Nat} {H : Hp} {ρ : List Addr} : IterOk K ⟨rngL lo c n, none⟩ (Itc lo c n) H ρ := by
  refine ⟨fun H2 ρ2 h2 i d e2 rh2 _ ed => ?_, fun H2 ρ2 h2 i e2 rh2 _ hl => by
    show n ≤ i
    simpa [rngL] using hl⟩
  simp only [rngL, List.getElem?_map, Option.map_eq_some_iff] at ed
  obtain ⟨j, ej, rfl⟩ := ed
  obtain ⟨hj, e⟩ := List.getElem?_eq_some_iff.mp ej
  simp at hj e
  subst e
  exact ⟨hj, fun v H3 ⟨e3, ev⟩ => ⟨e3, ev⟩⟩
theorem di_rng3 {tg : Expr} (hg : Gl X "range") (hm : X.mg "range" = none) (ha : DE X a fa) (hb : DE X b fb) (hc : DE X c fc)
    (hs : starEach [a, b, c] X.env = (false, eval a X.env) :: starEach [b, c] X.env := by rfl) (hpl : (backTo pos (starEach [b, c] X.env)).any (·.1) = false := by rfl)
    (hs1 : starEach [b, c] X.env = (false, eval b X.env) :: starEach [c] X.env := by rfl) (hs2 : starEach [c] X.env = (false, eval c X.env) :: starEach [] X.env := by rfl) : DI X tg (.Call (.Name "range" p) [a, b, c] [] pos) (rng3 fa fb fc) :=
  ⟨piI (pi_range3 hg hm (pa_cons ha.run (pa_cons hb.run (pa_cons hc.run pa_nil hs2) hs1) hs) hs hpl) fun σ H R q => by
    obtain ⟨σd, h, ρ, re, rh, p⟩ := q
    refine ⟨σd, h, ρ, re, rh, ?_⟩
    unfold rng3 at p
    cases e0 : fa σd h with
    | bad => rw [e0] at p; exact p.elim
    | exc y s h1 => rw [e0] at p; exact p
    | ok d1 h1 =>
      rw [e0] at p
      intro H1 ρ1 v1 e1 rh1 r1
      refine ⟨σd, h1, ρ1, re.mono e1, rh1, ?_⟩
      simp only [Res.bind] at p
      cases e3 : fb σd h1 with
      | bad => rw [e3] at p; exact p.elim
      | exc y s h2 => rw [e3] at p; exact fun H' ρ' x1 x2 => p H' ρ' (e1.trans x1) x2
      | ok d2 h2 =>
        rw [e3] at p
        intro H2 ρ2 v2 e2 rh2 r2
        refine ⟨σd, h2, ρ2, (re.mono e1).mono e2, rh2, ?_⟩
        simp only [Res.bind] at p
        cases e4 : fc σd h2 with
        | bad => rw [e4] at p; exact p.elim
        | exc y s h3 => rw [e4] at p; exact fun H' ρ' x1 x2 => p H' ρ' ((e1.trans e2).trans x1) x2
        | ok d3 h3 =>
          rw [e4] at p
          intro H3 ρ3 v3 e5 rh3 r3
          simp only [Res.bind] at p
          split at p
          · rename_i i j k
            split at p
            · rename_i hj
              cases (show v1 = .int i from r1)
              cases (show v2 = .int j from r2)
              cases (show v3 = .int k from r3)
              exact ⟨i, j, k, _, rfl, hj, p H3 ρ3 _ ((e1.trans e2).trans e5) rh3 rngC_ok⟩
            · exact p.elim
          · exact p.elim⟩
end
end DL

set_option Elab.async false
set_option linter.all false
set_option maxRecDepth 100000
namespace DL
open PySem PySem.Spec PyProof.Rows L2
variable [TbC]
/-! comprehensions with any target, and with two fors -/
def wipeD (σ : DEnv) : List Nat → DEnv
  | [] => σ
  | v :: vs => (wipeD σ vs).set v none
theorem RE.wipeL {K : PySem.W.Frag} {H : Hp} {ρ : List Addr} {σd : DEnv} {σ : L2.St} (h : RE K H ρ σd σ) : ∀ vs, RE K H ρ (wipeD σd vs) (L2.wipe σ vs)
  | [] => h
  | v :: vs => by
    have ih := RE.wipeL h vs
    refine ⟨?_, fun i d q => ?_⟩
    · show ((wipeD σd vs).set v none).length = ((L2.wipe σ vs).set v none).length
      rw [List.length_set, List.length_set]; exact ih.1
    · have q : ((wipeD σd vs).set v none)[i]? = some (some d) := q
      show ∃ w, ((L2.wipe σ vs).set v none)[i]? = some (some w) ∧ _
      by_cases e : v = i
      · subst e
        rw [List.getElem?_set] at q
        split at q
        · split at q <;> cases q
        · rename_i z; exact absurd rfl z
      · rw [List.getElem?_set_ne e] at q
        obtain ⟨w, h1, h2⟩ := ih.2 i d q
        exact ⟨w, by rw [List.getElem?_set_ne e]; exact h1, h2⟩
theorem wipe_at (σ : L2.St) (j : Nat) : ∀ vs : List Nat, (L2.wipe σ vs)[j]? = if j ∈ vs then (σ[j]?).map (fun _ => none) else σ[j]?
  | [] => by simp [L2.wipe]
  | v :: vs => by
    show ((L2.wipe σ vs).set v none)[j]? = _
    by_cases e : v = j
    · subst e
      rw [List.getElem?_set]
      simp only [if_true, List.mem_cons, true_or, wipe_length]
      by_cases hl : v < σ.length
      · simp [hl]
      · simp [hl]
    · rw [List.getElem?_set_ne e, wipe_at σ j vs]
      have : j ∈ v :: vs ↔ j ∈ vs := ⟨fun h => (List.mem_cons.mp h).resolve_left fun z => e z.symm, List.mem_cons_of_mem _⟩
      simp only [this]
theorem wipe_set {σ : L2.St} {i : Nat} {x : Option V} {vs : List Nat} (hi : i ∈ vs) : L2.wipe (σ.set i x) vs = L2.wipe σ vs := by
  apply List.ext_getElem?
  intro j
  rw [wipe_at, wipe_at]
  by_cases hj : j ∈ vs
  · rw [if_pos hj, if_pos hj, List.getElem?_set]
    by_cases e : i = j
    · subst e
      by_cases hl : i < σ.length <;> simp [hl]
    · rw [if_neg e]
  · rw [if_neg hj, if_neg hj, List.getElem?_set_ne fun e => hj (by rw [← e]; exact hi)]
theorem wipe_wipe {σ : L2.St} {vs : List Nat} : L2.wipe (L2.wipe σ vs) vs = L2.wipe σ vs := by
  apply List.ext_getElem?
  intro j
  rw [wipe_at, wipe_at]
  by_cases hj : j ∈ vs
  · rw [if_pos hj, if_pos hj]; cases σ[j]? <;> rfl
  · rw [if_neg hj, if_neg hj]
theorem wipe_sub {σ σ' : L2.St} {vs ws : List Nat} (h : ∀ i ∈ vs, i ∈ ws) (e : L2.wipe σ vs = L2.wipe σ' vs) : L2.wipe σ ws = L2.wipe σ' ws := by
  apply List.ext_getElem?
  intro j
  have q := congrArg (fun l => l[j]?) e
  simp only [wipe_at] at q ⊢
  by_cases hj : j ∈ ws
  · rw [if_pos hj, if_pos hj]
    by_cases hv : j ∈ vs
    · rwa [if_pos hv, if_pos hv] at q
    · rw [if_neg hv, if_neg hv] at q; rw [q]
  · rw [if_neg hj, if_neg hj]
    rwa [if_neg fun z => hj (h j z), if_neg fun z => hj (h j z)] at q
structure TgOk (K : PySem.W.Frag) (g : TG) (gg : D → DEnv → Option DEnv) (vs : List Nat) : Prop where
  go : ∀ (d : D) (v : V) (σd σd' : DEnv) (σ : L2.St) (H : Hp) (ρ : List Addr) (Q : L2.St → Hp → Prop), RV K H ρ d v → RE K H ρ σd σ → gg d σd = some σd' → (∀ σ', L2.wipe σ' vs = L2.wipe σ vs → RE K H ρ σd' σ' → Q σ' H) → g v σ H Q
structure TgsOk (K : PySem.W.Frag) (g : TGs) (gg : List D → DEnv → Option DEnv) (vs : List Nat) : Prop where
  go : ∀ (ds : List D) (xs : List V) (σd σd' : DEnv) (σ : L2.St) (H : Hp) (ρ : List Addr) (Q : L2.St → Hp → Prop), RVs K H ρ ds xs → RE K H ρ σd σ → gg ds σd = some σd' → (∀ σ', L2.wipe σ' vs = L2.wipe σ vs → RE K H ρ σd' σ' → Q σ' H) → g xs σ H Q
def cN (i : Nat) : D → DEnv → Option DEnv := fun d σ => some (σ.set i (some d))
def csNil : List D → DEnv → Option DEnv := fun ds σ => match ds with | [] => some σ | _ => none
def csCons (g : D → DEnv → Option DEnv) (gs : List D → DEnv → Option DEnv) : List D → DEnv → Option DEnv := fun ds σ => match ds with | d :: r => (match g d σ with | some σ1 => gs r σ1 | none => none) | [] => none
def cT (n : Nat) (gs : List D → DEnv → Option DEnv) : D → DEnv → Option DEnv := fun d σ => match d with | .tup ds => if ds.length = n then gs ds σ else none | _ => none
section
variable {K : PySem.W.Frag} {vs : List Nat}
theorem tg_name {i : Nat} (hi : i ∈ vs) : TgOk K (gName i) (cN i) vs := ⟨fun d v σd σd' σ H ρ Q rv re e k => by
  cases e
  exact k _ (wipe_set hi) (re.set i rv)⟩
theorem tgs_nil : TgsOk K gNil csNil vs := ⟨fun ds xs σd σd' σ H ρ Q rv re e k => by
  cases ds with
  | nil => cases e; exact ⟨rv, k _ rfl re⟩
  | cons _ _ => cases e⟩
theorem tgs_cons {t : TG} {u : TGs} {g : D → DEnv → Option DEnv} {gs : List D → DEnv → Option DEnv} (h1 : TgOk K t g vs) (h2 : TgsOk K u gs vs) : TgsOk K (gCons t u) (csCons g gs) vs := ⟨fun ds xs σd σd' σ H ρ Q rv re e k => by
  cases ds with
  | nil => cases e
  | cons d r =>
    obtain ⟨y, ys, rfl, r1, r2⟩ := rv
    have e : (match g d σd with | some σ1 => gs r σ1 | none => none) = some σd' := e
    cases e1 : g d σd with
    | none => rw [e1] at e; cases e
    | some σ1 =>
      rw [e1] at e
      exact ⟨y, ys, rfl, h1.go d y σd σ1 σ H ρ _ r1 re e1 fun σ2 hw re2 => h2.go r ys σ1 σd' σ2 H ρ Q r2 re2 e fun σ3 hw3 re3 => k σ3 (hw3.trans hw) re3⟩⟩
theorem tg_tup {n : Nat} {u : TGs} {gs : List D → DEnv → Option DEnv} (h : TgsOk K u gs vs) : TgOk K (gTup K n u) (cT n gs) vs := ⟨fun d v σd σd' σ H ρ Q rv re e k => by
  cases d with
  | tup ds =>
    have e : (if ds.length = n then gs ds σd else none) = some σd' := e
    split at e
    · rename_i hl
      obtain ⟨a, xs, rfl, hs, hr⟩ := rv
      exact ⟨a, xs, rfl, hs.sq, by rw [← hr.len]; exact hl, h.go ds xs σd σd' σ H ρ Q hr re e k⟩
    · cases e
  | _ => cases e⟩
end
def stepG (vs : List Nat) (gg : D → DEnv → Option DEnv) (t : M Bool) (te : M D) (σ : DEnv) : D → DHeap → Res (Option D) := fun x h => match gg x (wipeD σ vs) with
  | none => .bad
  | some σ1 => (t σ1 h).bind fun b h1 => if b = true then (te σ1 h1).bind fun y h2 => .ok (some y) h2 else .ok none h1
noncomputable def compG (src : M Src) (vs : List Nat) (gg : D → DEnv → Option DEnv) (t : M Bool) (te : M D) : M (List D) := fun σ h => (src σ h).bind fun s h1 => if s.items.length ≤ sizeLine then (loopC s (stepG vs gg t te σ) s.items h1).calm else .bad
section
variable {X : Cx} {pos pos' p apos cpos : Pos} {x : Str} {e a b o i elt tg iter tg1 iter1 : Expr} {fa fb fc fo fi fe : M D} {t t1 : M Bool}
theorem compG_rd {K : PySem.W.Frag} {Y Y' : EX} {src : M Src} {vs : List Nat} {g : TG} {gg : D → DEnv → Option DEnv} (tok : TgOk K g gg vs) {σ : L2.St} {H : Hp} {Q : VK} (q : rdC K Y (compG src vs gg t fe) σ H Q) : tLc (rdI K Y src) g (rdG K Y' RB t) (rdG K Y' (RV K) fe) vs σ H Q := by
  obtain ⟨σd, h, ρ, re, rh, p⟩ := q
  refine ⟨σd, h, ρ, re, rh, ?_⟩
  unfold compG at p
  cases e0 : src σd h with
  | bad => rw [e0] at p; exact p.elim
  | exc y s h1 => rw [e0] at p; exact p
  | ok s h1 =>
    rw [e0] at p
    simp only [Res.bind] at p
    split at p
    case isFalse => exact p.elim
    rename_i hsz
    intro H1 ρ1 J e1 rh1 iok L hL
    have hL0 : NoT H L := e1.noT rh1 hL
    refine ⟨fun i m H2 => i ≤ s.items.length ∧ m = s.items.length - i ∧ ∃ h2 ρ2 acc accV, Ext H1 ρ1 H2 ρ2 ∧ RH K H2 ρ2 h2 ∧ H2 L = some (.lst accV) ∧ L ∉ ρ2 ∧ RVs K H2 ρ2 acc accV ∧ acc.length ≤ i ∧
      ∃ ys h3, loopC s (stepG vs gg t fe σd) (s.items.drop i) h2 = .ok ys h3 ∧ PostC K Y H ρ (.ok (acc ++ ys) h3) Q, ?_, ?_⟩
    · obtain ⟨x1, x2⟩ := rh1.lay (.lst []) hL
      cases e5 : loopC s (stepG vs gg t fe σd) s.items h1 with
      | bad => rw [e5] at p; exact p.elim
      | exc y s2 h3 => rw [e5] at p; exact p.elim
      | ok ys h3 =>
        rw [e5] at p
        exact ⟨_, Nat.zero_le _, rfl, h1, ρ1, [], [], x1, x2, upd_same, fun m => (by have := rh1.mu L m; rw [hL] at this; cases this), rfl, Nat.le_refl _, ys, h3, e5, p⟩
    · rintro i m H2 ⟨hi, rfl, h2, ρ2, acc, accV, e2, rh2, hL2, nL, racc, hacc, ys, h3, el, pc⟩
      by_cases hlt : i < s.items.length
      · have ed : s.items[i]? = some s.items[i] := List.getElem?_eq_getElem hlt
        rw [drop_cons ed] at el
        unfold loopC at el
        split at el
        case isFalse => cases el
        rename_i hck
        obtain ⟨g1, g2⟩ := iok.go H2 ρ2 h2 i _ e2 rh2 hck ed
        generalize s.items[i] = d at el g2
        refine .inr ⟨g1, fun H' => i + 1 ≤ s.items.length ∧ ∃ h2 ρ2 acc accV, Ext H1 ρ1 H' ρ2 ∧ RH K H' ρ2 h2 ∧ H' L = some (.lst accV) ∧ L ∉ ρ2 ∧ RVs K H' ρ2 acc accV ∧ acc.length ≤ i + 1 ∧
          ∃ ys h3, loopC s (stepG vs gg t fe σd) (s.items.drop (i + 1)) h2 = .ok ys h3 ∧ PostC K Y H ρ (.ok (acc ++ ys) h3) Q, fun H' ⟨n1, n2⟩ => ⟨s.items.length - (i + 1), by omega, n1, rfl, n2⟩, fun v H3 y => ?_⟩
        obtain ⟨rfl, rv⟩ := g2 v H3 y
        have re2 : RE K H3 ρ2 σd σ := (re.mono e1).mono e2
        obtain ⟨G, hG⟩ : ∃ G, G = loopC s (stepG vs gg t fe σd) (s.items.drop (i + 1)) := ⟨_, rfl⟩
        rw [← hG] at el
        unfold stepG at el
        cases e5 : gg d (wipeD σd vs) with
        | none => rw [e5] at el; cases el
        | some σ1 =>
        rw [e5] at el
        refine tok.go d v (wipeD σd vs) σ1 (L2.wipe σ vs) H3 ρ2 _ rv (re2.wipeL vs) e5 fun σ2 hw rw2 => ⟨by rw [hw, wipe_wipe], ?_⟩
        refine ⟨σ1, h2, ρ2, rw2, rh2, ?_⟩
        cases e6 : t σ1 h2 with
        | bad => simp only [e6] at el; cases el
        | exc y s2 h4 => simp only [e6] at el; cases el
        | ok bt h4 =>
          simp only [e6, Res.bind] at el
          intro H4 ρ4 b4 x4 rh4 r4
          cases (show bt = b4 from r4)
          have hL4 : H4 L = some (.lst accV) := x4.keepM hL2 nL
          have nL4 : L ∉ ρ4 := fun m => (x4.fresh L m nL).m hL2 rfl
          cases bt with
          | false =>
            simp only [Bool.false_eq_true, if_false] at el ⊢
            cases e7 : G h4 with
            | bad => rw [e7] at el; cases el
            | exc y s2 h5 => rw [e7] at el; cases el
            | ok zs h5 =>
              rw [e7] at el
              rw [hG] at e7
              cases el
              exact ⟨hlt, h4, ρ4, acc, accV, e2.trans x4, rh4, x4.keepM hL2 nL, nL4, RVs.mono x4 _ _ racc, Nat.le_succ_of_le hacc, ys, h3, e7, pc⟩
          | true =>
            simp only [if_true] at el ⊢
            cases e8 : fe σ1 h4 with
            | bad => rw [e8] at el; cases el
            | exc y2 s2 h6 => rw [e8] at el; cases el
            | ok y h6 =>
              rw [e8] at el
              simp only at el
              refine ⟨σ1, h4, ρ4, rw2.mono x4, rh4, ?_⟩
              rw [e8]
              intro H6 ρ6 w6 x6 rh6 r6
              have nL6 : L ∉ ρ6 := fun m => (x6.fresh L m nL4).m hL4 rfl
              have hL6 : H6 L = some (.lst accV) := x6.keepM (x4.keepM hL2 nL) nL4
              have racc6 := RVs.mono x6 _ _ (RVs.mono x4 _ _ racc)
              refine ⟨accV, hL6, by rw [← racc.len]; omega, ?_⟩
              have kp := Kp.other (K := K) (ρ := ρ6) (o' := .lst (accV ++ [w6])) hL6 rfl
              have x7 : Ext H1 ρ1 (upd H6 L (.lst (accV ++ [w6]))) ρ6 := by
                have xx := (e2.trans x4).trans x6
                exact xx.updN (.none hL)
              cases e7 : G h6 with
              | bad => rw [e7] at el; cases el
              | exc y s2 h5 => rw [e7] at el; cases el
              | ok zs h5 =>
                rw [e7] at el
                rw [hG] at e7
                cases el
                refine ⟨hlt, h6, ρ6, acc ++ [y], accV ++ [w6], x7, rh6.other hL6 rfl nL6, upd_same, nL6, (RVs.kp kp _ _ racc6).app (RVs.one (RV.kp kp _ _ r6)), by rw [List.length_append]; exact Nat.succ_le_succ hacc, zs, h3, e7, ?_⟩
                rw [List.append_assoc]
                exact pc
      · have ei : i = s.items.length := by omega
        subst ei
        rw [List.drop_length] at el
        unfold loopC at el
        split at el
        · rename_i hck
          cases el
          rw [List.append_nil] at pc
          exact .inl ⟨iok.stop H2 ρ2 h2 _ e2 rh2 hck (Nat.le_refl _), pc H2 ρ2 L accV (e1.trans e2) rh2 hL0 hL2 nL racc⟩
        · cases el
theorem dc_compG {ifs : List Expr} {scope : Scope} {src : M Src} {own : List (Str × Nat)} {g : TG} {gg : D → DEnv → Option DEnv} (hc : X.calm = true) (hN : X.N.Nodup) (hi : DI X tg iter src) (ok : BlkOk X.N X.env.scope scope own) (tok : TgOk X.K g gg (own.map (·.2)))
    (hg : ∀ (s : Shared) (H : Hp) (C : Addr) (cl : List (Str × Addr)) (fp : List Addr), PG (X.blk s H scope (compEnvC scope cl C X.env) fp) tg g)
    (ht : ∀ (s : Shared) (H : Hp) (C : Addr) (cl : List (Str × Addr)) (fp : List Addr), DTs (X.blk s H scope (compEnvC scope cl C X.env) fp) ifs t)
    (he : ∀ (s : Shared) (H : Hp) (C : Addr) (cl : List (Str × Addr)) (fp : List Addr), DE (X.blk s H scope (compEnvC scope cl C X.env) fp) elt fe) (hs : ∀ x, foldedSetIterable iter X.env x = pure x := by intro _; rfl) :
    DC X (.ListComp elt [⟨tg, iter, ifs, 0⟩] scope pos) (compG src (own.map (·.2)) gg t fe) :=
  ⟨peI (pe_lc (tt := rdG X.K (Y0 X.mg) RB t) (te := rdG X.K (Y0 X.mg) (RV X.K) fe) hc hN hi.run ok hg (fun s H C cl fp => ptsI (ht s H C cl fp).run fun _ _ _ q => rdG.weak q) (fun s H C cl fp => peI (he s H C cl fp).run fun _ _ _ q => rdG.weak q) hs) fun σ H Q q => compG_rd tok q⟩
/-- name = [..], the names of the comprehension its own -/
theorem setC_of {f : M (List D)} {ii : Nat} {t : TE} (hk : ∀ σ H Q, rdC X.K (XY X) f σ H Q → t σ H Q) {st : Stmt} (h : PS X st (tAsg t (gName ii))) : DS X st (sSetC ii f) := ⟨psI h fun E σ H q => by
  refine hk _ _ _ ?_
  obtain ⟨σd, h, ρ, re, rh, p⟩ := q
  refine ⟨σd, h, ρ, re, rh, ?_⟩
  unfold sSetC at p
  cases e0 : f σd h with
  | bad => rw [e0] at p; exact p.elim
  | exc y s h1 => rw [e0] at p; exact p
  | ok ys h1 =>
    rw [e0] at p
    intro H' ρ' L vs x1 rh1 hL0 hL nL rvs
    obtain ⟨y1, y2⟩ := rh1.adopt x1 (c := .lst ys) hL0 hL nL ⟨_, rfl, rvs⟩
    exact p H' _ y1 y2 _ ((re.mono y1).set ii ⟨L, rfl, by rw [← rh1.len]; simp⟩)⟩
theorem ds_setCG {ifs : List Expr} {scope : Scope} {src : M Src} {own : List (Str × Nat)} {g : TG} {gg : D → DEnv → Option DEnv} {i : Nat} {y : Str} {py spos : Pos} (hc : X.calm = true) (hN : X.N.Nodup) (hy : X.N[i]? = some y) (hyl : X.env.scope.names.lookup y = some .local)
    (hsw : swapsWith (.ListComp elt [⟨tg, iter, ifs, 0⟩] scope pos) (some (.Name y py)) spos.line X.env = pure true) (hi : DI X tg iter src) (ok : BlkOk X.N X.env.scope scope own) (tok : TgOk X.K g gg (own.map (·.2)))
    (hg : ∀ (s : Shared) (H : Hp) (C : Addr) (cl : List (Str × Addr)) (fp : List Addr), PG (X.blk s H scope (compEnvC scope cl C X.env) fp) tg g)
    (ht : ∀ (s : Shared) (H : Hp) (C : Addr) (cl : List (Str × Addr)) (fp : List Addr), DTs (X.blk s H scope (compEnvC scope cl C X.env) fp) ifs t)
    (he : ∀ (s : Shared) (H : Hp) (C : Addr) (cl : List (Str × Addr)) (fp : List Addr), DE (X.blk s H scope (compEnvC scope cl C X.env) fp) elt fe) (hs : ∀ x, foldedSetIterable iter X.env x = pure x := by intro _; rfl) :
    DS X (.Assign [.Name y py] (.ListComp elt [⟨tg, iter, ifs, 0⟩] scope pos) spos) (sSetC i (compG src (own.map (·.2)) gg t fe)) :=
  setC_of (fun σ H Q q => compG_rd tok q) (ps_setLc (tt := rdG X.K (Y0 X.mg) RB t) (te := rdG X.K (Y0 X.mg) (RV X.K) fe) hc hN hy hyl hsw hi.run ok hg (fun s H C cl fp => ptsI (ht s H C cl fp).run fun _ _ _ q => rdG.weak q) (fun s H C cl fp => peI (he s H C cl fp).run fun _ _ _ q => rdG.weak q) hs)
/-! two fors -/
structure IterOkK (K : PySem.W.Frag) (s : Src) (J : It) (H : Hp) (ρ : List Addr) : Prop where
  go : ∀ H2 ρ2 h2 i d, Kp K H ρ H2 ρ2 → RH K H2 ρ2 h2 → s.chk h2 → s.items[i]? = some d → J.go i H2 ∧ ∀ v H3, J.yld i H2 v H3 → H3 = H2 ∧ RV K H2 ρ2 d v
  stop : ∀ H2 ρ2 h2 i, Kp K H ρ H2 ρ2 → RH K H2 ρ2 h2 → s.chk h2 → s.items.length ≤ i → J.stop i H2
def PostIK (K : PySem.W.Frag) (Y : EX) (H : Hp) (ρ : List Addr) (r : Res Src) (R : It → Hp → Prop) : Prop := match r with
  | .ok s h' => ∀ H' ρ' J, Ext H ρ H' ρ' → RH K H' ρ' h' → IterOkK K s J H' ρ' → R J H'
  | .bad => False
  | .exc x s h' => ∀ H' ρ', Ext H ρ H' ρ' → RH K H' ρ' h' → WishAt K Y x s H' ρ'
def rdIK (K : PySem.W.Frag) (Y : EX) (f : M Src) : TI := fun σ H R => ∃ σd h ρ, RE K H ρ σd σ ∧ RH K H ρ h ∧ PostIK K Y H ρ (f σd h) R
structure DIK (X : Cx) (tg iter : Expr) (f : M Src) : Prop where
  run : PI X tg iter (rdIK X.K (XY X) f)
theorem rdIK.weak {K : PySem.W.Frag} {Y : EX} {f : M Src} {σ : L2.St} {H : Hp} {R : It → Hp → Prop} (q : rdIK K (Y0 Y.mg) f σ H R) : rdIK K Y f σ H R := by
  obtain ⟨σd, h, ρ, re, rh, p⟩ := q
  refine ⟨σd, h, ρ, re, rh, ?_⟩
  generalize f σd h = r at p ⊢
  cases r with
  | ok a h' => exact p
  | bad => exact p
  | exc x s h' => exact fun H' ρ' x1 x2 σ' cls d re' rx => (p H' ρ' x1 x2 σ' cls d re' rx).elim
theorem dik_val {tg l : Expr} {fl : M D} (hl : DE X l fl) : DIK X tg l (srcM fl) := ⟨piI (pi_val hl.run) fun σ H R q => by
  obtain ⟨σd, h, ρ, re, rh, p⟩ := q
  refine ⟨σd, h, ρ, re, rh, ?_⟩
  unfold srcM at p
  cases e0 : fl σd h with
  | bad => rw [e0] at p; exact p.elim
  | exc y s h1 => rw [e0] at p; exact p
  | ok d h1 =>
    rw [e0] at p
    intro H1 ρ1 v e1 rh1 r1
    simp only [Res.bind] at p
    cases d with
    | tup ds =>
      obtain ⟨a, xs, rfl, hs, hr⟩ := r1
      refine .inr (.inl ⟨a, rfl, ⟨xs, hs.sq⟩, p H1 ρ1 _ e1 rh1 ⟨fun H2 ρ2 h2 i d e2 rh2 _ ed => ?_, fun H2 ρ2 h2 i e2 rh2 _ hl => ⟨xs, (e2.sqT _ _ hs).sq, by rw [← hr.len]; exact hl⟩⟩⟩)
      obtain ⟨v, ev, rv⟩ := hr.get ed
      exact ⟨⟨xs, v, (e2.sqT _ _ hs).sq, ev⟩, fun w H3 ⟨e3, y⟩ => ⟨e3, by rw [Option.some.inj ((y xs ((e2.sqT _ _ hs).sq)).symm.trans ev)]; exact RV.kp e2 _ _ rv⟩⟩
    | fl ds =>
      obtain ⟨a, xs, rfl, hs, hr⟩ := r1
      refine .inl ⟨a, rfl, ⟨xs, hs.sq⟩, p H1 ρ1 _ e1 rh1 ⟨fun H2 ρ2 h2 i d e2 rh2 _ ed => ?_, fun H2 ρ2 h2 i e2 rh2 _ hl => ⟨xs, (e2.frL _ _ hs).sq, by rw [← hr.len]; exact hl⟩⟩⟩
      obtain ⟨v, ev, rv⟩ := hr.get ed
      exact ⟨⟨xs, v, (e2.frL _ _ hs).sq, ev⟩, fun w H3 ⟨e3, y⟩ => ⟨e3, by rw [Option.some.inj ((y xs (e2.frL _ _ hs).sq).symm.trans ev)]; exact RV.kp e2 _ _ rv⟩⟩
    | ref n =>
      simp only [srcD] at p
      cases hn : h1[n]? with
      | none => rw [hn] at p; exact p.elim
      | some c =>
        cases c with
        | dic kvs => rw [hn] at p; exact p.elim
        | lst ds =>
          rw [hn] at p
          obtain ⟨a, rfl, ha⟩ := r1
          obtain ⟨xs, x1, x2⟩ := rh1.at_ _ _ _ hn ha
          refine .inl ⟨a, rfl, ⟨xs, .of x1⟩, p H1 ρ1 _ e1 rh1 ⟨fun H2 ρ2 h2 i d e2 rh2 hc ed => ?_, fun H2 ρ2 h2 i e2 rh2 hc hl => ?_⟩⟩
          · obtain ⟨ys, y1, y2⟩ := rh2.at_ _ _ _ (show h2[n]? = some (.lst ds) from hc) (e2.pre _ _ ha)
            obtain ⟨v, ev, rv⟩ := y2.get ed
            exact ⟨⟨ys, v, .of y1, ev⟩, fun w H3 ⟨e3, y⟩ => ⟨e3, by rw [Option.some.inj ((y ys (.of y1)).symm.trans ev)]; exact rv⟩⟩
          · obtain ⟨ys, y1, y2⟩ := rh2.at_ _ _ _ (show h2[n]? = some (.lst ds) from hc) (e2.pre _ _ ha)
            exact ⟨ys, .of y1, by rw [← y2.len]; exact hl⟩
    | str z =>
      cases (show v = .str z from r1)
      refine .inr (.inr ⟨z, rfl, p H1 ρ1 _ e1 rh1 ⟨fun H2 ρ2 h2 i d e2 rh2 _ ed => ?_, fun H2 ρ2 h2 i e2 rh2 _ hl => by
        show z.cps.size ≤ i
        simpa using hl⟩⟩)
      simp only [List.getElem?_map, Option.map_eq_some_iff, Array.getElem?_toList] at ed
      obtain ⟨c, ec, rfl⟩ := ed
      refine ⟨(Array.getElem?_eq_some_iff.mp ec).1, fun w H3 ⟨e3, c', ec', ew⟩ => ⟨e3, ?_⟩⟩
      rw [ec] at ec'
      cases ec'
      exact ew
    | _ => exact p.elim⟩
theorem rangeK_ok {K : PySem.W.Frag} {lo : Int} {n : Nat} {H : Hp} {ρ : List Addr} : IterOkK K ⟨rangeL lo n, none⟩ (Itr lo n) H ρ := by
  refine ⟨fun H2 ρ2 h2 i d e2 rh2 _ ed => ?_, fun H2 ρ2 h2 i e2 rh2 _ hl => by
    show n ≤ i
    simpa [rangeL] using hl⟩
  simp only [rangeL, List.getElem?_map, Option.map_eq_some_iff] at ed
  obtain ⟨j, ej, rfl⟩ := ed
  obtain ⟨hj, e⟩ := List.getElem?_eq_some_iff.mp ej
  simp at hj e
  subst e
  exact ⟨hj, fun v H3 ⟨e3, ev⟩ => ⟨e3, ev⟩⟩
theorem dik_rng1 {tg : Expr} (hg : Gl X "range") (hm : X.mg "range" = none) (ha : DE X a fa) (hs : starEach [a] X.env = [(false, eval a X.env)] := by rfl) (hs2 : starEach [a] X.env = (false, eval a X.env) :: starEach [] X.env := by rfl) : DIK X tg (.Call (.Name "range" p) [a] [] pos) (rng1 fa) :=
  ⟨piI (pi_range1 hg hm (pa_cons ha.run pa_nil hs2) hs) fun σ H R q => by
    obtain ⟨σd, h, ρ, re, rh, p⟩ := q
    refine ⟨σd, h, ρ, re, rh, ?_⟩
    unfold rng1 at p
    cases e0 : fa σd h with
    | bad => rw [e0] at p; exact p.elim
    | exc y s h1 => rw [e0] at p; exact p
    | ok d h1 =>
      rw [e0] at p
      intro H1 ρ1 v e1 rh1 r1
      simp only [Res.bind] at p
      cases d with
      | int j =>
        simp only at p
        split at p
        · rename_i hj
          cases (show v = .int j from r1)
          exact ⟨j, rfl, hj.1, hj.2, p H1 ρ1 _ e1 rh1 rangeK_ok⟩
        · exact p.elim
      | _ => exact p.elim⟩
theorem Kp.trans {K : PySem.W.Frag} {H H1 H2 : Hp} {ρ ρ1 ρ2 : List Addr} (a : Kp K H ρ H1 ρ1) (b : Kp K H1 ρ1 H2 ρ2) : Kp K H ρ H2 ρ2 := ⟨fun _ _ h => b.sqT _ _ (a.sqT _ _ h), fun _ _ h => b.frL _ _ (a.frL _ _ h), fun _ _ h => b.pre _ _ (a.pre _ _ h)⟩
open Classical in
noncomputable def loopCC (s : Src) (step : D → DHeap → Res (List D)) : List D → DHeap → Res (List D)
  | [], h => if s.chk h then .ok [] h else .bad
  | x :: r, h => if s.chk h then (step x h).bind fun ys h1 => (loopCC s step r h1).bind fun zs h2 => .ok (ys ++ zs) h2 else .bad
noncomputable def stepGG (vs : List Nat) (gg : D → DEnv → Option DEnv) (t : M Bool) (src1 : M Src) (vs1 : List Nat) (gg1 : D → DEnv → Option DEnv) (t1 : M Bool) (te : M D) (σ : DEnv) : D → DHeap → Res (List D) := fun x h => match gg x (wipeD σ vs) with
  | none => .bad
  | some σ1 => (t σ1 h).bind fun b h1 => if b = true then (src1 σ1 h1).bind fun s1 h2 => loopC s1 (stepG vs1 gg1 t1 te σ1) s1.items h2 else .ok [] h1
noncomputable def compGG (src : M Src) (vs : List Nat) (gg : D → DEnv → Option DEnv) (t : M Bool) (src1 : M Src) (vs1 : List Nat) (gg1 : D → DEnv → Option DEnv) (t1 : M Bool) (te : M D) : M (List D) := fun σ h => (src σ h).bind fun s h1 => (loopCC s (stepGG vs gg t src1 vs1 gg1 t1 te σ) s.items h1).calm.bind fun ys h2 => if ys.length ≤ sizeLine then .ok ys h2 else .bad
theorem compGG_rd {K : PySem.W.Frag} {Y Y' : EX} {src src1 : M Src} {vs vs1 : List Nat} {g g1 : TG} {gg gg1 : D → DEnv → Option DEnv} (tok : TgOk K g gg vs) (tok1 : TgOk K g1 gg1 vs1) {σ : L2.St} {H : Hp} {Q : VK} (q : rdC K Y (compGG src vs gg t src1 vs1 gg1 t1 fe) σ H Q) :
    tLc2 (rdI K Y src) g (rdG K Y' RB t) (rdIK K Y' src1) g1 (rdG K Y' RB t1) (rdG K Y' (RV K) fe) vs vs1 σ H Q := by
  obtain ⟨σd, h, ρ, re, rh, p⟩ := q
  refine ⟨σd, h, ρ, re, rh, ?_⟩
  unfold compGG at p
  cases e0 : src σd h with
  | bad => rw [e0] at p; exact p.elim
  | exc y s h1 => rw [e0] at p; exact p
  | ok s h1 =>
    rw [e0] at p
    simp only [Res.bind] at p
    intro H1 ρ1 J e1 rh1 iok L hL
    have hL0 : NoT H L := e1.noT rh1 hL
    have outer : ∀ {H2 : Hp} {ρ2 : List Addr} {zs : List V}, Ext H1 ρ1 H2 ρ2 → Ext H1 ρ1 (upd H2 L (.lst zs)) ρ2 := fun {H2 ρ2 zs} xx => by
      exact xx.updN (.none hL)
    obtain ⟨N, hN⟩ : ∃ N : Hp → Nat → Prop, N = fun H2 i => ∃ h2 ρ2 acc accV, Ext H1 ρ1 H2 ρ2 ∧ RH K H2 ρ2 h2 ∧ H2 L = some (.lst accV) ∧ L ∉ ρ2 ∧ RVs K H2 ρ2 acc accV ∧
      ∃ ys h3, loopCC s (stepGG vs gg t src1 vs1 gg1 t1 fe σd) (s.items.drop i) h2 = .ok ys h3 ∧ (acc ++ ys).length ≤ sizeLine ∧ PostC K Y H ρ (.ok (acc ++ ys) h3) Q := ⟨_, rfl⟩
    refine ⟨fun i m H2 => i ≤ s.items.length ∧ m = s.items.length - i ∧ N H2 i, ?_, ?_⟩
    · obtain ⟨x1, x2⟩ := rh1.lay (.lst []) hL
      cases e5 : loopCC s (stepGG vs gg t src1 vs1 gg1 t1 fe σd) s.items h1 with
      | bad => rw [e5] at p; exact p.elim
      | exc y s2 h3 => rw [e5] at p; exact p.elim
      | ok ys h3 =>
        rw [e5] at p
        simp only [Res.calm] at p
        split at p
        case isFalse => exact p.elim
        rename_i hys
        rw [hN]
        exact ⟨_, Nat.zero_le _, rfl, h1, ρ1, [], [], x1, x2, upd_same, fun m => (by have := rh1.mu L m; rw [hL] at this; cases this), rfl, ys, h3, e5, hys, p⟩
    · rintro i m H2 ⟨hi, rfl, hh⟩
      rw [hN] at hh
      obtain ⟨h2, ρ2, acc, accV, e2, rh2, hL2, nL, racc, ys, h3, el, hys, pc⟩ := hh
      by_cases hlt : i < s.items.length
      · have ed : s.items[i]? = some s.items[i] := List.getElem?_eq_getElem hlt
        rw [drop_cons ed] at el
        unfold loopCC at el
        split at el
        case isFalse => cases el
        rename_i hck
        obtain ⟨q1, q2⟩ := iok.go H2 ρ2 h2 i _ e2 rh2 hck ed
        generalize s.items[i] = d at el q2
        refine .inr ⟨q1, fun H' => i + 1 ≤ s.items.length ∧ N H' (i + 1), fun H' ⟨n1, n2⟩ => ⟨s.items.length - (i + 1), by omega, n1, rfl, n2⟩, fun v H3 y => ?_⟩
        obtain ⟨rfl, rv⟩ := q2 v H3 y
        have re2 : RE K H3 ρ2 σd σ := (re.mono e1).mono e2
        obtain ⟨G, hG⟩ : ∃ G, G = loopCC s (stepGG vs gg t src1 vs1 gg1 t1 fe σd) (s.items.drop (i + 1)) := ⟨_, rfl⟩
        rw [← hG] at el
        unfold stepGG at el
        cases e5 : gg d (wipeD σd vs) with
        | none => rw [e5] at el; cases el
        | some σ1 =>
        rw [e5] at el
        refine tok.go d v (wipeD σd vs) σ1 (L2.wipe σ vs) H3 ρ2 _ rv (re2.wipeL vs) e5 fun σ2 hw rw2 => ⟨by rw [hw, wipe_wipe], ?_⟩
        refine ⟨σ1, h2, ρ2, rw2, rh2, ?_⟩
        cases e6 : t σ1 h2 with
        | bad => simp only [e6] at el; cases el
        | exc y s2 h4 => simp only [e6] at el; cases el
        | ok bt h4 =>
          simp only [e6, Res.bind] at el
          intro H4 ρ4 b4 x4 rh4 r4
          cases (show bt = b4 from r4)
          have hL4 : H4 L = some (.lst accV) := x4.keepM hL2 nL
          have nL4 : L ∉ ρ4 := fun m => (x4.fresh L m nL).m hL2 rfl
          cases bt with
          | false =>
            simp only [Bool.false_eq_true, if_false] at el ⊢
            cases e7 : G h4 with
            | bad => rw [e7] at el; cases el
            | exc y s2 h5 => rw [e7] at el; cases el
            | ok zs h5 =>
              rw [e7] at el
              rw [hG] at e7
              cases el
              rw [List.nil_append] at hys pc
              rw [hN]
              exact ⟨hlt, h4, ρ4, acc, accV, e2.trans x4, rh4, hL4, nL4, RVs.mono x4 _ _ racc, zs, h3, e7, hys, pc⟩
          | true =>
            simp only [if_true] at el ⊢
            refine ⟨σ1, h4, ρ4, rw2.mono x4, rh4, ?_⟩
            cases e8 : src1 σ1 h4 with
            | bad => rw [e8] at el; cases el
            | exc y2 s2 h6 => rw [e8] at el; cases el
            | ok s1 h5 =>
              rw [e8] at el
              simp only at el
              intro H5 ρ5 J1 x5 rh5 iok1
              have hL5 : H5 L = some (.lst accV) := x5.keepM hL4 nL4
              have nL5 : L ∉ ρ5 := fun m => (x5.fresh L m nL4).m hL4 rfl
              have rw5 : RE K H5 ρ5 σ1 σ2 := (rw2.mono x4).mono x5
              have racc5 := RVs.mono x5 _ _ (RVs.mono x4 _ _ racc)
              have e25 : Ext H1 ρ1 H5 ρ5 := (e2.trans x4).trans x5
              obtain ⟨M1, hM⟩ : ∃ M1 : Hp → Nat → Prop, M1 = fun H6 j => ∃ h6 ρ6 ac acV, Ext H1 ρ1 H6 ρ6 ∧ Kp K H5 ρ5 H6 ρ6 ∧ RH K H6 ρ6 h6 ∧ H6 L = some (.lst acV) ∧ L ∉ ρ6 ∧ RVs K H6 ρ6 ac acV ∧
                ∃ us hu zs h9, loopC s1 (stepG vs1 gg1 t1 fe σ1) (s1.items.drop j) h6 = .ok us hu ∧ G hu = .ok zs h9 ∧ (ac ++ (us ++ zs)).length ≤ sizeLine ∧ PostC K Y H ρ (.ok (ac ++ (us ++ zs)) h9) Q := ⟨_, rfl⟩
              refine ⟨fun j k H6 => j ≤ s1.items.length ∧ k = s1.items.length - j ∧ M1 H6 j, ?_, ?_⟩
              · cases e9 : loopC s1 (stepG vs1 gg1 t1 fe σ1) s1.items h5 with
                | bad => rw [e9] at el; cases el
                | exc y s2 h6 => rw [e9] at el; cases el
                | ok us hu =>
                  rw [e9] at el
                  simp only at el
                  cases e10 : G hu with
                  | bad => rw [e10] at el; cases el
                  | exc y s2 h6 => rw [e10] at el; cases el
                  | ok zs h9 =>
                    rw [e10] at el
                    cases el
                    rw [hM]
                    exact ⟨_, Nat.zero_le _, rfl, h5, ρ5, acc, accV, e25, ⟨fun _ _ h => h, fun _ _ h => h, fun _ _ h => h⟩, rh5, hL5, nL5, racc5, us, hu, zs, h3, e9, e10, hys, pc⟩
              · rintro j k H6 ⟨hj, rfl, hh⟩
                rw [hM] at hh
                obtain ⟨h6, ρ6, ac, acV, e6', kp6, rh6, hL6, nL6, rac, us, hu, zs, h9, el1, eG, hz, pz⟩ := hh
                by_cases hlt1 : j < s1.items.length
                · have ed1 : s1.items[j]? = some s1.items[j] := List.getElem?_eq_getElem hlt1
                  rw [drop_cons ed1] at el1
                  unfold loopC at el1
                  split at el1
                  case isFalse => cases el1
                  rename_i hck1
                  obtain ⟨q3, q4⟩ := iok1.go H6 ρ6 h6 j _ kp6 rh6 hck1 ed1
                  generalize s1.items[j] = d1 at el1 q4
                  refine .inr ⟨q3, fun H' => j + 1 ≤ s1.items.length ∧ M1 H' (j + 1), fun H' ⟨n1, n2⟩ => ⟨s1.items.length - (j + 1), by omega, n1, rfl, n2⟩, fun v1 H7 y1 => ?_⟩
                  obtain ⟨rfl, rv1⟩ := q4 v1 H7 y1
                  have re7 : RE K H7 ρ6 σ1 σ2 := rw5.kp kp6
                  obtain ⟨G1, hG1⟩ : ∃ G1, G1 = loopC s1 (stepG vs1 gg1 t1 fe σ1) (s1.items.drop (j + 1)) := ⟨_, rfl⟩
                  rw [← hG1] at el1
                  unfold stepG at el1
                  cases e11 : gg1 d1 (wipeD σ1 vs1) with
                  | none => rw [e11] at el1; cases el1
                  | some σ3 =>
                  rw [e11] at el1
                  refine tok1.go d1 v1 (wipeD σ1 vs1) σ3 (L2.wipe σ2 vs1) H7 ρ6 _ rv1 (re7.wipeL vs1) e11 fun σ4 hw1 rw4 => ⟨by rw [hw1, wipe_wipe], ?_⟩
                  refine ⟨σ3, h6, ρ6, rw4, rh6, ?_⟩
                  cases e12 : t1 σ3 h6 with
                  | bad => simp only [e12] at el1; cases el1
                  | exc y s2 h4 => simp only [e12] at el1; cases el1
                  | ok bt1 h8 =>
                    simp only [e12, Res.bind] at el1
                    intro H8 ρ8 b8 x8 rh8 r8
                    cases (show bt1 = b8 from r8)
                    have hL8 : H8 L = some (.lst acV) := x8.keepM hL6 nL6
                    have nL8 : L ∉ ρ8 := fun m => (x8.fresh L m nL6).m hL6 rfl
                    cases bt1 with
                    | false =>
                      simp only [Bool.false_eq_true, if_false] at el1 ⊢
                      cases e13 : G1 h8 with
                      | bad => rw [e13] at el1; cases el1
                      | exc y s2 h5 => rw [e13] at el1; cases el1
                      | ok us1 hu1 =>
                        rw [e13] at el1
                        rw [hG1] at e13
                        cases el1
                        rw [hM]
                        exact ⟨hlt1, h8, ρ8, ac, acV, e6'.trans x8, kp6.trans x8.kp, rh8, hL8, nL8, RVs.mono x8 _ _ rac, us, hu, zs, h9, e13, eG, hz, pz⟩
                    | true =>
                      simp only [if_true] at el1 ⊢
                      cases e14 : fe σ3 h8 with
                      | bad => rw [e14] at el1; cases el1
                      | exc y2 s2 h6 => rw [e14] at el1; cases el1
                      | ok y10 h10 =>
                        rw [e14] at el1
                        simp only at el1
                        refine ⟨σ3, h8, ρ8, rw4.mono x8, rh8, ?_⟩
                        rw [e14]
                        intro H10 ρ10 w10 x10 rh10 r10
                        have nL10 : L ∉ ρ10 := fun m => (x10.fresh L m nL8).m hL8 rfl
                        have hL10 : H10 L = some (.lst acV) := x10.keepM hL8 nL8
                        have rac10 := RVs.mono x10 _ _ (RVs.mono x8 _ _ rac)
                        have kp := Kp.other (K := K) (ρ := ρ10) (o' := .lst (acV ++ [w10])) hL10 rfl
                        cases e13 : G1 h10 with
                        | bad => rw [e13] at el1; cases el1
                        | exc y s2 h5 => rw [e13] at el1; cases el1
                        | ok us1 hu1 =>
                          rw [e13] at el1
                          rw [hG1] at e13
                          cases el1
                          have hlz : ac.length + (1 + (us1.length + zs.length)) ≤ sizeLine := by
                            rw [List.cons_append, List.length_append, List.length_cons, List.length_append] at hz
                            omega
                          refine ⟨acV, hL10, by rw [← rac.len]; omega, ?_⟩
                          rw [hM]
                          refine ⟨hlt1, h10, ρ10, ac ++ [y10], acV ++ [w10], outer ((e6'.trans x8).trans x10), ((kp6.trans x8.kp).trans x10.kp).trans kp, rh10.other hL10 rfl nL10, upd_same, nL10, (RVs.kp kp _ _ rac10).app (RVs.one (RV.kp kp _ _ r10)), us1, hu, zs, h9, e13, eG, ?_, ?_⟩
                          · rw [List.append_assoc]; exact hz
                          · rw [List.append_assoc]; exact pz
                · have ej : j = s1.items.length := by omega
                  subst ej
                  rw [List.drop_length] at el1
                  unfold loopC at el1
                  split at el1
                  · rename_i hck1
                    cases el1
                    rw [List.nil_append] at hz pz
                    refine .inl ⟨iok1.stop H6 ρ6 h6 _ kp6 rh6 hck1 (Nat.le_refl _), ?_⟩
                    rw [hG] at eG
                    rw [hN]
                    exact ⟨hlt, h6, ρ6, ac, acV, e6', rh6, hL6, nL6, rac, zs, h9, eG, hz, pz⟩
                  · cases el1
      · have ei : i = s.items.length := by omega
        subst ei
        rw [List.drop_length] at el
        unfold loopCC at el
        split at el
        · rename_i hck
          cases el
          rw [List.append_nil] at pc
          exact .inl ⟨iok.stop H2 ρ2 h2 _ e2 rh2 hck (Nat.le_refl _), pc H2 ρ2 L accV (e1.trans e2) rh2 hL0 hL2 nL racc⟩
        · cases el
section
variable {ifs ifs1 : List Expr} {scope : Scope} {src src1 : M Src} {own : List (Str × Nat)} {vs1 : List Nat} {g g1 : TG} {gg gg1 : D → DEnv → Option DEnv}
theorem dc_compGG (hc : X.calm = true) (hN : X.N.Nodup) (hi : DI X tg iter src) (ok : BlkOk X.N X.env.scope scope own) (hv : ∀ i ∈ vs1, i ∈ own.map (·.2)) (tok : TgOk X.K g gg (own.map (·.2))) (tok1 : TgOk X.K g1 gg1 vs1)
    (hg : ∀ (s : Shared) (H : Hp) (C : Addr) (cl : List (Str × Addr)) (fp : List Addr), PG (X.blk s H scope (compEnvC scope cl C X.env) fp) tg g)
    (ht : ∀ (s : Shared) (H : Hp) (C : Addr) (cl : List (Str × Addr)) (fp : List Addr), DTs (X.blk s H scope (compEnvC scope cl C X.env) fp) ifs t)
    (hi1 : ∀ (s : Shared) (H : Hp) (C : Addr) (cl : List (Str × Addr)) (fp : List Addr), DIK (X.blk s H scope (compEnvC scope cl C X.env) fp) tg1 iter1 src1)
    (hg1 : ∀ (s : Shared) (H : Hp) (C : Addr) (cl : List (Str × Addr)) (fp : List Addr), PG (X.blk s H scope (compEnvC scope cl C X.env) fp) tg1 g1)
    (ht1 : ∀ (s : Shared) (H : Hp) (C : Addr) (cl : List (Str × Addr)) (fp : List Addr), DTs (X.blk s H scope (compEnvC scope cl C X.env) fp) ifs1 t1)
    (he : ∀ (s : Shared) (H : Hp) (C : Addr) (cl : List (Str × Addr)) (fp : List Addr), DE (X.blk s H scope (compEnvC scope cl C X.env) fp) elt fe) (hs : ∀ x, foldedSetIterable iter X.env x = pure x := by intro _; rfl) (hs1 : ∀ env x, foldedSetIterable iter1 env x = pure x := by intro _ _; rfl) :
    DC X (.ListComp elt [⟨tg, iter, ifs, 0⟩, ⟨tg1, iter1, ifs1, 0⟩] scope pos) (compGG src (own.map (·.2)) gg t src1 vs1 gg1 t1 fe) :=
  ⟨peI (pe_lc2 (tt := rdG X.K (Y0 X.mg) RB t) (wi1 := rdIK X.K (Y0 X.mg) src1) (tt1 := rdG X.K (Y0 X.mg) RB t1) (te := rdG X.K (Y0 X.mg) (RV X.K) fe) hc hN hi.run ok hv hg (fun s H C cl fp => ptsI (ht s H C cl fp).run fun _ _ _ q => rdG.weak q) (fun s H C cl fp => piI (hi1 s H C cl fp).run fun _ _ _ q => rdIK.weak q) hg1 (fun s H C cl fp => ptsI (ht1 s H C cl fp).run fun _ _ _ q => rdG.weak q) (fun s H C cl fp => peI (he s H C cl fp).run fun _ _ _ q => rdG.weak q) hs hs1) fun σ H Q q => compGG_rd tok tok1 q⟩
theorem ds_setCGG {i : Nat} {y : Str} {py spos : Pos} (hc : X.calm = true) (hN : X.N.Nodup) (hy : X.N[i]? = some y) (hyl : X.env.scope.names.lookup y = some .local)
    (hsw : swapsWith (.ListComp elt [⟨tg, iter, ifs, 0⟩, ⟨tg1, iter1, ifs1, 0⟩] scope pos) (some (.Name y py)) spos.line X.env = pure true) (hi : DI X tg iter src) (ok : BlkOk X.N X.env.scope scope own) (hv : ∀ i ∈ vs1, i ∈ own.map (·.2)) (tok : TgOk X.K g gg (own.map (·.2))) (tok1 : TgOk X.K g1 gg1 vs1)
    (hg : ∀ (s : Shared) (H : Hp) (C : Addr) (cl : List (Str × Addr)) (fp : List Addr), PG (X.blk s H scope (compEnvC scope cl C X.env) fp) tg g)
    (ht : ∀ (s : Shared) (H : Hp) (C : Addr) (cl : List (Str × Addr)) (fp : List Addr), DTs (X.blk s H scope (compEnvC scope cl C X.env) fp) ifs t)
    (hi1 : ∀ (s : Shared) (H : Hp) (C : Addr) (cl : List (Str × Addr)) (fp : List Addr), DIK (X.blk s H scope (compEnvC scope cl C X.env) fp) tg1 iter1 src1)
    (hg1 : ∀ (s : Shared) (H : Hp) (C : Addr) (cl : List (Str × Addr)) (fp : List Addr), PG (X.blk s H scope (compEnvC scope cl C X.env) fp) tg1 g1)
    (ht1 : ∀ (s : Shared) (H : Hp) (C : Addr) (cl : List (Str × Addr)) (fp : List Addr), DTs (X.blk s H scope (compEnvC scope cl C X.env) fp) ifs1 t1)
    (he : ∀ (s : Shared) (H : Hp) (C : Addr) (cl : List (Str × Addr)) (fp : List Addr), DE (X.blk s H scope (compEnvC scope cl C X.env) fp) elt fe) (hs : ∀ x, foldedSetIterable iter X.env x = pure x := by intro _; rfl) (hs1 : ∀ env x, foldedSetIterable iter1 env x = pure x := by intro _ _; rfl) :
    DS X (.Assign [.Name y py] (.ListComp elt [⟨tg, iter, ifs, 0⟩, ⟨tg1, iter1, ifs1, 0⟩] scope pos) spos) (sSetC i (compGG src (own.map (·.2)) gg t src1 vs1 gg1 t1 fe)) :=
  setC_of (fun σ H Q q => compGG_rd tok tok1 q) (ps_setLc2 (tt := rdG X.K (Y0 X.mg) RB t) (wi1 := rdIK X.K (Y0 X.mg) src1) (tt1 := rdG X.K (Y0 X.mg) RB t1) (te := rdG X.K (Y0 X.mg) (RV X.K) fe) hc hN hy hyl hsw hi.run ok hv hg (fun s H C cl fp => ptsI (ht s H C cl fp).run fun _ _ _ q => rdG.weak q) (fun s H C cl fp => piI (hi1 s H C cl fp).run fun _ _ _ q => rdIK.weak q) hg1 (fun s H C cl fp => ptsI (ht1 s H C cl fp).run fun _ _ _ q => rdG.weak q) (fun s H C cl fp => peI (he s H C cl fp).run fun _ _ _ q => rdG.weak q) hs hs1)
end
end
end DL

set_option Elab.async false
set_option linter.all false
set_option maxRecDepth 100000
namespace DL
open PySem PySem.Spec PyProof.Rows L2
variable [TbC]
/-! {k: v, ..}: several pairs; the new dict stands empty while they are made -/
def dispGo : List (M D × M D) → DEnv → DHeap → Res (List (Key × D))
  | [], _, h => .ok [] h
  | p :: r, σ, h => (p.1 σ h).bind fun x h1 => (p.2 σ h1).bind fun y h2 => (dispGo r σ h2).bind fun l h3 => match keyD x with | some k => .ok ((k, y) :: l) h3 | none => .bad
def putAll (l : List (Key × D)) : List (Key × D) := l.foldl (fun a p => putD a p.1 p.2) []
def dispN (ps : List (M D × M D)) : M D := fun σ h => (dispGo ps σ (h ++ [.dic []])).bind fun l h1 => match h1[h.length]? with
  | some (.dic []) => .ok (.ref h.length) (h1.set h.length (.dic (putAll l)))
  | _ => .bad
def RPs (K : PySem.W.Frag) (H : Hp) (ρ : List Addr) (l : List (Key × D)) (vs : List (V × V)) : Prop := ∃ kvs : List (Key × V), vs = kvs.map (fun kv => (kV kv.1, kv.2)) ∧ RKVs K H ρ l kvs
def trsD (K : PySem.W.Frag) (Y : EX) (ps : List (M D × M D)) : List (TE × TE) := ps.map fun p => (rdG K Y (RV K) p.1, rdG K Y (RV K) p.2)
theorem tp_of {K : PySem.W.Frag} {Y : EX} {σ : L2.St} {σd : DEnv} : ∀ (ps : List (M D × M D)) {H : Hp} {ρ : List Addr} {h : DHeap} {Q : List (V × V) → Hp → Prop}, RE K H ρ σd σ → RH K H ρ h → Post K Y H ρ (RPs K) (dispGo ps σd h) Q → tPairs (trsD K Y ps) σ H Q
  | [], H, ρ, h, Q, re, rh, p => Post.ok p rh ⟨[], rfl, rfl, rfl⟩
  | pp :: r, H, ρ, h, Q, re, rh, p => by
    refine ⟨σd, h, ρ, re, rh, (Post.bind (R := RV K) p).mono fun x H1 ⟨dx, h1, ρ1, e1, rh1, r1, p1⟩ => ?_⟩
    refine ⟨σd, h1, ρ1, re.mono e1, rh1, (Post.bind (R := RV K) p1).mono fun y H2 ⟨dy, h2, ρ2, e2, rh2, r2, p2⟩ => ?_⟩
    refine tp_of r ((re.mono e1).mono e2) rh2 ((Post.bind (R := RPs K) p2).mono fun l' H3 ⟨l, h3, ρ3, e3, rh3, r3, p3⟩ => ?_)
    cases hk : keyD dx with
    | none => rw [hk] at p3; exact p3.elim
    | some k =>
      rw [hk] at p3
      obtain ⟨kvs, rfl, q1, q2⟩ := r3
      have hx := key_rv hk r1
      subst hx
      exact Post.ok p3 rh3 ⟨(k, y) :: kvs, rfl, by rw [List.map_cons, List.map_cons, q1], y, kvs.map (·.2), rfl, RV.mono e3 _ _ r2, q2⟩
theorem putAll_rv {K : PySem.W.Frag} {H : Hp} {ρ : List Addr} : ∀ {l : List (Key × D)} {vs : List (Key × V)} {a : List (Key × D)} {b : List (Key × V)}, RKVs K H ρ l vs → RKVs K H ρ a b → RKVs K H ρ (l.foldl (fun a p => putD a p.1 p.2) a) (mergeK b vs)
  | [], vs, a, b, h, g => by
    have : vs = [] := List.map_eq_nil_iff.mp h.1.symm
    subst this
    exact g
  | p :: l, vs, a, b, h, g => by
    obtain ⟨h1, h2⟩ := h
    cases vs with
    | nil => cases h1
    | cons q vs =>
      rw [List.map_cons, List.map_cons] at h1 h2
      obtain ⟨e1, e2⟩ := List.cons.inj h1
      obtain ⟨y, ys, e3, r1, r2⟩ := h2
      obtain ⟨e4, e5⟩ := List.cons.inj e3
      show RKVs K H ρ (l.foldl _ (putD a p.1 p.2)) (mergeK (putK b q.1 q.2) vs)
      refine putAll_rv ⟨e2, by rw [e5]; exact r2⟩ ?_
      rw [← e1]
      exact RKVs.put p.1 (by rw [e4]; exact r1) g
section
variable {X : Cx} {pos : Pos} {k v : Expr} {fk fv : M D}
structure DPs (X : Cx) (pos : Pos) (keys : List (Option Expr)) (values : List Expr) (ps : List (M D × M D)) : Prop where
  run : PPs X pos keys values (trsD X.K (XY X) ps)
theorem dps_nil : DPs X pos [] [] [] := ⟨pps_nil⟩
theorem dps_cons {ks : List (Option Expr)} {vs : List Expr} {ps : List (M D × M D)} (hk : DE X k fk) (hv : DE X v fv) (hr : DPs X pos ks vs ps) : DPs X pos (some k :: ks) (v :: vs) ((fk, fv) :: ps) := ⟨pps_cons hk.run hv.run hr.run⟩
theorem dispGo_len : ∀ {ps : List (M D × M D)} {σ : DEnv} {h h' : DHeap} {l : List (Key × D)}, dispGo ps σ h = .ok l h' → l.length = ps.length
  | [], _, _, _, _, e => by cases e; rfl
  | p :: r, σ, h, h', l, e => by
    unfold dispGo at e
    cases e1 : p.1 σ h with
    | bad => rw [e1] at e; cases e
    | exc _ _ _ => rw [e1] at e; cases e
    | ok x h1 =>
      rw [e1] at e
      simp only [Res.bind] at e
      cases e2 : p.2 σ h1 with
      | bad => rw [e2] at e; cases e
      | exc _ _ _ => rw [e2] at e; cases e
      | ok y h2 =>
        rw [e2] at e
        simp only at e
        cases e3 : dispGo r σ h2 with
        | bad => rw [e3] at e; cases e
        | exc _ _ _ => rw [e3] at e; cases e
        | ok l2 h3 =>
          rw [e3] at e
          simp only at e
          split at e
          · cases e; rw [List.length_cons, dispGo_len e3]; rfl
          · cases e
theorem de_dispN {keys : List (Option Expr)} {values : List Expr} {ps : List (M D × M D)} (h : DPs X pos keys values ps) (hall : keys.all (·.isSome) = true) (hl : keys.length = values.length) (h0 : keys ≠ []) (h15 : keys.length ≤ 15) (hps : ps.length ≤ 15) : DE X (.Dict keys values pos) (dispN ps) :=
  ⟨peI (pe_disp h.run hall hl h0 h15) fun σ H Q q => by
    obtain ⟨σd, h, ρ, re, rh, p⟩ := q
    intro a ha
    obtain ⟨x1, x2⟩ := rh.push (c := .dic []) ha (o := .dK []) rfl ⟨_, rfl, .nil⟩
    have hn : (ρ ++ [a])[h.length]? = some a := by rw [← rh.len]; simp
    refine tp_of ps (re.mono x1) x2 ?_
    unfold dispN at p
    have hlen := fun l h' (e : dispGo ps σd (h ++ [.dic []]) = .ok l h') => dispGo_len e
    generalize dispGo ps σd (h ++ [.dic []]) = r at p hlen ⊢
    cases r with
    | bad => exact p.elim
    | exc x s h' => exact fun H' ρ' y1 y2 => p H' ρ' (x1.trans y1) y2
    | ok l h1 =>
      have hl2 := hlen l h1 rfl
      simp only [Res.bind] at p
      intro H1 ρ1 vs e1 rh1 r1
      split at p
      · rename_i hcell
        have ea := e1.pre _ _ hn
        obtain ⟨ws, y1, y2⟩ := rh1.at_ _ _ _ hcell ea
        have hv0 : ws = [] := List.map_eq_nil_iff.mp y2.1.symm
        subst hv0
        obtain ⟨kvs, rfl, rk⟩ := r1
        have hk15 : kvs.length ≤ 15 := by
          have q := congrArg List.length rk.1
          rw [List.length_map, List.length_map] at q
          omega
        obtain ⟨z1, z2⟩ := rh1.put ea (o := .dK (mergeK [] kvs)) rfl (c := .dic (putAll l)) ⟨_, rfl, putAll_rv rk .nil⟩
        exact ⟨y1, kvs, rfl, hk15, p _ _ _ ((x1.trans e1).trans z1) z2 ⟨a, rfl, ea⟩⟩
      · exact p.elim⟩
end
end DL

set_option Elab.async false
set_option linter.all false
set_option maxRecDepth 100000
namespace DL
open PySem PySem.Spec PyProof.Rows L2
variable [TbC]
/-! unary minus -/
def negM (f : M D) : M D := fun σ h => (f σ h).bind fun x h1 => match x with | .int i => .ok (.int (-i)) h1 | _ => .bad
section
variable {X : Cx} {pos : Pos} {a : Expr} {fa : M D}
theorem de_neg (ha : DE X a fa) : DE X (.UnaryOp .USub a pos) (negM fa) :=
  ⟨peI (pe_un un_neg ha.run) fun σ H Q q => by
    obtain ⟨σd, h, ρ, re, rh, p⟩ := q
    refine ⟨σd, h, ρ, re, rh, p.bind.mono fun x H1 ⟨d, h1, ρ1, e1, rh1, r1, p1⟩ => ?_⟩
    cases d with
    | int i => exact ⟨i, r1, Post.ok p1 rh1 (rfl : RV X.K H1 ρ1 (.int (-i)) (.int (-i)))⟩
    | _ => exact p1.elim⟩
end
end DL

set_option Elab.async false
set_option linter.all false
set_option maxRecDepth 100000
set_option maxHeartbeats 4000000
namespace DL
open PySem PySem.Spec PyProof.Rows L2
/-! sorted(rows, key=lambda r: r[0]): rows that begin with a text -/
def rowKey : D → PyData
  | .tup (.str x :: _) => .str x
  | _ => .none
def isRow : D → Bool
  | .tup (.str _ :: _) => true
  | _ => false
def srtRows (ds : List D) : List D := ds.mergeSort (PySem.W.dataLe false rowKey)
def srtK (f : M D) : M D := fun σ h => (f σ h).bind fun d h1 => match d with
  | .ref n => match h1[n]? with
    | some (.lst ds) => if ds.all isRow = true then .ok (.ref h1.length) (h1 ++ [.lst (srtRows ds)]) else .bad
    | _ => .bad
  | _ => .bad
variable [TbC]
variable {X : Cx}
theorem isRow_at {d : D} (h : isRow d = true) : ∃ x r, d = .tup (.str x :: r) := by
  unfold isRow at h
  split at h
  · exact ⟨_, _, rfl⟩
  · cases h
/-- a row, behind its value -/
def RowAt (K : PySem.W.Frag) (H : Hp) (ρ : List Addr) (v : Value) (d : D) : Prop := ∃ x : V, RelV x v ∧ RV K H ρ d x
theorem rows_each {K : PySem.W.Frag} {H : Hp} {ρ : List Addr} : ∀ {ds : List D} {xs : List V} {us : List Value}, RVs K H ρ ds xs → Vals xs us → PySem.W.EachIs (RowAt K H ρ) us ds
  | [], xs, us, h, r => by
    cases (show xs = [] from h)
    cases r
    exact .nil
  | d :: ds, xs, us, h, r => by
    obtain ⟨y, ys, rfl, h2, h3⟩ := h
    cases r with
    | cons r1 r2 => exact .cons ⟨y, r1, h2⟩ (rows_each h3 r2)
theorem rows_back {K : PySem.W.Frag} {H : Hp} {ρ : List Addr} : ∀ {ds : List D} {us : List Value}, PySem.W.EachIs (RowAt K H ρ) us ds → ∃ xs, RVs K H ρ ds xs ∧ Vals xs us
  | [], _, .nil => ⟨[], rfl, .nil⟩
  | _ :: _, _, .cons ⟨y, r1, h2⟩ t => by
    obtain ⟨xs, a, b⟩ := rows_back t
    exact ⟨y :: xs, ⟨y, xs, rfl, h2, a⟩, .cons r1 b⟩
/-- the name of a lambda in the def x -/
abbrev lamQ (x : Str) : Str := (x ++ ".<locals>.") ++ "<lambda>"
/-- what is known of the def that makes the key's function: its code object and the table there -/
structure LamOk (base : Heap) (K : PySem.W.Frag) (mg : Str → Option Value) (f : Addr) (q : Str) : Prop where
  ex : ∃ C P, CodeAt K f (.ref C) ∧ LamX.TabB base mg C P ∧ (P, q) ∈ TbC.tabs ∧ ∀ p ∈ TbC.tabs, p.1 = P → p.2 = q
theorem CodeAt.uniq {K : PySem.W.Frag} {f : Addr} {a b : Value} (x : CodeAt K f a) (y : CodeAt K f b) : a = b := by
  obtain ⟨o, fd, h1, h2, h3⟩ := x
  obtain ⟨o', fd', k1, k2, k3⟩ := y
  rw [h1] at k1
  cases k1
  rw [h2] at k2
  cases k2
  rw [← h3, ← k3]
/-- the key's function: one parameter, no cells -/
structure KeyS (scope : Scope) (x : Str) : Prop where
  kind : scope.kind = .function
  co : scope.isCoroutine = false
  gen : scope.isGenerator = false
  nocell : ∀ y ∈ scope.names, y.2 ≠ .cell
  nofree : ∀ y ∈ scope.names, y.2 ≠ .free
  loc : scope.names.lookup x = some .local
section
variable {prog : Program} {w : World} {A : Around}
/-- r[0] for a tuple r that begins with a text -/
theorem key_turn {x q : Str} {f c' ta : Addr} {params : Arguments} {scope : Scope} {pm ctv : Value} {cl : List (Str × Addr)} {p1 p2 p3 : Pos} {j : Nat} {its : Array Value} {z : Str} {tz : Tok} {s : Shared} (S : KeyS scope x)
    (hd : A.depth < recursionLimit) (lim : s.heap.NoLimit) (hf : s.heap.get? f = some (PySem.W.kla_obj "<lambda>" q params (.Subscript (.Name x p1) (.Constant (.int 0) j p2) p3) scope cl pm c' ctv))
    (hcr : s.heap.CodeRec (.ref c') q) (hbind : bindArgs (PySem.W.kla_fn "<lambda>" q params (.Subscript (.Name x p1) (.Constant (.int 0) j p2) p3) scope cl pm (.ref c') ctv) ⟨[.ref ta], []⟩ = pure [(x, .ref ta)])
    (ht : IsTup s.heap ta its) (hz : its[0]? = some (.str z tz)) (hx : (x == ("__debug__" : Str)) = false := by decide) :
    wpAny (model prog w) A (call (.ref f) [.ref ta]) (PySem.W.KeyPure (.str z) s) (fun _ _ => False) s := by
  refine wpAny_call (PySem.W.kla_callFunE hd hf rfl S.co S.gen rfl hcr ?_)
  rw [hbind]
  refine wpAny_pure (wpAny_newFunctionEnv S.nocell (fun y hy => by rw [List.mem_singleton.mp hy]; exact S.loc) (fun h₁ hns hsb => ⟨lim.fresh _ hsb, ?_⟩) S.kind)
  have kp : ∀ b o, s.heap.get? b = some o → h₁.get? b = some o := fun b o e => hsb.extBut b o (Nat.ne_of_lt (Heap.lt_size e)) (Heap.get?_push_of_some _ e)
  have ht' : IsTup h₁ ta its := by
    obtain ⟨o, e, c⟩ := ht
    exact ⟨o, kp _ _ e, c⟩
  show codeAny _ _ (.expr _ (PySem.W.envX q scope s.heap.objs.size f (.ref c') cl)) _ _
  refine PySem.W.kla_codeExpr (Subscript_ (wpAny_Name (wpAny_loadName_local (v := .ref ta) S.kind S.loc hns ?hv ?_) hx))
  case hv => simp [List.lookup]
  refine wpAny_Constant_int ?_
  have hsz : 0 < its.size := by
    cases q : its[0]? with
    | none => rw [q] at hz; cases hz
    | some _ => exact (Array.getElem?_eq_some_iff.mp q).1
  refine subscriptTail_builtin ht'.typeIs slot_tuple_getitem.lookup (getItem_tuple (j := 0) (x := .str z tz) ht' (by decide) (by decide) ?_ hz ?_)
  · unfold seqIndex?
    simp [hsz]
  · exact ⟨h₁, _, rfl, kp, .str z tz⟩
end
theorem ext_N {K : PySem.W.Frag} {H1 H2 : Hp} {ρ : List Addr} {h : DHeap} (rh : RH K H1 ρ h) (eN : LamX.ExtN H1 H2) (T2 : LamX.Tabs TbC.tabs H2) : Ext H1 ρ H2 ρ ∧ RH K H2 ρ h := by
  have ex : Ext H1 ρ H2 ρ := ⟨fun _ _ e => e, fun b o e _ n => eN b o e n, fun b m n => absurd m n, rh.mu⟩
  refine ⟨ex, ⟨rh.len, rh.nd, fun n c a e1 e2 => ?_, T2⟩⟩
  have hc := rh.at_ n c a e1 e2
  have hm := hc.isM
  cases q : H1 a with
  | none => rw [q] at hm; cases hm
  | some o =>
    rw [q] at hc hm
    rw [eN a o q fun ps z => by subst z; cases hm]
    exact hc.mono ex
/-- sorted(e, key=lambda x: x[0]) -/
theorem de_srtK {k : Nat} {fn : Addr} {cdv : Value} {e : Expr} {f : M D} {x : Str} {params : Arguments} {scope : Scope} {p k1 k2 k3 lpos kpos pos : Pos} {j : Nat} (hr : Room k X.A) (hlk : CodeAt X.K fn cdv) (hcode : X.env.code = cdv) (L : LamOk X.base X.K X.mg fn (X.env.qual ++ "<lambda>"))
    (hg : Gl X "sorted") (hz : X.mg "sorted" = none) (ha : DE X e f) (S : KeyS scope x) (hdef : defaultsOf params X.env = ([], []))
    (hbind : ∀ (q : Str) (cl : List (Str × Addr)) (pm ctv : Value) (c' ta : Addr), bindArgs (PySem.W.kla_fn "<lambda>" q params (.Subscript (.Name x k1) (.Constant (.int 0) j k2) k3) scope cl pm (.ref c') ctv) ⟨[.ref ta], []⟩ = pure [(x, .ref ta)])
    (he : starEach [e] X.env = (false, eval e X.env) :: starEach [] X.env := by rfl) (he2 : backTo pos (starEach [e] X.env) = (false, eval e X.env) :: backTo pos (starEach [] X.env) := by rfl) (he3 : (backTo pos (starEach [e] X.env)).any (·.1) = false := by rfl) (hx : (x == ("__debug__" : Str)) = false := by decide) :
    DE X (.Call (.Name "sorted" p) [e] [⟨some "key", .Lambda params (.Subscript (.Name x k1) (.Constant (.int 0) j k2) k3) scope lpos, kpos⟩] pos) (srtK f) := by
  obtain ⟨C, P, hC, TB, hmT, hu⟩ := L.ex
  have hcode' : X.env.code = .ref C := hcode.trans (hlk.uniq hC)
  refine ⟨⟨fun pins s σ H Q I q => ?_⟩⟩
  refine wpAny_Call_Name_kw (ld_blt I hg hz (by rfl) ?_ (by decide) (by decide))
  obtain ⟨σd, h, ρ, re, rh, pp⟩ := q
  have pq := Post.bind (R := RV X.K) pp
  refine PyProof.Rows.callWith_kw (thn ((pa_cons ha.run pa_nil he).run pos pins s σ H (fun vs H1 => ∃ v d h1 ρ1, vs = [v] ∧ Ext H ρ H1 ρ1 ∧ RH X.K H1 ρ1 h1 ∧ RV X.K H1 ρ1 d v ∧ Post X.K (XY X) H1 ρ1 (RV X.K) (match d with
    | .ref n => match h1[n]? with
      | some (.lst ds) => if ds.all isRow = true then .ok (.ref h1.length) (h1 ++ [.lst (srtRows ds)]) else .bad
      | _ => .bad
    | _ => .bad) Q) I ⟨σd, h, ρ, re, rh, pq.mono fun v H1 ⟨d, h1, ρ1, e1, rh1, r1, p1⟩ => ⟨v, d, h1, ρ1, rfl, e1, rh1, r1, p1⟩⟩) fun us s1 ⟨vs, H1, I1, r1, v, d, h1, ρ1, ev, e1, rh1, rv, p1⟩ => ?_) ?_ ?_ ?_ ?_
  rotate_left
  · exact he2
  · exact he3
  · rfl
  · rfl
  subst ev
  cases d with
  | ref n =>
    simp only at p1
    split at p1
    case h_2 => exact p1.elim
    rename_i ds hn
    split at p1
    case isFalse => exact p1.elim
    rename_i hrow
    obtain ⟨a, rfl, ha'⟩ := rv
    obtain ⟨xs, hA, rxs⟩ := rh1.at_ _ _ _ hn ha'
    obtain rfl := Vals.ref1 r1
    show wpAny _ _ (evalAll ((do let v ← eval (.Lambda params (.Subscript (.Name x k1) (.Constant (.int 0) j k2) k3) scope lpos) X.env; standAt pos; pure v) :: (backToKw pos (keywordEach [] X.env)).map (·.2))) _ _ s1
    refine wpAny_evalAll_cons (wpAny_bind (LamX.lam_make2 (T := TbC.tabs) I1 TB hcode' hmT hu rh1.tab hdef (fun y hy z => absurd z (S.nofree y hy)) fun fl c' pm ctv H2 s2 I2 eN T2 hf hfn hfr hco => wpAny_bind (wpAny_standAt (wpAny_pure (wpAny_evalAll_nil ?_)))))
    obtain ⟨x12, rh2⟩ := ext_N rh1 eN T2
    have hA2 : H2 a = some (.lst xs) := eN a _ hA fun ps z => by cases z
    have rxs2 := RVs.mono x12 _ _ rxs
    obtain ⟨its, rv2, pl, hzl⟩ := I2.list (SqL.of hA2)
    have hrows : ∀ d, d ∈ ds → ∃ z r, d = .tup (.str z :: r) := fun d hd => isRow_at (List.all_eq_true.mp hrow d hd)
    have hlen : ds.length ≤ sizeLine := by rw [rxs.len]; exact hzl
    have hrec : s2.heap.CodeRec (.ref c') (X.env.qual ++ "<lambda>") := by
      obtain ⟨⟨oc, vc, t, g1, g2, g3⟩, _⟩ := I2.hok c' _ hco
      exact ⟨c', oc, vc, t, rfl, g1, g2, g3⟩
    have hdp := hr.dp
    have hun := hr.un
    refine PySem.W.sorted_key_data (b := false) (R := RowAt X.K H2 ρ1) rowKey pl.isList (rows_each rxs2 rv2) (fun d hd d' hd' => ?_) (.inr fun d hd => ?_) hlen (fun d hd => ?_) (PyProof.Rows.ksk_s1 _ _) (fun _ => PyProof.Rows.ksk_l1 _ _) (fun _ => PyProof.Rows.ksk_t1 _ _) (fun v d hv hd hh tk kp => ?_) fun out c hh tk kp hfresh hD hol heach => ?_
    · obtain ⟨b, hb, rfl⟩ := List.mem_map.mp hd
      obtain ⟨b', hb', rfl⟩ := List.mem_map.mp hd'
      obtain ⟨z, r, rfl⟩ := hrows b hb
      obtain ⟨z', r', rfl⟩ := hrows b' hb'
      simp [rowKey, PySem.W.alike]
    · obtain ⟨b, hb, rfl⟩ := List.mem_map.mp hd
      obtain ⟨z, r, rfl⟩ := hrows b hb
      exact ⟨fun y => (by cases y), fun xs y => (by cases y)⟩
    · obtain ⟨z, r, rfl⟩ := hrows d hd
      have : (rowKey (.tup (.str z :: r))).depth = 0 := by simp [rowKey, PyData.depth]
      omega
    · obtain ⟨z, r, rfl⟩ := hrows d hd
      obtain ⟨y, ry, ta, ys, rfl, hsq, rys⟩ := hv
      obtain ⟨y0, yr, rfl, hy0, _⟩ := rys
      obtain rfl : y0 = .str z := hy0
      obtain ⟨its2, rt, htup, _⟩ := I2.tuple hsq.sq
      obtain rfl : v = .ref ta := ry
      cases rt with
      | cons q1 q2 =>
        obtain ⟨tz, rfl⟩ := q1
        obtain ⟨o, g1, g2⟩ := htup
        exact key_turn (s := { s2 with heap := hh, toks := tk }) S (show X.A.depth < recursionLimit by omega) (I2.nolimit.keeps kp) (kp _ _ hf) (hrec.keeps kp) (hbind _ _ _ _ _ _) ⟨o, kp _ _ g1, g2⟩ rfl hx
    · obtain ⟨ys, rys, vys⟩ := rows_back heach
      have hfr2 : H2 (s2.heap.objs.size + 1) = none := I2.hok.fresh (Nat.le_succ _)
      obtain ⟨x3, rh3⟩ := rh2.push (o := .lst ys) (c := .lst (srtRows ds)) hfr2 rfl ⟨ys, rfl, rys⟩
      refine ⟨.ref _, upd H2 (s2.heap.objs.size + 1) (.lst ys), I2.laid (t' := tk) kp (Nat.le_succ _) ⟨?_, out, c, vys, hD⟩, rfl, p1 _ _ _ (x12.trans x3) rh3 ⟨_, rfl, ?_⟩⟩
      · rw [← rys.len, ← heach.length, hol]; exact hlen
      · rw [← rh1.len]; simp
  | _ => exact p1.elim
end DL

set_option Elab.async false
set_option linter.all false
set_option maxRecDepth 100000
set_option maxHeartbeats 4000000
namespace DL
open PySem PySem.Spec PyProof.Rows L2
variable [TbC]
section
variable {X : Cx} {kx vx tg iter : Expr} {pos : Pos} {t : M Bool} {fk fv : M D}
/-- name = {k: v for ..} on one line, the name a local -/
theorem ps_setD {i : Nat} {y : Str} {py spos : Pos} {ifs : List Expr} {scope : Scope} {own : List (Str × Nat)} {wi : TI} {g : TG} {tt : TT} {tk tv : TE} (hc : X.calm = true) (hN : X.N.Nodup) (hy : X.N[i]? = some y) (hyl : X.env.scope.names.lookup y = some .local)
    (hsw : swapsWith (.DictComp kx vx [⟨tg, iter, ifs, 0⟩] scope pos) (some (.Name y py)) spos.line X.env = pure true) (hi : PI X tg iter wi) (ok : BlkOk X.N X.env.scope scope own)
    (hg : ∀ (s : Shared) (H : Hp) (C : Addr) (cl : List (Str × Addr)) (fp : List Addr), PG (X.blk s H scope (compEnvC scope cl C X.env) fp) tg g)
    (ht : ∀ (s : Shared) (H : Hp) (C : Addr) (cl : List (Str × Addr)) (fp : List Addr), PTs (X.blk s H scope (compEnvC scope cl C X.env) fp) ifs tt)
    (hk : ∀ (s : Shared) (H : Hp) (C : Addr) (cl : List (Str × Addr)) (fp : List Addr), PE (X.blk s H scope (compEnvC scope cl C X.env) fp) kx tk)
    (hv : ∀ (s : Shared) (H : Hp) (C : Addr) (cl : List (Str × Addr)) (fp : List Addr), PE (X.blk s H scope (compEnvC scope cl C X.env) fp) vx tv) (hs : ∀ x, foldedSetIterable iter X.env x = pure x := by intro _; rfl) :
    PS X (.Assign [.Name y py] (.DictComp kx vx [⟨tg, iter, ifs, 0⟩] scope pos) spos) (tAsg (tDc wi g tt tk tv (own.map (·.2))) (gName i)) := by
  constructor
  intro pins s σ H D I h
  rw [exec_Assign_Name_used _ _ _ _ hsw]
  apply wpAny_bind
  apply wpAny_standAt
  apply wpAny_bind
  show wpAny _ X.A (do let _ ← comprehension (.DictComp kx vx [⟨tg, iter, ifs, 0⟩] scope pos) scope X.env (firstIterPos [⟨tg, iter, ifs, 0⟩] pos) newDict false (eval iter X.env) (some (assign (.Name y py) X.env))) _ _ s
  apply wpAny_bind
  have k : tDc wi g tt tk tv (own.map (·.2)) σ H (fun x H1 => gName i x σ H1 D.nx) := h
  refine thn (dc_core (Qf := fun _ s' => SP X pins D .next s') hc hN I hi ok hg ht hk hv hs k ?_) fun _ s' e => wpAny_pure (wpAny_pure e)
  intro L C s1 m H1 I1 q hn f
  show wpAny _ _ (assign (.Name y py) X.env (.ref L)) _ _ _
  refine wpAny_assign_Name (store_ok2 (v := V.ref L) I1 hN hy (.inl hyl) rfl (fun s2 I2 z => ?_) (.inr hyl))
  obtain ⟨a, sb, ha⟩ := z
  obtain ⟨g0, g1, g2, g3, g4, g5⟩ := f
  have far : C ≠ a := fun e => by
    rcases ha with z | z
    · exact g1 (e.trans z)
    · exact g4 y a z e.symm
  exact ⟨m, hn.sameBut sb far, fun h3 sb3 => ⟨_, H1, I2.turned (t' := s2.toks) (fun b o hb e => (sb3.2 b hb).trans e) g0 g1 g3 g4 g5, q⟩⟩
theorem sw_trueD {gs : List Comprehension} {scope : Scope} {py : Pos} {y : Str} {l : Nat} {env : Env} (hk : env.scope.kind = .function) (hy : env.scope.names.lookup y = some .local) (hl : (py.line == pos.line) = true)
    (ha : (scope.names.any fun (n, k) => n == y && (k == .local || k == .cell)) = false) : swapsWith (.DictComp kx vx gs scope pos) (some (.Name y py)) l env = pure true := by
  have e1 : env.blockKind = .function := by unfold Env.blockKind; rw [hk]; rfl
  have e2 : env.kindOf y = some .local := hy
  unfold swapsWith
  simp only [e1, e2, ha, Expr.pos, hl]
  rfl
theorem ds_setD {ifs : List Expr} {scope : Scope} {src : M Src} {ii i : Nat} {xi y : Str} {py spos : Pos} (hc : X.calm = true) (hN : X.N.Nodup) (hy : X.N[i]? = some y) (hyl : X.env.scope.names.lookup y = some .local)
    (hsw : swapsWith (.DictComp kx vx [⟨tg, iter, ifs, 0⟩] scope pos) (some (.Name y py)) spos.line X.env = pure true) (hi : DI X tg iter src) (ok : BlkOk X.N X.env.scope scope [(xi, ii)])
    (hg : ∀ (s : Shared) (H : Hp) (C : Addr) (cl : List (Str × Addr)) (fp : List Addr), PG (X.blk s H scope (compEnvC scope cl C X.env) fp) tg (gName ii))
    (ht : ∀ (s : Shared) (H : Hp) (C : Addr) (cl : List (Str × Addr)) (fp : List Addr), DTs (X.blk s H scope (compEnvC scope cl C X.env) fp) ifs t)
    (hk : ∀ (s : Shared) (H : Hp) (C : Addr) (cl : List (Str × Addr)) (fp : List Addr), DE (X.blk s H scope (compEnvC scope cl C X.env) fp) kx fk)
    (he : ∀ (s : Shared) (H : Hp) (C : Addr) (cl : List (Str × Addr)) (fp : List Addr), DE (X.blk s H scope (compEnvC scope cl C X.env) fp) vx fv) (hs : ∀ x, foldedSetIterable iter X.env x = pure x := by intro _; rfl) :
    DS X (.Assign [.Name y py] (.DictComp kx vx [⟨tg, iter, ifs, 0⟩] scope pos) spos) (sSet i (dcompM (compM src ii t (pairM fk fv)))) :=
  ⟨psI (ps_setD (tt := rdG X.K (Y0 X.mg) RB t) (tk := rdG X.K (Y0 X.mg) (RV X.K) fk) (tv := rdG X.K (Y0 X.mg) (RV X.K) fv) hc hN hy hyl hsw hi.run ok hg (fun s H C cl fp => ptsI (ht s H C cl fp).run fun _ _ _ q => rdG.weak q) (fun s H C cl fp => peI (hk s H C cl fp).run fun _ _ _ q => rdG.weak q) (fun s H C cl fp => peI (he s H C cl fp).run fun _ _ _ q => rdG.weak q) hs) fun E σ H q => by
    refine dcomp_rd (K := X.K) (Y := XY X) (Q := fun x H1 => E.nx (σ.set i (some x)) H1) ?_
    obtain ⟨σd, h, ρ, re, rh, p⟩ := q
    refine ⟨σd, h, ρ, re, rh, ?_⟩
    unfold sSet dcompM at p
    cases e0 : compM src ii t (pairM fk fv) σd h with
    | bad => rw [e0] at p; exact p.elim
    | exc y s h1 => rw [e0] at p; exact p
    | ok ys h1 =>
      rw [e0] at p
      intro H' ρ' L vs x1 rh1 hL0 hL nL rvs
      obtain ⟨y1, y2⟩ := rh1.adopt x1 (c := .dic (foldP [] ys)) hL0 hL nL ⟨_, rfl, rvs⟩
      exact p H' _ y1 y2 _ ((re.mono y1).set i ⟨L, rfl, by rw [← rh1.len]; simp⟩)⟩
end
/-- a comprehension's block within another one's -/
theorem blkOk2 {N : List Str} {sc scope1 scope : Scope} {own : List (Str × Nat)} {cl : List (Str × Addr)} {C : Addr} {env : Env} (he : env.scope = sc) (h : blkC N (relS scope1 sc) scope own = true) : BlkOk N (compEnvC scope1 cl C env).scope scope own := by
  subst he
  exact blkOk_by h
end DL

set_option Elab.async false
set_option linter.all false
set_option maxRecDepth 100000
set_option maxHeartbeats 4000000
namespace DL
open PySem PySem.Spec PyProof.Rows L2
/-! sorted(xs) of a list of alike tuples (terms) -/
def isTupC : D → Bool
  | .tup (_ :: _) => true
  | _ => false
def srtOk (ds : List D) : Bool := pureDs ds && (ds.all fun d => decide ((toP d).depth ≤ 128)) && (ds.all fun a => ds.all fun b => PySem.W.alike (toP a) (toP b)) && ds.all isTupC
def srtTs (ds : List D) : List D := ds.mergeSort (PySem.W.dataLe false toP)
def srtTD : List D → DHeap → Res D
  | [.ref n], h => match h[n]? with
    | some (.lst ds) => if srtOk ds = true then .ok (.ref h.length) (h ++ [.lst (srtTs ds)]) else .bad
    | _ => .bad
  | _, _ => .bad
variable [TbC]
section
variable {X : Cx} {pins : List (Addr × Obj)} {σ : L2.St} {H : Hp} {s : Shared}
theorem reads_each {ρ : List Addr} (I : Inv X pins σ H s) : ∀ {ds : List D} {xs : List V} {us : List Value}, pureDs ds = true → RVs X.K H ρ ds xs → Vals xs us → PySem.W.EachIs (fun v b => ∃ as, Reads s.heap v (toP b) as) us ds
  | [], xs, us, _, h, r => by
    cases (show xs = [] from h)
    cases r
    exact .nil
  | d :: ds, xs, us, hp, h, r => by
    have hp : (pureD d && pureDs ds) = true := hp
    rw [Bool.and_eq_true] at hp
    obtain ⟨y, ys, rfl, h2, h3⟩ := h
    cases r with
    | cons r1 r2 => exact .cons (Dp.reads I _ _ _ (dp_of d y hp.1 h2) r1) (reads_each I hp.2 h3 r2)
theorem isTupC_at {d : D} (h : isTupC d = true) : ∃ x r, toP d = .tuple (x :: r) := by
  unfold isTupC at h
  split at h
  · exact ⟨_, _, rfl⟩
  · cases h
theorem cd_srtT (hu : X.A.units + 200 < cLine) : CallR X (.builtin "sorted") (RCl X.K (XY X) srtTD) := by
  intro pins s σ H vs us Q I rx q
  obtain ⟨ds0, h, ρ, r, rh, p⟩ := q
  unfold srtTD at p
  split at p
  case h_2 => exact p.elim
  rename_i n
  obtain ⟨v, rfl, r1⟩ := r.inv1
  obtain ⟨a, rfl, ha⟩ := r1
  split at p
  case h_2 => exact p.elim
  rename_i ds hn
  split at p
  case isFalse => exact p.elim
  rename_i hok
  unfold srtOk at hok
  simp only [Bool.and_eq_true, List.all_eq_true, decide_eq_true_eq] at hok
  obtain ⟨⟨⟨c1, c2⟩, c3⟩, c4⟩ := hok
  obtain ⟨xs, hA, rxs⟩ := rh.at_ _ _ _ hn ha
  rw [Vals.ref1 rx]
  obtain ⟨its, rv2, pl, hzl⟩ := I.list (SqL.of hA)
  have hlen : ds.length ≤ sizeLine := by rw [rxs.len]; exact hzl
  refine PySem.W.sorted_data (R := RowAt X.K H ρ) pl.isList (rows_each rxs rv2) (reads_each I c1 rxs rv2) (fun d hd d' hd' => ?_) (.inl fun d hd => ?_) hlen (fun d hd => ?_) fun out hol heach => ?_
  · obtain ⟨b, hb, rfl⟩ := List.mem_map.mp hd
    obtain ⟨b', hb', rfl⟩ := List.mem_map.mp hd'
    exact c3 b hb b' hb'
  · obtain ⟨b, hb, rfl⟩ := List.mem_map.mp hd
    exact isTupC_at (c4 b hb)
  · have := c2 d hd
    omega
  · obtain ⟨ys, rys, vys⟩ := rows_back heach
    obtain ⟨ep, he'⟩ := PyProof.Rows.sortedAll_at s.heap its out.toArray
    have hfr : H (s.heap.objs.size + 1) = none := I.hok.fresh (Nat.le_succ _)
    obtain ⟨x3, rh3⟩ := rh.push (o := .lst ys) (c := .lst (srtTs ds)) hfr rfl ⟨ys, rfl, rys⟩
    refine ⟨.ref _, upd H (s.heap.objs.size + 1) (.lst ys), I.laid (t' := s.toks) (fun _ _ => PyProof.Rows.sortedAll_old) (Nat.le_succ _) ⟨?_, out, ep, vys, he'⟩, rfl, p _ _ _ x3 rh3 ⟨_, rfl, ?_⟩⟩
    · rw [← rys.len, ← heach.length, hol]; exact hlen
    · rw [← rh.len]; simp
end
end DL

set_option Elab.async false
set_option linter.all false
set_option maxRecDepth 100000
set_option maxHeartbeats 4000000
namespace DL
open PySem PySem.Spec PyProof.Rows L2
/-! [d[k][j] for k in d], d a dict whose values are tuples -/
def rowsIx (f : Key × D → Option D) : List (Key × D) → Option (List D)
  | [] => some []
  | kv :: r => match f kv with
    | some y => match rowsIx f r with
      | some ys => some (y :: ys)
      | none => none
    | none => none
theorem rowsIx_at {f : Key × D → Option D} : ∀ {l : List (Key × D)} {ys : List D}, rowsIx f l = some ys → ys.length = l.length ∧ ∀ (i : Nat) (kv : Key × D), l[i]? = some kv → ∃ y, ys[i]? = some y ∧ f kv = some y
  | [], ys, h => by
    cases h
    exact ⟨rfl, fun i kv e => by rw [List.getElem?_nil] at e; cases e⟩
  | kv :: r, ys, h => by
    unfold rowsIx at h
    cases q : f kv with
    | none => rw [q] at h; cases h
    | some y =>
      rw [q] at h
      cases q2 : rowsIx f r with
      | none => rw [q2] at h; cases h
      | some zs =>
        rw [q2] at h
        cases h
        obtain ⟨h1, h2⟩ := rowsIx_at q2
        refine ⟨by rw [List.length_cons, List.length_cons, h1], fun i kv' e => ?_⟩
        cases i with
        | zero => cases e; exact ⟨y, rfl, q⟩
        | succ i => exact h2 i kv' e
def rowIx (j : Int) (kvs : List (Key × D)) (kv : Key × D) : Option D := match lookD kvs kv.1 with
  | some (.tup ds) => atI ds j
  | _ => none
def keyIxM (iy ii : Nat) (j : Int) : M (List D) := fun σ h => match σ[iy]? with
  | some (some (.ref n)) => match h[n]? with
    | some (.dic kvs) => if kvs.length ≤ sizeLine ∧ ii < σ.length then match rowsIx (rowIx j kvs) kvs with
      | some ys => .ok ys h
      | none => .bad
      else .bad
    | _ => .bad
  | _ => .bad
variable [TbC]
section
variable {X : Cx} {pos : Pos}
theorem dc_keyIx {scope : Scope} {iy ii : Nat} {x y : Str} {j : Int} {kj : Nat} {p1 p2 p3 p4 p5 p6 p7 : Pos} (hc : X.calm = true) (hN : X.N.Nodup) (hu : X.A.units + 1 < cLine) (hy : X.N[iy]? = some y) (hx : X.N[ii]? = some x) (hne : iy ≠ ii) (hv : Vis X.env.scope y) (hd : (y == ("__debug__" : Str)) = false) (hcd : (y == ("__classdict__" : Str)) = false) (hdx : (x == ("__debug__" : Str)) = false) (hcx : (x == ("__classdict__" : Str)) = false) (ok : BlkOk X.N X.env.scope scope [(x, ii)])
    (hg : ∀ (s : Shared) (H : Hp) (C : Addr) (cl : List (Str × Addr)) (fp : List Addr), PG (X.blk s H scope (compEnvC scope cl C X.env) fp) (.Name x p6) (gName ii))
    (hvy : ∀ (cl : List (Str × Addr)) (C : Addr), Vis (compEnvC scope cl C X.env).scope y) (hvx : ∀ (cl : List (Str × Addr)) (C : Addr), Vis (compEnvC scope cl C X.env).scope x)
    (hs1 : PlainIx (.Name x p2)) (hs2 : PlainIx (.Constant (.int j) kj p4)) (hs : ∀ z, foldedSetIterable (.Name y p7) X.env z = pure z := by intro _; rfl) :
    DC X (.ListComp (.Subscript (.Subscript (.Name y p1) (.Name x p2) p3) (.Constant (.int j) kj p4) p5) [⟨.Name x p6, .Name y p7, [], 0⟩] scope pos) (keyIxM iy ii j) := by
  refine ⟨peI (pe_lock (pe_lc (te := tOp (rIx X.K) (tOp (rIxDict X.K) (tVar iy) (tVar ii)) (tC (.int j))) hc hN (pi_keys (pe_var hy hv hd hcd)) ok hg (fun _ _ _ _ _ => pts_nil) (fun s H C cl fp => pe_ix (ix_seq (X := X.blk s H scope (compEnvC scope cl C X.env) fp)) (pe_ix (ix_dict (X := X.blk s H scope (compEnvC scope cl C X.env) fp) hu) (pe_var hy (hvy cl C) hd hcd) (pe_var hx (hvx cl C) hdx hcx) hs1) pe_int hs2) hs)) fun σ H Q q => ?_⟩
  obtain ⟨σd, h, ρ, re, rh, p⟩ := q
  unfold keyIxM at p
  split at p
  case h_2 => exact p.elim
  rename_i n hσ
  split at p
  case h_2 => exact p.elim
  rename_i kvs hn
  split at p
  case isFalse => exact p.elim
  rename_i hz0
  obtain ⟨hz, hii0⟩ := hz0
  split at p
  case h_2 => exact p.elim
  rename_i ys hys
  obtain ⟨hyl, hya⟩ := rowsIx_at hys
  obtain ⟨v, ev, rv⟩ := re.2 iy _ hσ
  obtain ⟨a, rfl, ha⟩ := rv
  obtain ⟨vs, hA, rkv⟩ := rh.at_ _ _ _ hn ha
  have hlen := rkv.len
  refine ⟨a, .dK vs, hA, trivial, fun od => ⟨.ref a, ev, a, od, rfl, .inl ⟨vs, upd_same, fun L hL => ?_⟩⟩⟩
  have hLa : L ≠ a := fun z => by rw [z, upd_same] at hL; cases hL
  have hL0 : H L = none := by rw [upd_ne hLa] at hL; exact hL
  have sq : ∀ {p : Addr} {zs : List V} (acc : List V), SqU X.K H p zs → SqU X.K (upd (upd H a (.frz od (.dK vs))) L (.lst acc)) p zs := fun {p zs} acc hp => by
    rcases hp with ⟨o, hd, hp⟩ | hp
    · refine .inl ?_
      have hpa : p ≠ a := fun z => by
        rw [z] at hp
        rw [hA] at hp; cases hp
      have hpL : p ≠ L := fun z => by
        rw [z] at hp
        rw [hL0] at hp; cases hp
      exact ⟨o, hd, by rw [upd_ne hpL, upd_ne hpa]; exact hp⟩
    · exact .inr hp
  refine lc_it (walk_keys (d := a) (o := od) (kvs := vs)) (fun i H2 => ∃ acc : List V, H2 = upd (upd H a (.frz od (.dK vs))) L (.lst acc) ∧ RVs X.K H ρ (ys.take i) acc) ⟨[], rfl, rfl⟩ (fun i H2 hi p => ?_) (fun i k0 H2 H3 hi p yl => ?_) fun H2 p => ?_
  · obtain ⟨acc, rfl, _⟩ := p
    rw [upd_ne (Ne.symm hLa)]
    exact upd_same
  · obtain ⟨acc, rfl, racc⟩ := p
    obtain ⟨rfl, k, w, ek, rfl⟩ := yl
    have hk : kvs[i]?.map (·.1) = some k := by
      rw [← List.getElem?_map, rkv.1, List.getElem?_map, ek]; rfl
    obtain ⟨kv, ekv, e1⟩ := Option.map_eq_some_iff.mp hk
    obtain ⟨y, ey, er⟩ := hya i kv ekv
    unfold rowIx at er
    rw [e1] at er
    have lk := rkv.look k
    split at er
    case h_2 => cases er
    rename_i ds hds
    rw [hds] at lk
    obtain ⟨v', hv', rv'⟩ := lk
    obtain ⟨p, zs, rfl, hsq, hrs⟩ := rv'
    obtain ⟨v2, hv2, rv2⟩ := hrs.atI er
    have s1 : ((σ.set ii none).set ii (some (kV k)))[iy]? = some (some (V.ref a)) := by
      rw [List.getElem?_set_ne (Ne.symm hne), List.getElem?_set_ne (Ne.symm hne)]; exact ev
    have hii : ii < σ.length := by rw [← re.1]; exact hii0
    have s2 : ((σ.set ii none).set ii (some (kV k)))[ii]? = some (some (kV k)) := List.getElem?_set_self (by rw [List.length_set]; exact hii)
    have la : acc.length < sizeLine := by
      rw [← racc.len, List.length_take]
      omega
    refine ⟨?_, ⟨.ref a, s1, kV k, s2, a, .ref p, rfl, .inl ⟨vs, k, .inr ⟨od, by rw [upd_ne (Ne.symm hLa)]; exact upd_same⟩, rfl, hv'.symm⟩, .inr (.inl ⟨p, zs, j, v2, rfl, rfl, (sq acc hsq).sq, hv2, acc, upd_same, la, acc ++ [v2], ?_, ?_⟩)⟩⟩
    · show ((σ.set ii none).set ii (some (kV k))).set ii none = σ.set ii none
      rw [List.set_set, List.set_set]
    · funext b
      by_cases hb : b = L
      · rw [hb, upd_same, upd_same]
      · rw [upd_ne hb, upd_ne hb, upd_ne hb]
    · rw [List.take_add_one, ey]
      exact racc.app ⟨v2, [], rfl, rv2, rfl⟩
  · obtain ⟨acc, rfl, racc⟩ := p
    rw [← hlen, ← hyl, List.take_length] at racc
    have e : upd (upd (upd H a (.frz od (.dK vs))) L (.lst acc)) a (.dK vs) = upd H L (.lst acc) := by
      funext b
      by_cases hb : b = a
      · rw [hb, upd_same, upd_ne (Ne.symm hLa), hA]
      · rw [upd_ne hb]
        by_cases hb2 : b = L
        · rw [hb2, upd_same, upd_same]
        · rw [upd_ne hb2, upd_ne hb2, upd_ne hb]
    refine ⟨by rw [upd_ne (Ne.symm hLa)]; exact upd_same, ?_⟩
    rw [e]
    obtain ⟨x1, x2⟩ := rh.lay (.lst acc) hL0
    exact p _ _ L acc x1 x2 (NoT.none hL0) upd_same (fun m => by have := rh.mu L m; rw [hL0] at this; cases this) (RVs.mono x1 _ _ racc)
end
end DL

set_option Elab.async false
set_option linter.all false
set_option maxRecDepth 100000
namespace DL
open PySem PySem.Spec PyProof.Rows L2
/-! x in t, t a tuple of any data -/
def inTB (x y : D) : Option Bool := match y with
  | .tup ds => if okP x = true ∧ okP (.tup ds) = true then some (ds.any fun z => eqvD z x) else none
  | _ => none
def inTD : D → D → DHeap → Res D := fun x y h => match inTB x y with | some b => .ok (.bl b) h | none => .bad
def ninTD : D → D → DHeap → Res D := fun x y h => match inTB x y with | some b => .ok (.bl (!b)) h | none => .bad
variable [TbC]
variable {X : Cx}
theorem inT_of {pins : List (Addr × Obj)} {σ : L2.St} {H : Hp} {s : Shared} {ρ : List Addr} {dx dy : D} {x y : V} {v u : Value} {k : Bool} (I : Inv X pins σ H s) (rvx : RV X.K H ρ dx x) (rvy : RV X.K H ρ dy y) (rx : RelV x v) (ry : RelV y u) (e : inTB dx dy = some k) :
    ∃ as bs xs d, Reads s.heap v d as ∧ Reads s.heap u (.tuple xs) bs ∧ SeqAt.shaped d = true ∧ SeqAt.shaped (.tuple xs) = true ∧ k = xs.any fun z => PyData.eqv z d := by
  unfold inTB at e
  split at e
  · rename_i ds
    split at e
    · rename_i hc
      cases e
      obtain ⟨h1, h2⟩ := hc
      unfold okP at h1 h2
      rw [Bool.and_eq_true] at h1 h2
      obtain ⟨as, r1⟩ := Dp.reads I _ _ _ (dp_of dx x h1.1 rvx) rx
      obtain ⟨bs, r2⟩ := Dp.reads I _ _ _ (dp_of (.tup ds) y h2.1 rvy) ry
      exact ⟨as, bs, toPs ds, toP dx, r1, r2, h1.2, h2.2, (any_toPs (fun z => PyData.eqv z (toP dx)) ds).symm⟩
    · cases e
  · cases e
theorem od_inT (hu : X.A.units + 200 < cLine) : OpR X (compareOp .In) (RO X.K (XY X) inTD) := by
  intro pins s σ H x y v u Q I rx ry q
  obtain ⟨dx, dy, h, ρ, rvx, rvy, rh, p⟩ := q
  unfold inTD at p
  split at p
  · rename_i k hk
    obtain ⟨as, bs, xs, d, r1, r2, s1, s2, rfl⟩ := inT_of I rvx rvy rx ry hk
    exact SeqAt.in_tuple_reads r2 r1 (SeqAt.canLay_of_shaped s2) (SeqAt.canLay_of_shaped s1) (room_in_shaped s1 (by omega)) ⟨.bl _, H, I, rfl, Post.ok p rh (rfl : RV X.K H ρ (.bl _) _)⟩
  · exact p.elim
theorem od_ninT (hu : X.A.units + 200 < cLine) : OpR X (compareOp .NotIn) (RO X.K (XY X) ninTD) := by
  intro pins s σ H x y v u Q I rx ry q
  obtain ⟨dx, dy, h, ρ, rvx, rvy, rh, p⟩ := q
  unfold ninTD at p
  split at p
  · rename_i k hk
    obtain ⟨as, bs, xs, d, r1, r2, s1, s2, rfl⟩ := inT_of I rvx rvy rx ry hk
    exact SeqAt.notIn_tuple_reads r2 r1 (SeqAt.canLay_of_shaped s2) (SeqAt.canLay_of_shaped s1) (room_in_shaped s1 (by omega)) ⟨.bl _, H, I, rfl, Post.ok p rh (rfl : RV X.K H ρ (.bl _) _)⟩
  · exact p.elim
end DL

set_option Elab.async false
set_option linter.all false
set_option maxRecDepth 100000
namespace DL
open PySem PySem.Spec PyProof.Rows L2
/-! list(range(..)); reversed(a tuple) -/
def lrg1 (f : M D) : M D := fun σ h => (f σ h).bind fun d h1 => match d with
  | .int j => if -(2 ^ 62) ≤ j ∧ j < 2 ^ 62 ∧ j.toNat ≤ 2 ^ 24 then .ok (.ref h1.length) (h1 ++ [.lst (rangeL 0 j.toNat)]) else .bad
  | _ => .bad
def lrg2 (f g : M D) : M D := fun σ h => (f σ h).bind fun d h1 => (g σ h1).bind fun e h2 => match d, e with
  | .int i, .int j => if -(2 ^ 62) ≤ i ∧ i < 2 ^ 62 ∧ -(2 ^ 62) ≤ j ∧ j < 2 ^ 62 ∧ (j - i).toNat ≤ 2 ^ 24 then .ok (.ref h2.length) (h2 ++ [.lst (rangeL i (j - i).toNat)]) else .bad
  | _, _ => .bad
def revM (f : M D) : M Src := fun σ h => (f σ h).bind fun d h1 => match d with
  | .tup ds => .ok ⟨ds.reverse, none⟩ h1
  | _ => .bad
variable [TbC]
theorem rvs_rg {K : PySem.W.Frag} {H : Hp} {ρ : List Addr} (lo hi : Int) : RVs K H ρ (rangeL lo (hi - lo).toNat) (rgV lo hi) := by
  unfold rangeL rgV
  induction List.range (hi - lo).toNat with
  | nil => rfl
  | cons i l ih => exact ⟨_, _, rfl, rfl, ih⟩
section
variable {X : Cx} {p p2 pos pos2 : Pos} {a b : Expr} {fa fb : M D}
theorem de_lrg1 (hc : X.calm = true) (hgl : Gl X "list") (hml : X.mg "list" = none) (hg : Gl X "range") (hm : X.mg "range" = none) (ha : DE X a fa) (hs : starEach [a] X.env = (false, eval a X.env) :: starEach [] X.env := by rfl)
    (hs2 : starEach [.Call (.Name "range" p2) [a] [] pos2] X.env = (false, eval (.Call (.Name "range" p2) [a] [] pos2) X.env) :: starEach [] X.env := by rfl) :
    DE X (.Call (.Name "list" p) [.Call (.Name "range" p2) [a] [] pos2] [] pos) (lrg1 fa) :=
  ⟨peI (pe_listRg hc hgl hml (prg_1 hg hm ha.run hs) hs2) fun σ H Q q => by
    obtain ⟨σd, h, ρ, re, rh, p⟩ := q
    refine ⟨σd, h, ρ, re, rh, p.bind.mono fun x H1 ⟨d, h1, ρ1, e1, rh1, r1, p1⟩ => ?_⟩
    cases d with
    | int j =>
      simp only at p1
      split at p1
      · rename_i hj
        cases (show x = .int j from r1)
        refine ⟨j, rfl, ⟨by omega, by omega, hj.1, hj.2.1, by rw [Int.sub_zero]; exact hj.2.2⟩, fun q hq => ?_⟩
        have rv := rvs_rg (K := X.K) (H := H1) (ρ := ρ1) 0 j
        rw [Int.sub_zero] at rv
        obtain ⟨x1, x2⟩ := rh1.push (c := .lst (rangeL 0 j.toNat)) hq (o := .lst (rgV 0 j)) rfl ⟨_, rfl, rv⟩
        exact p1 _ _ _ x1 x2 ⟨q, rfl, by rw [← rh1.len]; simp⟩
      · exact p1.elim
    | _ => exact p1.elim⟩
theorem de_lrg2 (hc : X.calm = true) (hgl : Gl X "list") (hml : X.mg "list" = none) (hg : Gl X "range") (hm : X.mg "range" = none) (ha : DE X a fa) (hb : DE X b fb) (hs : starEach [a, b] X.env = (false, eval a X.env) :: starEach [b] X.env := by rfl) (hs1 : starEach [b] X.env = (false, eval b X.env) :: starEach [] X.env := by rfl) (hp : (backTo pos2 (starEach [b] X.env)).any (·.1) = false := by rfl)
    (hs2 : starEach [.Call (.Name "range" p2) [a, b] [] pos2] X.env = (false, eval (.Call (.Name "range" p2) [a, b] [] pos2) X.env) :: starEach [] X.env := by rfl) :
    DE X (.Call (.Name "list" p) [.Call (.Name "range" p2) [a, b] [] pos2] [] pos) (lrg2 fa fb) :=
  ⟨peI (pe_listRg hc hgl hml (prg_2 hg hm ha.run hb.run hs hs1 hp) hs2) fun σ H Q q => by
    obtain ⟨σd, h, ρ, re, rh, p⟩ := q
    refine ⟨σd, h, ρ, re, rh, p.bind.mono fun x H1 ⟨d, h1, ρ1, e1, rh1, r1, p1⟩ => ?_⟩
    refine ⟨σd, h1, ρ1, re.mono e1, rh1, p1.bind.mono fun y H2 ⟨e, h2, ρ2, e2, rh2, r2, p2⟩ => ?_⟩
    cases d with
    | int i =>
      cases e with
      | int j =>
        simp only at p2
        split at p2
        · rename_i hj
          cases (show x = .int i from r1)
          cases (show y = .int j from r2)
          refine ⟨i, j, rfl, rfl, ⟨hj.1, hj.2.1, hj.2.2.1, hj.2.2.2.1, hj.2.2.2.2⟩, fun q hq => ?_⟩
          obtain ⟨x1, x2⟩ := rh2.push (c := .lst (rangeL i (j - i).toNat)) hq (o := .lst (rgV i j)) rfl ⟨_, rfl, rvs_rg i j⟩
          exact p2 _ _ _ x1 x2 ⟨q, rfl, by rw [← rh2.len]; simp⟩
        · exact p2.elim
      | _ => exact p2.elim
    | _ => exact p2.elim⟩
theorem di_rev {tg : Expr} (hg : Gl X "reversed") (hm : X.mg "reversed" = none) (ha : DE X a fa) (hs : starEach [a] X.env = (false, eval a X.env) :: starEach [] X.env := by rfl) : DI X tg (.Call (.Name "reversed" p) [a] [] pos) (revM fa) :=
  ⟨piI (RT.pi_revA hg hm ha.run hs) fun σ H R q => by
    obtain ⟨σd, h, ρ, re, rh, p⟩ := q
    refine ⟨σd, h, ρ, re, rh, ?_⟩
    unfold revM at p
    cases e0 : fa σd h with
    | bad => rw [e0] at p; exact p.elim
    | exc y s h1 => rw [e0] at p; exact p
    | ok d h1 =>
      rw [e0] at p
      intro H1 ρ1 v e1 rh1 r1
      simp only [Res.bind] at p
      cases d with
      | tup ds =>
        obtain ⟨a, xs, rfl, hs, hr⟩ := r1
        refine ⟨a, xs, rfl, .inr ⟨hs.sq, p H1 ρ1 _ e1 rh1 ⟨fun H2 ρ2 h2 i d e2 rh2 _ ed => ?_, fun H2 ρ2 h2 i e2 rh2 _ hl => ?_⟩⟩⟩
        · have hi : i < ds.length := by
            have := (List.getElem?_eq_some_iff.mp ed).1
            rw [List.length_reverse] at this
            exact this
          rw [List.getElem?_reverse hi] at ed
          have hlen := hr.len
          obtain ⟨v, ev, rv⟩ := hr.get ed
          have ev' : xs[xs.length - 1 - i]? = some v := by rw [← hlen]; exact ev
          exact ⟨⟨by omega, xs, v, (e2.sqT hs).sq, ev'⟩, fun w H3 ⟨e3, y⟩ => ⟨e3, by rw [Option.some.inj ((y xs ((e2.sqT hs).sq)).symm.trans ev')]; exact RV.mono e2 _ _ rv⟩⟩
        · show xs.length ≤ i
          have hl : ds.reverse.length ≤ i := hl
          rw [List.length_reverse] at hl
          rw [← hr.len]
          exact hl
      | _ => exact p.elim⟩
end
end DL

set_option Elab.async false
set_option linter.all false
set_option maxRecDepth 100000
set_option maxHeartbeats 4000000
namespace DL
open PySem PySem.Spec PyProof.Rows L2
/-! x.index(y) of a tuple or a list; dict(t) of a tuple of pairs -/
section
variable {X : Cx}
def rIndexT (K : PySem.W.Frag) : V → List V → Hp → VK → Prop := fun x xs H Q => ∃ (a : Addr) (y : V) (d : PyData) (ds : List PyData) (j : Nat) (z : PyData), x = V.ref a ∧ xs = [y] ∧ Dp K H (V.ref a) (.tuple ds) ∧ Dp K H y d ∧
  SeqAt.shaped (.tuple ds) = true ∧ SeqAt.shaped d = true ∧ ds[j]? = some z ∧ PyData.eqv z d = true ∧ (∀ (m : Nat) (z' : PyData), m < j → ds[m]? = some z' → PyData.eqv z' d = false) ∧ Q (.int (j : Nat)) H
theorem mt_indexT (hu : X.A.units + 65 < cLine) : MtR X "tuple.index" (rIndexT X.K) := by
  intro pins s σ H x xs v us Q I rx rxs h
  obtain ⟨a, y, d, ds, j, z, rfl, rfl, hl, hy, sl, sd, hz, hzj, hno, q⟩ := h
  cases rx
  cases rxs with
  | cons ry rt =>
    rename_i uy ut
    cases rt
    obtain ⟨bs, r1⟩ := Dp.reads I d y uy hy ry
    have hxs : PyData.canLayAll0 ds = true := SeqAt.canLay_of_shaped sl
    have hroom : X.A.units + 1 + min (PyData.depthAll ds) d.depth < cLine := room_in_shaped sd hu
    cases hl with
    | tup hs ha =>
      obtain ⟨its, rv, ⟨⟨cls, dd, data, sls⟩, ho, hc, n, hdt⟩, hlen⟩ := I.tuple hs
      simp only at hc hdt
      subst hc hdt
      obtain ⟨as, h4⟩ := Dp.readsAll I ds _ its ha rv
      have hn : its.length = ds.length := SeqAt.ReadsAll.length ds its as h4
      have hmap : its.map (SeqAt.readOf s.heap) = ds := SeqAt.readsAll_map ds its as hxs h4
      obtain ⟨hjd, _⟩ := List.getElem?_eq_some_iff.mp hz
      have hjl : j < its.length := by omega
      have hj : j < its.toArray.size := by simpa using hjl
      have at_ : ∀ (m : Nat) (hm : m < its.toArray.size) (z' : PyData), ds[m]? = some z' → SeqAt.readOf s.heap its.toArray[m] = z' := by
        intro m hm z' hz'
        have hml : m < its.length := by simpa using hm
        rw [← hmap, List.getElem?_map, List.getElem?_eq_getElem hml] at hz'
        have e1 : SeqAt.readOf s.heap its[m] = z' := Option.some.inj (show some (SeqAt.readOf s.heap its[m]) = some z' from hz')
        simpa using e1
      refine call_meets PySem.F.slot_tuple_index ⟨_, ho, rfl⟩ PySem.F.entry_tuple_index (PySem.F.args_tuple_index_2 _ _)
        (TI.tuple_indexAt a its.toArray n dd sls uy (fun u => PyData.eqv (SeqAt.readOf s.heap u) d) j hj ?_ ?_) ⟨ho, SeqAt.items_eqAt (vs := its.toArray) (show ReadsAll s.heap its.toArray.toList ds as from h4) r1 hxs (SeqAt.canLay_of_shaped sd) hroom, ?_⟩
      · show PyData.eqv (SeqAt.readOf s.heap its.toArray[j]) d = true
        rw [at_ j hj z hz]
        exact hzj
      · intro m hm hmj
        have hmd : m < ds.length := by omega
        have hz' : ds[m]? = some ds[m] := List.getElem?_eq_getElem hmd
        show PyData.eqv (SeqAt.readOf s.heap its.toArray[m]) d = false
        rw [at_ m hm _ hz']
        exact hno m _ hmj hz'
      · exact ⟨.int (j : Nat), H, I.tok _, ⟨_, rfl⟩, q⟩
def tIdx (K : PySem.W.Frag) (to : TE) (t : TA) : TE := fun σ H Q => to σ H fun x H1 =>
  ((∃ a xs, x = .ref a ∧ SqU K H1 a xs) ∧ t σ H1 fun ys H2 => rIndexT K x ys H2 Q) ∨ (tyV K "list" x H1 ∧ t σ H1 fun ys H2 => rIndexD K x ys H2 Q)
variable {o e : Expr} {es : List Expr} {to : TE} {t : TA} {apos cpos : Pos}
theorem pe_idx (hu : X.A.units + 65 < cLine) (ho : PE X o to) (ha : PA X (e :: es) t)
    (hbase : attributeBase o "index" X.env (eval o X.env) = eval o X.env := by rfl)
    (hfew : ((backTo cpos (starEach (e :: es) X.env)).all (fun x => !x.1) && (backToKw cpos (keywordEach [] X.env)).all (fun x => x.1.isSome)
      && decide ((e :: es).length + ([] : List Keyword).length + (if ([] : List Keyword).isEmpty then 0 else 1) < 30)) = true := by rfl)
    (hline : (apos.endLine == cpos.line) = true := by rfl) (hs : starEach (e :: es) X.env = (false, eval e X.env) :: starEach es X.env := by rfl) (hplain : (backTo cpos (starEach es X.env)).any (·.1) = false := by rfl) :
    PE X (.Call (.Attribute o "index" apos) (e :: es) [] cpos) (tIdx X.K to t) := by
  refine ⟨fun pins s σ H Q I h => ?_⟩
  refine wpAny_Call_method_late hbase hfew hline rfl (thn (ho.run pins s σ H _ I h) fun v s1 ⟨x, H1, I1, r1, alt⟩ => ?_)
  rcases alt with ⟨⟨a, xs, rfl, hs1⟩, q1⟩ | ⟨ty, q1⟩
  · obtain ⟨o, its, n, ho, hc, hd, hdat, rv, hz⟩ := hs1.obj I1
    cases r1
    refine ⟨"tuple", "tuple.index", PySem.F.plainAttrs_tuple, PySem.F.slot_tuple_index, PySem.F.type_tuple_index, ⟨o, ho, hc⟩, fun a e => ⟨o, by cases e; exact ho, hd⟩, ?_⟩
    have hA := ha.run cpos pins s1 σ H1 _ I1 q1
    rw [hs] at hA ⊢
    refine Calls.callWith_builtin (by show (false || (backTo cpos (starEach es X.env)).any (·.1)) = false; rw [hplain] <;> rfl) (Calls.evalArgs_plain ?_)
    exact thn hA fun us s2 ⟨vs, H2, I2, r2, q2⟩ => mt_indexT hu pins s2 σ H2 (.ref a) vs (.ref a) us Q I2 rfl r2 q2
  · obtain ⟨h1, h2⟩ := tyV_is I1 r1 ty
    refine ⟨"list", "list.index", PySem.F.plainAttrs_list, PySem.F.slot_list_index, PySem.F.type_list_index, h1, h2, ?_⟩
    have hA := ha.run cpos pins s1 σ H1 _ I1 q1
    rw [hs] at hA ⊢
    refine Calls.callWith_builtin (by show (false || (backTo cpos (starEach es X.env)).any (·.1)) = false; rw [hplain] <;> rfl) (Calls.evalArgs_plain ?_)
    exact thn hA fun us s2 ⟨vs, H2, I2, r2, q2⟩ => mt_indexD hu pins s2 σ H2 x vs v us Q I2 r1 r2 q2
/-- dict(t) of a tuple of pairs -/
theorem call_dictPT (hcalm : X.calm = true) : CallR X (.type "dict") (fun xs H Q => ∃ (a : Addr) (ps : List Addr) (kvs : List (Key × V)), xs = [.ref a] ∧ SqU X.K H a (ps.map V.ref) ∧ Paired (fun p kv => SqT X.K H p [kV kv.1, kv.2]) ps kvs ∧
    ∀ p, H p = none → Q (.ref p) (upd H p (.dK (mergeK [] kvs)))) := by
  intro pins s σ H xs us Q I r q
  obtain ⟨a, ps, kvs, ex, hq, hp, q⟩ := q
  subst ex
  obtain ⟨u, eu, rx⟩ := vals1 r
  subst eu
  cases rx
  obtain ⟨o, its, n, ho, hc, hd, hdat, rv, hz⟩ := hq.obj I
  have ei := refs_at rv
  subst ei
  rw [List.length_map] at hz
  obtain ⟨prs, rel, hl, hpr⟩ := pairs_of I hp
  have hex : ∀ j : Fin prs.length, ∃ u : Value, ∃ b : Addr, ps[j.1]? = some b ∧ IsTup s.heap b #[u, prs[j].2] ∧ keyIs prs[j].1 u = true := fun j => by
    obtain ⟨b, u, e1, e2, e3⟩ := hpr j.1 prs[j] (List.getElem?_eq_getElem j.2)
    exact ⟨u, b, e1, e2, e3⟩
  let f : Fin prs.length → Value := fun j => (hex j).choose
  have hf : ∀ j : Fin prs.length, ∃ b : Addr, ps[j.1]? = some b ∧ IsTup s.heap b #[f j, prs[j].2] ∧ keyIs prs[j].1 (f j) = true := fun j => (hex j).choose_spec
  let us : List (Value × Value) := List.ofFn fun j : Fin prs.length => (f j, prs[j].2)
  have hul : us.length = prs.length := List.length_ofFn
  have hat : ∀ (j : Nat) (k v : Value), us[j]? = some (k, v) → ∃ hj : j < prs.length, k = f ⟨j, hj⟩ ∧ v = (prs[j]).2 := fun j k v e => by
    have hj : j < us.length := (List.getElem?_eq_some_iff.mp e).1
    have hj' : j < prs.length := by rw [← hul]; exact hj
    have e2 := (List.getElem?_eq_some_iff.mp e).2
    simp only [us, List.getElem_ofFn] at e2
    injection e2 with e3 e4
    exact ⟨hj', e3.symm, e4.symm⟩
  refine PySem.call_dict_pairs (knd := mixKind X.prog X.w) (kvs := prs) (PySem.PairArg.tuple a ((ps.map Value.ref).toArray) (fun j => ps.getD j 0) us) (I.ok.hd hcalm) ⟨⟨o, n, ho, hc, hd, hdat⟩, by simp [hul, hl], fun j k v e => ?_⟩ ⟨hul.symm, fun i k v e => ?_⟩ (by rw [hul, hl]; exact hz) fun h' tk hd' k => ?_
  · obtain ⟨hj, rfl, rfl⟩ := hat j k v e
    obtain ⟨b, e1, e2, e3⟩ := hf ⟨j, hj⟩
    refine ⟨by simp [List.getD, e1], .inl ?_⟩
    simp only [List.getD, e1, Option.getD_some]
    exact e2
  · obtain ⟨hj, rfl, rfl⟩ := hat i k v e
    obtain ⟨b, e1, e2, e3⟩ := hf ⟨i, hj⟩
    exact ⟨prs[i].1, by rw [List.getElem?_eq_getElem hj], e3⟩
  · have hm : (s.heap.objs.size == sysModules) = false := beq_eq_false_iff_ne.mpr (Nat.ne_of_gt I.big)
    have hlen : (mergeK [] kvs).length ≤ sizeLine := by
      refine Nat.le_trans (length_mergeK kvs []) ?_
      rw [List.length_nil, Nat.zero_add, rel.length, hl]
      exact hz
    exact ⟨.ref s.heap.objs.size, upd H s.heap.objs.size (.dK (mergeK [] kvs)), I.laid (t' := tk) (fun b o e => k b o (by simp) e) (Nat.le_refl _) (show ObjOk X.prog X.w _ _ _ (.dK (mergeK [] kvs)) from ⟨hlen, hm, merged [] prs, KV.merge rel .nil, hd'⟩), rfl, q _ (I.hok.fresh (Nat.le_refl _))⟩
end
/-! the layer's forms -/
variable [TbC]
variable {X : Cx} {o e : Expr} {fo fe : M D} {apos cpos : Pos}
def idxR (ds : List D) (y : D) (h : DHeap) : Res D := if okP y = true ∧ okP (.tup ds) = true then match ds.findIdx? fun z => eqvD z y with | some j => .ok (.int (j : Nat)) h | none => .bad else .bad
def idxM (fo fe : M D) : M D := fun σ h => (fo σ h).bind fun x h1 => match x with
  | .tup ds => (fe σ h1).bind fun y h2 => idxR ds y h2
  | .ref n => match h1[n]? with
    | some (.lst _) => (fe σ h1).bind fun y h2 => match h2[n]? with
      | some (.lst ds) => idxR ds y h2
      | _ => .bad
    | _ => .bad
  | _ => .bad
theorem toPs_get : ∀ (ds : List D) (j : Nat), (toPs ds)[j]? = (ds[j]?).map toP
  | [], j => by simp [toPs]
  | d :: ds, 0 => by simp [toPs]
  | d :: ds, j + 1 => by simp [toPs, toPs_get ds j]
theorem idxR_at {K : PySem.W.Frag} {Y : EX} {ds : List D} {y : D} {h : DHeap} {H : Hp} {ρ : List Addr} {Q : VK} (p : Post K Y H ρ (RV K) (idxR ds y h) Q) (rh : RH K H ρ h) : pureD y = true ∧ pureDs ds = true ∧ SeqAt.shaped (toP y) = true ∧ SeqAt.shaped (.tuple (toPs ds)) = true ∧
    ∃ (j : Nat) (z : PyData), (toPs ds)[j]? = some z ∧ PyData.eqv z (toP y) = true ∧ (∀ (m : Nat) (z' : PyData), m < j → (toPs ds)[m]? = some z' → PyData.eqv z' (toP y) = false) ∧ Q (.int (j : Nat)) H := by
  unfold idxR at p
  split at p
  case isFalse => exact p.elim
  rename_i hc
  obtain ⟨h1, h2⟩ := hc
  unfold okP at h1 h2
  rw [Bool.and_eq_true] at h1 h2
  split at p
  case h_2 => exact p.elim
  rename_i j hj
  obtain ⟨hlt, hp, hno⟩ := List.findIdx?_eq_some_iff_getElem.mp hj
  refine ⟨h1.1, h2.1, h1.2, h2.2, j, toP ds[j], by rw [toPs_get, List.getElem?_eq_getElem hlt]; rfl, hp, fun m z' hm e => ?_, Post.ok p rh (rfl : RV K H ρ (.int _) _)⟩
  have hml : m < ds.length := by omega
  rw [toPs_get, List.getElem?_eq_getElem hml] at e
  cases e
  have := hno m hm
  simpa [eqvD] using this
theorem de_idx (hu : X.A.units + 200 < cLine) (ho : DE X o fo) (he : DE X e fe) (hbase : attributeBase o "index" X.env (eval o X.env) = eval o X.env := by rfl)
    (hfew : ((backTo cpos (starEach (e :: []) X.env)).all (fun x => !x.1) && (backToKw cpos (keywordEach [] X.env)).all (fun x => x.1.isSome)
      && decide ((e :: []).length + ([] : List Keyword).length + (if ([] : List Keyword).isEmpty then 0 else 1) < 30)) = true := by rfl)
    (hline : (apos.endLine == cpos.line) = true := by rfl) (hs : starEach (e :: []) X.env = (false, eval e X.env) :: starEach [] X.env := by rfl) (hplain : (backTo cpos (starEach [] X.env)).any (·.1) = false := by rfl) :
    DE X (.Call (.Attribute o "index" apos) [e] [] cpos) (idxM fo fe) :=
  ⟨peI (pe_idx (by omega) ho.run (pa_cons he.run pa_nil hs) hbase hfew hline hs hplain) fun σ H Q q => by
    obtain ⟨σd, h, ρ, re, rh, p⟩ := q
    refine ⟨σd, h, ρ, re, rh, p.bind.mono fun v H1 ⟨x, h1, ρ1, e1, rh1, r1, p1⟩ => ?_⟩
    cases x with
    | tup ds =>
      obtain ⟨a, xs, rfl, s1, q1⟩ := r1
      refine .inl ⟨⟨a, xs, rfl, s1⟩, σd, h1, ρ1, re.mono e1, rh1, p1.bind.mono fun w H2 ⟨y, h2, ρ2, e2, rh2, r2, p2⟩ => ?_⟩
      obtain ⟨g1, g2, g3, g4, j, z, g5, g6, g7, g8⟩ := idxR_at p2 rh2
      exact ⟨a, w, toP y, toPs ds, j, z, rfl, rfl, .tup (e2.sqT s1).sq (dps_of ds xs g2 (RVs.mono e2 _ _ q1)), dp_of y w g1 r2, g4, g3, g5, g6, g7, g8⟩
    | ref n =>
      simp only at p1
      split at p1
      case h_2 => exact p1.elim
      rename_i es hn
      obtain ⟨a, rfl, ha⟩ := r1
      obtain ⟨xs, x1, x2⟩ := rh1.at_ _ _ _ hn ha
      refine .inr ⟨Or.inl ⟨rfl, _, SqL.of x1⟩, σd, h1, ρ1, re.mono e1, rh1, p1.bind.mono fun w H2 ⟨y, h2, ρ2, e2, rh2, r2, p2⟩ => ?_⟩
      split at p2
      case h_2 => exact p2.elim
      rename_i ds hn2
      obtain ⟨ys, y1, y2⟩ := rh2.at_ _ _ _ hn2 (e2.pre _ _ ha)
      obtain ⟨g1, g2, g3, g4, j, z, g5, g6, g7, g8⟩ := idxR_at p2 rh2
      exact ⟨a, w, toP y, toPs ds, j, z, rfl, rfl, .lst (SqL.of y1) (dps_of ds ys g2 y2), dp_of y w g1 r2, g4, g3, g5, g6, g7, g8⟩
    | _ => exact p1.elim⟩
def dicTD : List D → DHeap → Res D
  | [.tup ds], h => if keyed ds = true then .ok (.ref h.length) (h ++ [.dic (foldP [] ds)]) else .bad
  | _, _ => .bad
theorem cd_dictT (hc : X.calm = true) : CallR X (.type "dict") (RCl X.K (XY X) dicTD) := clI (call_dictPT hc) fun vs H Q q => by
  obtain ⟨ds, h, ρ, r, rh, p⟩ := q
  unfold dicTD at p
  split at p
  case h_2 => exact p.elim
  case h_1 es =>
    obtain ⟨v, rfl, r1⟩ := r.inv1
    obtain ⟨l, xs, rfl, hs, x2⟩ := r1
    split at p
    case isFalse => exact p.elim
    rename_i hk
    obtain ⟨ps, kvs, rfl, e2, e3⟩ := RKVs.fold hk x2 RKVs.nil
    refine ⟨l, ps, kvs, rfl, hs, e2, fun q hq => ?_⟩
    obtain ⟨y1, y2⟩ := rh.push (c := .dic (foldP [] es)) hq (o := .dK (mergeK [] kvs)) rfl ⟨_, rfl, e3⟩
    exact p _ _ _ y1 y2 ⟨q, rfl, by rw [← rh.len]; simp⟩
end DL

set_option Elab.async false
set_option linter.all false
set_option maxRecDepth 100000
set_option maxHeartbeats 4000000
namespace DL
open PySem PySem.Spec PyProof.Rows L2
/-! len(set(t)) of a tuple of ints; min(l); l.reverse(); l.insert(i, x) -/
def dedI : List Int → List Int
  | [] => []
  | i :: r => if i ∈ dedI r then dedI r else i :: dedI r
theorem mem_dedI {x : Int} : ∀ l : List Int, x ∈ dedI l ↔ x ∈ l
  | [] => Iff.rfl
  | i :: r => by
    have ih := mem_dedI (x := x) r
    unfold dedI
    split
    · rename_i h
      rw [ih, List.mem_cons]
      refine ⟨.inr, fun q => q.elim (fun e => ?_) id⟩
      rw [e]
      exact (mem_dedI r).mp h
    · rw [List.mem_cons, List.mem_cons, ih]
theorem nd_dedI : ∀ l : List Int, (dedI l).Nodup
  | [] => List.nodup_nil
  | i :: r => by
    unfold dedI
    split
    · exact nd_dedI r
    · rename_i h
      exact List.nodup_cons.mpr ⟨h, nd_dedI r⟩
theorem dedI_le : ∀ l : List Int, (dedI l).length ≤ l.length
  | [] => Nat.le_refl _
  | i :: r => by
    have ih := dedI_le r
    unfold dedI
    split <;> simp only [List.length_cons] <;> omega
theorem dedI_len : ∀ l : List Int, (dedI l).length = l.length ↔ l.Nodup
  | [] => by simp [dedI]
  | i :: r => by
    have ih := dedI_len r
    have le := dedI_le r
    unfold dedI
    rw [List.nodup_cons]
    split
    · rename_i h
      have h := (mem_dedI r).mp h
      simp only [List.length_cons]
      exact ⟨fun e => by omega, fun q => absurd h q.1⟩
    · rename_i h
      simp only [List.length_cons]
      rw [← ih]
      exact ⟨fun e => ⟨fun m => h ((mem_dedI r).mpr m), by omega⟩, fun q => by omega⟩
section
variable {X : Cx}
def tLenSetU (K : PySem.W.Frag) (ta : TE) : TE := fun σ H Q => ta σ H fun x H1 => ∃ (l : Addr) (ns : List Int), x = .ref l ∧ SqT K H1 l (ns.map V.int) ∧ ns.length ≤ 4000 ∧ Q (.int ((dedI ns).length : Nat)) H1
theorem pe_lenSetU {a : Expr} {ta : TE} {p p2 q pos : Pos} (hg : Gl X "len") (hm : X.mg "len" = none) (hg2 : Gl X "set") (hm2 : X.mg "set" = none) (ha : PE X a ta) (hc : X.calm = true := by rfl)
    (na : starEach [a] X.env = (false, eval a X.env) :: starEach [] X.env := by rfl) : PE X (.Call (.Name "len" p) [.Call (.Name "set" p2) [a] [] q] [] pos) (tLenSetU X.K ta) := by
  refine ⟨fun pins s σ H Q I h => ?_⟩
  refine Call_ (ld_blt I hg hm boot_len ?_)
  refine PyProof.Rows.callWith_builtin1 (PyProof.Rows.args_cons ?_ rfl) rfl rfl
  refine Call_ (ld_blt I hg2 hm2 boot_set ?_)
  refine PyProof.Rows.callWith_type1 (PyProof.Rows.args_cons (thn (ha.run pins s σ H _ I h) fun v s1 ⟨x, H1, I1, r1, q1⟩ => PyProof.Rows.args_nil ?_) na) na rfl
  obtain ⟨l, ns, rfl, hq, hl, q1⟩ := q1
  cases r1
  obtain ⟨its, r, pl, hz⟩ := I1.tuple hq
  refine call_set_tupI ns (I1.ok.hd hc) pl (by simpa using RZ.intsAre_vals r) (by unfold scanBound; omega) fun h' tk c hS hcl hk => ?_
  refine PyProof.Rows.args_nil ?_
  obtain ⟨o, es, ep, t, ho, hex, hd, _, hnd, hmem, hlt, hf, hn, _⟩ := hS
  have I2 : Inv X pins σ H1 { s1 with heap := h', toks := tk } := I1.kept hk
  have hc' : es.size = (dedI ns).length := by
    have pm : (es.toList.map keyOf).Perm (dedI ns) := (List.perm_ext_iff_of_nodup hnd (nd_dedI ns)).mpr fun k => by
      rw [mem_dedI, ← hmem k]
      exact decide_eq_true_iff
    have := pm.length_eq
    rw [List.length_map] at this
    simpa using this
  have hsz : (es.size : Int) < 2 ^ 63 := by
    have := dedI_le ns
    omega
  exact call_len_set ho hex hd hf hsz ⟨.int ((dedI ns).length : Nat), H1, I2.tok _, ⟨_, by rw [hc']⟩, q1⟩
end
variable [TbC]
def lenSetM (f : M D) : M D := fun σ h => (f σ h).bind fun d h1 => match d with
  | .tup ds => match intsOf ds with | some ns => if ns.length ≤ 4000 then .ok (.int ((dedI ns).length : Nat)) h1 else .bad | none => .bad
  | _ => .bad
section
variable {X : Cx} {a : Expr} {fa : M D} {p p2 q pos : Pos}
theorem de_lenSet (hg : Gl X "len") (hm : X.mg "len" = none) (hg2 : Gl X "set") (hm2 : X.mg "set" = none) (ha : DE X a fa) (hc : X.calm = true := by rfl)
    (na : starEach [a] X.env = (false, eval a X.env) :: starEach [] X.env := by rfl) : DE X (.Call (.Name "len" p) [.Call (.Name "set" p2) [a] [] q] [] pos) (lenSetM fa) :=
  ⟨peI (pe_lenSetU hg hm hg2 hm2 ha.run hc na) fun σ H Q q => by
    obtain ⟨σd, h, ρ, re, rh, p⟩ := q
    refine ⟨σd, h, ρ, re, rh, p.bind.mono fun v H1 ⟨d, h1, ρ1, e1, rh1, r1, p1⟩ => ?_⟩
    cases d with
    | tup ds =>
      simp only at p1
      split at p1
      case h_2 => exact p1.elim
      rename_i ns hn
      split at p1
      case isFalse => exact p1.elim
      rename_i hl
      obtain ⟨l, xs, rfl, hs, hr⟩ := r1
      rw [intsOf_ok hn] at hr
      rw [hr.ints] at hs
      exact ⟨l, ns, rfl, hs.sq, hl, Post.ok p1 rh1 (rfl : RV X.K H1 ρ1 (.int _) _)⟩
    | _ => exact p1.elim⟩
def minL : List Int → Option Int
  | [] => none
  | i :: r => match minL r with | none => some i | some m => some (if m < i then m else i)
theorem minL_le : ∀ {ns : List Int} {m : Int}, minL ns = some m → m ∈ ns ∧ ∀ y, y ∈ ns → m ≤ y
  | [], m, e => by cases e
  | i :: r, m, e => by
    simp only [minL] at e
    cases q : minL r with
    | none =>
      rw [q] at e
      cases e
      have : r = [] := by
        cases r with
        | nil => rfl
        | cons j r => simp only [minL] at q; cases q2 : minL r <;> rw [q2] at q <;> cases q
      subst this
      exact ⟨List.mem_cons_self, fun y hy => by rw [List.mem_singleton.mp hy]; exact Int.le_refl _⟩
    | some k =>
      rw [q] at e
      obtain ⟨h1, h2⟩ := minL_le q
      simp only [Option.some.injEq] at e
      subst e
      split
      · refine ⟨List.mem_cons_of_mem _ h1, fun y hy => ?_⟩
        rcases List.mem_cons.mp hy with rfl | hy
        · omega
        · exact h2 y hy
      · refine ⟨List.mem_cons_self, fun y hy => ?_⟩
        rcases List.mem_cons.mp hy with rfl | hy
        · exact Int.le_refl _
        · have := h2 y hy; omega
def minD : List D → DHeap → Res D := overInts fun ns => (minL ns).map .int
theorem cd_min (hc : X.calm = true) : CallR X (.builtin "min") (RCl X.K (XY X) minD) := clI (cr_min hc) fun vs H Q q => by
  obtain ⟨a, ns, r, h, ρ, rfl, hs, e, rh, p⟩ := overInts_inv q
  cases em : minL ns with
  | none => simp only [em] at e; cases e
  | some m =>
    simp only [em] at e
    cases e
    obtain ⟨h1, h2⟩ := minL_le em
    refine ⟨a, ns, rfl, hs, ?_, fun k hk hg => ?_⟩
    · cases ns with
      | nil => cases em
      | cons _ _ => exact Nat.succ_pos _
    · have : k = m := Int.le_antisymm (hg m h1) (h2 k hk)
      subst this
      exact Post.ok p rh (rfl : RV X.K H ρ (.int _) _)
end
section
variable {X : Cx} {o e e2 : Expr} {fo fe fe2 : M D} {apos cpos : Pos}
def rvsM (fo : M D) : M D := fun σ h => (fo σ h).bind fun x h1 => match x with
  | .ref n => match h1[n]? with
    | some (.lst ds) => .ok .non (h1.set n (.lst ds.reverse))
    | _ => .bad
  | _ => .bad
theorem RVs.rev {K : PySem.W.Frag} {H : Hp} {ρ : List Addr} : ∀ {ds : List D} {xs : List V}, RVs K H ρ ds xs → RVs K H ρ ds.reverse xs.reverse
  | [], xs, h => by rw [show xs = [] from h]; rfl
  | d :: ds, xs, h => by
    obtain ⟨y, ys, rfl, h1, h2⟩ := h
    rw [List.reverse_cons, List.reverse_cons]
    exact (RVs.rev h2).app (RVs.one h1)
theorem de_rvs (ho : DE X o fo) (hbase : attributeBase o "reverse" X.env (eval o X.env) = eval o X.env := by rfl) (hline : (apos.endLine == cpos.line) = true := by rfl) : DE X (.Call (.Attribute o "reverse" apos) [] [] cpos) (rvsM fo) :=
  ⟨peI (pe_bm0 PySem.F.plainAttrs_list PySem.F.slot_list_reverse PySem.F.type_list_reverse mt_reverse ho.run hbase hline) fun σ H Q q => by
    obtain ⟨σd, h, ρ, re, rh, p⟩ := q
    refine ⟨σd, h, ρ, re, rh, p.bind.mono fun v H1 ⟨x, h1, ρ1, e1, rh1, r1, p1⟩ => ?_⟩
    cases x with
    | ref n =>
      simp only at p1
      split at p1
      · rename_i ds hn
        obtain ⟨a, rfl, ha⟩ := r1
        obtain ⟨xs, x1, x2⟩ := rh1.at_ _ _ _ hn ha
        refine ⟨Or.inl ⟨rfl, _, SqL.of x1⟩, ?_⟩
        obtain ⟨z1, z2⟩ := rh1.put ha (o := .lst xs.reverse) rfl (c := .lst ds.reverse) ⟨_, rfl, x2.rev⟩
        exact ⟨a, xs, rfl, rfl, x1, p1 _ _ _ z1 z2 rfl⟩
      · exact p1.elim
    | _ => exact p1.elim⟩
def insM (fo fe fe2 : M D) : M D := fun σ h => (fo σ h).bind fun x h1 => match x with
  | .ref n => match h1[n]? with
    | some (.lst _) => (fe σ h1).bind fun i h2 => (fe2 σ h2).bind fun y h3 => match i, h3[n]? with
      | .int i, some (.lst ds) => if ds.length < sizeLine ∧ 0 ≤ i ∧ i < 2 ^ 63 then .ok .non (h3.set n (.lst (ds.take i.toNat ++ [y] ++ ds.drop i.toNat))) else .bad
      | _, _ => .bad
    | _ => .bad
  | _ => .bad
theorem de_ins (ho : DE X o fo) (he : DE X e fe) (he2 : DE X e2 fe2) (hbase : attributeBase o "insert" X.env (eval o X.env) = eval o X.env := by rfl)
    (hfew : ((backTo cpos (starEach (e :: [e2]) X.env)).all (fun x => !x.1) && (backToKw cpos (keywordEach [] X.env)).all (fun x => x.1.isSome)
      && decide ((e :: [e2]).length + ([] : List Keyword).length + (if ([] : List Keyword).isEmpty then 0 else 1) < 30)) = true := by rfl)
    (hline : (apos.endLine == cpos.line) = true := by rfl) (hs : starEach (e :: [e2]) X.env = (false, eval e X.env) :: starEach [e2] X.env := by rfl) (hs2 : starEach [e2] X.env = (false, eval e2 X.env) :: starEach [] X.env := by rfl) (hplain : (backTo cpos (starEach [e2] X.env)).any (·.1) = false := by rfl) :
    DE X (.Call (.Attribute o "insert" apos) [e, e2] [] cpos) (insM fo fe fe2) :=
  ⟨peI (pe_bm PySem.F.plainAttrs_list PySem.F.slot_list_insert PySem.F.type_list_insert mt_insert ho.run (pa_cons he.run (pa_cons he2.run pa_nil hs2) hs) hbase hfew hline hs hplain) fun σ H Q q => by
    obtain ⟨σd, h, ρ, re, rh, p⟩ := q
    refine ⟨σd, h, ρ, re, rh, p.bind.mono fun v H1 ⟨x, h1, ρ1, e1, rh1, r1, p1⟩ => ?_⟩
    cases x with
    | ref n =>
      simp only at p1
      split at p1
      · rename_i es hn
        obtain ⟨a, rfl, ha⟩ := r1
        obtain ⟨xs, x1, x2⟩ := rh1.at_ _ _ _ hn ha
        refine ⟨Or.inl ⟨rfl, _, SqL.of x1⟩, σd, h1, ρ1, re.mono e1, rh1, p1.bind.mono fun w H2 ⟨i, h2, ρ2, e2', rh2, r2, p2⟩ => ?_⟩
        refine ⟨σd, h2, ρ2, (re.mono e1).mono e2', rh2, p2.bind.mono fun w2 H3 ⟨y, h3, ρ3, e3, rh3, r3, p3⟩ => ?_⟩
        cases i with
        | int i =>
          split at p3
          · rename_i ds i' ds' ei hn2
            split at p3
            · rename_i hc
              obtain ⟨c1, c2, c3⟩ := hc
              have ha3 := e3.pre _ _ (e2'.pre _ _ ha)
              obtain ⟨ys, y1, y2⟩ := rh3.at_ _ _ _ hn2 ha3
              cases ei
              cases (show w = _ from r2)
              obtain ⟨z1, z2⟩ := rh3.put ha3 (o := .lst (ys.take i.toNat ++ [w2] ++ ys.drop i.toNat)) rfl (c := .lst (ds'.take i.toNat ++ [y] ++ ds'.drop i.toNat)) ⟨_, rfl, ((y2.take _).app (RVs.one r3)).app (y2.drop _)⟩
              exact ⟨a, ys, i, w2, rfl, rfl, y1, by rw [← y2.len]; exact c1, c2, c3, p3 _ _ _ z1 z2 rfl⟩
            · exact p3.elim
          · exact p3.elim
        | _ => exact p3.elim
      · exact p1.elim
    | _ => exact p1.elim⟩
end
end DL

set_option Elab.async false
set_option linter.all false
set_option maxRecDepth 100000
namespace DL
open PySem PySem.Spec PyProof.Rows L2
variable [TbC]
/-! code that is never run: its meaning is bad, which asks nothing and gives nothing -/
def sBad : M Fl := fun _ _ => .bad
theorem ds_bad {X : Cx} {st : Stmt} : DS X st sBad := ⟨⟨fun _ _ _ _ _ _ ⟨_, _, _, _, _, q⟩ => q.elim⟩⟩
theorem dss_bad {X : Cx} {st : List Stmt} : DSs X st sBad := ⟨⟨fun _ _ _ _ _ _ ⟨_, _, _, _, _, q⟩ => q.elim⟩⟩
def eBad : M D := fun _ _ => .bad
theorem de_bad {X : Cx} {e : Expr} : DE X e eBad := ⟨⟨fun _ _ _ _ _ _ ⟨_, _, _, _, _, q⟩ => q.elim⟩⟩
end DL

set_option Elab.async false
set_option linter.all false
set_option maxRecDepth 100000
set_option maxHeartbeats 4000000
namespace DL
open PySem PySem.Spec PyProof.Rows L2
/-! isinstance(e, (A, B, ..)), e the exception that a suite holds; not in a suite -/
def rIsET (K : PySem.W.Frag) (D a : Addr) : List V → Hp → VK → Prop := fun xs H Q => ∃ (tp : Addr) (ob : Obj) (cs : List V) (us : List Value) (b : Bool), xs = [.ref a, .ref tp] ∧ H tp = some (.frz ob (.tup cs)) ∧ Paired ClsV cs us ∧ PySem.W.kitAny K (.ref D) us = some b ∧ Q (.bl b) H
theorem call_isET {X : Cx} {a D : Addr} {oe : Obj} {pn : List (Addr × Obj)} (C : ExcC X.K D) (hz : Zc (.ref D) none oe) (hf : ∃ vs, oe.data = .fields vs) : CallR (X.suite a ((a, oe) :: pn)) (.builtin "isinstance") (rIsET X.K D a) := by
  intro pins s σ H xs us Q I r h
  obtain ⟨tp, ob, cs, ws, b, rfl, hT, k, e, q⟩ := h
  obtain ⟨u1, u2, rfl, r1, r2⟩ := vals2 r
  cases (show u1 = Value.ref a from r1)
  cases (show u2 = Value.ref tp from r2)
  obtain ⟨_, _, its, rv, o, h1, h2, n, h3⟩ := (show ObjOk X.prog X.w H s.heap tp (.frz ob (.tup cs)) from I.hok tp _ hT)
  have e3 := ClsV.all k rv
  subst e3
  obtain ⟨oc, od, dt, sl⟩ := o
  simp only at h2 h3
  subst h2 h3
  obtain ⟨hget, _⟩ := I.pin (a, oe) (List.mem_append.mpr (.inl List.mem_cons_self))
  obtain ⟨vs, hv⟩ := hf
  have J : PySem.W.InstAt s.heap a oe D none := by
    obtain ⟨oc, od, oda, osl⟩ := oe
    obtain ⟨h1, h2⟩ := hz
    dsimp only at h1 h2 hv
    subst h1 h2 hv
    exact ⟨hget, rfl, rfl, trivial⟩
  exact PySem.W.kia_tup (PySem.W.handS_kitx_exc C.hg C.hk C.hs C.hd C.ha C.hn C.ht C.hm) I.kIn J h1 e (fun z => nomatch z) fun tk => ⟨.bl b, H, I.kept (t' := tk) fun _ _ z => z, rfl, q⟩
section
variable [TbC] {X : Cx} {pos p : Pos} {i : Nat} {a : Addr}
/-- expressions with constant values -/
def tCs (cvs : List V) : TA := fun _ H Q => Q cvs H
theorem pcs_nil {X : Cx} : PA X [] (tCs []) := paI pa_nil fun σ H Q q => q
theorem pcs_cons {X : Cx} {e : Expr} {es : List Expr} {cv : V} {cvs : List V} (h : PE X e (tC cv)) (r : PA X es (tCs cvs)) (hs : starEach (e :: es) X.env = (false, eval e X.env) :: starEach es X.env := by rfl) : PA X (e :: es) (tCs (cv :: cvs)) := paI (pa_cons h r hs) fun σ H Q q => q
theorem dx_isET {es : List Expr} {n : Str} {pT pn2 : Pos} {x1} {oe : Obj} {cls : Value} {d : Option Addr} {pn : List (Addr × Obj)} {tab : List (Str × Bool)} {y : DX} {cvs : List V} {tvs : List Value} (hz : Zc cls d oe) (hf : ∃ vs, oe.data = .fields vs) (hy : X.mg y.cls = some cls) (hd : y.fs = [] → d = none)
    (hg : Gl X "isinstance") (hm : X.mg "isinstance" = none) (hcv : Paired ClsV cvs tvs) (hT : ∀ n b, tab.lookup n = some b → ∃ D, X.mg n = some (.ref D) ∧ ExcC X.K D ∧ PySem.W.kitAny X.K (.ref D) tvs = some b)
    (hN : X.N[i]? = some n) (hv : Vis X.env.scope n) (ht : PA (X.suite a ((a, oe) :: pn)) es (tCs cvs)) (hl : cvs.length ≤ 100) (hnd : (n == ("__debug__" : Str)) = false := by decide) (hncd : (n == ("__classdict__" : Str)) = false := by decide)
    (he : starEach [.Name n pn2, .Tuple es x1 pT] X.env = (false, eval (.Name n pn2) X.env) :: starEach [.Tuple es x1 pT] X.env := by rfl) (he2 : starEach [.Tuple es x1 pT] X.env = (false, eval (.Tuple es x1 pT) X.env) :: starEach [] X.env := by rfl)
    (hpl : (backTo pos (starEach [.Tuple es x1 pT] X.env)).any (·.1) = false := by rfl) :
    DEx (X.suite a ((a, oe) :: pn)) i a (.Call (.Name "isinstance" p) [.Name n pn2, .Tuple es x1 pT] [] pos) (isxM tab y) := by
  refine ⟨⟨fun pins s σ H Q I q => ?_⟩⟩
  obtain ⟨q0, σd, h, ρ, re, rh, pp⟩ := q
  unfold isxM at pp
  split at pp
  case h_2 => exact pp.elim
  rename_i b e1 e2
  obtain ⟨D, hD, C, hk⟩ := hT _ _ e2
  obtain rfl : cls = .ref D := Option.some.inj (hy.symm.trans hD)
  obtain rfl := hd e1
  refine (pe_callB (call_isET C hz hf) hg hm (by decide +kernel) (pa_cons (pv i hN hv hnd hncd) (pa_cons (peTupU ht) pa_nil he2) he) (by decide) (by decide) he hpl).run pins s σ H Q I ⟨_, q0, Nat.le_trans hl (by rw [sizeLine_eq]; decide), fun tp hq ob hd => ?_⟩
  obtain ⟨y1, y2⟩ := rh.lay (.frz ob (.tup cvs)) hq
  exact ⟨tp, ob, cvs, tvs, b, rfl, (by simp [upd]), hcv, hk, pp _ _ _ y1 y2 rfl⟩
theorem dx_not (ha : DEx X i a e fa) : DEx X i a (.UnaryOp .Not e pos) (notV fa) :=
  ⟨peI (pe_not ha.run) fun σ H Q q => by
    obtain ⟨q0, σd, h, ρ, re, rh, p⟩ := q
    refine ⟨q0, σd, h, ρ, re, rh, p.bind.mono fun x H1 ⟨d, h1, ρ1, e1, rh1, r1, p1⟩ => ?_⟩
    cases d with
    | bl k => exact ⟨k, r1, Post.ok p1 rh1 (rfl : RV X.K H1 ρ1 (.bl (!k)) (.bl (!k)))⟩
    | _ => exact p1.elim⟩
theorem kA_nil {K : PySem.W.Frag} {t : Value} : PySem.W.kitAny K t [] = some false := rfl
theorem kA_no {K : PySem.W.Frag} {t c : Value} {cs : List Value} {r : Bool} (h : PySem.W.kitOne K t c = some false) (hr : PySem.W.kitAny K t cs = some r) : PySem.W.kitAny K t (c :: cs) = some r := kitAny_cons h (fun _ => hr) (fun e => by cases e)
theorem kA_yes {K : PySem.W.Frag} {t c : Value} {cs : List Value} (h : PySem.W.kitOne K t c = some true) : PySem.W.kitAny K t (c :: cs) = some true := kitAny_cons h (fun e => by cases e) (fun _ => rfl)
theorem tabA_nil {K : PySem.W.Frag} {mg : Str → Option Value} {tvs : List Value} : ∀ (n : Str) (b : Bool), ([] : List (Str × Bool)).lookup n = some b → ∃ D, mg n = some (.ref D) ∧ ExcC K D ∧ PySem.W.kitAny K (.ref D) tvs = some b := fun _ _ e => by cases e
theorem tabA_cons {K : PySem.W.Frag} {mg : Str → Option Value} {tvs : List Value} {n₀ : Str} {b₀ : Bool} {C : Addr} {tab : List (Str × Bool)} (h : mg n₀ = some (.ref C)) (hx : ExcC K C) (h1 : PySem.W.kitAny K (.ref C) tvs = some b₀)
    (hr : ∀ (n : Str) (b : Bool), tab.lookup n = some b → ∃ D, mg n = some (.ref D) ∧ ExcC K D ∧ PySem.W.kitAny K (.ref D) tvs = some b) : ∀ (n : Str) (b : Bool), ((n₀, b₀) :: tab).lookup n = some b → ∃ D, mg n = some (.ref D) ∧ ExcC K D ∧ PySem.W.kitAny K (.ref D) tvs = some b := fun n b e => by
  rw [List.lookup_cons] at e
  split at e
  · rename_i q
    have q' : n = n₀ := by simpa using q
    subst q'
    cases e
    exact ⟨C, h, hx, h1⟩
  · exact hr n b e
end
end DL

set_option Elab.async false
set_option linter.all false
set_option maxRecDepth 100000
namespace DL
open PySem PySem.Spec PyProof.Rows L2
instance : TbC := ⟨[]⟩
/-- what holds of a result -/
def W {α : Type} (r : Res α) (Q : α → DHeap → Prop) : Prop := match r with | .ok a h => Q a h | _ => False
theorem Z4R {α : Type} {a : α} {h : DHeap} {Q : α → DHeap → Prop} : W (.ok a h) Q = Q a h := rfl
theorem W_bad {α : Type} {Q : α → DHeap → Prop} : W (.bad) Q = False := rfl
theorem W_exc {α : Type} {x : DX} {s : DEnv} {h : DHeap} {Q : α → DHeap → Prop} : W (.exc x s h) Q = False := rfl
theorem W_bind {α β : Type} {r : Res α} {k : α → DHeap → Res β} {Q : β → DHeap → Prop} : W (r.bind k) Q = W r (fun a h => W (k a h) Q) := by cases r <;> rfl
theorem W_mono {α : Type} {r : Res α} {Q Q' : α → DHeap → Prop} (h : W r Q) (i : ∀ a h, Q a h → Q' a h) : W r Q' := by
  cases r with
  | ok a h' => exact i _ _ h
  | bad => exact h
  | exc x s h' => exact h
theorem W_get {α : Type} {r : Res α} {Q : α → DHeap → Prop} (h : W r Q) : ∃ a h', r = .ok a h' ∧ Q a h' := by
  cases r with
  | ok a h' => exact ⟨a, h', rfl, h⟩
  | bad => exact h.elim
  | exc x s h' => exact h.elim
theorem W_calm {α : Type} {r : Res α} {Q : α → DHeap → Prop} : W r.calm Q = W r Q := by cases r <;> rfl
theorem W_at {α : Type} {r : Res α} {σ : DEnv} {Q : α → DHeap → Prop} : W (r.at σ) Q = W r Q := by cases r <;> rfl
theorem W_ite {α : Type} {c : Prop} [Decidable c] {a : α} {h : DHeap} {Q : α → DHeap → Prop} : W (if c then .ok a h else .bad) Q = (c ∧ Q a h) := by
  by_cases e : c <;> simp [e, W]
theorem W_ext {α : Type} {r : Res α} {Q Q' : α → DHeap → Prop} (e : ∀ a h, Q a h = Q' a h) : W r Q = W r Q' := by rw [show Q = Q' from funext fun a => funext fun h => e a h]
theorem W_b {α β : Type} {r : Res α} {k : α → DHeap → Res β} {Q : β → DHeap → Prop} {Q' : α → DHeap → Prop} (e : ∀ a h, W (k a h) Q = Q' a h) : W (r.bind k) Q = W r Q' := by rw [W_bind]; exact W_ext e
def kOpt {α : Type} (o : Option α) (Q : α → DHeap → Prop) (h : DHeap) : Prop := match o with | some a => Q a h | none => False
theorem Z4A {α : Type} {a : α} {Q : α → DHeap → Prop} {h : DHeap} : kOpt (some a) Q h = Q a h := rfl
def getV : DEnv → Nat → Option D
  | [], _ => none
  | a :: _, 0 => a
  | _ :: s, i + 1 => getV s i
theorem getV_eq : ∀ (σ : DEnv) (i : Nat), getV σ i = (σ[i]?).join
  | [], _ => rfl
  | a :: _, 0 => by cases a <;> rfl
  | _ :: s, i + 1 => by simp [getV, getV_eq s i]
theorem Z4B {a : Option D} {s : DEnv} : getV (a :: s) 0 = a := rfl
theorem Z4C {a : Option D} {s : DEnv} {i : Nat} : getV (a :: s) (i + 1) = getV s i := rfl
abbrev QD := D → DHeap → Prop
abbrev QBl := Bool → DHeap → Prop
abbrev QFl := Fl → DHeap → Prop
abbrev QLs := List D → DHeap → Prop
abbrev QEn := DEnv → DHeap → Prop
abbrev QOp := Option Int → DHeap → Prop
abbrev QSr := Src → DHeap → Prop
section
variable {σ s : DEnv} {h : DHeap} {i j n np : Nat} {fa fb fc : M D} {ta tb : M Bool} {f g B : M Fl} {fs : M (List D)} {src : M Src} {m : D → D → DHeap → Res D} {ms : List D → DHeap → Res D} {Q : QD} {QB : QBl} {QF : QFl} {QS : QLs} {QE : QEn} {QO : QOp} {QI : QSr} {d x y o k v : D} {ds es ys : List D} {kvs : List (Key × D)} {b : Bool} {a c : Int} {z w' : Str} {fl : Fl} {gg : D → M DEnv} {gs : List D → M DEnv} {l u : M (Option Int)} {lo hi : Option Int} {T : String} {sr : Src}
theorem Z0a : W (vr i σ h) Q = kOpt (getV σ i) Q h := by
  rw [getV_eq]; unfold vr
  cases e : σ[i]? with
  | none => rfl
  | some o => cases o <;> rfl
theorem Z0b : W (cst d σ h) Q = Q d h := rfl
def kB2 (m : D → D → DHeap → Res D) (x : D) (Q : QD) : QD := fun y h => W (m x y h) Q
def kB1 (m : D → D → DHeap → Res D) (fb : M D) (σ : DEnv) (Q : QD) : QD := fun x h => W (fb σ h) (kB2 m x Q)
theorem Z0c : W (bin2 m fa fb σ h) Q = W (fa σ h) (kB1 m fb σ Q) := W_b fun _ _ => W_bind
theorem Z0d : kB1 m fb σ Q x h = W (fb σ h) (kB2 m x Q) := rfl
theorem Z0e : kB2 m x Q y h = W (m x y h) Q := rfl
def kT (QB : QBl) : QD := fun d h => match d with | .bl b => QB b h | _ => False
theorem Z0f : W (tst fa σ h) QB = W (fa σ h) (kT QB) := W_b fun d _ => by cases d <;> rfl
theorem Z0g : kT QB (.bl b) h = QB b h := rfl
def kAn (tb : M Bool) (σ : DEnv) (QB : QBl) : QBl := fun b h => if b = true then W (tb σ h) QB else QB false h
theorem Z0h : W (andT ta tb σ h) QB = W (ta σ h) (kAn tb σ QB) := W_b fun b _ => by cases b <;> rfl
theorem Z0i : kAn tb σ QB true h = W (tb σ h) QB := rfl
theorem Z0j : kAn tb σ QB false h = QB false h := rfl
def kOr (tb : M Bool) (σ : DEnv) (QB : QBl) : QBl := fun b h => if b = true then QB true h else W (tb σ h) QB
theorem Z0k : W (orT ta tb σ h) QB = W (ta σ h) (kOr tb σ QB) := W_b fun b _ => by cases b <;> rfl
theorem Z0l : kOr tb σ QB true h = QB true h := rfl
theorem Z0m : kOr tb σ QB false h = W (tb σ h) QB := rfl
def kNo (QB : QBl) : QBl := fun b h => QB (!b) h
theorem Z0n : W (notT ta σ h) QB = W (ta σ h) (kNo QB) := W_b fun _ _ => rfl
theorem Z0o : kNo QB b h = QB (!b) h := rfl
def kAnV (fb : M D) (σ : DEnv) (Q : QD) : QD := fun d h => match d with | .bl b => (if b = true then W (fb σ h) Q else Q (.bl false) h) | _ => False
theorem Z0p : W (andV fa fb σ h) Q = W (fa σ h) (kAnV fb σ Q) := W_b fun d _ => by
  cases d <;> try rfl
  rename_i b
  cases b <;> rfl
theorem Z0q : kAnV fb σ Q (.bl true) h = W (fb σ h) Q := rfl
theorem Z0r : kAnV fb σ Q (.bl false) h = Q (.bl false) h := rfl
def kOrV (fb : M D) (σ : DEnv) (Q : QD) : QD := fun d h => match d with | .bl b => (if b = true then Q (.bl true) h else W (fb σ h) Q) | _ => False
theorem Z0s : W (orV fa fb σ h) Q = W (fa σ h) (kOrV fb σ Q) := W_b fun d _ => by
  cases d <;> try rfl
  rename_i b
  cases b <;> rfl
theorem Z0t : kOrV fb σ Q (.bl true) h = Q (.bl true) h := rfl
theorem Z0u : kOrV fb σ Q (.bl false) h = W (fb σ h) Q := rfl
def kNoV (Q : QD) : QD := fun d h => match d with | .bl b => Q (.bl (!b)) h | _ => False
theorem Z0v : W (notV fa σ h) Q = W (fa σ h) (kNoV Q) := W_b fun d _ => by cases d <;> rfl
theorem Z0w : kNoV Q (.bl b) h = Q (.bl (!b)) h := rfl
def kIfV (fa fb : M D) (σ : DEnv) (Q : QD) : QBl := fun b h => if b = true then W (fa σ h) Q else W (fb σ h) Q
theorem Z0x : W (ifV ta fa fb σ h) Q = W (ta σ h) (kIfV fa fb σ Q) := W_b fun b _ => by cases b <;> rfl
theorem Z0y : kIfV fa fb σ Q true h = W (fa σ h) Q := rfl
theorem Z0z : kIfV fa fb σ Q false h = W (fb σ h) Q := rfl
theorem Z0A : W (aNil σ h) QS = QS [] h := rfl
def kA2 (d : D) (QS : QLs) : QLs := fun ds h => QS (d :: ds) h
def kA1 (fs : M (List D)) (σ : DEnv) (QS : QLs) : QD := fun d h => W (fs σ h) (kA2 d QS)
theorem Z0B : W (aCons fa fs σ h) QS = W (fa σ h) (kA1 fs σ QS) := W_b fun _ _ => W_b fun _ _ => rfl
theorem Z0C : kA1 fs σ QS d h = W (fs σ h) (kA2 d QS) := rfl
theorem Z0D : kA2 d QS ds h = QS (d :: ds) h := rfl
def kC (ms : List D → DHeap → Res D) (Q : QD) : QLs := fun ds h => W (ms ds h) Q
theorem Z0E : W (callM ms fs σ h) Q = W (fs σ h) (kC ms Q) := W_bind
theorem Z0F : kC ms Q ds h = W (ms ds h) Q := rfl
theorem Z6m : W (callF ms fs σ h) Q = W (fs σ h) (kC ms Q) := W_b fun _ _ => W_at
def kTyR (T : String) (Q : QD) (o : Option Cell) (h : DHeap) : Prop := match o with | some (.lst _) => Q (.bl (T == "list")) h | some (.dic _) => Q (.bl (T == "dict")) h | none => False
def kTy (T : String) (Q : QD) : QD := fun d h => match d with
  | .non => Q (.bl false) h | .bl _ => Q (.bl (T == "int" || T == "bool")) h | .int _ => Q (.bl (T == "int")) h | .str _ => Q (.bl (T == "str")) h | .tup _ => Q (.bl (T == "tuple")) h | .fl _ => Q (.bl (T == "list")) h
  | .ref n => kTyR T Q (h[n]?) h
theorem Z0G : W (isiM T fa σ h) Q = W (fa σ h) (kTy T Q) := W_b fun d h1 => by
  cases d <;> try rfl
  rename_i n
  unfold isTy kTy kTyR
  simp only
  cases e : h1[n]? with
  | none => rfl
  | some c => cases c <;> rfl
theorem Z0H : kTy "int" Q .non h = Q (.bl false) h := rfl
theorem Z0I : kTy "int" Q (.bl b) h = Q (.bl true) h := rfl
theorem Z0J : kTy "int" Q (.int a) h = Q (.bl true) h := rfl
theorem Z0K : kTy "int" Q (.str z) h = Q (.bl false) h := rfl
theorem Z0L : kTy "int" Q (.tup ds) h = Q (.bl false) h := rfl
theorem Z0M : kTy "int" Q (.fl ds) h = Q (.bl false) h := rfl
theorem Z0N : kTy "int" Q (.ref n) h = kTyR "int" Q (h[n]?) h := rfl
theorem Z0O : kTyR "int" Q (some (.lst ds)) h = Q (.bl false) h := rfl
theorem Z0P : kTyR "int" Q (some (.dic kvs)) h = Q (.bl false) h := rfl
theorem Z0Q : kTy "tuple" Q .non h = Q (.bl false) h := rfl
theorem Z0R : kTy "tuple" Q (.bl b) h = Q (.bl false) h := rfl
theorem Z0S : kTy "tuple" Q (.int a) h = Q (.bl false) h := rfl
theorem Z0T : kTy "tuple" Q (.str z) h = Q (.bl false) h := rfl
theorem Z0U : kTy "tuple" Q (.tup ds) h = Q (.bl true) h := rfl
theorem Z0V : kTy "tuple" Q (.fl ds) h = Q (.bl false) h := rfl
theorem Z0W : kTy "tuple" Q (.ref n) h = kTyR "tuple" Q (h[n]?) h := rfl
theorem Z0X : kTyR "tuple" Q (some (.lst ds)) h = Q (.bl false) h := rfl
theorem Z0Y : kTyR "tuple" Q (some (.dic kvs)) h = Q (.bl false) h := rfl
theorem Z0Z : kTy "str" Q .non h = Q (.bl false) h := rfl
theorem Z1a : kTy "str" Q (.bl b) h = Q (.bl false) h := rfl
theorem Z1b : kTy "str" Q (.int a) h = Q (.bl false) h := rfl
theorem Z1c : kTy "str" Q (.str z) h = Q (.bl true) h := rfl
theorem Z1d : kTy "str" Q (.tup ds) h = Q (.bl false) h := rfl
theorem Z1e : kTy "str" Q (.fl ds) h = Q (.bl false) h := rfl
theorem Z1f : kTy "str" Q (.ref n) h = kTyR "str" Q (h[n]?) h := rfl
theorem Z1g : kTyR "str" Q (some (.lst ds)) h = Q (.bl false) h := rfl
theorem Z1h : kTyR "str" Q (some (.dic kvs)) h = Q (.bl false) h := rfl
theorem Z1i : kTy "list" Q .non h = Q (.bl false) h := rfl
theorem Z1j : kTy "list" Q (.bl b) h = Q (.bl false) h := rfl
theorem Z1k : kTy "list" Q (.int a) h = Q (.bl false) h := rfl
theorem Z1l : kTy "list" Q (.str z) h = Q (.bl false) h := rfl
theorem Z1m : kTy "list" Q (.tup ds) h = Q (.bl false) h := rfl
theorem Z1n : kTy "list" Q (.fl ds) h = Q (.bl true) h := rfl
theorem Z1o : kTy "list" Q (.ref n) h = kTyR "list" Q (h[n]?) h := rfl
theorem Z1p : kTyR "list" Q (some (.lst ds)) h = Q (.bl true) h := rfl
theorem Z1q : kTyR "list" Q (some (.dic kvs)) h = Q (.bl false) h := rfl
theorem Z1r : kTy "dict" Q .non h = Q (.bl false) h := rfl
theorem Z1s : kTy "dict" Q (.bl b) h = Q (.bl false) h := rfl
theorem Z1t : kTy "dict" Q (.int a) h = Q (.bl false) h := rfl
theorem Z1u : kTy "dict" Q (.str z) h = Q (.bl false) h := rfl
theorem Z1v : kTy "dict" Q (.tup ds) h = Q (.bl false) h := rfl
theorem Z1w : kTy "dict" Q (.fl ds) h = Q (.bl false) h := rfl
theorem Z1x : kTy "dict" Q (.ref n) h = kTyR "dict" Q (h[n]?) h := rfl
theorem Z1y : kTyR "dict" Q (some (.lst ds)) h = Q (.bl false) h := rfl
theorem Z1z : kTyR "dict" Q (some (.dic kvs)) h = Q (.bl true) h := rfl
theorem Z1A : kTy "bool" Q .non h = Q (.bl false) h := rfl
theorem Z1B : kTy "bool" Q (.bl b) h = Q (.bl true) h := rfl
theorem Z1C : kTy "bool" Q (.int a) h = Q (.bl false) h := rfl
theorem Z1D : kTy "bool" Q (.str z) h = Q (.bl false) h := rfl
theorem Z1E : kTy "bool" Q (.tup ds) h = Q (.bl false) h := rfl
theorem Z1F : kTy "bool" Q (.fl ds) h = Q (.bl false) h := rfl
theorem Z1G : kTy "bool" Q (.ref n) h = kTyR "bool" Q (h[n]?) h := rfl
theorem Z1H : kTyR "bool" Q (some (.lst ds)) h = Q (.bl false) h := rfl
theorem Z1I : kTyR "bool" Q (some (.dic kvs)) h = Q (.bl false) h := rfl
theorem Z1J : W (oNone σ h) QO = QO none h := rfl
def kO (QO : QOp) : QD := fun d h => match d with | .int i => QO (some i) h | _ => False
theorem Z1K : W (oSome fa σ h) QO = W (fa σ h) (kO QO) := W_b fun d _ => by cases d <;> rfl
theorem Z1L : kO QO (.int a) h = QO (some a) h := rfl
def kS3 (x : D) (lo : Option Int) (Q : QD) : QOp := fun hi h => W (slD x lo hi h) Q
def kS2 (u : M (Option Int)) (σ : DEnv) (x : D) (Q : QD) : QOp := fun lo h => W (u σ h) (kS3 x lo Q)
def kS1 (l u : M (Option Int)) (σ : DEnv) (Q : QD) : QD := fun x h => W (l σ h) (kS2 u σ x Q)
theorem Z1M : W (slM fa l u σ h) Q = W (fa σ h) (kS1 l u σ Q) := W_b fun _ _ => W_b fun _ _ => W_bind
theorem Z1N : kS1 l u σ Q x h = W (l σ h) (kS2 u σ x Q) := rfl
theorem Z1O : kS2 u σ x Q lo h = W (u σ h) (kS3 x lo Q) := rfl
theorem Z1P : kS3 x lo Q hi h = W (slD x lo hi h) Q := rfl
def kTup (Q : QD) : QLs := fun ds h => ds.length ≤ 16777216 ∧ Q (.tup ds) h
def kLst (Q : QD) : QLs := fun ds h => ds.length ≤ 16777216 ∧ Q (.ref h.length) (h ++ [.lst ds])
theorem Z1Q : W (tupM fs σ h) Q = W (fs σ h) (kTup Q) := W_b fun _ _ => by rw [W_ite, sizeLine_eq]; rfl
theorem Z1R : kTup Q ds h = (ds.length ≤ 16777216 ∧ Q (.tup ds) h) := rfl
theorem Z1S : W (lstM fs σ h) Q = W (fs σ h) (kLst Q) := W_b fun _ _ => by rw [W_ite, sizeLine_eq]; rfl
theorem Z1T : kLst Q ds h = (ds.length ≤ 16777216 ∧ Q (.ref h.length) (h ++ [.lst ds])) := rfl
theorem Z1U : W (newDic σ h) Q = Q (.ref h.length) (h ++ [.dic []]) := rfl
def kAp4 (n : Nat) (y : D) (Q : QD) (o : Option Cell) (h : DHeap) : Prop := match o with | some (.lst ds) => ds.length < 16777216 ∧ Q .non (h.set n (.lst (ds ++ [y]))) | _ => False
def kAp3 (n : Nat) (Q : QD) : QD := fun y h => kAp4 n y Q (h[n]?) h
def kAp2 (n : Nat) (fb : M D) (σ : DEnv) (Q : QD) (o : Option Cell) (h : DHeap) : Prop := match o with | some (.lst _) => W (fb σ h) (kAp3 n Q) | _ => False
def kAp1 (fb : M D) (σ : DEnv) (Q : QD) : QD := fun d h => match d with | .ref n => kAp2 n fb σ Q (h[n]?) h | _ => False
theorem Z1V : W (appM fa fb σ h) Q = W (fa σ h) (kAp1 fb σ Q) := W_b fun x h1 => by
  cases x <;> try rfl
  rename_i n
  simp only [kAp1]
  cases e : h1[n]? with
  | none => rfl
  | some c =>
    cases c with
    | dic _ => rfl
    | lst ds =>
      refine W_b fun y h2 => ?_
      simp only [kAp3]
      cases e2 : h2[n]? with
      | none => rfl
      | some c => cases c with
        | dic _ => rfl
        | lst ds => simp only [W_ite, sizeLine_eq, kAp4]
theorem Z1W : kAp1 fb σ Q (.ref n) h = kAp2 n fb σ Q (h[n]?) h := rfl
theorem Z1X : kAp2 n fb σ Q (some (.lst ds)) h = W (fb σ h) (kAp3 n Q) := rfl
theorem Z1Y : kAp3 n Q y h = kAp4 n y Q (h[n]?) h := rfl
theorem Z1Z : kAp4 n y Q (some (.lst ds)) h = (ds.length < 16777216 ∧ Q .non (h.set n (.lst (ds ++ [y])))) := rfl
def kCL (Q : QD) : QLs := fun ys h => Q (.ref h.length) (h ++ [.lst ys])
theorem Z2a : W (compL fs σ h) Q = W (fs σ h) (kCL Q) := W_b fun _ _ => rfl
theorem Z2b : kCL Q ys h = Q (.ref h.length) (h ++ [.lst ys]) := rfl
theorem Z2c : W (compCall ms fs σ h) Q = W (fs σ h) (kC ms Q) := W_bind
def maxOr (ns : List Int) (d : D) : D := match maxL ns with | some m => .int m | none => d
def kM3 (ns : List Int) (Q : QD) : QD := fun d h => Q (maxOr ns d) h
def kM2 (o : Option (List Int)) (fa : M D) (σ : DEnv) (Q : QD) (h : DHeap) : Prop := match o with | some ns => W (fa σ h) (kM3 ns Q) | none => False
def kM1 (fa : M D) (σ : DEnv) (Q : QD) : QLs := fun ys h => kM2 (intsOf ys) fa σ Q h
theorem Z2d : W (compMaxD fs fa σ h) Q = W (fs σ h) (kM1 fa σ Q) := W_b fun ys h1 => by
  simp only [kM1]
  cases intsOf ys with
  | none => rfl
  | some ns => exact W_b fun d h2 => by unfold kM3 maxOr; cases maxL ns <;> rfl
theorem Z2e : kM1 fa σ Q ys h = kM2 (intsOf ys) fa σ Q h := rfl
theorem Z2f {ns : List Int} : kM2 (some ns) fa σ Q h = W (fa σ h) (kM3 ns Q) := rfl
theorem Z2g {ns : List Int} : kM3 ns Q d h = Q (maxOr ns d) h := rfl
theorem Z2h : W (sNil σ h) QF = QF (.nx σ) h := rfl
def kSq (g : M Fl) (QF : QFl) : QFl := fun fl h => match fl with | .nx s => W (g s h) QF | .rt d => QF (.rt d) h | .bk s => QF (.bk s) h | .ct s => QF (.ct s) h
theorem Z2i : W (sSeq f g σ h) QF = W (f σ h) (kSq g QF) := W_b fun fl _ => by cases fl <;> rfl
theorem Z2j : kSq g QF (.nx s) h = W (g s h) QF := rfl
theorem Z2k : kSq g QF (.rt d) h = QF (.rt d) h := rfl
theorem Z2l : kSq g QF (.bk s) h = QF (.bk s) h := rfl
theorem Z2m : kSq g QF (.ct s) h = QF (.ct s) h := rfl
def kEx (σ : DEnv) (QF : QFl) : QD := fun _ h => QF (.nx σ) h
theorem Z2n : W (sExpr fa σ h) QF = W (fa σ h) (kEx σ QF) := W_b fun _ _ => rfl
theorem Z2o : kEx σ QF d h = QF (.nx σ) h := rfl
def kRe (QF : QFl) : QD := fun d h => QF (.rt d) h
theorem Z2p : W (sRet fa σ h) QF = W (fa σ h) (kRe QF) := W_b fun _ _ => rfl
theorem Z2q : kRe QF d h = QF (.rt d) h := rfl
theorem Z2r : W (sRetN σ h) QF = QF (.rt .non) h := rfl
theorem Z2s : W (sBrk σ h) QF = QF (.bk σ) h := rfl
theorem Z2t : W (sCt σ h) QF = QF (.ct σ) h := rfl
def kIf (f g : M Fl) (σ : DEnv) (QF : QFl) : QBl := fun b h => if b = true then W (f σ h) QF else W (g σ h) QF
theorem Z2u : W (sIf ta f g σ h) QF = W (ta σ h) (kIf f g σ QF) := W_b fun b _ => by cases b <;> rfl
theorem Z2v : kIf f g σ QF true h = W (f σ h) QF := rfl
theorem Z2w : kIf f g σ QF false h = W (g σ h) QF := rfl
def kSt (i : Nat) (σ : DEnv) (QF : QFl) : QD := fun d h => QF (.nx (σ.set i (some d))) h
theorem Z2x : W (sSet i fa σ h) QF = W (fa σ h) (kSt i σ QF) := W_b fun _ _ => rfl
theorem Z2y : kSt i σ QF d h = QF (.nx (σ.set i (some d))) h := rfl
def kStC (i : Nat) (σ : DEnv) (QF : QFl) : QLs := fun ys h => QF (.nx (σ.set i (some (.ref h.length)))) (h ++ [.lst ys])
theorem Z2z : W (sSetC i fs σ h) QF = W (fs σ h) (kStC i σ QF) := W_b fun _ _ => rfl
theorem Z2A : kStC i σ QF ys h = QF (.nx (σ.set i (some (.ref h.length)))) (h ++ [.lst ys]) := rfl
def kAs2 (QF : QFl) : QEn := fun s h => QF (.nx s) h
def kAs (gg : D → M DEnv) (σ : DEnv) (QF : QFl) : QD := fun d h => W (gg d σ h) (kAs2 QF)
theorem Z2B : W (sAsg fa gg σ h) QF = W (fa σ h) (kAs gg σ QF) := W_b fun _ _ => W_b fun _ _ => rfl
theorem Z2C : kAs gg σ QF d h = W (gg d σ h) (kAs2 QF) := rfl
theorem Z2D : kAs2 QF s h = QF (.nx s) h := rfl
theorem Z2E : W (gN i d σ h) QE = QE (σ.set i (some d)) h := rfl
def kG3 (σ : DEnv) (QE : QEn) : Unit → DHeap → Prop := fun _ h => QE σ h
def kG2 (o d : D) (σ : DEnv) (QE : QEn) : QD := fun k h => W (setD o k d h) (kG3 σ QE)
def kG1 (fb : M D) (d : D) (σ : DEnv) (QE : QEn) : QD := fun o h => W (fb σ h) (kG2 o d σ QE)
theorem Z2F : W (gSb fa fb d σ h) QE = W (fa σ h) (kG1 fb d σ QE) := W_b fun _ _ => W_b fun _ _ => W_b fun _ _ => rfl
theorem Z2G : kG1 fb d σ QE o h = W (fb σ h) (kG2 o d σ QE) := rfl
theorem Z2H : kG2 o d σ QE k h = W (setD o k d h) (kG3 σ QE) := rfl
theorem Z2I {u : Unit} : kG3 σ QE u h = QE σ h := rfl
theorem Z2J : W (gTp n gs (.tup ds) σ h) QE = (ds.length = n ∧ W (gs ds σ h) QE) := by unfold gTp; simp only; by_cases e : ds.length = n <;> simp [e, W]
theorem Z2K : W (gsNil [] σ h) QE = QE σ h := rfl
def kGs (gs : List D → M DEnv) (ds : List D) (QE : QEn) : QEn := fun s h => W (gs ds s h) QE
theorem Z2L : W (gsCons gg gs (d :: ds) σ h) QE = W (gg d σ h) (kGs gs ds QE) := W_bind
theorem Z2M : kGs gs ds QE s h = W (gs ds s h) QE := rfl
def kRt (Q : QD) : QFl := fun fl h => match fl with | .rt d => Q d h | .nx _ => Q .non h | _ => False
theorem Z2N : W (runDef np n B ds h) Q = (ds.length = np ∧ W (B (ds.map some ++ List.replicate (n - np) none) h) (kRt Q)) := by
  unfold runDef
  by_cases e : ds.length = np
  · rw [if_pos e]
    simp only [e, true_and]
    exact W_b fun fl _ => by cases fl <;> rfl
  · rw [if_neg e]; simp [e, W]
theorem Z2O : kRt Q (.rt d) h = Q d h := rfl
theorem Z2P : kRt Q (.nx s) h = Q .non h := rfl
def kSr (QI : QSr) : QD := fun d h => kOpt (srcD h d) QI h
theorem Z2Q : W (srcM fa σ h) QI = W (fa σ h) (kSr QI) := W_b fun d h => by unfold kSr; cases srcD h d <;> rfl
theorem Z2R : kSr QI d h = kOpt (srcD h d) QI h := rfl
theorem Z2S : srcD h (.tup ds) = some ⟨ds, none⟩ := rfl
theorem Z2T : srcD h (.fl ds) = some ⟨ds, none⟩ := rfl
theorem Z2U : srcD h (.str z) = some ⟨z.cps.toList.map fun c => .str ⟨#[c]⟩, none⟩ := rfl
def srcR (n : Nat) (o : Option Cell) : Option Src := match o with | some (.lst ds) => some ⟨ds, some n⟩ | _ => none
theorem Z2V : srcD h (.ref n) = srcR n (h[n]?) := by unfold srcD srcR; cases e : h[n]? with | none => simp only [e] | some c => cases c <;> simp only [e]
theorem Z2W : srcR n (some (.lst ds)) = some ⟨ds, some n⟩ := rfl
def kR1 (QI : QSr) : QD := fun d h => match d with | .int j => (-4611686018427387904 ≤ j ∧ j < 4611686018427387904) ∧ QI ⟨rangeL 0 j.toNat, none⟩ h | _ => False
theorem Z2X : W (rng1 fa σ h) QI = W (fa σ h) (kR1 QI) := W_b fun d _ => by cases d <;> first | rfl | exact W_ite
theorem Z2Y : kR1 QI (.int a) h = ((-4611686018427387904 ≤ a ∧ a < 4611686018427387904) ∧ QI ⟨rangeL 0 a.toNat, none⟩ h) := rfl
def kR3 (x : D) (QI : QSr) : QD := fun y h => match x, y with | .int i, .int j => (-4611686018427387904 ≤ i ∧ i < 4611686018427387904 ∧ -4611686018427387904 ≤ j ∧ j < 4611686018427387904) ∧ QI ⟨rangeL i (j - i).toNat, none⟩ h | _, _ => False
def kR2 (fb : M D) (σ : DEnv) (QI : QSr) : QD := fun x h => W (fb σ h) (kR3 x QI)
theorem Z2Z : W (rng2 fa fb σ h) QI = W (fa σ h) (kR2 fb σ QI) := W_b fun d _ => W_b fun e _ => by cases d <;> cases e <;> first | rfl | exact W_ite
theorem Z3a : kR2 fb σ QI x h = W (fb σ h) (kR3 x QI) := rfl
theorem Z3b : kR3 (.int a) QI (.int c) h = ((-4611686018427387904 ≤ a ∧ a < 4611686018427387904 ∧ -4611686018427387904 ≤ c ∧ c < 4611686018427387904) ∧ QI ⟨rangeL a (c - a).toNat, none⟩ h) := rfl
def kFo (gg : D → M DEnv) (body : M Fl) (σ : DEnv) (QF : QFl) : QSr := fun s h => W (loopS s gg body s.items σ h) QF
theorem Z3c : W (sFor src gg f σ h) QF = W (src σ h) (kFo gg f σ QF) := W_bind
theorem Z3d : kFo gg f σ QF sr h = W (loopS sr gg f sr.items σ h) QF := rfl
def kCo (i : Nat) (t : M Bool) (te : M D) (σ : DEnv) (QS : QLs) : QSr := fun s h => s.items.length ≤ 16777216 ∧ W (loopC s (stepC i t te σ) s.items h) QS
theorem Z3e : W (compM src i ta fa σ h) QS = W (src σ h) (kCo i ta fa σ QS) := W_b fun s h => by
  unfold kCo
  rw [← sizeLine_eq]
  by_cases e : s.items.length ≤ sizeLine
  · rw [if_pos e, W_calm]; simp [e]
  · rw [if_neg e]; simp [e, W]
theorem Z3f : kCo i ta fa σ QS sr h = (sr.items.length ≤ 16777216 ∧ W (loopC sr (stepC i ta fa σ) sr.items h) QS) := rfl
abbrev QOD := Option D → DHeap → Prop
def kY (QY : QOD) : QD := fun y h => QY (some y) h
def kX (fa : M D) (σ : DEnv) (QY : QOD) : QBl := fun b h => if b = true then W (fa σ h) (kY QY) else QY none h
theorem Z3g {QY : QOD} : W (stepC i ta fa σ x h) QY = W (ta (σ.set i (some x)) h) (kX fa (σ.set i (some x)) QY) := W_b fun b _ => by cases b <;> first | rfl | exact W_b fun _ _ => rfl
theorem Z3h {QY : QOD} : kX fa σ QY true h = W (fa σ h) (kY QY) := rfl
theorem Z3i {QY : QOD} : kX fa σ QY false h = QY none h := rfl
theorem Z3j {QY : QOD} : kY QY y h = QY (some y) h := rfl
theorem Z3k : W (tTrue σ h) QB = QB true h := rfl
theorem Z3l : W (addD (.int a) (.int c) h) Q = Q (.int (a + c)) h := rfl
theorem Z3m : W (addD (.str z) (.str w') h) Q = (z.length + w'.length ≤ 16777216 ∧ Q (.str (z ++ w')) h) := (by show W (if _ then _ else _) _ = _; rw [W_ite, sizeLine_eq])
theorem Z3n : W (addD (.tup ds) (.tup es) h) Q = (ds.length + es.length ≤ 16777216 ∧ Q (.tup (ds ++ es)) h) := (by show W (if _ then _ else _) _ = _; rw [W_ite, sizeLine_eq])
theorem Z3o : W (subD (.int a) (.int c) h) Q = Q (.int (a - c)) h := by unfold subD intOp; simp [W]
theorem Z3p : W (mulD (.int a) (.int c) h) Q = (((-18446744073709551616 < a ∧ a < 18446744073709551616) ∨ (-18446744073709551616 < c ∧ c < 18446744073709551616)) ∧ Q (.int (a * c)) h) := (by show W (if _ then _ else _) _ = _; rw [W_ite]; rfl)
theorem Z3q : W (divD (.int a) (.int c) h) Q = ((0 < c ∧ c < 1073741824) ∧ Q (.int (a / c)) h) := (by show W (if _ then _ else _) _ = _; rw [W_ite]; rfl)
theorem Z3r : W (modD (.int a) (.int c) h) Q = (0 < c ∧ Q (.int (a % c)) h) := (by show W (if _ then _ else _) _ = _; rw [W_ite])
theorem Z3s : W (powD (.int a) (.int c) h) Q = ((0 ≤ c ∧ c ≤ 1000000 ∧ a.natAbs < 18446744073709551616) ∧ Q (.int (a ^ c.toNat)) h) := (by show W (if _ then _ else _) _ = _; rw [W_ite]; rfl)
theorem Z3t : W (ltD (.int a) (.int c) h) Q = Q (.bl (decide (a < c))) h := rfl
theorem Z3u : W (leD (.int a) (.int c) h) Q = Q (.bl (decide (a ≤ c))) h := rfl
theorem Z3v : W (gtD (.int a) (.int c) h) Q = Q (.bl (decide (c < a))) h := rfl
theorem Z3w : W (geD (.int a) (.int c) h) Q = Q (.bl (decide (c ≤ a))) h := rfl
theorem Z3x : W (eqD (.int a) (.int c) h) Q = Q (.bl (decide (a = c))) h := rfl
theorem Z3y : W (eqD (.str z) (.str w') h) Q = Q (.bl (decide (z = w'))) h := rfl
theorem Z3z : W (neD (.int a) (.int c) h) Q = Q (.bl (!decide (a = c))) h := rfl
theorem Z3A : W (neD (.str z) (.str w') h) Q = Q (.bl (!decide (z = w'))) h := rfl
theorem Z3B {p q : Bool} : W (eqD (.bl p) (.bl q) h) Q = Q (.bl (decide (p = q))) h := rfl
theorem Z3C : W (isD' x .non h) Q = Q (.bl (isNon x)) h := by unfold isD'; cases x <;> rfl
theorem Z3D : W (notD x .non h) Q = Q (.bl (!isNon x)) h := by unfold notD; cases x <;> rfl
theorem Z3E : isNon .non = true := rfl
theorem Z3F : isNon (.bl b) = false := rfl
theorem Z3G : isNon (.int a) = false := rfl
theorem Z3H : isNon (.str z) = false := rfl
theorem Z3I : isNon (.tup ds) = false := rfl
theorem Z3J : isNon (.fl ds) = false := rfl
theorem Z3K : isNon (.ref n) = false := rfl
theorem Z3L : W (ixD (.tup ds) (.int a) h) Q = kOpt (atI ds a) Q h := by unfold ixD; simp only [seqOf]; cases atI ds a <;> rfl
theorem Z3M : W (ixD (.fl ds) (.int a) h) Q = kOpt (atI ds a) Q h := by unfold ixD; simp only [seqOf]; cases atI ds a <;> rfl
def kCh (Q : QD) : Nat → DHeap → Prop := fun c h => Q (.str ⟨#[c]⟩) h
theorem Z3N : W (ixD (.str z) (.int a) h) Q = (z.length ≤ 16777216 ∧ kOpt (atI z.cps.toList a) (kCh Q) h) := by
  unfold ixD; simp only [seqOf]; rw [← sizeLine_eq]
  by_cases e : z.length ≤ sizeLine
  · rw [if_pos e]; simp only [e, true_and]; cases atI z.cps.toList a <;> rfl
  · rw [if_neg e]; simp [e, W]
theorem Z3O {c : Nat} : kCh Q c h = Q (.str ⟨#[c]⟩) h := rfl
def kIx (a : Int) (Q : QD) (o : Option Cell) (h : DHeap) : Prop := match o with | some (.lst ds) => kOpt (atI ds a) Q h | some (.dic kvs) => kOpt (lookD kvs (.inl a)) Q h | none => False
theorem Z3P : W (ixD (.ref n) (.int a) h) Q = kIx a Q (h[n]?) h := by
  unfold ixD; simp only [seqOf]
  cases e : h[n]? with
  | none => rfl
  | some c => cases c with
    | lst ds => simp only [kIx]; cases atI ds a <;> rfl
    | dic kvs => simp only [kIx]; cases lookD kvs (.inl a) <;> rfl
theorem Z3Q : kIx a Q (some (.lst ds)) h = kOpt (atI ds a) Q h := rfl
theorem Z3R : kIx a Q (some (.dic kvs)) h = kOpt (lookD kvs (.inl a)) Q h := rfl
abbrev QUn := Unit → DHeap → Prop
def kSe (n : Nat) (k v : D) (QU : QUn) (o : Option Cell) (h : DHeap) : Prop := match o with
  | some (.lst ds) => (match k with | .int k => (match ixN ds.length k with | some j => QU () (h.set n (.lst (ds.set j v))) | none => False) | _ => False)
  | some (.dic kvs) => (match keyD k with | some k => kvs.length < 16777216 ∧ QU () (h.set n (.dic (putD kvs k v))) | none => False)
  | none => False
def kSeL (n : Nat) (ds : List D) (v : D) (QU : QUn) (o : Option Nat) (h : DHeap) : Prop := match o with | some j => QU () (h.set n (.lst (ds.set j v))) | none => False
theorem Z3S {QU : QUn} : W (setD (.ref n) k v h) QU = kSe n k v QU (h[n]?) h := by
  unfold setD
  simp only
  cases e : h[n]? with
  | none => rfl
  | some c => cases c with
    | lst ds =>
      simp only [kSe]
      cases k <;> try rfl
      rename_i k
      simp only
      cases ixN ds.length k <;> rfl
    | dic kvs =>
      simp only [kSe]
      cases keyD k with
      | none => rfl
      | some k => simp only [W_ite, sizeLine_eq]
theorem Z3T {QU : QUn} : kSe n (.int a) v QU (some (.lst ds)) h = kSeL n ds v QU (ixN ds.length a) h := by unfold kSe kSeL; simp only
theorem Z3U {QU : QUn} : kSeL n ds v QU (some j) h = QU () (h.set n (.lst (ds.set j v))) := rfl
theorem Z3V {QU : QUn} : kSe n (.int a) v QU (some (.dic kvs)) h = (kvs.length < 16777216 ∧ QU () (h.set n (.dic (putD kvs (.inl a) v)))) := rfl
theorem Z3W {QU : QUn} : kSe n (.str z) v QU (some (.dic kvs)) h = (kvs.length < 16777216 ∧ QU () (h.set n (.dic (putD kvs (.inr z) v)))) := rfl
theorem Z3X : W (lenD [.tup ds] h) Q = Q (.int ds.length) h := rfl
theorem Z3Y : W (lenD [.fl ds] h) Q = Q (.int ds.length) h := rfl
theorem Z3Z : W (lenD [.str z] h) Q = (z.length ≤ 16777216 ∧ Q (.int z.length) h) := (by show W (if _ then _ else _) _ = _; rw [W_ite, sizeLine_eq])
def kLe (Q : QD) (o : Option Cell) (h : DHeap) : Prop := match o with | some (.lst ds) => Q (.int ds.length) h | some (.dic kvs) => Q (.int kvs.length) h | none => False
theorem Z4a : W (lenD [.ref n] h) Q = kLe Q (h[n]?) h := by
  unfold lenD
  cases e : h[n]? with
  | none => simp only [e]; rfl
  | some c => cases c <;> simp only [e] <;> rfl
theorem Z4b : kLe Q (some (.lst ds)) h = Q (.int ds.length) h := rfl
theorem Z4c : kLe Q (some (.dic kvs)) h = Q (.int kvs.length) h := rfl
theorem Z4d : W (intD [.int a] h) Q = Q (.int a) h := rfl
theorem Z4e : W (absD [.int a] h) Q = Q (.int (if a < 0 then -a else a)) h := rfl
theorem Z4f : W (max2D [.int a, .int c] h) Q = Q (.int (if c > a then c else a)) h := rfl
theorem Z4g : W (min2D [.int a, .int c] h) Q = Q (.int (if c < a then c else a)) h := rfl
def kSeq (f : List D → D) (Q : QD) : List D → DHeap → Prop := fun ds h => Q (f ds) h
theorem Z4h : W (tupD [d] h) Q = kOpt (seqOf h d) (kSeq .tup Q) h := by unfold tupD; simp only; cases seqOf h d <;> rfl
theorem Z4i {p : List D → D} : kSeq p Q ds h = Q (p ds) h := rfl
def kLs (Q : QD) : List D → DHeap → Prop := fun ds h => Q (.ref h.length) (h ++ [.lst ds])
theorem Z4j : W (lstD [d] h) Q = kOpt (seqOf h d) (kLs Q) h := by unfold lstD; simp only; cases seqOf h d <;> rfl
theorem Z4k : kLs Q ds h = Q (.ref h.length) (h ++ [.lst ds]) := rfl
theorem Z4l : seqOf h (.tup ds) = some ds := rfl
theorem Z4m : seqOf h (.fl ds) = some ds := rfl
def seqR (o : Option Cell) : Option (List D) := match o with | some (.lst ds) => some ds | _ => none
theorem Z4n : seqOf h (.ref n) = seqR (h[n]?) := by unfold seqOf seqR; cases e : h[n]? with | none => simp only [e] | some c => cases c <;> simp only [e]
theorem Z4o : seqR (some (.lst ds)) = some ds := rfl
theorem Z4p : W (slD (.tup ds) lo hi h) Q = Q (.tup (cutL ds lo hi)) h := rfl
theorem Z4q : W (slD (.str z) lo hi h) Q = (z.length ≤ 16777216 ∧ Q (.str (cutS z lo hi)) h) := (by show W (if _ then _ else _) _ = _; rw [W_ite, sizeLine_eq])
theorem Z4r : W (slD (.fl ds) lo hi h) Q = Q (.ref h.length) (h ++ [.lst (cutL ds lo hi)]) := rfl
def kSlR (lo hi : Option Int) (Q : QD) (o : Option Cell) (h : DHeap) : Prop := match o with | some (.lst ds) => Q (.ref h.length) (h ++ [.lst (cutL ds lo hi)]) | _ => False
theorem Z4s : W (slD (.ref n) lo hi h) Q = kSlR lo hi Q (h[n]?) h := by
  unfold slD seqOf
  cases e : h[n]? with
  | none => simp only [e]; rfl
  | some c => cases c <;> simp only [e] <;> rfl
theorem Z4t : kSlR lo hi Q (some (.lst ds)) h = Q (.ref h.length) (h ++ [.lst (cutL ds lo hi)]) := rfl
theorem Z4u : W (cTup ys h) Q = Q (.tup ys) h := rfl
def kIn (g : List Int → D) (Q : QD) : List Int → DHeap → Prop := fun ns h => Q (g ns) h
def kBs (g : List Bool → Bool) (Q : QD) : List Bool → DHeap → Prop := fun ns h => Q (.bl (g ns)) h
theorem Z4v {p : List Int → D} {ns : List Int} : kIn p Q ns h = Q (p ns) h := rfl
theorem Z4w {p : List Bool → Bool} {ns : List Bool} : kBs p Q ns h = Q (.bl (p ns)) h := rfl
theorem Z4x : W (cSum ys h) Q = kOpt (intsOf ys) (kIn (fun ns => .int ns.sum) Q) h := by unfold cSum cInts; cases intsOf ys <;> rfl
theorem Z4y : W (cAll ys h) Q = kOpt (blsOf ys) (kBs (fun ns => ns.all id) Q) h := by unfold cAll cBls; cases blsOf ys <;> rfl
theorem Z4z : W (cAny ys h) Q = kOpt (blsOf ys) (kBs (fun ns => ns.any id) Q) h := by unfold cAny cBls; cases blsOf ys <;> rfl
end
theorem atI_n {α : Type} (l : List α) (k : Nat) : atI l (k : Int) = l[k]? := by
  unfold atI ixN
  rw [if_pos (by omega)]
  by_cases h : k < l.length
  · rw [if_pos (by omega)]; simp
  · rw [if_neg (by omega)]; simp; omega
theorem Z4H {α : Type} (l : List α) : atI l 0 = l[0]? := atI_n l 0
theorem Z4I {α : Type} (l : List α) : atI l 1 = l[1]? := atI_n l 1
theorem Z4J {α : Type} (l : List α) : atI l 2 = l[2]? := atI_n l 2
theorem Z4K {α : Type} (l : List α) : atI l 3 = l[3]? := atI_n l 3
theorem Z4L {α : Type} (l : List α) : atI l 4 = l[4]? := atI_n l 4
theorem ixN_n (n k : Nat) : ixN n (k : Int) = if k < n then some k else none := by
  unfold ixN
  rw [if_pos (by omega)]
  by_cases h : k < n
  · rw [if_pos (by omega), if_pos h]; simp
  · rw [if_neg (by omega), if_neg h]
theorem Z4M (n : Nat) : ixN (n + 1) 0 = some 0 := by rw [show (0 : Int) = ((0 : Nat) : Int) from rfl, ixN_n, if_pos (by omega)]
theorem Z4N (n : Nat) : ixN (n + 2) 1 = some 1 := by rw [show (1 : Int) = ((1 : Nat) : Int) from rfl, ixN_n, if_pos (by omega)]
theorem Z4O (n : Nat) : ixN (n + 3) 2 = some 2 := by rw [show (2 : Int) = ((2 : Nat) : Int) from rfl, ixN_n, if_pos (by omega)]
theorem Z4P (n : Nat) : ixN (n + 4) 3 = some 3 := by rw [show (3 : Int) = ((3 : Nat) : Int) from rfl, ixN_n, if_pos (by omega)]
theorem atI_in {α : Type} {l : List α} {k : Int} (h0 : 0 ≤ k) (h1 : k < l.length) : ∃ d, atI l k = some d ∧ l[k.toNat]? = some d ∧ d ∈ l := by
  obtain ⟨n, rfl⟩ := Int.eq_ofNat_of_zero_le h0
  have hn : n < l.length := by omega
  refine ⟨l[n], by rw [atI_n]; exact List.getElem?_eq_getElem hn, by simp [hn], List.getElem_mem hn⟩
theorem set_at {h : DHeap} {i : Nat} {c d : Cell} (e : h[i]? = some c) : (h.set i d)[i]? = some d := by
  have hi := (List.getElem?_eq_some_iff.mp e).1
  exact List.getElem?_set_self hi
theorem set_no {h : DHeap} {i j : Nat} {d : Cell} (e : i ≠ j) : (h.set i d)[j]? = h[j]? := List.getElem?_set_ne e
theorem app_at {h g : DHeap} {i : Nat} {c : Cell} (e : h[i]? = some c) : (h ++ g)[i]? = some c := by
  rw [List.getElem?_append_left (List.getElem?_eq_some_iff.mp e).1]; exact e
theorem app_end {h : DHeap} {c : Cell} : (h ++ [c])[h.length]? = some c := by simp
/-- a branch whose test is open -/
theorem if_i {f g : M Fl} {σ : DEnv} {QF : QFl} {b : Bool} {h : DHeap} (h1 : b = true → W (f σ h) QF) (h2 : b = false → W (g σ h) QF) : kIf f g σ QF b h := by
  cases b with
  | true => exact h1 rfl
  | false => exact h2 rfl
theorem if_d {f g : M Fl} {σ : DEnv} {QF : QFl} {p : Prop} [Decidable p] {h : DHeap} (h1 : p → W (f σ h) QF) (h2 : ¬ p → W (g σ h) QF) : kIf f g σ QF (decide p) h := if_i (fun e => h1 (of_decide_eq_true e)) fun e => h2 (of_decide_eq_false e)
theorem if_nd {f g : M Fl} {σ : DEnv} {QF : QFl} {p : Prop} [Decidable p] {h : DHeap} (h1 : ¬ p → W (f σ h) QF) (h2 : p → W (g σ h) QF) : kIf f g σ QF (!decide p) h := if_i (fun e => h1 (by simpa using e)) fun e => h2 (by simpa using e)
/-- loops by what holds after i turns -/
theorem loopC_i {s : Src} {step : D → DHeap → Res (Option D)} {QS : QLs} (P : Nat → List D → DHeap → Prop) {l : List D} {h : DHeap} (h0 : P 0 [] h) (hc : ∀ i ys h, P i ys h → s.chk h)
    (hs : ∀ i ys h x, l[i]? = some x → P i ys h → W (step x h) (fun o h1 => P (i + 1) (ys ++ o.toList) h1)) (he : ∀ ys h, P l.length ys h → QS ys h) : W (loopC s step l h) QS := by
  have go : ∀ (r : List D) (i : Nat) (ys : List D) (h : DHeap), l.drop i = r → i ≤ l.length → P i ys h → W (loopC s step r h) (fun zs h' => P l.length (ys ++ zs) h') := by
    intro r
    induction r with
    | nil =>
      intro i ys h e hi p
      have ei : i = l.length := by
        have := List.drop_eq_nil_iff.mp e
        omega
      subst ei
      unfold loopC
      rw [if_pos (hc _ _ _ p)]
      show P l.length (ys ++ []) h
      rw [List.append_nil]
      exact p
    | cons x r ih =>
      intro i ys h e hi p
      have hlt : i < l.length := by
        rcases Nat.lt_or_ge i l.length with q | q
        · exact q
        · rw [List.drop_eq_nil_iff.mpr q] at e; cases e
      rw [List.drop_eq_getElem_cons hlt] at e
      obtain ⟨e1, e2⟩ := List.cons.inj e
      unfold loopC
      rw [if_pos (hc _ _ _ p), W_bind]
      refine W_mono (hs i ys h x (by rw [← e1]; exact List.getElem?_eq_getElem hlt) p) fun o h1 p1 => ?_
      rw [W_bind]
      refine W_mono (ih (i + 1) _ h1 e2 hlt p1) fun zs h2 p2 => ?_
      cases o with
      | none => show P l.length (ys ++ zs) h2; simpa using p2
      | some y => show P l.length (ys ++ y :: zs) h2; simpa using p2
  exact W_mono (go l 0 [] h rfl (Nat.zero_le _) h0) fun zs h' p => he _ _ (by simpa using p)
def kLp (P : Nat → DEnv → DHeap → Prop) (QF : QFl) (i : Nat) : QFl := fun fl h => match fl with | .nx s => P i s h | .ct s => P i s h | .bk s => QF (.nx s) h | .rt d => QF (.rt d) h
theorem Z4D {P : Nat → DEnv → DHeap → Prop} {QF : QFl} {i : Nat} {s : DEnv} {h : DHeap} : kLp P QF i (.nx s) h = P i s h := rfl
theorem Z4E {P : Nat → DEnv → DHeap → Prop} {QF : QFl} {i : Nat} {s : DEnv} {h : DHeap} : kLp P QF i (.ct s) h = P i s h := rfl
theorem Z4F {P : Nat → DEnv → DHeap → Prop} {QF : QFl} {i : Nat} {s : DEnv} {h : DHeap} : kLp P QF i (.bk s) h = QF (.nx s) h := rfl
theorem Z4G {P : Nat → DEnv → DHeap → Prop} {QF : QFl} {i : Nat} {d : D} {h : DHeap} : kLp P QF i (.rt d) h = QF (.rt d) h := rfl
theorem loopS_i {s : Src} {gg : D → M DEnv} {body : M Fl} {QF : QFl} (P : Nat → DEnv → DHeap → Prop) {l : List D} {σ : DEnv} {h : DHeap} (h0 : P 0 σ h) (hc : ∀ i σ h, P i σ h → s.chk h)
    (hs : ∀ i σ h x, l[i]? = some x → P i σ h → W (gg x σ h) (fun σ1 h1 => W (body σ1 h1) (kLp P QF (i + 1)))) (he : ∀ σ h, P l.length σ h → QF (.nx σ) h) : W (loopS s gg body l σ h) QF := by
  have go : ∀ (r : List D) (i : Nat) (σ : DEnv) (h : DHeap), l.drop i = r → i ≤ l.length → P i σ h → W (loopS s gg body r σ h) QF := by
    intro r
    induction r with
    | nil =>
      intro i σ h e hi p
      have ei : i = l.length := by
        have := List.drop_eq_nil_iff.mp e
        omega
      subst ei
      unfold loopS
      rw [if_pos (hc _ _ _ p)]
      exact he σ h p
    | cons x r ih =>
      intro i σ h e hi p
      have hlt : i < l.length := by
        rcases Nat.lt_or_ge i l.length with q | q
        · exact q
        · rw [List.drop_eq_nil_iff.mpr q] at e; cases e
      rw [List.drop_eq_getElem_cons hlt] at e
      obtain ⟨e1, e2⟩ := List.cons.inj e
      unfold loopS
      rw [if_pos (hc _ _ _ p), W_bind]
      refine W_mono (hs i σ h x (by rw [← e1]; exact List.getElem?_eq_getElem hlt) p) fun σ1 h1 p1 => ?_
      rw [W_bind]
      refine W_mono p1 fun fl h2 p2 => ?_
      cases fl with
      | nx s2 => exact ih (i + 1) s2 h2 e2 hlt p2
      | ct s2 => exact ih (i + 1) s2 h2 e2 hlt p2
      | bk s2 => exact p2
      | rt d => exact p2
  exact go l 0 σ h rfl (Nat.zero_le _) h0
end DL

set_option Elab.async false
set_option linter.all false
set_option maxRecDepth 100000
namespace DL
open PySem PySem.Spec PyProof.Rows L2
section
variable {σ s : DEnv} {h : DHeap} {i j n np : Nat} {fa fb fc fo fe : M D} {Q : QD} {QB : QBl} {d x y o k v z : D} {ds es ys : List D} {kvs : List (Key × D)} {b : Bool} {a c : Int} {w' : Str} {key : Key}
def kTB (o : Option Bool) (QB : QBl) (h : DHeap) : Prop := match o with | some b => QB b h | none => False
def kTru (QB : QBl) : QD := fun d h => kTB (truB d h) QB h
theorem Z4S : W (tru fa σ h) QB = W (fa σ h) (kTru QB) := W_b fun d h1 => by unfold kTru kTB; cases truB d h1 <;> rfl
theorem Z4T : kTru QB (.bl b) h = QB b h := rfl
theorem Z4U : kTru QB (.int a) h = QB (a != 0) h := rfl
theorem Z4V : kTru QB .non h = QB false h := rfl
theorem Z4W : kTru QB (.tup ds) h = QB (!ds.isEmpty) h := rfl
theorem Z4X : kTru QB (.fl ds) h = QB (!ds.isEmpty) h := rfl
def kTruR (QB : QBl) (o : Option Cell) (h : DHeap) : Prop := match o with | some (.lst ds) => QB (!ds.isEmpty) h | some (.dic kvs) => QB (!kvs.isEmpty) h | none => False
theorem Z4Y : kTru QB (.ref n) h = kTruR QB (h[n]?) h := by
  unfold kTru kTB truB kTruR
  simp only
  cases e : h[n]? with
  | none => rfl
  | some c => cases c <;> rfl
theorem Z4Z : kTruR QB (some (.lst ds)) h = QB (!ds.isEmpty) h := rfl
theorem Z5a : kTruR QB (some (.dic kvs)) h = QB (!kvs.isEmpty) h := rfl
theorem Z5b : ([] : List D).isEmpty = true := rfl
theorem Z5c : (d :: ds).isEmpty = false := rfl
def kInL (o : Option D) (ds : List D) (QB : QBl) (h : DHeap) : Prop := match o with | some x' => (okP x' = true ∧ okP (.fl ds) = true) ∧ QB (ds.any fun z => eqvD z x') h | none => False
def kIn0 (x : D) (QB : QBl) (o : Option Cell) (h : DHeap) : Prop := match o with
  | some (.dic kvs) => (match keyD x with | some k => QB (lookD kvs k).isSome h | none => False)
  | some (.lst ds) => kInL (seen h x) ds QB h
  | none => False
theorem inB_eq {x : D} {n : Nat} {h : DHeap} {QB : QBl} : kTB (inB x (.ref n) h) QB h = kIn0 x QB (h[n]?) h := by
  unfold inB kTB kIn0 kInL
  simp only
  cases e : h[n]? with
  | none => rfl
  | some c =>
    cases c with
    | lst ds =>
      simp only
      cases seen h x with
      | none => rfl
      | some x' =>
        simp only
        by_cases hc : okP x' = true ∧ okP (.fl ds) = true
        · rw [if_pos hc]; simp [hc]
        · rw [if_neg hc]; simp [hc]
    | dic kvs => simp only; cases keyD x <;> rfl
theorem inB_fl {x : D} {ds : List D} {h : DHeap} {QB : QBl} : kTB (inB x (.fl ds) h) QB h = kInL (seen h x) ds QB h := by
  unfold inB kTB kInL
  simp only
  cases seen h x with
  | none => rfl
  | some x' =>
    simp only
    by_cases hc : okP x' = true ∧ okP (.fl ds) = true
    · rw [if_pos hc]; simp [hc]
    · rw [if_neg hc]; simp [hc]
def kBl (Q : QD) : QBl := fun b h => Q (.bl b) h
def kBn (Q : QD) : QBl := fun b h => Q (.bl (!b)) h
theorem Z5d : kBl Q b h = Q (.bl b) h := rfl
theorem Z5e : kBn Q b h = Q (.bl (!b)) h := rfl
theorem Z5f : W (inD x (.ref n) h) Q = kIn0 x (kBl Q) (h[n]?) h := by rw [← inB_eq]; unfold inD kTB kBl; cases inB x (.ref n) h <;> rfl
theorem Z5g : W (ninD x (.ref n) h) Q = kIn0 x (kBn Q) (h[n]?) h := by rw [← inB_eq]; unfold ninD kTB kBn; cases inB x (.ref n) h <;> rfl
theorem Z5h : W (inD x (.fl ds) h) Q = kInL (seen h x) ds (kBl Q) h := by rw [← inB_fl]; unfold inD kTB kBl; cases inB x (.fl ds) h <;> rfl
theorem Z5i : W (ninD x (.fl ds) h) Q = kInL (seen h x) ds (kBn Q) h := by rw [← inB_fl]; unfold ninD kTB kBn; cases inB x (.fl ds) h <;> rfl
theorem Z5j : kIn0 x QB (some (.lst ds)) h = kInL (seen h x) ds QB h := rfl
theorem Z5k : kIn0 (.int a) QB (some (.dic kvs)) h = QB (lookD kvs (.inl a)).isSome h := rfl
theorem Z5l : kIn0 (.str w') QB (some (.dic kvs)) h = QB (lookD kvs (.inr w')).isSome h := rfl
theorem Z5m : kInL (some x) ds QB h = ((okP x = true ∧ okP (.fl ds) = true) ∧ QB (ds.any fun z => eqvD z x) h) := rfl
theorem Z5n : seen h (.int a) = some (.int a) := rfl
theorem Z5o : seen h (.str w') = some (.str w') := rfl
theorem Z5p : seen h (.tup ds) = some (.tup ds) := rfl
theorem Z5q : seen h (.fl ds) = some (.fl ds) := rfl
theorem Z5r : seen h (.bl b) = some (.bl b) := rfl
theorem Z5s : seen h .non = some .non := rfl
/-! get -/
def kGt4 (key : Key) (z : D) (Q : QD) (o : Option Cell) (h : DHeap) : Prop := match o with | some (.dic kvs) => Q ((lookD kvs key).getD z) h | _ => False
def kGt3 (n : Nat) (Q : QD) : QD := fun y h => match keyD y with | some k => kGt4 k .non Q (h[n]?) h | none => False
def kGt2 (n : Nat) (fe : M D) (σ : DEnv) (Q : QD) (o : Option Cell) (h : DHeap) : Prop := match o with | some (.dic _) => W (fe σ h) (kGt3 n Q) | _ => False
def kGt1 (fe : M D) (σ : DEnv) (Q : QD) : QD := fun d h => match d with | .ref n => kGt2 n fe σ Q (h[n]?) h | _ => False
theorem Z5t : W (getM1 fo fe σ h) Q = W (fo σ h) (kGt1 fe σ Q) := W_b fun d h1 => by
  cases d <;> try rfl
  rename_i n
  unfold kGt1 kGt2
  simp only
  cases e : h1[n]? with
  | none => rfl
  | some c =>
    cases c with
    | lst ds => rfl
    | dic kvs =>
      simp only
      refine W_b fun y h2 => ?_
      unfold kGt3 kGt4
      cases e2 : h2[n]? with
      | none => cases keyD y <;> rfl
      | some c2 => cases c2 <;> cases keyD y <;> rfl
theorem Z5u : kGt1 fe σ Q (.ref n) h = kGt2 n fe σ Q (h[n]?) h := rfl
theorem Z5v : kGt2 n fe σ Q (some (.dic kvs)) h = W (fe σ h) (kGt3 n Q) := rfl
theorem Z5w : kGt3 n Q (.int a) h = kGt4 (.inl a) .non Q (h[n]?) h := rfl
theorem Z5x : kGt3 n Q (.str w') h = kGt4 (.inr w') .non Q (h[n]?) h := rfl
theorem Z5y : kGt4 key z Q (some (.dic kvs)) h = Q ((lookD kvs key).getD z) h := rfl
def kHt4 (n : Nat) (y : D) (Q : QD) : QD := fun z h => match keyD y with | some k => kGt4 k z Q (h[n]?) h | none => False
def kHt3 (n : Nat) (fb : M D) (σ : DEnv) (Q : QD) : QD := fun y h => W (fb σ h) (kHt4 n y Q)
def kHt2 (n : Nat) (fe fb : M D) (σ : DEnv) (Q : QD) (o : Option Cell) (h : DHeap) : Prop := match o with | some (.dic _) => W (fe σ h) (kHt3 n fb σ Q) | _ => False
def kHt1 (fe fb : M D) (σ : DEnv) (Q : QD) : QD := fun d h => match d with | .ref n => kHt2 n fe fb σ Q (h[n]?) h | _ => False
theorem Z5z : W (getM2 fo fe fb σ h) Q = W (fo σ h) (kHt1 fe fb σ Q) := W_b fun d h1 => by
  cases d <;> try rfl
  rename_i n
  unfold kHt1 kHt2
  simp only
  cases e : h1[n]? with
  | none => rfl
  | some c =>
    cases c with
    | lst ds => rfl
    | dic kvs =>
      simp only
      refine W_b fun y h2 => W_b fun z h3 => ?_
      unfold kHt4 kGt4
      cases e2 : h3[n]? with
      | none => cases keyD y <;> rfl
      | some c2 => cases c2 <;> cases keyD y <;> rfl
theorem Z5A : kHt1 fe fb σ Q (.ref n) h = kHt2 n fe fb σ Q (h[n]?) h := rfl
theorem Z5B : kHt2 n fe fb σ Q (some (.dic kvs)) h = W (fe σ h) (kHt3 n fb σ Q) := rfl
theorem Z5C : kHt3 n fb σ Q y h = W (fb σ h) (kHt4 n y Q) := rfl
theorem Z5D : kHt4 n (.int a) Q z h = kGt4 (.inl a) z Q (h[n]?) h := rfl
theorem Z5E : kHt4 n (.str w') Q z h = kGt4 (.inr w') z Q (h[n]?) h := rfl
/-! list -/
def kLis (Q : QD) (o : Option Cell) (h : DHeap) : Prop := match o with | some (.lst ds) => Q (.ref h.length) (h ++ [.lst ds]) | some (.dic kvs) => Q (.ref h.length) (h ++ [.lst (kvs.map fun kv => keyV kv.1)]) | none => False
theorem Z5F : W (lisD [.ref n] h) Q = kLis Q (h[n]?) h := by
  unfold lisD kLis
  simp only
  cases e : h[n]? with
  | none => rfl
  | some c => cases c <;> rfl
theorem Z5G : kLis Q (some (.lst ds)) h = Q (.ref h.length) (h ++ [.lst ds]) := rfl
theorem Z5H : kLis Q (some (.dic kvs)) h = Q (.ref h.length) (h ++ [.lst (kvs.map fun kv => keyV kv.1)]) := rfl
theorem Z5I : W (lisD [.tup ds] h) Q = Q (.ref h.length) (h ++ [.lst ds]) := rfl
theorem Z5J : W (lisD [.fl ds] h) Q = Q (.ref h.length) (h ++ [.lst ds]) := rfl
/-! pop -/
def kPo3 (n : Nat) (ds : List D) (Q : QD) (o : Option D) (h : DHeap) : Prop := match o with | some y => Q y (h.set n (.lst ds.dropLast)) | none => False
def kPo2 (n : Nat) (Q : QD) (o : Option Cell) (h : DHeap) : Prop := match o with | some (.lst ds) => kPo3 n ds Q (ds[ds.length - 1]?) h | _ => False
def kPo1 (Q : QD) : QD := fun d h => match d with | .ref n => kPo2 n Q (h[n]?) h | _ => False
theorem Z5K : W (popM fo σ h) Q = W (fo σ h) (kPo1 Q) := W_b fun d h1 => by
  cases d <;> try rfl
  rename_i n
  unfold kPo1 kPo2
  simp only
  cases e : h1[n]? with
  | none => rfl
  | some c =>
    cases c with
    | lst ds => simp only [kPo3]; cases ds[ds.length - 1]? <;> rfl
    | dic kvs => rfl
theorem Z5L : kPo1 Q (.ref n) h = kPo2 n Q (h[n]?) h := rfl
theorem Z5M : kPo2 n Q (some (.lst ds)) h = kPo3 n ds Q (ds[ds.length - 1]?) h := rfl
theorem Z5N : kPo3 n ds Q (some y) h = Q y (h.set n (.lst ds.dropLast)) := rfl
end
end DL

set_option Elab.async false
set_option linter.all false
set_option maxRecDepth 100000
set_option maxHeartbeats 4000000
namespace DL
open PySem PySem.Spec PyProof.Rows L2
/-! terms -/
inductive T where
  | v (i : Int) | a (f : Str) (as : List T)
theorem T.ind {P : T → Prop} (hv : ∀ i, P (.v i)) (ha : ∀ f as, (∀ t, t ∈ as → P t) → P (.a f as)) : ∀ t, P t := by
  intro t
  exact T.rec (motive_1 := P) (motive_2 := fun l => ∀ t, t ∈ l → P t) hv (fun f as ih => ha f as ih) (fun t h => absurd h List.not_mem_nil) (fun a l h1 h2 t h => by
    rcases List.mem_cons.mp h with e | e
    · rw [e]; exact h1
    · exact h2 t e) t
mutual
def T.toD : T → D
  | .v i => .int i
  | .a f as => .tup (.str f :: T.toDs as)
def T.toDs : List T → List D
  | [] => []
  | t :: r => t.toD :: T.toDs r
end
theorem toDs_map : ∀ l : List T, T.toDs l = l.map T.toD
  | [] => rfl
  | t :: r => by rw [T.toDs, toDs_map r]; rfl
theorem toD_v (i : Int) : (T.v i).toD = .int i := by rw [T.toD]
theorem toD_a (f : Str) (as : List T) : (T.a f as).toD = .tup (.str f :: as.map T.toD) := by rw [T.toD, toDs_map]
mutual
def T.size : T → Nat
  | .v _ => 1
  | .a _ as => 1 + T.sizes as
def T.sizes : List T → Nat
  | [] => 0
  | t :: r => t.size + T.sizes r
end
mutual
def T.dep : T → Nat
  | .v _ => 1
  | .a _ as => 1 + T.deps as
def T.deps : List T → Nat
  | [] => 0
  | t :: r => max t.dep (T.deps r)
end
theorem size_v (i : Int) : (T.v i).size = 1 := by rw [T.size]
theorem size_a (f : Str) (as : List T) : (T.a f as).size = 1 + T.sizes as := by rw [T.size]
theorem dep_v (i : Int) : (T.v i).dep = 1 := by rw [T.dep]
theorem dep_a (f : Str) (as : List T) : (T.a f as).dep = 1 + T.deps as := by rw [T.dep]
theorem deps_le {t : T} : ∀ {l : List T}, t ∈ l → t.dep ≤ T.deps l
  | a :: r, h => by
    rw [T.deps]
    rcases List.mem_cons.mp h with e | e
    · rw [e]; exact Nat.le_max_left _ _
    · exact Nat.le_trans (deps_le e) (Nat.le_max_right _ _)
theorem deps_of {n : Nat} : ∀ {l : List T}, (∀ t, t ∈ l → t.dep ≤ n) → T.deps l ≤ n
  | [], _ => by rw [T.deps]; exact Nat.zero_le _
  | a :: r, h => by
    rw [T.deps]
    exact Nat.max_le.mpr ⟨h a List.mem_cons_self, deps_of fun t q => h t (List.mem_cons_of_mem _ q)⟩
theorem sizes_of {n : Nat} : ∀ {l : List T}, (∀ t, t ∈ l → t.size ≤ n) → T.sizes l ≤ l.length * n
  | [], _ => by rw [T.sizes]; exact Nat.zero_le _
  | a :: r, h => by
    have h1 := h a List.mem_cons_self
    have h2 := sizes_of (l := r) fun t q => h t (List.mem_cons_of_mem _ q)
    rw [T.sizes, List.length_cons, Nat.succ_mul]
    omega
theorem dep_pos (t : T) : 1 ≤ t.dep := by
  cases t with
  | v i => rw [dep_v]; exact Nat.le_refl _
  | a f as => rw [dep_a]; omega
theorem size_pos (t : T) : 1 ≤ t.size := by
  cases t with
  | v i => rw [size_v]; exact Nat.le_refl _
  | a f as => rw [size_a]; omega
theorem sizes_int : ∀ l : List T, (l.map fun t => (t.size : Int)).sum = (T.sizes l : Int)
  | [] => by rw [T.sizes]; rfl
  | t :: r => by rw [List.map_cons, List.sum_cons, sizes_int r, T.sizes]; omega
theorem deps_int : ∀ l : List T, maxOr (l.map fun t => (t.dep : Int)) (.int 0) = .int (T.deps l : Int)
  | [] => by rw [T.deps]; rfl
  | t :: r => by
    have ih := deps_int r
    unfold maxOr at ih ⊢
    rw [List.map_cons, T.deps]
    simp only [maxL]
    have hd := dep_pos t
    cases e : maxL (r.map fun t => (t.dep : Int)) with
    | none =>
      rw [e] at ih
      simp only [D.int.injEq] at ih
      simp only [D.int.injEq]
      omega
    | some m =>
      rw [e] at ih
      simp only [D.int.injEq] at ih
      simp only [D.int.injEq]
      split <;> omega
theorem intsOf_map {α : Type} (g : α → Int) : ∀ l : List α, intsOf (l.map fun x => .int (g x)) = some (l.map g)
  | [] => rfl
  | x :: r => by simp only [List.map_cons, intsOf, intsOf_map g r, Option.map_some]
theorem blsOf_map {α : Type} (g : α → Bool) : ∀ l : List α, blsOf (l.map fun x => .bl (g x)) = some (l.map g)
  | [] => rfl
  | x :: r => by simp only [List.map_cons, blsOf, blsOf_map g r, Option.map_some]
/-- a comprehension that only reckons -/
theorem loopC_m {α : Type} {s : Src} {step : D → DHeap → Res (Option D)} (e g : α → D) (l : List α) (h : DHeap) (hs : s.at_ = none) (hx : ∀ x, x ∈ l → W (step (e x) h) (fun o h' => o = some (g x) ∧ h' = h)) :
    W (loopC s step (l.map e) h) (fun ys h' => ys = l.map g ∧ h' = h) := by
  refine loopC_i (fun i ys h' => ys = (l.take i).map g ∧ h' = h) ⟨rfl, rfl⟩ (fun _ _ _ _ => by unfold Src.chk; rw [hs]; trivial) (fun i ys h' x ex p => ?_) fun ys h' p => ?_
  · obtain ⟨rfl, rfl⟩ := p
    rw [List.getElem?_map] at ex
    cases ey : l[i]? with
    | none => rw [ey] at ex; cases ex
    | some y =>
      rw [ey] at ex
      cases ex
      refine W_mono (hx y (List.mem_of_getElem? ey)) fun o h1 q => ?_
      obtain ⟨rfl, rfl⟩ := q
      refine ⟨?_, rfl⟩
      rw [List.take_add_one, ey]
      simp
  · rw [List.length_map, List.take_length] at p
    exact p
theorem cutL_1 {α : Type} (a : α) (l : List α) : cutL (a :: l) (some 1) none = l := by
  unfold cutL
  rw [HT.sIx_none, show HT.sIx (a :: l).length 0 (some 1) = 1 by rw [show (1 : Int) = ((1 : Nat) : Int) from rfl, HT.sIx_nat, List.length_cons]; omega]
  simp
/-! the tape -/
/-- the tape at i: its script, place, rest, seed -/
def Tape (h : DHeap) (i : Nat) : Prop := ∃ (j : Nat) (ns : List Int) (a b c : Int), h[i]? = some (.lst [.ref j, .int a, .int b, .int c]) ∧ h[j]? = some (.lst (ns.map .int)) ∧ i = j + 1 ∧ ns.length ≤ 63 ∧ 0 ≤ a ∧ 0 ≤ b ∧ 0 ≤ c
/-- all but the tape stays -/
def Ev (i : Nat) (h h' : DHeap) : Prop := ∀ n c, n ≠ i → h[n]? = some c → h'[n]? = some c
theorem Ev.refl {i : Nat} {h : DHeap} : Ev i h h := fun _ _ _ e => e
theorem Ev.set {i : Nat} {h h' : DHeap} {c : Cell} (e : Ev i h h') : Ev i h (h'.set i c) := fun n d hn q => by
  rw [set_no (Ne.symm hn)]
  exact e n d hn q
theorem Ev.trans {i : Nat} {h h1 h2 : DHeap} (a : Ev i h h1) (b : Ev i h1 h2) : Ev i h h2 := fun n c hn q => b n c hn (a n c hn q)
theorem Ev.app {i : Nat} {h h' g : DHeap} (e : Ev i h h') : Ev i h (h' ++ g) := fun n c hn q => app_at (e n c hn q)
theorem Tape.app {i : Nat} {h g : DHeap} (t : Tape h i) : Tape (h ++ g) i := by
  obtain ⟨j, ns, a, b, c, h1, h2, r⟩ := t
  exact ⟨j, ns, a, b, c, app_at h1, app_at h2, r⟩
theorem Tape.lt {i : Nat} {h : DHeap} (t : Tape h i) : i < h.length := by
  obtain ⟨j, ns, a, b, c, h1, h2, r⟩ := t
  exact (List.getElem?_eq_some_iff.mp h1).1
theorem Ev.put {i s : Nat} {h h' : DHeap} {c : Cell} (e : Ev i h h') (hs : h.length ≤ s) : Ev i h (h'.set s c) := fun n d hn q => by
  rw [set_no (show s ≠ n from fun a => by have := (List.getElem?_eq_some_iff.mp q).1; omega)]
  exact e n d hn q
theorem Tape.put {i s : Nat} {h : DHeap} {c : Cell} (t : Tape h i) (hs : i < s) : Tape (h.set s c) i := by
  obtain ⟨j, ns, a, b, c, h1, h2, h3, r⟩ := t
  exact ⟨j, ns, a, b, c, by rw [set_no (by omega)]; exact h1, by rw [set_no (by omega)]; exact h2, h3, r⟩
theorem Ev.len {i : Nat} {h h' : DHeap} (e : Ev i h h') (ht : Tape h' i) : h.length ≤ h'.length := by
  refine Decidable.byContradiction fun hh => ?_
  have hl := ht.lt
  have h1 := e h'.length h[h'.length] (by omega) (by simp)
  have h2 := (List.getElem?_eq_some_iff.mp h1).1
  omega
/-! names -/
def lowers : List Nat := ("abcdefghijklmnopqrstuvwxyz" : Str).cps.toList
def glyphs : List Nat := ("abcdefghijklmnopqrstuvwxyzABCDEFGHIJKLMNOPQRSTUVWXYZ0123456789" : Str).cps.toList
def NmOk (x : Str) : Prop := ∃ c l, x.cps.toList = c :: l ∧ c ∈ lowers ∧ (∀ e, e ∈ l → e ∈ glyphs) ∧ l.length ≤ 15 ∧ (l.length ≤ 2 ∨ c = 99)
theorem cps_app (x y : Str) : (x ++ y).cps.toList = x.cps.toList ++ y.cps.toList := by
  show (x.cps ++ y.cps).toList = _
  exact Array.toList_append
theorem len_cps (x : Str) : x.length = x.cps.toList.length := by
  unfold Str.length; simp
theorem cps_cut (z : Str) (n : Nat) : (cutS z none (some (n : Int))).cps.toList = z.cps.toList.take n := by
  unfold cutS
  rw [HT.sIx_none, HT.sIx_nat]
  simp only [List.drop_zero, Nat.sub_zero]
  rw [len_cps, List.take_eq_take_iff]
  omega
theorem lo_si : ∀ c, c ∈ lowers → c ∈ glyphs := by decide +kernel
theorem NmOk.len {x : Str} (h : NmOk x) : x.length ≤ 16 := by
  obtain ⟨c, l, e, _, _, q⟩ := h
  rw [len_cps, e, List.length_cons]
  omega
/-! symbols: a name and how many parts -/
def symD (p : Str × Int) : D := .tup [.str p.1, .int p.2]
def SymOk (l : List (Str × Int)) : Prop := ∀ p, p ∈ l → NmOk p.1 ∧ 0 ≤ p.2 ∧ p.2 ≤ 3
theorem SymOk.app {l r : List (Str × Int)} (a : SymOk l) (b : SymOk r) : SymOk (l ++ r) := fun p h => (List.mem_append.mp h).elim (a p) (b p)
theorem SymOk.one {x : Str} {k : Int} (a : NmOk x) (b : 0 ≤ k) (c : k ≤ 3) : SymOk [(x, k)] := fun p h => by
  rw [List.mem_singleton.mp h]
  exact ⟨a, b, c⟩
theorem atI_sym {l : List (Str × Int)} {k : Int} (h0 : 0 ≤ k) (h1 : k < l.length) (ok : SymOk l) : ∃ x a, atI (l.map symD) k = some (.tup [.str x, .int a]) ∧ NmOk x ∧ 0 ≤ a ∧ a ≤ 3 := by
  obtain ⟨d, e, _, m⟩ := atI_in (l := l.map symD) h0 (by simpa using h1)
  obtain ⟨p, hp, rfl⟩ := List.mem_map.mp m
  exact ⟨p.1, p.2, e, ok p hp⟩
theorem atI_ints {l : List Int} {k : Int} (h0 : 0 ≤ k) (h1 : k < l.length) : ∃ a, atI (l.map D.int) k = some (.int a) ∧ a ∈ l := by
  obtain ⟨d, e, _, m⟩ := atI_in (l := l.map D.int) h0 (by simpa using h1)
  obtain ⟨p, hp, rfl⟩ := List.mem_map.mp m
  exact ⟨p, e, hp⟩
theorem range_at {n k : Nat} {y : D} (e : (rangeL 0 n)[k]? = some y) : k < n ∧ y = .int k := by
  unfold rangeL at e
  rw [List.getElem?_map] at e
  cases e2 : (List.range n)[k]? with
  | none => rw [e2] at e; cases e
  | some j =>
    rw [e2] at e
    have h1 := List.getElem?_eq_some_iff.mp e2
    obtain ⟨h2, h3⟩ := h1
    rw [List.getElem_range] at h3
    rw [List.length_range] at h2
    subst h3
    refine ⟨h2, ?_⟩
    have := Option.some.inj e
    rw [← this]
    simp
theorem range_len (n : Nat) : (rangeL 0 n).length = n := by unfold rangeL; simp
theorem NmOk.cons {x : Str} (h : NmOk x) : ∃ c l, x.cps.toList = c :: l := by
  obtain ⟨c, l, e, _⟩ := h
  exact ⟨c, l, e⟩
theorem W_end {r : Res D} {Q : D → DHeap → Prop} (h : W r Q) (i : ∀ d h, Q d h → d = .bl true) : ∃ h', r = .ok (.bl true) h' := by
  obtain ⟨a, h', e, q⟩ := W_get h
  exact ⟨h', by rw [e, i _ _ q]⟩
theorem W_eq {α : Type} {r : Res α} {x : α} {h : DHeap} (w : W r (fun d h' => d = x ∧ h' = h)) : r = .ok x h := by
  obtain ⟨a, h', e, rfl, rfl⟩ := W_get w
  exact e
/-- what holds where a statement goes on -/
def onNx (R : DEnv → DHeap → Prop) : Fl → DHeap → Prop := fun fl h => match fl with | .nx σ => R σ h | _ => False
theorem Z4Q {R : DEnv → DHeap → Prop} {σ : DEnv} {h : DHeap} : onNx R (.nx σ) h = R σ h := rfl
theorem if_cut {f g : M Fl} {σ : DEnv} {QF : QFl} {b : Bool} {h : DHeap} (R : DEnv → DHeap → Prop) (h1 : b = true → W (f σ h) (onNx R)) (h2 : b = false → W (g σ h) (onNx R)) (h3 : ∀ σ' h', R σ' h' → QF (.nx σ') h') : kIf f g σ QF b h := by
  have m : ∀ fl h', onNx R fl h' → QF fl h' := fun fl h' q => by
    cases fl with
    | nx σ' => exact h3 _ _ q
    | _ => exact q.elim
  exact if_i (fun e => W_mono (h1 e) m) fun e => W_mono (h2 e) m
theorem cutL_map {α β : Type} (g : α → β) (l : List α) (a b : Option Int) : cutL (l.map g) a b = (cutL l a b).map g := by
  unfold cutL
  simp only [List.length_map, List.map_take, List.map_drop]
theorem cutL_len {α : Type} (l : List α) (a b : Option Int) : (cutL l a b).length ≤ l.length := by
  unfold cutL
  simp only [List.length_take, List.length_drop]
  omega
theorem cutL_mem {α : Type} {l : List α} {a b : Option Int} {x : α} (h : x ∈ cutL l a b) : x ∈ l := List.mem_of_mem_drop (List.mem_of_mem_take h)
theorem len_sizes : ∀ l : List T, l.length ≤ T.sizes l
  | [] => by rw [T.sizes]; exact Nat.le_refl _
  | t :: r => by
    have h1 := len_sizes r
    have h2 := size_pos t
    rw [T.sizes, List.length_cons]
    omega
theorem size_le {t : T} : ∀ {l : List T}, t ∈ l → t.size ≤ T.sizes l
  | a :: r, h => by
    rw [T.sizes]
    rcases List.mem_cons.mp h with e | e
    · rw [e]; omega
    · have := size_le e; omega
theorem deps_app : ∀ l r : List T, T.deps (l ++ r) = max (T.deps l) (T.deps r)
  | [], r => by rw [T.deps]; simp
  | t :: l, r => by
    rw [List.cons_append, T.deps, T.deps, deps_app l r]
    omega
theorem deps_one (t : T) : T.deps [t] = t.dep := by
  rw [T.deps, T.deps]
  exact Nat.max_eq_left (Nat.zero_le _)
theorem deps_take {l : List T} {k : Nat} {t : T} (e : l[k]? = some t) : T.deps (l.take (k + 1)) = max (T.deps (l.take k)) t.dep := by
  rw [List.take_add_one, e, Option.toList_some, deps_app, deps_one]
theorem map_at {α β : Type} {g : α → β} {l : List α} {k : Nat} {y : β} (e : (l.map g)[k]? = some y) : ∃ x, l[k]? = some x ∧ y = g x ∧ x ∈ l := by
  rw [List.getElem?_map] at e
  cases ey : l[k]? with
  | none => rw [ey] at e; cases e
  | some x =>
    rw [ey] at e
    cases e
    exact ⟨x, rfl, rfl, List.mem_of_getElem? ey⟩
mutual
theorem eqvD_self : ∀ d : D, PyData.eqv (toP d) (toP d) = true
  | .non => rfl
  | .bl b => by simp [toP, PyData.eqv]
  | .int b => by simp [toP, PyData.eqv]
  | .str b => by simp [toP, PyData.eqv]
  | .tup ds => by rw [toP, PyData.eqv]; exact eqvDs_self ds
  | .fl ds => by rw [toP, PyData.eqv]; exact eqvDs_self ds
  | .ref _ => rfl
theorem eqvDs_self : ∀ ds : List D, PyData.eqvAll (toPs ds) (toPs ds) = true
  | [] => rfl
  | d :: ds => by rw [toPs, PyData.eqvAll, eqvD_self d, eqvDs_self ds]; rfl
end
theorem o_eqSame {x y d : D} {h : DHeap} {Q : QD} (hs : scalD x y = none) (hx : seen h x = some d) (hy : seen h y = some d) (ok : okP d = true) : W (eqD x y h) Q = Q (.bl true) h := by
  unfold eqD
  rw [hs, hx, hy]
  simp only [ok, and_self, if_true]
  unfold eqvD
  rw [eqvD_self]
  rfl
theorem o_repr {x d : D} {h : DHeap} {Q : QD} (hx : seen h x = some d) (ok : okR d) : W (reprD [x] h) Q = Q (.str (toP d).shown) h := by
  unfold reprD
  simp only [hx, if_pos ok]
  rfl
theorem shown_int (a : Int) : (toP (.int a)).shown = ((toString a : String) : Str) := by rw [toP, PyData.shown]
theorem okR_int {a : Int} (h0 : 0 ≤ a) (h1 : a < 4294967296) : okR (.int a) := by
  obtain ⟨n, rfl⟩ : ∃ n : Nat, a = n := ⟨a.toNat, by omega⟩
  have hn : n < 2 ^ 32 := by omega
  refine ⟨rfl, ?_, ?_, ?_⟩
  · rw [toP, PyData.showable, Int.natAbs_natCast]
    refine decide_eq_true ?_
    have : n.log2 ≤ 32 := by
      rcases Nat.eq_zero_or_pos n with e | e
      · subst e; decide
      · exact Nat.le_of_lt ((Nat.log2_lt (by omega)).mpr hn)
    omega
  · rw [toP, PyData.depth]; decide
  · rw [shown_int]
    exact Nat.le_trans (toString_length_le h0 (k := 10) (by decide) (by omega)) (by decide +kernel)
/-- a term over these variables, with good names and at most three parts each -/
inductive T.Ok (vs : List Int) : T → Prop where
  | v {i : Int} : i ∈ vs → T.Ok vs (.v i)
  | a {f : Str} {as : List T} : NmOk f → as.length ≤ 3 → (∀ t, t ∈ as → T.Ok vs t) → T.Ok vs (.a f as)
end DL

set_option Elab.async false
set_option linter.all false
set_option maxRecDepth 100000
set_option maxHeartbeats 4000000
namespace DL
open PySem PySem.Spec PyProof.Rows L2
/-! data that may be compared and shown -/
mutual
def gdD : D → Bool
  | .non => true
  | .bl _ => true
  | .int i => decide (0 ≤ i) && decide (i < 4294967296)
  | .str x => x.cps.toList.all fun c => decide (c < 128)
  | .tup ds => gdDs ds
  | .fl ds => gdDs ds
  | .ref _ => false
def gdDs : List D → Bool
  | [] => true
  | d :: ds => gdD d && gdDs ds
end
mutual
/-- at least how long it is shown -/
def wD : D → Nat
  | .non => 5
  | .bl _ => 5
  | .int _ => 10
  | .str x => 10 * x.length + 2
  | .tup ds => 3 + wDs ds
  | .fl ds => 3 + wDs ds
  | .ref _ => 5
def wDs : List D → Nat
  | [] => 0
  | d :: ds => wD d + 2 + wDs ds
end
mutual
def hD : D → Nat
  | .tup ds => hDs ds + 1
  | .fl ds => hDs ds + 1
  | _ => 0
def hDs : List D → Nat
  | [] => 0
  | d :: ds => max (hD d) (hDs ds)
end
theorem gd_cons {d : D} {ds : List D} (h : gdDs (d :: ds) = true) : gdD d = true ∧ gdDs ds = true := by
  rw [gdDs, Bool.and_eq_true] at h
  exact h
mutual
theorem gd_pure : ∀ d : D, gdD d = true → pureD d = true
  | .non, _ => rfl
  | .bl _, _ => rfl
  | .int _, _ => rfl
  | .str _, _ => rfl
  | .tup ds, h => by rw [pureD]; exact gds_pure ds h
  | .fl ds, h => by rw [pureD]; exact gds_pure ds h
  | .ref _, h => by cases h
theorem gds_pure : ∀ ds : List D, gdDs ds = true → pureDs ds = true
  | [], _ => rfl
  | d :: ds, h => by rw [pureDs, gd_pure d (gd_cons h).1, gds_pure ds (gd_cons h).2]; rfl
end
mutual
theorem hD_eq : ∀ d : D, (toP d).depth = hD d
  | .non => rfl
  | .bl _ => rfl
  | .int _ => rfl
  | .str _ => rfl
  | .tup ds => by rw [toP, PyData.depth, hD, hDs_eq ds]
  | .fl ds => by rw [toP, PyData.depth, hD, hDs_eq ds]
  | .ref _ => rfl
theorem hDs_eq : ∀ ds : List D, PyData.depthAll (toPs ds) = hDs ds
  | [] => rfl
  | d :: ds => by rw [toPs, PyData.depthAll, hDs, hD_eq d, hDs_eq ds]
end
mutual
theorem gd_lay : ∀ d : D, gdD d = true → (toP d).canLay0 = true
  | .non, _ => rfl
  | .bl _, _ => rfl
  | .int _, _ => rfl
  | .str x, h => by
    rw [gdD] at h
    rw [toP, PyData.canLay0]
    unfold PyData.strOk
    rw [← Array.all_toList]
    refine List.all_eq_true.mpr fun c hc => ?_
    have := of_decide_eq_true (List.all_eq_true.mp h c hc)
    exact decide_eq_true (by omega)
  | .tup ds, h => by rw [toP, PyData.canLay0]; exact gds_lay ds h
  | .fl ds, h => by rw [toP, PyData.canLay0]; exact gds_lay ds h
  | .ref _, h => by cases h
theorem gds_lay : ∀ ds : List D, gdDs ds = true → PyData.canLayAll0 (toPs ds) = true
  | [], _ => rfl
  | d :: ds, h => by rw [toPs, PyData.canLayAll0, gd_lay d (gd_cons h).1, gds_lay ds (gd_cons h).2]; rfl
end
theorem int_log {i : Int} (h0 : 0 ≤ i) (h1 : i < 4294967296) : i.natAbs.log2 < 1920 := by
  have := (okR_int h0 h1).2.1
  rw [toP, PyData.showable] at this
  exact of_decide_eq_true this
mutual
theorem gd_show : ∀ d : D, gdD d = true → (toP d).showable = true
  | .non, _ => rfl
  | .bl _, _ => rfl
  | .int i, h => by
    rw [gdD, Bool.and_eq_true] at h
    rw [toP, PyData.showable]
    exact decide_eq_true (int_log (of_decide_eq_true h.1) (of_decide_eq_true h.2))
  | .str _, _ => rfl
  | .tup ds, h => by rw [toP, PyData.showable]; exact gds_show ds h
  | .fl ds, h => by rw [toP, PyData.showable]; exact gds_show ds h
  | .ref _, h => by cases h
theorem gds_show : ∀ ds : List D, gdDs ds = true → PyData.showableAll (toPs ds) = true
  | [], _ => rfl
  | d :: ds, h => by rw [toPs, PyData.showableAll, gd_show d (gd_cons h).1, gds_show ds (gd_cons h).2]; rfl
end
mutual
theorem gd_len : ∀ d : D, gdD d = true → (toP d).shown.length ≤ wD d
  | .non, _ => by decide +kernel
  | .bl b, _ => by cases b <;> decide +kernel
  | .int i, h => by
    rw [gdD, Bool.and_eq_true] at h
    rw [shown_int, wD]
    exact toString_length_le (of_decide_eq_true h.1) (k := 10) (by decide) (by have := of_decide_eq_true h.2; omega)
  | .str x, h => by
    rw [gdD] at h
    rw [toP, PyData.shown, wD]
    exact StrLaws.reprText_len x fun c hc => by
      have := of_decide_eq_true (List.all_eq_true.mp h c hc)
      omega
  | .tup ds, h => by
    rw [toP, PyData.shown, wD]
    have h1 := gds_len ds h
    have h2 := tupleText_len_le (PyData.shownAll (toPs ds))
    omega
  | .fl ds, h => by
    rw [toP, PyData.shown, wD]
    have h1 := gds_len ds h
    have h2 := listText_len_le (PyData.shownAll (toPs ds))
    omega
  | .ref _, h => by cases h
theorem gds_len : ∀ ds : List D, gdDs ds = true → ((PyData.shownAll (toPs ds)).map (·.length)).sum + 2 * (PyData.shownAll (toPs ds)).length ≤ wDs ds
  | [], _ => Nat.le_refl _
  | d :: ds, h => by
    have h1 := gd_len d (gd_cons h).1
    have h2 := gds_len ds (gd_cons h).2
    rw [toPs, PyData.shownAll, List.map_cons, List.sum_cons, List.length_cons, wDs]
    omega
end
theorem okP_of {d : D} (h : gdD d = true) (hd : hD d ≤ 64) : okP d = true := by
  unfold okP SeqAt.shaped
  rw [gd_pure d h, gd_lay d h, hD_eq, decide_eq_true hd]
  rfl
theorem okR_of {d : D} (h : gdD d = true) (hd : hD d ≤ 64) (hw : wD d ≤ 16777216) : okR d := ⟨gd_pure d h, gd_show d h, by rw [hD_eq]; omega, by rw [sizeLine_eq]; exact Nat.le_trans (gd_len d h) hw⟩
/-! terms -/
def NmG (f : Str) : Prop := (∀ c, c ∈ f.cps.toList → c < 128) ∧ f.length ≤ 16
inductive T.G : T → Prop where
  | v {i : Int} : 0 ≤ i → i < 4294967296 → T.G (.v i)
  | a {f : Str} {as : List T} : NmG f → (∀ t, t ∈ as → T.G t) → T.G (.a f as)
theorem glyph_lt : ∀ c, c ∈ glyphs → c < 128 := by decide +kernel
theorem NmOk.g {x : Str} (h : NmOk x) : NmG x := by
  refine ⟨fun c hc => ?_, h.len⟩
  obtain ⟨d, l, e, h1, h2, _⟩ := h
  rw [e] at hc
  rcases List.mem_cons.mp hc with rfl | hc
  · exact glyph_lt _ (lo_si _ h1)
  · exact glyph_lt _ (h2 c hc)
theorem T.Ok.g {vs : List Int} (hv : ∀ i, i ∈ vs → 0 ≤ i ∧ i < 4294967296) {t : T} (h : t.Ok vs) : t.G := by
  induction h with
  | v hi => exact .v (hv _ hi).1 (hv _ hi).2
  | a hf _ _ ih => exact .a hf.g ih
theorem T.G.nm {f : Str} {as : List T} (h : (T.a f as).G) : NmG f := by cases h; assumption
theorem T.G.parts {f : Str} {as : List T} (h : (T.a f as).G) : ∀ t, t ∈ as → t.G := by cases h; assumption
theorem gdDs_map {α : Type} {g : α → D} : ∀ {l : List α}, (∀ t, t ∈ l → gdD (g t) = true) → gdDs (l.map g) = true
  | [], _ => rfl
  | t :: l, h => by rw [List.map_cons, gdDs, h t List.mem_cons_self, gdDs_map fun t ht => h t (List.mem_cons_of_mem _ ht)]; rfl
theorem hDs_map {α : Type} {g : α → D} {n : Nat} : ∀ {l : List α}, (∀ t, t ∈ l → hD (g t) ≤ n) → hDs (l.map g) ≤ n
  | [], _ => Nat.zero_le _
  | t :: l, h => by
    rw [List.map_cons, hDs]
    exact Nat.max_le.mpr ⟨h t List.mem_cons_self, hDs_map fun t ht => h t (List.mem_cons_of_mem _ ht)⟩
theorem gd_str {f : Str} (h : NmG f) : gdD (.str f) = true := by
  rw [gdD]
  exact List.all_eq_true.mpr fun c hc => decide_eq_true (h.1 c hc)
theorem gd_T {t : T} : t.G → gdD t.toD = true := by
  refine T.ind (P := fun t => t.G → gdD t.toD = true) (fun i h => ?_) (fun f as ih h => ?_) t
  · cases h with
    | v h0 h1 => rw [toD_v, gdD, decide_eq_true h0, decide_eq_true h1]; rfl
  · rw [toD_a, gdD, gdDs, gd_str h.nm, gdDs_map fun t ht => ih t ht (h.parts t ht)]
    rfl
theorem hD_T (t : T) : hD t.toD ≤ t.dep := by
  refine T.ind (P := fun t => hD t.toD ≤ t.dep) (fun i => ?_) (fun f as ih => ?_) t
  · rw [toD_v]; exact Nat.zero_le _
  · rw [toD_a, hD, hDs, dep_a, show hD (.str f) = 0 from rfl]
    have := hDs_map (g := T.toD) (n := T.deps as) fun t ht => Nat.le_trans (ih t ht) (deps_le ht)
    omega
theorem wDs_T : ∀ {as : List T}, (∀ t, t ∈ as → wD t.toD + 2 ≤ 170 * t.size) → wDs (as.map T.toD) ≤ 170 * T.sizes as
  | [], _ => by rw [T.sizes]; exact Nat.le_refl _
  | t :: as, h => by
    have h1 := h t List.mem_cons_self
    have h2 := wDs_T fun t ht => h t (List.mem_cons_of_mem _ ht)
    rw [List.map_cons, wDs, T.sizes]
    omega
theorem wD_T {t : T} : t.G → wD t.toD + 2 ≤ 170 * t.size := by
  refine T.ind (P := fun t => t.G → wD t.toD + 2 ≤ 170 * t.size) (fun i h => ?_) (fun f as ih h => ?_) t
  · rw [toD_v, size_v, wD]; omega
  · have h1 := wDs_T fun t ht => ih t ht (h.parts t ht)
    have h2 := h.nm.2
    rw [toD_a, size_a, wD, wDs, wD]
    omega
/-- a tuple of terms -/
theorem okT {ts : List T} (h : ∀ t, t ∈ ts → t.G) (hd : ∀ t, t ∈ ts → t.dep ≤ 63) (hs : T.sizes ts ≤ 90000) : gdD (.tup (ts.map T.toD)) = true ∧ hD (.tup (ts.map T.toD)) ≤ 64 ∧ wD (.tup (ts.map T.toD)) ≤ 16777216 := by
  have h1 := wDs_T fun t ht => wD_T (h t ht)
  have h2 := hDs_map (g := T.toD) (n := 63) fun t ht => Nat.le_trans (hD_T t) (hd t ht)
  refine ⟨by rw [gdD]; exact gdDs_map fun t ht => gd_T (h t ht), by rw [hD]; omega, by rw [wD]; omega⟩
end DL

set_option Elab.async false
set_option linter.all false
set_option maxRecDepth 100000
set_option maxHeartbeats 4000000
namespace DL
open PySem PySem.Spec PyProof.Rows L2
theorem set_same {h : DHeap} {i : Nat} {c : Cell} (e : h[i]? = some c) : h.set i c = h := by
  apply List.ext_getElem?
  intro j
  by_cases hj : i = j
  · subst hj; rw [set_at e, e]
  · rw [set_no hj]
theorem set_set {h : DHeap} {i : Nat} {c d : Cell} : (h.set i c).set i d = h.set i d := List.set_set ..
/-! variables, as first met -/
def insI (i : Int) (l : List Int) : List Int := if i ∈ l then l else l ++ [i]
mutual
def noteV : T → List Int → List Int
  | .v i, l => insI i l
  | .a _ as, l => noteVs as l
def noteVs : List T → List Int → List Int
  | [], l => l
  | t :: r, l => noteVs r (noteV t l)
end
theorem noteV_v (i : Int) (l : List Int) : noteV (.v i) l = insI i l := by rw [noteV]
theorem noteV_a (f : Str) (as : List T) (l : List Int) : noteV (.a f as) l = noteVs as l := by rw [noteV]
theorem noteVs_app : ∀ (as bs : List T) (l : List Int), noteVs (as ++ bs) l = noteVs bs (noteVs as l)
  | [], _, _ => by rw [List.nil_append, noteVs]
  | t :: as, bs, l => by rw [List.cons_append, noteVs, noteVs, noteVs_app as bs]
theorem noteVs_take {as : List T} {k : Nat} {t : T} {l : List Int} (e : as[k]? = some t) : noteVs (as.take (k + 1)) l = noteV t (noteVs (as.take k) l) := by
  rw [List.take_add_one, e, Option.toList_some, noteVs_app, noteVs, noteVs]
theorem noteVs_0 (l : List Int) : noteVs [] l = l := by rw [noteVs]
def OkI (l : List Int) : Prop := ∀ i, i ∈ l → 0 ≤ i ∧ i < 4294967296
theorem insI_ok {i : Int} {l : List Int} (h0 : 0 ≤ i) (h1 : i < 4294967296) (h : OkI l) : OkI (insI i l) := by
  unfold insI
  split
  · exact h
  · intro j hj
    rcases List.mem_append.mp hj with hj | hj
    · exact h j hj
    · rw [List.mem_singleton.mp hj]; exact ⟨h0, h1⟩
theorem insI_len (i : Int) (l : List Int) : (insI i l).length ≤ l.length + 1 := by
  unfold insI
  split
  · omega
  · rw [List.length_append]; exact Nat.le_refl _
theorem noteVs_p {as : List T} (ih : ∀ t, t ∈ as → ∀ l, OkI l → OkI (noteV t l) ∧ (noteV t l).length ≤ l.length + t.size) : ∀ l, OkI l → OkI (noteVs as l) ∧ (noteVs as l).length ≤ l.length + T.sizes as := by
  induction as with
  | nil => intro l h; rw [noteVs, T.sizes]; exact ⟨h, Nat.le_refl _⟩
  | cons t r ihr =>
    intro l h
    have h1 := ih t List.mem_cons_self l h
    have h2 := ihr (fun t ht => ih t (List.mem_cons_of_mem _ ht)) _ h1.1
    rw [noteVs, T.sizes]
    exact ⟨h2.1, by omega⟩
theorem noteV_p {t : T} : t.G → ∀ l, OkI l → OkI (noteV t l) ∧ (noteV t l).length ≤ l.length + t.size := by
  refine T.ind (P := fun t => t.G → ∀ l, OkI l → OkI (noteV t l) ∧ (noteV t l).length ≤ l.length + t.size) (fun i g l h => ?_) (fun f as ih g l h => ?_) t
  · rw [noteV_v, size_v]
    cases g with
    | v h0 h1 => exact ⟨insI_ok h0 h1 h, insI_len i l⟩
  · rw [noteV_a, size_a]
    have := noteVs_p (fun t ht => ih t ht (g.parts t ht)) l h
    exact ⟨this.1, by omega⟩
theorem noteVs_ok {as : List T} (g : ∀ t, t ∈ as → t.G) (l : List Int) (h : OkI l) : OkI (noteVs as l) ∧ (noteVs as l).length ≤ l.length + T.sizes as := noteVs_p (fun t ht => noteV_p (g t ht)) l h
/-- a dict of these keys -/
def vDic (l : List Int) : List (Key × D) := l.map fun i => (Sum.inl i, D.bl true)
theorem vDic_any (i : Int) (l : List Int) : ((vDic l).any fun kv => decide (kv.1 = Sum.inl i)) = decide (i ∈ l) := by
  unfold vDic
  rw [List.any_map]
  induction l with
  | nil => rfl
  | cons j l ih =>
    rw [List.any_cons, ih]
    have : decide (i ∈ j :: l) = (decide (j = i) || decide (i ∈ l)) := by
      rw [← Bool.decide_or]
      simp [eq_comm]
    rw [this]
    simp [Function.comp]
theorem vDic_put (i : Int) (l : List Int) : putD (vDic l) (.inl i) (.bl true) = vDic (insI i l) := by
  unfold putD insI
  rw [vDic_any]
  by_cases e : i ∈ l
  · rw [if_pos e, decide_eq_true e, if_pos rfl]
    unfold vDic
    rw [List.map_map]
    refine List.map_congr_left fun j _ => ?_
    simp only [Function.comp]
    split
    · rename_i h; rw [h]
    · rfl
  · rw [if_neg e, decide_eq_false e, if_neg (by decide)]
    unfold vDic
    rw [List.map_append]
    rfl
theorem vDic_keys (l : List Int) : ((vDic l).map fun kv => keyV kv.1) = l.map D.int := by
  unfold vDic
  rw [List.map_map]
  rfl
theorem vDic_len (l : List Int) : (vDic l).length = l.length := by unfold vDic; rw [List.length_map]
theorem gd_ints {l : List Int} (h : OkI l) : gdD (.fl (l.map D.int)) = true := by
  rw [gdD]
  exact gdDs_map fun i hi => by rw [gdD, decide_eq_true (h i hi).1, decide_eq_true (h i hi).2]; rfl
theorem hD_ints (l : List Int) : hD (.fl (l.map D.int)) ≤ 1 := by
  rw [hD]
  have := hDs_map (g := D.int) (n := 0) (l := l) fun _ _ => Nat.le_refl _
  omega
theorem okP_ints {l : List Int} (h : OkI l) : okP (.fl (l.map D.int)) = true := okP_of (gd_ints h) (Nat.le_trans (hD_ints l) (by decide))
theorem okP_int {i : Int} (h0 : 0 ≤ i) (h1 : i < 4294967296) : okP (.int i) = true := okP_of (by rw [gdD, decide_eq_true h0, decide_eq_true h1]; rfl) (Nat.zero_le _)
theorem any_nums (i : Int) (l : List Int) : ((l.map D.int).any fun z => eqvD z (.int i)) = decide (i ∈ l) := by
  rw [List.any_map]
  induction l with
  | nil => rfl
  | cons j l ih =>
    rw [List.any_cons, ih]
    have : decide (i ∈ j :: l) = (decide (j = i) || decide (i ∈ l)) := by
      rw [← Bool.decide_or]
      simp [eq_comm]
    rw [this]
    have : (Function.comp (fun z => eqvD z (.int i)) D.int) j = decide (j = i) := by
      simp only [Function.comp, eqvD, toP, PyData.eqv]
      first | rfl | exact Bool.beq_eq_decide_eq _ _ | (by_cases e : j = i <;> simp [e])
    rw [this]
/-! subterms, as first met -/
def inT (t : T) (l : List T) : Bool := (l.map T.toD).any fun z => eqvD z t.toD
mutual
def noteS : T → List T → List T
  | .v i, l => if inT (.v i) l = true then l else l ++ [.v i]
  | .a f as, l => if inT (.a f as) l = true then l else noteSs as (l ++ [.a f as])
def noteSs : List T → List T → List T
  | [], l => l
  | t :: r, l => noteSs r (noteS t l)
end
theorem noteS_v (i : Int) (l : List T) : noteS (.v i) l = if inT (.v i) l = true then l else l ++ [.v i] := by rw [noteS]
theorem noteS_a (f : Str) (as : List T) (l : List T) : noteS (.a f as) l = if inT (.a f as) l = true then l else noteSs as (l ++ [.a f as]) := by rw [noteS]
theorem noteSs_0 (l : List T) : noteSs [] l = l := by rw [noteSs]
theorem noteSs_app : ∀ (as bs : List T) (l : List T), noteSs (as ++ bs) l = noteSs bs (noteSs as l)
  | [], _, _ => by rw [List.nil_append, noteSs]
  | t :: as, bs, l => by rw [List.cons_append, noteSs, noteSs, noteSs_app as bs]
theorem noteSs_take {as : List T} {k : Nat} {t : T} {l : List T} (e : as[k]? = some t) : noteSs (as.take (k + 1)) l = noteS t (noteSs (as.take k) l) := by
  rw [List.take_add_one, e, Option.toList_some, noteSs_app, noteSs, noteSs]
mutual
def T.wt : T → Nat
  | .v _ => 1
  | .a _ as => 1 + T.sizes as + T.wts as
def T.wts : List T → Nat
  | [] => 0
  | t :: r => t.wt + T.wts r
end
theorem wts_le {n : Nat} : ∀ {as : List T}, (∀ t, t ∈ as → t.wt ≤ t.size * n) → T.wts as ≤ T.sizes as * n
  | [], _ => by rw [T.wts]; exact Nat.zero_le _
  | t :: as, h => by
    have h1 := h t List.mem_cons_self
    have h2 := wts_le fun t ht => h t (List.mem_cons_of_mem _ ht)
    rw [T.wts, T.sizes, Nat.add_mul]
    omega
theorem wt_le (t : T) : ∀ n, t.dep ≤ n → t.wt ≤ t.size * n := by
  refine T.ind (P := fun t => ∀ n, t.dep ≤ n → t.wt ≤ t.size * n) (fun i n hn => ?_) (fun f as ih n hn => ?_) t
  · rw [dep_v] at hn
    rw [T.wt, size_v]; omega
  · rw [dep_a] at hn
    obtain ⟨m, rfl⟩ : ∃ m, n = m + 1 := ⟨n - 1, by omega⟩
    have h1 := wts_le (n := m) (as := as) fun t ht => ih t ht m (Nat.le_trans (deps_le ht) (by omega))
    rw [T.wt, size_a, Nat.mul_succ, Nat.add_mul]
    omega
/-- what is kept of a list of subterms -/
def OkS (l : List T) : Prop := ∀ t, t ∈ l → t.G ∧ t.dep ≤ 60
theorem OkS.app {l : List T} {t : T} (h : OkS l) (g : t.G) (d : t.dep ≤ 60) : OkS (l ++ [t]) := fun u hu => by
  rcases List.mem_append.mp hu with hu | hu
  · exact h u hu
  · rw [List.mem_singleton.mp hu]; exact ⟨g, d⟩
theorem sizes_app : ∀ l r : List T, T.sizes (l ++ r) = T.sizes l + T.sizes r
  | [], r => by rw [T.sizes]; simp
  | t :: l, r => by rw [List.cons_append, T.sizes, T.sizes, sizes_app l r]; omega
theorem sizes_one (t : T) : T.sizes [t] = t.size := by rw [T.sizes, T.sizes]; omega
theorem noteSs_p {as : List T} (ih : ∀ t, t ∈ as → ∀ l, OkS l → OkS (noteS t l) ∧ (noteS t l).length ≤ l.length + t.size ∧ T.sizes (noteS t l) ≤ T.sizes l + t.wt) : ∀ l, OkS l → OkS (noteSs as l) ∧ (noteSs as l).length ≤ l.length + T.sizes as ∧ T.sizes (noteSs as l) ≤ T.sizes l + T.wts as := by
  induction as with
  | nil => intro l h; rw [noteSs, T.sizes, T.wts]; exact ⟨h, Nat.le_refl _, Nat.le_refl _⟩
  | cons t r ihr =>
    intro l h
    have h1 := ih t List.mem_cons_self l h
    have h2 := ihr (fun t ht => ih t (List.mem_cons_of_mem _ ht)) _ h1.1
    rw [noteSs, T.sizes, T.wts]
    exact ⟨h2.1, by omega, by omega⟩
theorem noteS_p {t : T} : t.G → t.dep ≤ 60 → ∀ l, OkS l → OkS (noteS t l) ∧ (noteS t l).length ≤ l.length + t.size ∧ T.sizes (noteS t l) ≤ T.sizes l + t.wt := by
  refine T.ind (P := fun t => t.G → t.dep ≤ 60 → ∀ l, OkS l → OkS (noteS t l) ∧ (noteS t l).length ≤ l.length + t.size ∧ T.sizes (noteS t l) ≤ T.sizes l + t.wt) (fun i g d l h => ?_) (fun f as ih g d l h => ?_) t
  · rw [noteS_v, size_v, T.wt]
    split
    · exact ⟨h, by omega, by omega⟩
    · exact ⟨h.app g d, by rw [List.length_append]; exact Nat.le_refl _, by rw [sizes_app, sizes_one, size_v]; exact Nat.le_refl _⟩
  · rw [noteS_a, size_a, T.wt]
    split
    · exact ⟨h, by omega, by omega⟩
    · rw [dep_a] at d
      have h1 := noteSs_p (fun t ht => ih t ht (g.parts t ht) (Nat.le_trans (deps_le ht) (by omega))) _ (h.app g (by rw [dep_a]; exact d))
      rw [List.length_append, sizes_app, sizes_one, size_a] at h1
      refine ⟨h1.1, ?_, ?_⟩
      · have := h1.2.1
        simp only [List.length_cons, List.length_nil] at this
        omega
      · omega
theorem okP_T {t : T} (g : t.G) (d : t.dep ≤ 60) : okP t.toD = true := okP_of (gd_T g) (Nat.le_trans (hD_T t) (by omega))
theorem okP_Ts {l : List T} (h : OkS l) : okP (.fl (l.map T.toD)) = true := okP_of (by rw [gdD]; exact gdDs_map fun t ht => gd_T (h t ht).1) (by
  rw [hD]
  have := hDs_map (g := T.toD) (n := 60) (l := l) fun t ht => Nat.le_trans (hD_T t) (h t ht).2
  omega)
end DL
namespace DL
open PySem PySem.Spec PyProof.Rows L2
theorem set_end {h : DHeap} {c d : Cell} : (h ++ [c]).set h.length d = h ++ [d] := by simp
theorem set_app {h g : DHeap} {i : Nat} {d : Cell} (hi : i < h.length) : (h ++ g).set i d = h.set i d ++ g := List.set_append_left _ _ hi
theorem sizes_take {as : List T} {k : Nat} {t : T} (et : as[k]? = some t) : T.sizes (as.take k) + t.size ≤ T.sizes as := by
  have h1 := sizes_app (as.take (k + 1)) (as.drop (k + 1))
  rw [List.take_append_drop, List.take_add_one, et, Option.toList_some, sizes_app, sizes_one] at h1
  omega
theorem wts_app : ∀ l r : List T, T.wts (l ++ r) = T.wts l + T.wts r
  | [], r => by rw [T.wts]; simp
  | t :: l, r => by rw [List.cons_append, T.wts, T.wts, wts_app l r]; omega
theorem okT_v {l : List Int} (h : OkI l) (hl : l.length ≤ 90000) : gdD (.tup (l.map D.int)) = true ∧ hD (.tup (l.map D.int)) ≤ 64 ∧ wD (.tup (l.map D.int)) ≤ 16777216 := by
  have e : l.map D.int = (l.map T.v).map T.toD := by
    rw [List.map_map]
    exact List.map_congr_left fun i _ => (toD_v i).symm
  rw [e]
  have hs : ∀ l : List Int, T.sizes (l.map T.v) = l.length := fun l => by
    induction l with
    | nil => rw [List.map_nil, T.sizes]; rfl
    | cons i l ih => rw [List.map_cons, T.sizes, ih, size_v, List.length_cons]; omega
  refine okT (fun t ht => ?_) (fun t ht => ?_) (by rw [hs]; exact hl)
  · obtain ⟨i, hi, rfl⟩ := List.mem_map.mp ht
    exact .v (h i hi).1 (h i hi).2
  · obtain ⟨i, hi, rfl⟩ := List.mem_map.mp ht
    rw [dep_v]; decide
theorem okT_S {l : List T} (h : OkS l) (hs : T.sizes l ≤ 90000) : gdD (.tup (l.map T.toD)) = true ∧ hD (.tup (l.map T.toD)) ≤ 64 ∧ wD (.tup (l.map T.toD)) ≤ 16777216 := okT (fun t ht => (h t ht).1) (fun t ht => Nat.le_trans (h t ht).2 (by decide)) hs
end DL

set_option Elab.async false
set_option linter.all false
set_option maxRecDepth 100000
set_option maxHeartbeats 4000000
namespace DL
open PySem PySem.Spec PyProof.Rows L2
/-! triples: a name, terms, parts -/
inductive V3 where
  | n (nm ts : D) (ps : List V3)
theorem V3.ind {P : V3 → Prop} (ha : ∀ nm ts ps, (∀ t, t ∈ ps → P t) → P (.n nm ts ps)) : ∀ t, P t := by
  intro t
  exact V3.rec (motive_1 := P) (motive_2 := fun l => ∀ t, t ∈ l → P t) (fun nm ts ps ih => ha nm ts ps ih) (fun t h => absurd h List.not_mem_nil) (fun a l h1 h2 t h => by
    rcases List.mem_cons.mp h with e | e
    · rw [e]; exact h1
    · exact h2 t e) t
mutual
def V3.toD : V3 → D
  | .n nm ts ps => .tup [nm, ts, .tup (V3.toDs ps)]
def V3.toDs : List V3 → List D
  | [] => []
  | t :: r => t.toD :: V3.toDs r
end
theorem v_toDs : ∀ l : List V3, V3.toDs l = l.map V3.toD
  | [] => rfl
  | t :: r => by rw [V3.toDs, v_toDs r]; rfl
theorem v_toD (nm ts : D) (ps : List V3) : (V3.n nm ts ps).toD = .tup [nm, ts, .tup (ps.map V3.toD)] := by rw [V3.toD, v_toDs]
mutual
def V3.size : V3 → Nat
  | .n _ _ ps => 1 + V3.sizes ps
def V3.sizes : List V3 → Nat
  | [] => 0
  | t :: r => t.size + V3.sizes r
end
mutual
def V3.dep : V3 → Nat
  | .n _ _ ps => 1 + V3.deps ps
def V3.deps : List V3 → Nat
  | [] => 0
  | t :: r => max t.dep (V3.deps r)
end
theorem v_size (nm ts : D) (ps : List V3) : (V3.n nm ts ps).size = 1 + V3.sizes ps := by rw [V3.size]
theorem v_dep (nm ts : D) (ps : List V3) : (V3.n nm ts ps).dep = 1 + V3.deps ps := by rw [V3.dep]
theorem v_size_pos (t : V3) : 1 ≤ t.size := by cases t; rw [v_size]; omega
theorem v_dep_pos (t : V3) : 1 ≤ t.dep := by cases t; rw [v_dep]; omega
theorem v_deps_le {t : V3} : ∀ {l : List V3}, t ∈ l → t.dep ≤ V3.deps l
  | a :: r, h => by
    rw [V3.deps]
    rcases List.mem_cons.mp h with e | e
    · rw [e]; exact Nat.le_max_left _ _
    · exact Nat.le_trans (v_deps_le e) (Nat.le_max_right _ _)
theorem v_size_le {t : V3} : ∀ {l : List V3}, t ∈ l → t.size ≤ V3.sizes l
  | a :: r, h => by
    rw [V3.sizes]
    rcases List.mem_cons.mp h with e | e
    · rw [e]; omega
    · have := v_size_le e; omega
theorem v_deps_of {n : Nat} : ∀ {l : List V3}, (∀ t, t ∈ l → t.dep ≤ n) → V3.deps l ≤ n
  | [], _ => by rw [V3.deps]; exact Nat.zero_le _
  | a :: r, h => by
    rw [V3.deps]
    exact Nat.max_le.mpr ⟨h a List.mem_cons_self, v_deps_of fun t q => h t (List.mem_cons_of_mem _ q)⟩
theorem v_sizes_of {n : Nat} : ∀ {l : List V3}, (∀ t, t ∈ l → t.size ≤ n) → V3.sizes l ≤ l.length * n
  | [], _ => by rw [V3.sizes]; exact Nat.zero_le _
  | a :: r, h => by
    have h1 := h a List.mem_cons_self
    have h2 := v_sizes_of (l := r) fun t q => h t (List.mem_cons_of_mem _ q)
    rw [V3.sizes, List.length_cons, Nat.succ_mul]
    omega
theorem v_len_sizes : ∀ l : List V3, l.length ≤ V3.sizes l
  | [] => by rw [V3.sizes]; exact Nat.le_refl _
  | t :: r => by
    have h1 := v_len_sizes r
    have h2 := v_size_pos t
    rw [V3.sizes, List.length_cons]
    omega
theorem v_sizes_int : ∀ l : List V3, (l.map fun t => (t.size : Int)).sum = (V3.sizes l : Int)
  | [] => by rw [V3.sizes]; rfl
  | t :: r => by rw [List.map_cons, List.sum_cons, v_sizes_int r, V3.sizes]; omega
theorem v_deps_int : ∀ l : List V3, maxOr (l.map fun t => (t.dep : Int)) (.int 0) = .int (V3.deps l : Int)
  | [] => by rw [V3.deps]; rfl
  | t :: r => by
    have ih := v_deps_int r
    unfold maxOr at ih ⊢
    rw [List.map_cons, V3.deps]
    simp only [maxL]
    have hd := v_dep_pos t
    cases e : maxL (r.map fun t => (t.dep : Int)) with
    | none =>
      rw [e] at ih
      simp only [D.int.injEq] at ih
      simp only [D.int.injEq]
      omega
    | some m =>
      rw [e] at ih
      simp only [D.int.injEq] at ih
      simp only [D.int.injEq]
      split <;> omega
theorem v_deps_app : ∀ l r : List V3, V3.deps (l ++ r) = max (V3.deps l) (V3.deps r)
  | [], r => by rw [V3.deps]; simp
  | t :: l, r => by
    rw [List.cons_append, V3.deps, V3.deps, v_deps_app l r]
    omega
theorem v_sizes_app : ∀ l r : List V3, V3.sizes (l ++ r) = V3.sizes l + V3.sizes r
  | [], r => by rw [V3.sizes]; simp
  | t :: l, r => by rw [List.cons_append, V3.sizes, V3.sizes, v_sizes_app l r]; omega
theorem v_deps_take {l : List V3} {k : Nat} {t : V3} (e : l[k]? = some t) : V3.deps (l.take (k + 1)) = max (V3.deps (l.take k)) t.dep := by
  have h1 : V3.deps [t] = t.dep := by rw [V3.deps, V3.deps]; exact Nat.max_eq_left (Nat.zero_le _)
  rw [List.take_add_one, e, Option.toList_some, v_deps_app, h1]
theorem v_sizes_take {l : List V3} {k : Nat} {t : V3} (e : l[k]? = some t) : V3.sizes (l.take (k + 1)) = V3.sizes (l.take k) + t.size := by
  have h1 : V3.sizes [t] = t.size := by rw [V3.sizes, V3.sizes]; omega
  rw [List.take_add_one, e, Option.toList_some, v_sizes_app, h1]
theorem an_i {tb : M Bool} {σ : DEnv} {QB : QBl} {b : Bool} {h : DHeap} (h1 : b = true → W (tb σ h) QB) (h2 : b = false → QB false h) : kAn tb σ QB b h := by
  cases b with
  | true => exact h1 rfl
  | false => exact h2 rfl
theorem or_i {tb : M Bool} {σ : DEnv} {QB : QBl} {b : Bool} {h : DHeap} (h1 : b = true → QB true h) (h2 : b = false → W (tb σ h) QB) : kOr tb σ QB b h := by
  cases b with
  | true => exact h1 rfl
  | false => exact h2 rfl
end DL

set_option Elab.async false
set_option linter.all false
set_option maxRecDepth 100000
namespace DL
open PySem PySem.Spec PyProof.Rows L2
section
variable {h : DHeap} {n : Nat} {Q : QD} {ds : List D} {kvs : List (Key × D)} {ns : List Int}
def kSrtL (Q : QD) (o : Option (List Int)) (h : DHeap) : Prop := match o with | some ns => Q (.ref h.length) (h ++ [.lst ((srtI ns).map D.int)]) | none => False
def kSrtD (Q : QD) (o : Option (List Int)) (h : DHeap) : Prop := match o with | some ns => ns.length < 64 ∧ Q (.ref h.length) (h ++ [.lst ((srtI ns).map D.int)]) | none => False
def kSrt (Q : QD) (o : Option Cell) (h : DHeap) : Prop := match o with | some (.lst ds) => kSrtL Q (intsOf ds) h | some (.dic kvs) => kSrtD Q (intsOf (kvs.map fun kv => keyV kv.1)) h | none => False
theorem Z5O : W (srtD [.ref n] h) Q = kSrt Q (h[n]?) h := by
  unfold srtD kSrt kSrtL kSrtD
  simp only
  cases e : h[n]? with
  | none => rfl
  | some c =>
    cases c with
    | lst ds => simp only; cases intsOf ds <;> rfl
    | dic kvs =>
      simp only
      cases intsOf (kvs.map fun kv => keyV kv.1) with
      | none => rfl
      | some ns => simp only [W_ite]
theorem Z5P : kSrt Q (some (.lst ds)) h = kSrtL Q (intsOf ds) h := rfl
theorem Z5Q : kSrt Q (some (.dic kvs)) h = kSrtD Q (intsOf (kvs.map fun kv => keyV kv.1)) h := rfl
theorem Z5R : kSrtL Q (some ns) h = Q (.ref h.length) (h ++ [.lst ((srtI ns).map D.int)]) := rfl
theorem Z5S : kSrtD Q (some ns) h = (ns.length < 64 ∧ Q (.ref h.length) (h ++ [.lst ((srtI ns).map D.int)])) := rfl
theorem Z5T (l : List Int) : intsOf (l.map D.int) = some l := by
  have := intsOf_map (fun i : Int => i) l
  rw [List.map_id'] at this
  exact this
end
end DL

set_option Elab.async false
set_option linter.all false
set_option maxRecDepth 100000
set_option maxHeartbeats 4000000
namespace DL
open PySem PySem.Spec PyProof.Rows L2
theorem ifv_i {fa fb : M D} {σ : DEnv} {Q : QD} {b : Bool} {h : DHeap} (h1 : b = true → W (fa σ h) Q) (h2 : b = false → W (fb σ h) Q) : kIfV fa fb σ Q b h := by
  cases b with
  | true => exact h1 rfl
  | false => exact h2 rfl
theorem loopC_r {α : Type} {s : Src} {step : D → DHeap → Res (Option D)} (e g : α → D) (l : List α) (h : DHeap) (hs : s.chk h) (hx : ∀ x, x ∈ l → W (step (e x) h) (fun o h' => o = some (g x) ∧ h' = h)) :
    W (loopC s step (l.map e) h) (fun ys h' => ys = l.map g ∧ h' = h) := by
  refine loopC_i (fun i ys h' => ys = (l.take i).map g ∧ h' = h) ⟨rfl, rfl⟩ (fun _ _ _ p => by rw [p.2]; exact hs) (fun i ys h' x ex p => ?_) fun ys h' p => ?_
  · obtain ⟨rfl, rfl⟩ := p
    obtain ⟨y, ey, rfl, hy⟩ := map_at ex
    refine W_mono (hx y hy) fun o h1 q => ?_
    obtain ⟨rfl, rfl⟩ := q
    refine ⟨?_, rfl⟩
    rw [List.take_add_one, ey]
    simp
  · rw [List.length_map, List.take_length] at p
    exact p
/-! tables: variables and terms -/
abbrev Tab := List (Int × T)
def tD (l : Tab) : List (Key × D) := l.map fun p => (Sum.inl p.1, p.2.toD)
def lookT (l : Tab) (i : Int) : Option T := (l.find? fun p => decide (p.1 = i)).map (·.2)
theorem lookT_c (p : Int × T) (l : Tab) (i : Int) : lookT (p :: l) i = if p.1 = i then some p.2 else lookT l i := by
  unfold lookT
  rw [List.find?_cons]
  by_cases e : p.1 = i
  · rw [if_pos e, decide_eq_true e]; rfl
  · rw [if_neg e, decide_eq_false e]
theorem lookD_c (kv : Key × D) (l : List (Key × D)) (k : Key) : lookD (kv :: l) k = if kv.1 = k then some kv.2 else lookD l k := by
  unfold lookD
  rw [List.find?_cons]
  by_cases e : kv.1 = k
  · rw [if_pos e, decide_eq_true e]; rfl
  · rw [if_neg e, decide_eq_false e]
theorem lookD_t (i : Int) : ∀ l : Tab, lookD (tD l) (.inl i) = (lookT l i).map T.toD
  | [] => rfl
  | p :: l => by
    show lookD ((Sum.inl p.1, p.2.toD) :: tD l) (.inl i) = _
    rw [lookT_c, lookD_c, lookD_t i l]
    by_cases e : p.1 = i
    · rw [if_pos e, if_pos (by rw [e])]; rfl
    · rw [if_neg e, if_neg (fun h => e (Sum.inl.inj h))]
theorem lookT_none {i : Int} : ∀ {l : Tab}, lookT l i = none → ∀ p, p ∈ l → p.1 ≠ i
  | [], _, p, h => (List.not_mem_nil h).elim
  | q :: l, e, p, h => by
    rw [lookT_c] at e
    by_cases c : q.1 = i
    · rw [if_pos c] at e; cases e
    · rw [if_neg c] at e
      rcases List.mem_cons.mp h with rfl | h
      · exact c
      · exact lookT_none e p h
theorem lookT_some {i : Int} {t : T} : ∀ {l : Tab}, lookT l i = some t → (i, t) ∈ l
  | q :: l, e => by
    rw [lookT_c] at e
    by_cases c : q.1 = i
    · rw [if_pos c] at e
      cases e
      rw [← c]
      exact List.mem_cons_self
    · rw [if_neg c] at e
      exact List.mem_cons_of_mem _ (lookT_some e)
theorem tD_put {i : Int} {t : T} {l : Tab} (e : lookT l i = none) : putD (tD l) (.inl i) t.toD = tD (l ++ [(i, t)]) := by
  unfold putD
  rw [if_neg]
  · unfold tD; rw [List.map_append]; rfl
  · intro h
    rw [List.any_eq_true] at h
    obtain ⟨kv, hk, e2⟩ := h
    obtain ⟨p, hp, rfl⟩ := List.mem_map.mp hk
    exact lookT_none e p hp (Sum.inl.inj (of_decide_eq_true e2))
theorem tD_len (l : Tab) : (tD l).length = l.length := by unfold tD; rw [List.length_map]
def keysT (l : Tab) : List Int := l.map (·.1)
theorem tD_keys (l : Tab) : ((tD l).map fun kv => keyV kv.1) = (keysT l).map D.int := by unfold tD keysT; rw [List.map_map, List.map_map]; rfl
theorem look_mem {i : Int} : ∀ {l : Tab}, i ∈ keysT l → ∃ t, lookT l i = some t
  | p :: l, h => by
    rw [lookT_c]
    by_cases c : p.1 = i
    · rw [if_pos c]; exact ⟨_, rfl⟩
    · rw [if_neg c]
      rcases List.mem_cons.mp h with e | h
      · exact absurd e.symm c
      · exact look_mem h
theorem look_no {i : Int} {l : Tab} (h : lookT l i = none) : i ∉ keysT l := fun hm => by
  obtain ⟨t, e⟩ := look_mem hm
  rw [e] at h; cases h
theorem look_yes {i : Int} {t : T} {l : Tab} (h : lookT l i = some t) : i ∈ keysT l := List.mem_map.mpr ⟨_, lookT_some h, rfl⟩
def eqB (u t : T) : Bool := eqvD u.toD t.toD
theorem o_eqT {u t : T} {h : DHeap} {Q : QD} (hu : okP u.toD = true) (ht : okP t.toD = true) : W (eqD u.toD t.toD h) Q = Q (.bl (eqB u t)) h := by
  unfold eqB
  have go : ∀ x y : D, scalD x y = none → seen h x = some x → seen h y = some y → okP x = true → okP y = true → W (eqD x y h) Q = Q (.bl (eqvD x y)) h := fun x y e1 e2 e3 h1 h2 => by
    unfold eqD
    rw [e1, e2, e3]
    simp only [h1, h2, and_self, if_true]
    rfl
  cases u with
  | v i =>
    cases t with
    | v j =>
      rw [toD_v, toD_v]
      show Q (.bl (decide (i = j))) h = _
      have : eqvD (.int i) (.int j) = decide (i = j) := by
        simp only [eqvD, toP, PyData.eqv]
        by_cases e : i = j <;> simp [e]
      rw [this]
    | a g bs =>
      rw [toD_v, toD_a] at *
      exact go _ _ rfl rfl rfl hu ht
  | a f as =>
    rw [toD_a] at *
    cases t with
    | v j =>
      rw [toD_v] at *
      exact go _ _ rfl rfl rfl hu ht
    | a g bs =>
      rw [toD_a] at *
      exact go _ _ rfl rfl rfl hu ht
/-! one term onto another -/
mutual
def mt : T → T → Tab → Bool × Tab
  | .v i, t, l => match lookT l i with | some u => (eqB u t, l) | none => (true, l ++ [(i, t)])
  | .a _ _, .v _, l => (false, l)
  | .a f as, .a g bs, l => if f = g ∧ as.length = bs.length then mts as bs l else (false, l)
def mts : List T → List T → Tab → Bool × Tab
  | a :: as, b :: bs, l => if (mt a b l).1 = true then mts as bs (mt a b l).2 else (false, (mt a b l).2)
  | _, _, l => (true, l)
end
theorem mt_v (i : Int) (t : T) (l : Tab) : mt (.v i) t l = match lookT l i with | some u => (eqB u t, l) | none => (true, l ++ [(i, t)]) := by rw [mt]
theorem mt_av (f : Str) (as : List T) (j : Int) (l : Tab) : mt (.a f as) (.v j) l = (false, l) := by rw [mt]
theorem mt_aa (f g : Str) (as bs : List T) (l : Tab) : mt (.a f as) (.a g bs) l = if f = g ∧ as.length = bs.length then mts as bs l else (false, l) := by rw [mt]
theorem mts_c (a b : T) (as bs : List T) (l : Tab) : mts (a :: as) (b :: bs) l = if (mt a b l).1 = true then mts as bs (mt a b l).2 else (false, (mt a b l).2) := by rw [mts]
theorem mts_0 (l : Tab) : mts [] [] l = (true, l) := by rw [mts]; simp
def OkTab (l : Tab) : Prop := ∀ p, p ∈ l → p.2.G ∧ p.2.dep ≤ 60 ∧ 0 ≤ p.1 ∧ p.1 < 4294967296
def sumT (l : Tab) : Nat := T.sizes (l.map (·.2))
theorem sumT_app (l r : Tab) : sumT (l ++ r) = sumT l + sumT r := by unfold sumT; rw [List.map_append, sizes_app]
/-- what the walk keeps -/
def MtP (p t : T) (l : Tab) (r : Bool × Tab) : Prop := OkTab r.2 ∧ r.2.length ≤ l.length + p.size ∧ sumT r.2 ≤ sumT l + t.size ∧ (r.1 = true → keysT r.2 = noteV p (keysT l))
def MtsP (ps ts : List T) (l : Tab) (r : Bool × Tab) : Prop := OkTab r.2 ∧ r.2.length ≤ l.length + T.sizes ps ∧ sumT r.2 ≤ sumT l + T.sizes ts ∧ (r.1 = true → keysT r.2 = noteVs ps (keysT l))
theorem mts_p : ∀ {ps ts : List T} {l : Tab}, ps.length = ts.length → (∀ p, p ∈ ps → ∀ t l, t.G → t.dep ≤ 60 → OkTab l → MtP p t l (mt p t l)) → (∀ t, t ∈ ts → t.G ∧ t.dep ≤ 60) → OkTab l → MtsP ps ts l (mts ps ts l)
  | [], [], l, _, _, _, ol => by rw [mts_0]; exact ⟨ol, Nat.le_add_right _ _, Nat.le_add_right _ _, fun _ => (noteVs_0 _).symm⟩
  | p :: ps, t :: ts, l, hl, ih, ht, ol => by
    obtain ⟨h1, h2, h3, h4⟩ := ih p List.mem_cons_self t l (ht t List.mem_cons_self).1 (ht t List.mem_cons_self).2 ol
    rw [mts_c]
    by_cases c : (mt p t l).1 = true
    · rw [if_pos c]
      obtain ⟨k1, k2, k3, k4⟩ := mts_p (by simpa using hl) (fun q hq => ih q (List.mem_cons_of_mem _ hq)) (fun u hu => ht u (List.mem_cons_of_mem _ hu)) h1
      refine ⟨k1, by rw [T.sizes]; omega, by rw [T.sizes]; omega, fun e => ?_⟩
      rw [k4 e, h4 c, noteVs]
    · rw [if_neg c]
      exact ⟨h1, by rw [T.sizes]; show (mt p t l).2.length ≤ _; omega, by rw [T.sizes]; show sumT (mt p t l).2 ≤ _; omega, fun e => by cases e⟩
  | [], _ :: _, _, hl, _, _, _ => by simp at hl
  | _ :: _, [], _, hl, _, _, _ => by simp at hl
theorem mt_p {p : T} : p.G → ∀ t l, t.G → t.dep ≤ 60 → OkTab l → MtP p t l (mt p t l) := by
  refine T.ind (P := fun p => p.G → ∀ t l, t.G → t.dep ≤ 60 → OkTab l → MtP p t l (mt p t l)) (fun i g t l tg td ol => ?_) (fun f as ih g t l tg td ol => ?_) p
  · rw [mt_v]
    cases e : lookT l i with
    | some u => exact ⟨ol, Nat.le_add_right _ _, Nat.le_add_right _ _, fun _ => by rw [noteV_v, insI, if_pos (look_yes e)]⟩
    | none =>
      cases g with
      | v h0 h1 =>
        refine ⟨fun p hp => ?_, ?_, ?_, fun _ => ?_⟩
        · rcases List.mem_append.mp hp with hp | hp
          · exact ol p hp
          · rw [List.mem_singleton.mp hp]; exact ⟨tg, td, h0, h1⟩
        · rw [size_v]; show (l ++ [(i, t)]).length ≤ _; rw [List.length_append]; exact Nat.le_refl _
        · show sumT (l ++ [(i, t)]) ≤ _
          rw [sumT_app]
          have : sumT [(i, t)] = t.size := sizes_one t
          omega
        · show keysT (l ++ [(i, t)]) = _
          rw [noteV_v, insI, if_neg (look_no e)]
          unfold keysT
          rw [List.map_append]
          rfl
  · cases t with
    | v j =>
      rw [mt_av]
      exact ⟨ol, Nat.le_add_right _ _, Nat.le_add_right _ _, fun e => by cases e⟩
    | a h bs =>
      rw [mt_aa]
      by_cases c : f = h ∧ as.length = bs.length
      · rw [if_pos c]
        rw [dep_a] at td
        obtain ⟨k1, k2, k3, k4⟩ := mts_p (l := l) c.2 (fun p hp => ih p hp (g.parts p hp)) (fun t ht => ⟨tg.parts t ht, Nat.le_trans (deps_le ht) (by omega)⟩) ol
        exact ⟨k1, by rw [size_a]; omega, by rw [size_a]; omega, fun e => by rw [k4 e, noteV_a]⟩
      · rw [if_neg c]
        exact ⟨ol, Nat.le_add_right _ _, Nat.le_add_right _ _, fun e => by cases e⟩
end DL
namespace DL
open PySem PySem.Spec PyProof.Rows L2
def putT (l : Tab) (i : Int) (t : T) : Tab := if (l.any fun p => decide (p.1 = i)) = true then l.map fun p => if p.1 = i then (p.1, t) else p else l ++ [(i, t)]
theorem tD_any (i : Int) : ∀ l : Tab, ((tD l).any fun kv => decide (kv.1 = Sum.inl i)) = l.any fun p => decide (p.1 = i)
  | [] => rfl
  | p :: l => by
    show (decide (Sum.inl p.1 = (Sum.inl i : Key)) || (tD l).any fun kv => decide (kv.1 = Sum.inl i)) = _
    rw [tD_any i l, List.any_cons]
    have : decide (Sum.inl p.1 = (Sum.inl i : Key)) = decide (p.1 = i) := decide_eq_decide.mpr ⟨Sum.inl.inj, fun e => by rw [e]⟩
    rw [this]
theorem tD_putT (l : Tab) (i : Int) (t : T) : putD (tD l) (.inl i) t.toD = tD (putT l i t) := by
  unfold putD putT
  rw [tD_any]
  split
  · unfold tD
    rw [List.map_map, List.map_map]
    refine List.map_congr_left fun p _ => ?_
    simp only [Function.comp]
    by_cases e : p.1 = i
    · rw [if_pos e, if_pos (by rw [e])]
    · rw [if_neg e, if_neg (fun h => e (Sum.inl.inj h))]
  · unfold tD; rw [List.map_append]; rfl
theorem putT_mem {l : Tab} {i : Int} {t : T} {p : Int × T} (h : p ∈ putT l i t) : p ∈ l ∨ p.2 = t := by
  unfold putT at h
  split at h
  · obtain ⟨q, hq, e⟩ := List.mem_map.mp h
    split at e
    · right; rw [← e]
    · left; rw [← e]; exact hq
  · rcases List.mem_append.mp h with h | h
    · exact .inl h
    · rw [List.mem_singleton.mp h]; exact .inr rfl
theorem putT_len (l : Tab) (i : Int) (t : T) : (putT l i t).length ≤ l.length + 1 := by
  unfold putT
  split
  · rw [List.length_map]; omega
  · rw [List.length_append]; exact Nat.le_refl _
/-! replacing -/
mutual
def rep (l : Tab) : T → T
  | .v i => (lookT l i).getD (.v i)
  | .a f as => .a f (reps l as)
def reps (l : Tab) : List T → List T
  | [] => []
  | t :: r => rep l t :: reps l r
end
theorem reps_map (l : Tab) : ∀ as : List T, reps l as = as.map (rep l)
  | [] => by rw [reps]; rfl
  | t :: r => by rw [reps, reps_map l r]; rfl
theorem rep_v (l : Tab) (i : Int) : rep l (.v i) = (lookT l i).getD (.v i) := by rw [rep]
theorem rep_a (l : Tab) (f : Str) (as : List T) : rep l (.a f as) = .a f (as.map (rep l)) := by rw [rep, reps_map]
theorem sizes_map {g : T → T} {B : Nat} : ∀ {as : List T}, (∀ t, t ∈ as → (g t).size ≤ t.size * B) → T.sizes (as.map g) ≤ T.sizes as * B
  | [], _ => by rw [List.map_nil, T.sizes]; exact Nat.zero_le _
  | t :: r, h => by
    have h1 := h t List.mem_cons_self
    have h2 := sizes_map (g := g) fun t ht => h t (List.mem_cons_of_mem _ ht)
    rw [List.map_cons, T.sizes, T.sizes, Nat.add_mul]
    omega
theorem rep_p {l : Tab} {B c : Nat} (hB : 1 ≤ B) (hl : ∀ p, p ∈ l → p.2.G ∧ p.2.dep ≤ c + 1 ∧ p.2.size ≤ B) {t : T} : t.G → (rep l t).G ∧ (rep l t).dep ≤ t.dep + c ∧ (rep l t).size ≤ t.size * B := by
  refine T.ind (P := fun t => t.G → (rep l t).G ∧ (rep l t).dep ≤ t.dep + c ∧ (rep l t).size ≤ t.size * B) (fun i g => ?_) (fun f as ih g => ?_) t
  · rw [rep_v, dep_v, size_v]
    cases e : lookT l i with
    | none => exact ⟨g, by show (T.v i).dep ≤ _; rw [dep_v]; omega, by show (T.v i).size ≤ _; rw [size_v]; omega⟩
    | some u =>
      obtain ⟨h1, h2, h3⟩ := hl _ (lookT_some e)
      have h2 : u.dep ≤ c + 1 := h2
      have h3 : u.size ≤ B := h3
      exact ⟨h1, by show u.dep ≤ _; omega, by show u.size ≤ _; omega⟩
  · rw [rep_a]
    refine ⟨.a g.nm fun u hu => ?_, ?_, ?_⟩
    · obtain ⟨w, hw, rfl⟩ := List.mem_map.mp hu
      exact (ih w hw (g.parts w hw)).1
    · rw [dep_a, dep_a]
      have := deps_of (l := as.map (rep l)) (n := T.deps as + c) fun u hu => by
        obtain ⟨w, hw, rfl⟩ := List.mem_map.mp hu
        have := (ih w hw (g.parts w hw)).2.1
        have := deps_le hw
        omega
      omega
    · rw [size_a, size_a, Nat.add_mul]
      have := sizes_map (g := rep l) (B := B) (as := as) fun w hw => (ih w hw (g.parts w hw)).2.2
      omega
end DL
namespace DL
open PySem PySem.Spec PyProof.Rows L2
theorem atI_s {α : Type} (d : α) (l : List α) (k : Nat) : atI (d :: l) (1 + (k : Int)) = l[k]? := by
  rw [show (1 : Int) + (k : Int) = ((k + 1 : Nat) : Int) by omega, atI_n]
  rfl
theorem rangeA_at {a : Int} {n k : Nat} {y : D} (e : (rangeL a n)[k]? = some y) : k < n ∧ y = .int (a + k) := by
  unfold rangeL at e
  rw [List.getElem?_map] at e
  cases e2 : (List.range n)[k]? with
  | none => rw [e2] at e; cases e
  | some j =>
    rw [e2] at e
    obtain ⟨h2, h3⟩ := List.getElem?_eq_some_iff.mp e2
    rw [List.getElem_range] at h3
    rw [List.length_range] at h2
    subst h3
    exact ⟨h2, (Option.some.inj e).symm⟩
theorem rangeA_len (a : Int) (n : Nat) : (rangeL a n).length = n := by unfold rangeL; simp
theorem drop_at {α : Type} {l : List α} {k : Nat} {x : α} (e : l[k]? = some x) : l.drop k = x :: l.drop (k + 1) := by
  obtain ⟨h, rfl⟩ := List.getElem?_eq_some_iff.mp e
  exact List.drop_eq_getElem_cons h
theorem get_at {α : Type} {l : List α} {k : Nat} (h : k < l.length) : ∃ x, l[k]? = some x ∧ x ∈ l := ⟨l[k], List.getElem?_eq_getElem h, List.getElem_mem h⟩
theorem sizes_drop {as : List T} {k : Nat} {t : T} (e : as[k]? = some t) : T.sizes (as.drop k) = t.size + T.sizes (as.drop (k + 1)) := by rw [drop_at e, T.sizes]
end DL
namespace DL
open PySem PySem.Spec PyProof.Rows L2
theorem get_mid {h g : DHeap} {c : Cell} : (h ++ c :: g)[h.length]? = some c := by simp
theorem set_mid {h g : DHeap} {c d : Cell} : (h ++ c :: g).set h.length d = h ++ d :: g := by simp
theorem ite_len {as bs : List T} (c : (!decide (((as.map T.toD).length + 1 : Nat) = (((bs.map T.toD).length + 1 : Nat) : Int))) = true) : ¬ as.length = bs.length := fun q => by
  rw [List.length_map, List.length_map, q] at c
  simp at c
theorem ite_len' {as bs : List T} (c : (!decide (((as.map T.toD).length + 1 : Nat) = (((bs.map T.toD).length + 1 : Nat) : Int))) = false) : as.length = bs.length := by
  rw [List.length_map, List.length_map] at c
  simp at c
  omega
end DL
namespace DL
open PySem PySem.Spec PyProof.Rows L2
/-- its variables are among these -/
inductive T.In (vs : List Int) : T → Prop where
  | v {i : Int} : i ∈ vs → T.In vs (.v i)
  | a {f : Str} {as : List T} : (∀ t, t ∈ as → T.In vs t) → T.In vs (.a f as)
theorem T.Ok.inn {vs : List Int} {t : T} (h : t.Ok vs) : t.In vs := by
  induction h with
  | v hi => exact .v hi
  | a _ _ _ ih => exact .a ih
theorem T.In.parts {vs : List Int} {f : Str} {as : List T} (h : (T.a f as).In vs) : ∀ t, t ∈ as → t.In vs := by cases h; assumption
def NdIn (vs l : List Int) : Prop := l.Nodup ∧ ∀ i, i ∈ l → i ∈ vs
theorem insI_nd {vs l : List Int} {i : Int} (hi : i ∈ vs) (h : NdIn vs l) : NdIn vs (insI i l) := by
  unfold insI
  split
  · exact h
  · rename_i c
    refine ⟨?_, fun j hj => ?_⟩
    · rw [List.nodup_append]
      refine ⟨h.1, by simp, fun a ha b hb => ?_⟩
      rw [List.mem_singleton.mp hb]
      intro e
      exact c (e ▸ ha)
    · rcases List.mem_append.mp hj with hj | hj
      · exact h.2 j hj
      · rw [List.mem_singleton.mp hj]; exact hi
theorem noteVs_nd {vs : List Int} : ∀ {as : List T}, (∀ t, t ∈ as → ∀ l, NdIn vs l → NdIn vs (noteV t l)) → ∀ l, NdIn vs l → NdIn vs (noteVs as l)
  | [], _, l, h => by rw [noteVs]; exact h
  | t :: r, ih, l, h => by
    rw [noteVs]
    exact noteVs_nd (fun t ht => ih t (List.mem_cons_of_mem _ ht)) _ (ih t List.mem_cons_self l h)
theorem noteV_nd {vs : List Int} {t : T} : t.In vs → ∀ l, NdIn vs l → NdIn vs (noteV t l) := by
  refine T.ind (P := fun t => t.In vs → ∀ l, NdIn vs l → NdIn vs (noteV t l)) (fun i g l h => ?_) (fun f as ih g l h => ?_) t
  · rw [noteV_v]
    cases g with
    | v hi => exact insI_nd hi h
  · rw [noteV_a]
    exact noteVs_nd (fun t ht => ih t ht (g.parts t ht)) l h
theorem nd_len : ∀ {l vs : List Int}, NdIn vs l → l.length ≤ vs.length
  | [], _, _ => Nat.zero_le _
  | i :: l, vs, h => by
    have hi := h.2 i List.mem_cons_self
    have hn := List.nodup_cons.mp h.1
    have := nd_len (l := l) (vs := vs.erase i) ⟨hn.2, fun j hj => (List.mem_erase_of_ne (show j ≠ i from fun e => hn.1 (by rw [← e]; exact hj))).mpr (h.2 j (List.mem_cons_of_mem _ hj))⟩
    rw [List.length_erase_of_mem hi] at this
    have := List.length_pos_of_mem hi
    rw [List.length_cons]
    omega
theorem wDs_le {α : Type} {g : α → D} {B : Nat} : ∀ {l : List α}, (∀ x, x ∈ l → wD (g x) ≤ B) → wDs (l.map g) ≤ l.length * (B + 2)
  | [], _ => Nat.zero_le _
  | x :: l, h => by
    have h1 := h x List.mem_cons_self
    have h2 := wDs_le fun x hx => h x (List.mem_cons_of_mem _ hx)
    rw [List.map_cons, wDs, List.length_cons, Nat.add_mul]
    omega
theorem sum_le {l : Tab} {i : Int} {u : T} (e : lookT l i = some u) : u.size ≤ sumT l := size_le (List.mem_map.mpr ⟨_, lookT_some e, rfl⟩)
theorem okRows {l : Tab} {vs : List Int} (hl : OkTab l) (hv : ∀ v, v ∈ vs → ∃ u, lookT l v = some u) (h4 : vs.length ≤ 4) (hs : sumT l ≤ 20000) (r : List D) (hr : r = vs.map fun v => .tup [.int v, ((lookT l v).getD (.v v)).toD]) : gdD (.tup r) = true ∧ hD (.tup r) ≤ 64 ∧ wD (.tup r) ≤ 16777216 := by
  subst hr
  have hg : ∀ v, v ∈ vs → ∃ u, lookT l v = some u ∧ u.G ∧ u.dep ≤ 60 ∧ 0 ≤ v ∧ v < 4294967296 ∧ u.size ≤ 20000 := fun v m => by
    obtain ⟨u, e⟩ := hv v m
    obtain ⟨h1, h2, h3, h5⟩ := hl _ (lookT_some e)
    exact ⟨u, e, h1, h2, h3, h5, Nat.le_trans (sum_le e) hs⟩
  refine ⟨?_, ?_, ?_⟩
  · rw [gdD]
    refine gdDs_map fun v m => ?_
    obtain ⟨u, e, h1, h2, h3, h5, h6⟩ := hg v m
    rw [e, gdD, gdDs, gdDs, gdDs, gdD, decide_eq_true h3, decide_eq_true h5]
    show (true && (gdD u.toD && true)) = true
    rw [gd_T h1]
    rfl
  · have := hDs_map (g := fun v => D.tup [.int v, ((lookT l v).getD (.v v)).toD]) (n := 62) (l := vs) fun v m => by
      obtain ⟨u, e, h1, h2, h3, h5, h6⟩ := hg v m
      show hD (D.tup [.int v, ((lookT l v).getD (.v v)).toD]) ≤ 62
      rw [e, hD, hDs, hDs, hDs]
      have : hD (Option.getD (some u) (.v v)).toD ≤ 60 := Nat.le_trans (hD_T u) h2
      have e0 : hD (.int v) = 0 := rfl
      omega
    rw [hD]
    omega
  · have := wDs_le (g := fun v => D.tup [.int v, ((lookT l v).getD (.v v)).toD]) (B := 3500000) (l := vs) fun v m => by
      obtain ⟨u, e, h1, h2, h3, h5, h6⟩ := hg v m
      show wD (D.tup [.int v, ((lookT l v).getD (.v v)).toD]) ≤ 3500000
      rw [e, wD, wDs, wDs, wDs, wD]
      have : wD (Option.getD (some u) (.v v)).toD + 2 ≤ 170 * u.size := wD_T h1
      omega
    rw [wD]
    have : vs.length * (3500000 + 2) ≤ 4 * (3500000 + 2) := Nat.mul_le_mul_right _ h4
    omega
end DL
namespace DL
open PySem PySem.Spec PyProof.Rows L2
theorem an_cut {tb : M Bool} {f g : M Fl} {σ : DEnv} {QF : QFl} {b : Bool} {h : DHeap} (R : DEnv → DHeap → Prop) (h1 : b = true → W (tb σ h) (kIf f g σ (onNx R))) (h2 : b = false → W (g σ h) (onNx R)) (h3 : ∀ σ' h', R σ' h' → QF (.nx σ') h') : kAn tb σ (kIf f g σ QF) b h := by
  have m : ∀ fl h', onNx R fl h' → QF fl h' := fun fl h' q => by
    cases fl with
    | nx σ' => exact h3 _ _ q
    | _ => exact q.elim
  cases b with
  | true =>
    refine W_mono (h1 rfl) fun b' h' q => ?_
    cases b' with
    | true => exact W_mono (show W (f σ h') (onNx R) from q) m
    | false => exact W_mono (show W (g σ h') (onNx R) from q) m
  | false => exact W_mono (h2 rfl) m
theorem OkI.three : OkI [0, 3, 10] := by
  show ∀ i, i ∈ ([0, 3, 10] : List Int) → 0 ≤ i ∧ i < 4294967296
  decide
end DL

set_option Elab.async false
set_option linter.all false
set_option maxRecDepth 100000
namespace DL
open PySem PySem.Spec PyProof.Rows L2
section
variable {σ : DEnv} {h : DHeap} {n : Nat} {Q : QD} {ds : List D} {kvs : List (Key × D)} {fo fe : M D} {a : Int} {d : D}
def kAdd (Q : QD) (a b : Option Cell) (h : DHeap) : Prop := match a, b with | some (.lst xs), some (.lst ys) => xs.length + ys.length ≤ 16777216 ∧ Q (.ref h.length) (h ++ [.lst (xs ++ ys)]) | _, _ => False
theorem Z6b {m : Nat} : W (addD (.ref m) (.ref n) h) Q = kAdd Q (h[m]?) (h[n]?) h := by
  unfold addD kAdd
  cases e1 : h[m]? with
  | none => cases e2 : h[n]? <;> simp [e1, W]
  | some c =>
    cases c with
    | dic _ => cases e2 : h[n]? <;> simp [e1, W]
    | lst xs =>
      cases e2 : h[n]? with
      | none => simp [e1, e2, W]
      | some c2 =>
        cases c2 with
        | dic _ => simp [e1, e2, W]
        | lst ys => simp only [e1, e2, W_ite, sizeLine_eq]
theorem Z6c {es : List D} : kAdd Q (some (.lst ds)) (some (.lst es)) h = (ds.length + es.length ≤ 16777216 ∧ Q (.ref h.length) (h ++ [.lst (ds ++ es)])) := rfl
theorem Z5U : W (strD [.int a] h) Q = ((0 ≤ a ∧ a < 4294967296) ∧ Q (.str (toString a : String)) h) := by show W (if _ then _ else _) _ = _; rw [W_ite]
def kPa4 (n : Nat) (i : Nat) (ds : List D) (Q : QD) (o : Option D) (h : DHeap) : Prop := match o with | some d => Q d (h.set n (.lst (ds.eraseIdx i))) | none => False
def kPa3 (n : Nat) (a : Int) (Q : QD) (o : Option Cell) (h : DHeap) : Prop := match o with | some (.lst ds) => (0 ≤ a ∧ a < 4294967296) ∧ kPa4 n a.toNat ds Q (ds[a.toNat]?) h | _ => False
def kPa2 (n : Nat) (Q : QD) : QD := fun y h => match y with | .int a => kPa3 n a Q (h[n]?) h | _ => False
def kPa1 (n : Nat) (fe : M D) (σ : DEnv) (Q : QD) (o : Option Cell) (h : DHeap) : Prop := match o with | some (.lst _) => W (fe σ h) (kPa2 n Q) | _ => False
def kPa (fe : M D) (σ : DEnv) (Q : QD) : QD := fun x h => match x with | .ref n => kPa1 n fe σ Q (h[n]?) h | _ => False
theorem Z5V : W (popAtM fo fe σ h) Q = W (fo σ h) (kPa fe σ Q) := W_b fun d h1 => by
  cases d <;> try rfl
  rename_i n
  unfold kPa kPa1
  simp only
  cases e : h1[n]? with
  | none => rfl
  | some c =>
    cases c with
    | dic kvs => rfl
    | lst ds =>
      refine W_b fun y h2 => ?_
      unfold kPa2 kPa3 kPa4
      cases y <;> try rfl
      rename_i i
      simp only
      cases e2 : h2[n]? with
      | none => rfl
      | some c2 =>
        cases c2 with
        | dic kvs => rfl
        | lst es =>
          simp only
          by_cases hc : 0 ≤ i ∧ i < 4294967296
          · rw [if_pos hc]
            cases es[i.toNat]? <;> simp [W, hc]
          · rw [if_neg hc]
            simp [W, hc]
theorem Z5W : kPa fe σ Q (.ref n) h = kPa1 n fe σ Q (h[n]?) h := rfl
theorem Z5X : kPa1 n fe σ Q (some (.lst ds)) h = W (fe σ h) (kPa2 n Q) := rfl
theorem Z5Y : kPa2 n Q (.int a) h = kPa3 n a Q (h[n]?) h := rfl
theorem Z5Z : kPa3 n a Q (some (.lst ds)) h = ((0 ≤ a ∧ a < 4294967296) ∧ kPa4 n a.toNat ds Q (ds[a.toNat]?) h) := rfl
theorem Z6a {i : Nat} : kPa4 n i ds Q (some d) h = Q d (h.set n (.lst (ds.eraseIdx i))) := rfl
end
end DL

set_option Elab.async false
set_option linter.all false
set_option maxRecDepth 100000
set_option maxHeartbeats 4000000
namespace DL
open PySem PySem.Spec PyProof.Rows L2
/-! arguments: open places, or a step with labelled parts; each keeps the label by which it is a part -/
inductive A3 where
  | hole (lab : D)
  | n (lab st : D) (ps : List A3)
theorem A3.ind {P : A3 → Prop} (hh : ∀ l, P (.hole l)) (ha : ∀ l st ps, (∀ t, t ∈ ps → P t) → P (.n l st ps)) : ∀ t, P t := by
  intro t
  exact A3.rec (motive_1 := P) (motive_2 := fun l => ∀ t, t ∈ l → P t) hh (fun l st ps ih => ha l st ps ih) (fun t h => absurd h List.not_mem_nil) (fun a l h1 h2 t h => by
    rcases List.mem_cons.mp h with e | e
    · rw [e]; exact h1
    · exact h2 t e) t
def A3.lab : A3 → D
  | .hole l => l
  | .n l _ _ => l
def A3.re (l : D) : A3 → A3
  | .hole _ => .hole l
  | .n _ st ps => .n l st ps
mutual
def A3.toD : A3 → D
  | .hole _ => .non
  | .n _ st ps => .tup [st, .tup (A3.rows ps)]
def A3.rows : List A3 → List D
  | [] => []
  | a :: r => .tup [a.lab, a.toD] :: A3.rows r
end
def A3.row (a : A3) : D := .tup [a.lab, a.toD]
theorem rows_map : ∀ l : List A3, A3.rows l = l.map A3.row
  | [] => rfl
  | a :: r => by rw [A3.rows, rows_map r]; rfl
theorem a_hole (l : D) : (A3.hole l).toD = .non := by rw [A3.toD]
theorem a_n (l st : D) (ps : List A3) : (A3.n l st ps).toD = .tup [st, .tup (ps.map A3.row)] := by rw [A3.toD, rows_map]
theorem re_toD (l : D) (a : A3) : (a.re l).toD = a.toD := by
  cases a with
  | hole m => rw [A3.re, a_hole, a_hole]
  | n m st ps => rw [A3.re, a_n, a_n]
theorem re_lab (l : D) (a : A3) : (a.re l).lab = l := by cases a <;> rfl
mutual
def A3.size : A3 → Nat
  | .hole _ => 1
  | .n _ _ ps => 1 + A3.sizes ps
def A3.sizes : List A3 → Nat
  | [] => 0
  | a :: r => a.size + A3.sizes r
end
mutual
def A3.dep : A3 → Nat
  | .hole _ => 1
  | .n _ _ ps => 1 + A3.deps ps
def A3.deps : List A3 → Nat
  | [] => 0
  | a :: r => max a.dep (A3.deps r)
end
mutual
def A3.opn : A3 → Nat
  | .hole _ => 1
  | .n _ _ ps => A3.opns ps
def A3.opns : List A3 → Nat
  | [] => 0
  | a :: r => a.opn + A3.opns r
end
theorem a_size (l st : D) (ps : List A3) : (A3.n l st ps).size = 1 + A3.sizes ps := by rw [A3.size]
theorem a_dep (l st : D) (ps : List A3) : (A3.n l st ps).dep = 1 + A3.deps ps := by rw [A3.dep]
theorem a_opn (l st : D) (ps : List A3) : (A3.n l st ps).opn = A3.opns ps := by rw [A3.opn]
theorem h_size (l : D) : (A3.hole l).size = 1 := by rw [A3.size]
theorem h_dep (l : D) : (A3.hole l).dep = 1 := by rw [A3.dep]
theorem h_opn (l : D) : (A3.hole l).opn = 1 := by rw [A3.opn]
theorem re_size (l : D) (a : A3) : (a.re l).size = a.size := by cases a <;> (rw [A3.re]; first | rw [h_size, h_size] | rw [a_size, a_size])
theorem re_dep (l : D) (a : A3) : (a.re l).dep = a.dep := by cases a <;> (rw [A3.re]; first | rw [h_dep, h_dep] | rw [a_dep, a_dep])
theorem re_opn (l : D) (a : A3) : (a.re l).opn = a.opn := by cases a <;> (rw [A3.re]; first | rw [h_opn, h_opn] | rw [a_opn, a_opn])
theorem a_pos (a : A3) : 1 ≤ a.size ∧ 1 ≤ a.dep := by
  cases a with
  | hole l => rw [h_size, h_dep]; exact ⟨Nat.le_refl _, Nat.le_refl _⟩
  | n l st ps => rw [a_size, a_dep]; omega
theorem a_deps_le {t : A3} : ∀ {l : List A3}, t ∈ l → t.dep ≤ A3.deps l
  | a :: r, h => by
    rw [A3.deps]
    rcases List.mem_cons.mp h with e | e
    · rw [e]; exact Nat.le_max_left _ _
    · exact Nat.le_trans (a_deps_le e) (Nat.le_max_right _ _)
theorem a_size_le {t : A3} : ∀ {l : List A3}, t ∈ l → t.size ≤ A3.sizes l
  | a :: r, h => by
    rw [A3.sizes]
    rcases List.mem_cons.mp h with e | e
    · rw [e]; omega
    · have := a_size_le e; omega
theorem a_deps_of {n : Nat} : ∀ {l : List A3}, (∀ t, t ∈ l → t.dep ≤ n) → A3.deps l ≤ n
  | [], _ => by rw [A3.deps]; exact Nat.zero_le _
  | a :: r, h => by
    rw [A3.deps]
    exact Nat.max_le.mpr ⟨h a List.mem_cons_self, a_deps_of fun t q => h t (List.mem_cons_of_mem _ q)⟩
theorem a_sizes_of {n : Nat} : ∀ {l : List A3}, (∀ t, t ∈ l → t.size ≤ n) → A3.sizes l ≤ l.length * n
  | [], _ => by rw [A3.sizes]; exact Nat.zero_le _
  | a :: r, h => by
    have h1 := h a List.mem_cons_self
    have h2 := a_sizes_of (l := r) fun t q => h t (List.mem_cons_of_mem _ q)
    rw [A3.sizes, List.length_cons, Nat.succ_mul]
    omega
theorem a_opns_of {n : Nat} : ∀ {l : List A3}, (∀ t, t ∈ l → t.opn ≤ n) → A3.opns l ≤ l.length * n
  | [], _ => by rw [A3.opns]; exact Nat.zero_le _
  | a :: r, h => by
    have h1 := h a List.mem_cons_self
    have h2 := a_opns_of (l := r) fun t q => h t (List.mem_cons_of_mem _ q)
    rw [A3.opns, List.length_cons, Nat.succ_mul]
    omega
theorem a_len : ∀ l : List A3, l.length ≤ A3.sizes l
  | [] => by rw [A3.sizes]; exact Nat.le_refl _
  | t :: r => by
    have h1 := a_len r
    have h2 := (a_pos t).1
    rw [A3.sizes, List.length_cons]
    omega
theorem opns_app : ∀ l r : List A3, A3.opns (l ++ r) = A3.opns l + A3.opns r
  | [], r => by rw [A3.opns]; simp
  | t :: l, r => by rw [List.cons_append, A3.opns, A3.opns, opns_app l r]; omega
theorem opns_one (a : A3) : A3.opns [a] = a.opn := by rw [A3.opns, A3.opns]; omega
theorem opns_take {l : List A3} {k : Nat} {a : A3} (e : l[k]? = some a) : A3.opns (l.take (k + 1)) = A3.opns (l.take k) + a.opn := by
  rw [List.take_add_one, e, Option.toList_some, opns_app, opns_one]
theorem opns_le {l : List A3} {k : Nat} {a : A3} (e : l[k]? = some a) : A3.opns (l.take k) + a.opn ≤ A3.opns l := by
  have h := opns_app (l.take (k + 1)) (l.drop (k + 1))
  rw [List.take_append_drop, opns_take e] at h
  omega
theorem opns_int : ∀ l : List A3, (l.map fun t => (t.opn : Int)).sum = (A3.opns l : Int)
  | [] => by rw [A3.opns]; rfl
  | t :: r => by rw [List.map_cons, List.sum_cons, opns_int r, A3.opns]; omega
/-! filling -/
mutual
def fl : A3 → List A3 → A3
  | .hole l, w => match w with | v :: _ => v.re l | [] => .hole l
  | .n l st ps, w => .n l st (fls ps w)
def fls : List A3 → List A3 → List A3
  | [], _ => []
  | a :: r, w => fl a w :: fls r (w.drop a.opn)
end
theorem fl_h (l : D) (v : A3) (w : List A3) : fl (.hole l) (v :: w) = v.re l := by rw [fl]
theorem fl_n (l st : D) (ps w : List A3) : fl (.n l st ps) w = .n l st (fls ps w) := by rw [fl]
theorem fls_0 (w : List A3) : fls [] w = [] := by rw [fls]
theorem fls_app : ∀ (l r w : List A3), fls (l ++ r) w = fls l w ++ fls r (w.drop (A3.opns l))
  | [], r, w => by rw [List.nil_append, fls_0, A3.opns]; rfl
  | a :: l, r, w => by
    rw [List.cons_append, fls, fls, fls_app l r, A3.opns, List.drop_drop]
    rfl
theorem fls_take {l w : List A3} {k : Nat} {a : A3} (e : l[k]? = some a) : fls (l.take (k + 1)) w = fls (l.take k) w ++ [fl a (w.drop (A3.opns (l.take k)))] := by
  rw [List.take_add_one, e, Option.toList_some, fls_app, fls, fls_0]
theorem fl_lab (a : A3) (w : List A3) : (fl a w).lab = a.lab := by
  cases a with
  | hole l =>
    cases w with
    | nil => rw [fl]
    | cons v w => rw [fl_h, re_lab]; rfl
  | n l st ps => rw [fl_n]; rfl
/-! bounds -/
def GL (d : D) : Prop := gdD d = true ∧ hD d ≤ 0 ∧ wD d ≤ 170
def GS (d : D) : Prop := gdD d = true ∧ hD d ≤ 4 ∧ wD d ≤ 6000
inductive A3.Ok : A3 → Prop where
  | hole {l : D} : GL l → A3.Ok (.hole l)
  | n {l st : D} {ps : List A3} : GL l → GS st → (∀ t, t ∈ ps → A3.Ok t) → A3.Ok (.n l st ps)
theorem A3.Ok.gl {a : A3} (h : a.Ok) : GL a.lab := by cases h <;> assumption
theorem A3.Ok.re {a : A3} {l : D} (h : a.Ok) (hl : GL l) : (a.re l).Ok := by
  cases h with
  | hole _ => exact .hole hl
  | n _ hs hp => exact .n hl hs hp
theorem A3.Ok.st {l st : D} {ps : List A3} (h : (A3.n l st ps).Ok) : GS st := by cases h; assumption
theorem A3.Ok.parts {l st : D} {ps : List A3} (h : (A3.n l st ps).Ok) : ∀ t, t ∈ ps → t.Ok := by cases h; assumption
theorem fls_all {P : A3 → Prop} : ∀ {ps w : List A3}, (∀ t, t ∈ ps → ∀ w', (∀ v, v ∈ w' → v ∈ w) → P (fl t w')) → ∀ t, t ∈ fls ps w → P t
  | [], w, h, t, ht => by rw [fls_0] at ht; exact (List.not_mem_nil ht).elim
  | a :: r, w, h, t, ht => by
    rw [fls] at ht
    rcases List.mem_cons.mp ht with rfl | ht
    · exact h a List.mem_cons_self w fun _ h => h
    · exact fls_all (fun t ht w' hw => h t (List.mem_cons_of_mem _ ht) w' fun v hv => List.mem_of_mem_drop (hw v hv)) t ht
theorem fls_sizes {M : Nat} : ∀ {ps w : List A3}, (∀ t, t ∈ ps → ∀ w', (∀ v, v ∈ w' → v ∈ w) → (fl t w').size ≤ t.size * M) → A3.sizes (fls ps w) ≤ A3.sizes ps * M
  | [], w, h => by rw [fls_0, A3.sizes]; exact Nat.zero_le _
  | a :: r, w, h => by
    have h1 := h a List.mem_cons_self w fun _ h => h
    have h2 := fls_sizes (ps := r) (w := w.drop a.opn) fun t ht w' hw => h t (List.mem_cons_of_mem _ ht) w' fun v hv => List.mem_of_mem_drop (hw v hv)
    rw [fls, A3.sizes, A3.sizes, Nat.add_mul]
    omega
theorem fl_p {M m : Nat} (hM : 1 ≤ M) {a : A3} : a.Ok → ∀ w, (∀ v, v ∈ w → v.Ok ∧ v.size ≤ M ∧ v.dep ≤ m + 1) → (fl a w).Ok ∧ (fl a w).size ≤ a.size * M ∧ (fl a w).dep ≤ a.dep + m := by
  refine A3.ind (P := fun a => a.Ok → ∀ w, (∀ v, v ∈ w → v.Ok ∧ v.size ≤ M ∧ v.dep ≤ m + 1) → (fl a w).Ok ∧ (fl a w).size ≤ a.size * M ∧ (fl a w).dep ≤ a.dep + m) (fun l g w hw => ?_) (fun l st ps ih g w hw => ?_) a
  · rw [h_size, h_dep]
    cases w with
    | nil => rw [fl, h_size, h_dep]; exact ⟨g, by omega, by omega⟩
    | cons v w =>
      obtain ⟨h1, h2, h3⟩ := hw v List.mem_cons_self
      rw [fl_h, re_size, re_dep]
      exact ⟨h1.re g.gl, by omega, by omega⟩
  · have hp : ∀ t, t ∈ ps → ∀ w', (∀ v, v ∈ w' → v ∈ w) → (fl t w').Ok ∧ (fl t w').size ≤ t.size * M ∧ (fl t w').dep ≤ t.dep + m := fun t ht w' hw' => ih t ht (g.parts t ht) w' fun v hv => hw v (hw' v hv)
    rw [fl_n, a_size, a_size, a_dep, a_dep]
    refine ⟨.n g.gl g.st (fls_all fun t ht w' hw' => (hp t ht w' hw').1), ?_, ?_⟩
    · have := fls_sizes (M := M) (ps := ps) (w := w) fun t ht w' hw' => (hp t ht w' hw').2.1
      rw [Nat.add_mul]
      omega
    · have := a_deps_of (l := fls ps w) (n := A3.deps ps + m) (fls_all (P := fun t => t.dep ≤ A3.deps ps + m) fun t ht w' hw' => by
        have h1 := (hp t ht w' hw').2.2
        have h2 := a_deps_le ht
        omega)
      omega
theorem rows_gd : ∀ {ps : List A3}, (∀ t, t ∈ ps → gdD t.lab = true ∧ gdD t.toD = true) → gdDs (ps.map A3.row) = true
  | ps, h => gdDs_map fun t ht => by
    show gdD (.tup [t.lab, t.toD]) = true
    rw [gdD, gdDs, gdDs, gdDs, (h t ht).1, (h t ht).2]
    rfl
theorem gd_A {a : A3} : a.Ok → gdD a.toD = true := by
  refine A3.ind (P := fun a => a.Ok → gdD a.toD = true) (fun l g => by rw [a_hole]; rfl) (fun l st ps ih g => ?_) a
  rw [a_n, gdD, gdDs, gdDs, gdDs, g.st.1, gdD, rows_gd fun t ht => ⟨(g.parts t ht).gl.1, ih t ht (g.parts t ht)⟩]
  rfl
theorem hD_A {a : A3} : a.Ok → hD a.toD ≤ 3 * a.dep + 4 := by
  refine A3.ind (P := fun a => a.Ok → hD a.toD ≤ 3 * a.dep + 4) (fun l g => by rw [a_hole]; exact Nat.zero_le _) (fun l st ps ih g => ?_) a
  have := hDs_map (g := A3.row) (n := 3 * A3.deps ps + 5) (l := ps) fun t ht => by
    have h1 := ih t ht (g.parts t ht)
    have h2 := a_deps_le ht
    have h3 := (g.parts t ht).gl.2.1
    show hD (.tup [t.lab, t.toD]) ≤ _
    rw [hD, hDs, hDs, hDs]
    omega
  have hs := g.st.2.1
  rw [a_n, a_dep, hD, hDs, hDs, hDs, hD]
  omega
theorem rows_w : ∀ {ps : List A3}, (∀ t, t ∈ ps → wD t.lab ≤ 170 ∧ wD t.toD + 200 ≤ 7000 * t.size) → wDs (ps.map A3.row) ≤ 7000 * A3.sizes ps
  | [], _ => by rw [A3.sizes]; exact Nat.le_refl _
  | t :: ps, h => by
    have h1 := h t List.mem_cons_self
    have h2 := rows_w fun t ht => h t (List.mem_cons_of_mem _ ht)
    rw [List.map_cons, wDs, A3.sizes]
    have : wD t.row = 3 + (wD t.lab + 2 + (wD t.toD + 2 + 0)) := by show wD (.tup [t.lab, t.toD]) = _; rw [wD, wDs, wDs, wDs]
    omega
theorem wD_A {a : A3} : a.Ok → wD a.toD + 200 ≤ 7000 * a.size := by
  refine A3.ind (P := fun a => a.Ok → wD a.toD + 200 ≤ 7000 * a.size) (fun l g => by rw [a_hole, h_size]; decide) (fun l st ps ih g => ?_) a
  have h1 := rows_w fun t ht => ⟨(g.parts t ht).gl.2.2, ih t ht (g.parts t ht)⟩
  have h2 := g.st.2.2
  rw [a_n, a_size, wD, wDs, wDs, wDs, wD]
  omega
end DL
namespace DL
open PySem PySem.Spec PyProof.Rows L2
theorem gl_str {x : Str} (h : NmG x) : GL (.str x) := ⟨gd_str h, Nat.zero_le _, by have := h.2; rw [wD]; omega⟩
theorem gl_empty : GL (.str (Str.ofString "")) := gl_str ⟨by decide +kernel, by decide +kernel⟩
theorem gd_int {r : Int} (h0 : 0 ≤ r) (h1 : r < 4294967296) : gdD (.int r) = true := by rw [gdD, decide_eq_true h0, decide_eq_true h1]; rfl
theorem gs_done {r : Int} (h0 : 0 ≤ r) (h1 : r < 100) : GS (.tup [.str (Str.ofString "done"), .int r, .tup []]) := by
  refine ⟨?_, ?_, ?_⟩
  · rw [gdD, gdDs, gdDs, gdDs, gd_int h0 (by omega), show gdD (.str (Str.ofString "done")) = true by decide +kernel]
    rfl
  · rw [hD, hDs, hDs, hDs, hDs, hD, hDs]
    have e1 : hD (.int r) = 0 := rfl
    have e2 : hD (.str (Str.ofString "done")) = 0 := rfl
    omega
  · rw [wD, wDs, wDs, wDs, wDs, wD, show wD (.str (Str.ofString "done")) = 42 by decide +kernel, wD, wDs]
    omega
theorem gs_invert : GS (.tup [.str (Str.ofString "invert"), .int 3]) := by unfold GS; decide +kernel
theorem gs_step {y x : Str} {ts : List T} {is : List Int} (hy : NmG y) (hx : NmG x) (ht : ∀ t, t ∈ ts → t.G ∧ t.dep ≤ 2 ∧ t.size ≤ 16) (hl : ts.length ≤ 2) (hi : ∀ i, i ∈ is → 0 ≤ i ∧ i < 100) (hl2 : is.length ≤ 2) : GS (.tup [.str y, .str x, .tup (ts.map T.toD), .tup (is.map D.int)]) := by
  have g1 : gdDs (ts.map T.toD) = true := gdDs_map fun t h => gd_T (ht t h).1
  have g2 : gdDs (is.map D.int) = true := gdDs_map fun i h => gd_int (hi i h).1 (by have := (hi i h).2; omega)
  have h1 : hDs (ts.map T.toD) ≤ 2 := hDs_map fun t h => Nat.le_trans (hD_T t) (ht t h).2.1
  have h2 : hDs (is.map D.int) ≤ 0 := hDs_map fun t h => Nat.le_refl _
  have w1 := wDs_T (as := ts) fun t h => wD_T (ht t h).1
  have w2 := wDs_le (g := D.int) (B := 10) (l := is) fun t h => Nat.le_refl _
  have w3 := sizes_of (l := ts) (n := 16) fun t h => (ht t h).2.2
  refine ⟨?_, ?_, ?_⟩
  · rw [gdD, gdDs, gdDs, gdDs, gdDs, gdDs, gd_str hy, gd_str hx, gdD, gdD, g1, g2]
    rfl
  · rw [hD, hDs, hDs, hDs, hDs, hDs, hD, hD]
    have e1 : hD (.str x) = 0 := rfl
    have e2 : hD (.str y) = 0 := rfl
    omega
  · have := hx.2
    have := hy.2
    rw [wD, wDs, wDs, wDs, wDs, wDs, wD, wD, wD, wD]
    omega
theorem atI_strs {l : List Str} {k : Int} (h0 : 0 ≤ k) (h1 : k < l.length) : ∃ x, atI (l.map D.str) k = some (.str x) ∧ x ∈ l := by
  obtain ⟨d, e, _, m⟩ := atI_in (l := l.map D.str) h0 (by simpa using h1)
  obtain ⟨p, hp, rfl⟩ := List.mem_map.mp m
  exact ⟨p, e, hp⟩
end DL

set_option Elab.async false
set_option linter.all false
set_option maxRecDepth 100000
namespace DL
open PySem PySem.Spec PyProof.Rows L2
section
variable {h : DHeap} {Q : QD} {a c : Int} {ns ms : List Int}
theorem Z6f {k : Bool} : W (intD [.bl k] h) Q = Q (.int (if k = true then 1 else 0)) h := rfl
theorem Z6d : W (geA (.int a) (.int c) h) Q = Q (.bl (decide (c ≤ a))) h := rfl
theorem Z6e : W (geA (.tup (ns.map D.int)) (.tup (ms.map D.int)) h) Q = Q (.bl (lexGeI ns ms)) h := by unfold geA; simp only [Z5T]; rfl
end
end DL

set_option Elab.async false
set_option linter.all false
set_option maxRecDepth 100000
namespace DL
open PySem PySem.Spec PyProof.Rows L2
section
variable {σ : DEnv} {h : DHeap} {n k : Nat} {Q : QD} {ds es : List D} {fo fe : M D}
def kXt4 (n : Nat) (ds : List D) (Q : QD) (o : Option Cell) (h : DHeap) : Prop := match o with | some (.lst es) => ds.length + es.length ≤ 16777216 ∧ Q .non (h.set n (.lst (ds ++ es))) | _ => False
def kXt3 (n k : Nat) (Q : QD) (o : Option Cell) (h : DHeap) : Prop := match o with | some (.lst ds) => kXt4 n ds Q (h[k]?) h | _ => False
def kXt5 (n : Nat) (es : List D) (Q : QD) (o : Option Cell) (h : DHeap) : Prop := match o with | some (.lst ds) => ds.length + es.length ≤ 16777216 ∧ Q .non (h.set n (.lst (ds ++ es))) | _ => False
def kXt2 (n : Nat) (Q : QD) : QD := fun y h => match y with | .ref k => kXt3 n k Q (h[n]?) h | .tup es => kXt5 n es Q (h[n]?) h | _ => False
def kXt1 (n : Nat) (fe : M D) (σ : DEnv) (Q : QD) (o : Option Cell) (h : DHeap) : Prop := match o with | some (.lst _) => W (fe σ h) (kXt2 n Q) | _ => False
def kXt (fe : M D) (σ : DEnv) (Q : QD) : QD := fun x h => match x with | .ref n => kXt1 n fe σ Q (h[n]?) h | _ => False
theorem Z6g : W (extM fo fe σ h) Q = W (fo σ h) (kXt fe σ Q) := W_b fun d h1 => by
  cases d <;> try rfl
  rename_i n
  unfold kXt kXt1
  simp only
  cases e : h1[n]? with
  | none => rfl
  | some c =>
    cases c with
    | dic kvs => rfl
    | lst ds0 =>
      refine W_b fun y h2 => ?_
      unfold kXt2 kXt3 kXt4
      cases y <;> try rfl
      · rename_i es
        unfold kXt5
        simp only
        cases e2 : h2[n]? with
        | none => rfl
        | some c2 =>
          cases c2 with
          | dic kvs => rfl
          | lst ds => simp only [W_ite, sizeLine_eq]
      rename_i k
      simp only
      cases e2 : h2[n]? with
      | none => rfl
      | some c2 =>
        cases c2 with
        | dic kvs => rfl
        | lst ds =>
          simp only
          cases e3 : h2[k]? with
          | none => rfl
          | some c3 =>
            cases c3 with
            | dic kvs => rfl
            | lst es => simp only [W_ite, sizeLine_eq]
theorem Z6h : kXt fe σ Q (.ref n) h = kXt1 n fe σ Q (h[n]?) h := rfl
theorem Z6i : kXt1 n fe σ Q (some (.lst ds)) h = W (fe σ h) (kXt2 n Q) := rfl
theorem Z6j : kXt2 n Q (.ref k) h = kXt3 n k Q (h[n]?) h := rfl
theorem Z6O : kXt2 n Q (.tup es) h = kXt5 n es Q (h[n]?) h := rfl
theorem Z6P : kXt5 n es Q (some (.lst ds)) h = (ds.length + es.length ≤ 16777216 ∧ Q .non (h.set n (.lst (ds ++ es)))) := rfl
theorem Z6k : kXt3 n k Q (some (.lst ds)) h = kXt4 n ds Q (h[k]?) h := rfl
theorem Z6l : kXt4 n ds Q (some (.lst es)) h = (ds.length + es.length ≤ 16777216 ∧ Q .non (h.set n (.lst (ds ++ es)))) := rfl
end
end DL

set_option Elab.async false
set_option linter.all false
set_option maxRecDepth 100000
namespace DL
open PySem PySem.Spec PyProof.Rows L2
section
variable {σ s : DEnv} {h : DHeap} {i n k : Nat} {Q : QD} {QB : QBl} {QF : QFl} {d x y z : D} {ds es ys : List D} {kvs : List (Key × D)} {fa fb fc fk fv : M D} {fs : M (List D)} {m m' : D → D → DHeap → Res D} {ms : List D → DHeap → Res D} {a : Int} {w : Str} {ta : M Bool} {f g : M Fl} {b : Bool} {c : Str} {xx : DX} {tab : List (Str × Bool)}
/-! dict comprehensions, chains, dict() -/
def kDc (Q : QD) : QLs := fun ys h => Q (.ref h.length) (h ++ [.dic (foldP [] ys)])
theorem Z6n : W (dcompM fs σ h) Q = W (fs σ h) (kDc Q) := W_b fun _ _ => rfl
theorem Z6o : kDc Q ys h = Q (.ref h.length) (h ++ [.dic (foldP [] ys)]) := rfl
def kP2 (x : D) (Q : QD) : QD := fun y h => match keyD x with | some _ => Q (.tup [x, y]) h | none => False
def kP1 (fv : M D) (σ : DEnv) (Q : QD) : QD := fun x h => W (fv σ h) (kP2 x Q)
theorem Z6p : W (pairM fk fv σ h) Q = W (fk σ h) (kP1 fv σ Q) := W_b fun x _ => W_b fun y _ => by unfold kP2; cases keyD x <;> rfl
theorem Z6q : kP1 fv σ Q x h = W (fv σ h) (kP2 x Q) := rfl
theorem Z6r : kP2 (.int a) Q y h = Q (.tup [.int a, y]) h := rfl
theorem Z6s : kP2 (.str w) Q y h = Q (.tup [.str w, y]) h := rfl
def kCh3 (m' : D → D → DHeap → Res D) (fc : M D) (σ : DEnv) (y : D) (Q : QD) : QD := fun z h => match z with | .bl k => (if k = true then W (fc σ h) (kB2 m' y Q) else Q (.bl false) h) | _ => False
def kCh2 (m m' : D → D → DHeap → Res D) (fc : M D) (σ : DEnv) (x : D) (Q : QD) : QD := fun y h => W (m x y h) (kCh3 m' fc σ y Q)
def kCh1 (m m' : D → D → DHeap → Res D) (fb fc : M D) (σ : DEnv) (Q : QD) : QD := fun x h => W (fb σ h) (kCh2 m m' fc σ x Q)
theorem Z6t : W (chainM m m' fa fb fc σ h) Q = W (fa σ h) (kCh1 m m' fb fc σ Q) := W_b fun x _ => W_b fun y _ => W_b fun z h => by
  unfold kCh3
  cases z <;> try rfl
  rename_i k
  cases k
  · rfl
  · exact W_bind
theorem Z6u : kCh1 m m' fb fc σ Q x h = W (fb σ h) (kCh2 m m' fc σ x Q) := rfl
theorem Z6v : kCh2 m m' fc σ x Q y h = W (m x y h) (kCh3 m' fc σ y Q) := rfl
theorem Z6w : kCh3 m' fc σ y Q (.bl true) h = W (fc σ h) (kB2 m' y Q) := rfl
theorem Z6x : kCh3 m' fc σ y Q (.bl false) h = Q (.bl false) h := rfl
def kDi (Q : QD) (o : Option Cell) (h : DHeap) : Prop := match o with | some (.dic kvs) => Q (.ref h.length) (h ++ [.dic kvs]) | some (.lst ds) => keyed ds = true ∧ Q (.ref h.length) (h ++ [.dic (foldP [] ds)]) | none => False
theorem Z6y : W (dicD [.ref n] h) Q = kDi Q (h[n]?) h := by
  unfold dicD kDi
  simp only
  cases e : h[n]? with
  | none => rfl
  | some c => cases c with
    | dic kvs => rfl
    | lst ds => simp only [W_ite]
theorem Z6z : kDi Q (some (.dic kvs)) h = Q (.ref h.length) (h ++ [.dic kvs]) := rfl
theorem Z6A : kDi Q (some (.lst ds)) h = (keyed ds = true ∧ Q (.ref h.length) (h ++ [.dic (foldP [] ds)])) := rfl

def kPr2 (i j : Nat) (σ : DEnv) (QF : QFl) : QLs := fun ds h => match ds with | [x, y] => QF (.nx ((σ.set i (some x)).set j (some y))) h | _ => False
theorem Z6B {j : Nat} : W (sPar i j fs σ h) QF = W (fs σ h) (kPr2 i j σ QF) := W_b fun ds h => by
  rcases ds with _ | ⟨x, _ | ⟨y, _ | _⟩⟩ <;> rfl
theorem Z6C {j : Nat} : kPr2 i j σ QF [x, y] h = QF (.nx ((σ.set i (some x)).set j (some y))) h := rfl
/-! while -/
theorem whileS_more {t : M Bool} {f : M Fl} : ∀ (n k : Nat) (σ : DEnv) (h : DHeap), whileS t f n σ h ≠ .bad → whileS t f (n + k) σ h = whileS t f n σ h
  | 0, k, σ, h, q => absurd rfl q
  | n + 1, k, σ, h, q => by
    rw [Nat.succ_add]
    unfold whileS at q ⊢
    cases e1 : t σ h with
    | bad => rfl
    | exc _ _ _ => rfl
    | ok b h1 =>
      rw [e1] at q
      simp only [Res.bind] at q ⊢
      cases b with
      | false => rfl
      | true =>
        simp only [if_true] at q ⊢
        cases e2 : f σ h1 with
        | bad => rfl
        | exc _ _ _ => rfl
        | ok fl h2 =>
          rw [e2] at q
          cases fl with
          | nx s => exact whileS_more n k s h2 q
          | ct s => exact whileS_more n k s h2 q
          | bk s => rfl
          | rt d => rfl
def kWb (PN : DEnv → DHeap → Prop) (QF : QFl) : QFl := fun fl h => match fl with | .nx s => PN s h | .ct s => PN s h | .bk s => QF (.nx s) h | .rt d => QF (.rt d) h
theorem Z6D {PN : DEnv → DHeap → Prop} : kWb PN QF (.nx s) h = PN s h := rfl
theorem Z6E {PN : DEnv → DHeap → Prop} : kWb PN QF (.ct s) h = PN s h := rfl
theorem Z6F {PN : DEnv → DHeap → Prop} : kWb PN QF (.bk s) h = QF (.nx s) h := rfl
theorem Z6G {PN : DEnv → DHeap → Prop} : kWb PN QF (.rt d) h = QF (.rt d) h := rfl
def kWh (f : M Fl) (σ : DEnv) (PN : DEnv → DHeap → Prop) (QF : QFl) : QBl := fun b h => if b = true then W (f σ h) (kWb PN QF) else QF (.nx σ) h
theorem k_WhT {PN : DEnv → DHeap → Prop} : kWh f σ PN QF true h = W (f σ h) (kWb PN QF) := rfl
theorem k_WhF {PN : DEnv → DHeap → Prop} : kWh f σ PN QF false h = QF (.nx σ) h := rfl
theorem wh_i {PN : DEnv → DHeap → Prop} (h1 : b = true → W (f σ h) (kWb PN QF)) (h2 : b = false → QF (.nx σ) h) : kWh f σ PN QF b h := by
  cases b with
  | true => exact h1 rfl
  | false => exact h2 rfl
theorem while_i (P : Nat → DEnv → DHeap → Prop) (m : Nat) (h0 : P m σ h) (hs : ∀ m σ h, P m σ h → W (ta σ h) (kWh f σ (fun s h => ∃ m', m' < m ∧ P m' s h) QF)) : W (sWhile ta f σ h) QF := by
  have key : ∀ m σ h, P m σ h → ∃ n, W (whileS ta f n σ h) QF := by
    intro m
    induction m using Nat.strongRecOn with
    | ind m ih =>
      intro σ h p
      have q := hs m σ h p
      cases e1 : ta σ h with
      | bad => rw [e1] at q; exact q.elim
      | exc _ _ _ => rw [e1] at q; exact q.elim
      | ok b h1 =>
        rw [e1, Z4R] at q
        cases b with
        | false =>
          refine ⟨1, ?_⟩
          unfold whileS
          rw [e1]
          exact q
        | true =>
          rw [k_WhT] at q
          cases e2 : f σ h1 with
          | bad => rw [e2] at q; exact q.elim
          | exc _ _ _ => rw [e2] at q; exact q.elim
          | ok fl h2 =>
            rw [e2, Z4R] at q
            cases fl with
            | nx s =>
              obtain ⟨m', hm, p'⟩ := q
              obtain ⟨n, hn⟩ := ih m' hm s h2 p'
              refine ⟨n + 1, ?_⟩
              unfold whileS
              rw [e1]
              simp only [Res.bind, if_true]
              rw [e2]
              exact hn
            | ct s =>
              obtain ⟨m', hm, p'⟩ := q
              obtain ⟨n, hn⟩ := ih m' hm s h2 p'
              refine ⟨n + 1, ?_⟩
              unfold whileS
              rw [e1]
              simp only [Res.bind, if_true]
              rw [e2]
              exact hn
            | bk s =>
              refine ⟨1, ?_⟩
              unfold whileS
              rw [e1]
              simp only [Res.bind, if_true]
              rw [e2]
              exact q
            | rt d =>
              refine ⟨1, ?_⟩
              unfold whileS
              rw [e1]
              simp only [Res.bind, if_true]
              rw [e2]
              exact q
  obtain ⟨n, hn⟩ := key m σ h h0
  have nb : whileS ta f n σ h ≠ .bad := fun e => by rw [e] at hn; exact hn
  unfold sWhile
  rw [dif_pos ⟨n, nb⟩]
  generalize hc : Classical.choose (⟨n, nb⟩ : ∃ n, whileS ta f n σ h ≠ .bad) = n'
  have nb' : whileS ta f n' σ h ≠ .bad := by rw [← hc]; exact Classical.choose_spec (⟨n, nb⟩ : ∃ n, whileS ta f n σ h ≠ .bad)
  have e1 := whileS_more n n' σ h nb
  have e2 := whileS_more n' n σ h nb'
  rw [Nat.add_comm, e2] at e1
  rw [e1]
  exact hn

/-! what raises -/
def R {α : Type} (r : Res α) (QX : DX → DEnv → DHeap → Prop) : Prop := match r with | .exc x s h => QX x s h | _ => False
abbrev QX' := DX → DEnv → DHeap → Prop
variable {QX : QX'}
theorem R_mono {α : Type} {r : Res α} {QX QX' : DX → DEnv → DHeap → Prop} (q : R r QX) (i : ∀ x s h, QX x s h → QX' x s h) : R r QX' := by
  cases r with
  | ok _ _ => exact q
  | bad => exact q
  | exc x s h => exact i _ _ _ q
theorem R_get {α : Type} {r : Res α} (q : R r QX) : ∃ x s h, r = .exc x s h ∧ QX x s h := by
  cases r with
  | ok _ _ => exact q.elim
  | bad => exact q.elim
  | exc x s h => exact ⟨_, _, _, rfl, q⟩
theorem R_bindE {α β : Type} {r : Res α} {k : α → DHeap → Res β} (q : R r QX) : R (r.bind k) QX := by
  cases r with
  | ok _ _ => exact q.elim
  | bad => exact q.elim
  | exc x s h => exact q
theorem R_bindN {α β : Type} {r : Res α} {k : α → DHeap → Res β} (q : W r (fun a h => R (k a h) QX)) : R (r.bind k) QX := by
  cases r with
  | ok _ _ => exact q
  | bad => exact q.elim
  | exc x s h => exact q.elim
def kRq (g : M Fl) (QX : QX') : QFl := fun fl h => match fl with | .nx s => R (g s h) QX | _ => False
theorem Z6H : kRq g QX (.nx s) h = R (g s h) QX := rfl
/-- the first statement goes on, what follows raises -/
theorem r_seqN (q : W (f σ h) (kRq g QX)) : R (sSeq f g σ h) QX := R_bindN (W_mono q fun fl h q => by
  cases fl with
  | nx s => exact q
  | _ => exact q.elim)
theorem r_seqE (q : R (f σ h) QX) : R (sSeq f g σ h) QX := R_bindE q
def kRi (f g : M Fl) (σ : DEnv) (QX : QX') : QBl := fun b h => if b = true then R (f σ h) QX else R (g σ h) QX
theorem Z6I : kRi f g σ QX true h = R (f σ h) QX := rfl
theorem Z6J : kRi f g σ QX false h = R (g σ h) QX := rfl
theorem r_if (q : W (ta σ h) (kRi f g σ QX)) : R (sIf ta f g σ h) QX := R_bindN (W_mono q fun b h q => by cases b <;> exact q)
theorem Z6K : R (sRaise c σ h) QX = QX ⟨c, []⟩ σ h := rfl
theorem r_set (q : R (fa σ h) QX) : R (sSet i fa σ h) QX := R_bindE q
theorem r_ret (q : R (fa σ h) QX) : R (sRet fa σ h) QX := R_bindE q
theorem r_expr (q : R (fa σ h) QX) : R (sExpr fa σ h) QX := R_bindE q
def kRc (ms : List D → DHeap → Res D) (σ : DEnv) (QX : QX') : QLs := fun ds h => R (ms ds h) (fun x _ h => QX x σ h)
theorem Z6L : kRc ms σ QX ds h = R (ms ds h) (fun x _ h => QX x σ h) := rfl
theorem r_call (q : W (fs σ h) (kRc ms σ QX)) : R (callF ms fs σ h) QX := R_bindN (W_mono q fun ds h q => by
  unfold kRc at q
  cases e : ms ds h with
  | ok _ _ => rw [e] at q; exact q.elim
  | bad => rw [e] at q; exact q.elim
  | exc x s h => rw [e] at q; exact q)
theorem r_run {np nn : Nat} {B : M Fl} (hl : ds.length = np) (q : R (B (ds.map some ++ List.replicate (nn - np) none) h) QX) : R (runDef np nn B ds h) QX := by
  unfold runDef
  rw [if_pos hl]
  exact R_bindE q
theorem w_tryN (q : W (f σ h) QF) {suite : DX → M Fl} : W (sTry tab f suite σ h) QF := by
  unfold sTry
  cases e : f σ h with
  | ok _ _ => rw [e] at q; exact q
  | bad => rw [e] at q; exact q.elim
  | exc _ _ _ => rw [e] at q; exact q.elim
theorem w_tryAN (q : W (f σ h) QF) {suite : DX → M Fl} : W (sTryA i tab f suite σ h) QF := by
  unfold sTryA
  cases e : f σ h with
  | ok _ _ => rw [e] at q; exact q
  | bad => rw [e] at q; exact q.elim
  | exc _ _ _ => rw [e] at q; exact q.elim
theorem w_tryE {suite : DX → M Fl} (q : R (f σ h) (fun x s h => tab.lookup x.cls = some true ∧ W (suite x s h) QF)) : W (sTry tab f suite σ h) QF := by
  unfold sTry
  cases e : f σ h with
  | ok _ _ => rw [e] at q; exact q.elim
  | bad => rw [e] at q; exact q.elim
  | exc x s h =>
    rw [e] at q
    obtain ⟨q1, q2⟩ := q
    simp only [q1, W_calm]
    exact q2
def kUn (i : Nat) (QF : QFl) : QFl := fun fl h => QF (unset i fl) h
theorem Z6M : kUn i QF (.nx s) h = QF (.nx (s.set i none)) h := rfl
theorem Z6N : kUn i QF (.rt d) h = QF (.rt d) h := rfl
theorem w_tryAE {suite : DX → M Fl} (q : R (f σ h) (fun x s h => tab.lookup x.cls = some true ∧ i < s.length ∧ W (suite x (s.set i none) h) (kUn i QF))) : W (sTryA i tab f suite σ h) QF := by
  unfold sTryA
  cases e : f σ h with
  | ok _ _ => rw [e] at q; exact q.elim
  | bad => rw [e] at q; exact q.elim
  | exc x s h =>
    rw [e] at q
    obtain ⟨q1, q2, q3⟩ := q
    simp only [q1]
    rw [if_pos q2, W_bind, W_calm]
    exact q3
theorem w_isx {x : DX} (h1 : x.fs = []) (h2 : tab.lookup x.cls = some b) : W (isxM tab x σ h) Q = Q (.bl b) h := by
  unfold isxM
  rw [h1, h2]
  rfl
end
end DL

set_option Elab.async false
set_option linter.all false
set_option maxRecDepth 100000
namespace DL
open PySem PySem.Spec PyProof.Rows L2
section
variable {σ : DEnv} {h : DHeap} {n : Nat} {Q : QD} {fk fv : M D} {x y : D} {a : Int} {z : Str} {key : Key}
def kDs3 (k : Option Key) (y : D) (n : Nat) (Q : QD) (o : Option Cell) (h : DHeap) : Prop := match k, o with | some key, some (.dic []) => Q (.ref n) (h.set n (.dic [(key, y)])) | _, _ => False
def kDs2 (x : D) (n : Nat) (Q : QD) : QD := fun y h => kDs3 (keyD x) y n Q (h[n]?) h
def kDs (fv : M D) (σ : DEnv) (n : Nat) (Q : QD) : QD := fun x h => W (fv σ h) (kDs2 x n Q)
theorem Z6Q : W (disp1 fk fv σ h) Q = W (fk σ (h ++ [.dic []])) (kDs fv σ h.length Q) := W_b fun x h1 => W_b fun y h2 => by
  unfold kDs2 kDs3
  cases keyD x with
  | none => rfl
  | some k =>
    cases e : h2[h.length]? with
    | none => rfl
    | some c =>
      cases c with
      | lst _ => rfl
      | dic kvs => cases kvs <;> rfl
theorem Z6R : kDs fv σ n Q x h = W (fv σ h) (kDs2 x n Q) := rfl
theorem Z6S : kDs2 (.int a) n Q y h = kDs3 (some (.inl a)) y n Q (h[n]?) h := rfl
theorem Z6T : kDs2 (.str z) n Q y h = kDs3 (some (.inr z)) y n Q (h[n]?) h := rfl
theorem Z6U : kDs3 (some key) y n Q (some (.dic [])) h = Q (.ref n) (h.set n (.dic [(key, y)])) := rfl
end
end DL

set_option Elab.async false
set_option linter.all false
set_option maxRecDepth 100000
set_option maxHeartbeats 4000000
namespace DL
open PySem PySem.Spec PyProof.Rows L2
/-! equality of terms is equality -/
theorem T.a_inj {f g : Str} {as bs : List T} (h : T.a f as = T.a g bs) : f = g ∧ as = bs := by cases h; exact ⟨rfl, rfl⟩
theorem eqv_T (u : T) : ∀ t, PyData.eqv (toP u.toD) (toP t.toD) = true ↔ u = t := by
  refine T.ind (P := fun u => ∀ t, PyData.eqv (toP u.toD) (toP t.toD) = true ↔ u = t) (fun i t => ?_) (fun f as ih t => ?_) u
  · cases t with
    | v j => rw [toD_v, toD_v]; simp [toP, PyData.eqv]
    | a g bs => rw [toD_v, toD_a]; simp [toP, PyData.eqv]
  · cases t with
    | v j => rw [toD_v, toD_a]; simp [toP, PyData.eqv]
    | a g bs =>
      rw [toD_a, toD_a]
      have key : ∀ (as bs : List T), (∀ t, t ∈ as → ∀ u, PyData.eqv (toP t.toD) (toP u.toD) = true ↔ t = u) → (PyData.eqvAll (toPs (as.map T.toD)) (toPs (bs.map T.toD)) = true ↔ as = bs) := by
        intro as
        induction as with
        | nil => intro bs _; cases bs <;> simp [toPs, PyData.eqvAll]
        | cons a as ih2 =>
          intro bs h
          cases bs with
          | nil => simp [toPs, PyData.eqvAll]
          | cons b bs =>
            rw [List.map_cons, List.map_cons, toPs, toPs, PyData.eqvAll, Bool.and_eq_true, h a List.mem_cons_self, ih2 bs fun t ht => h t (List.mem_cons_of_mem _ ht)]
            simp
      show PyData.eqv (.tuple (.str f :: toPs (as.map T.toD))) (.tuple (.str g :: toPs (bs.map T.toD))) = true ↔ _
      rw [PyData.eqv, PyData.eqvAll, Bool.and_eq_true, key as bs ih]
      simp [PyData.eqv]
instance : DecidableEq T := fun u t => if h : PyData.eqv (toP u.toD) (toP t.toD) = true then isTrue ((eqv_T u t).mp h) else isFalse fun e => h ((eqv_T u t).mpr e)
theorem eqB_dec (u t : T) : eqB u t = decide (u = t) := by
  unfold eqB eqvD
  by_cases h : u = t
  · rw [decide_eq_true h]; exact (eqv_T u t).mpr h
  · rw [decide_eq_false h]; exact Bool.eq_false_iff.mpr fun q => h ((eqv_T u t).mp q)

/-! substitutions -/
abbrev Sb := Int → T
mutual
def sub (s : Sb) : T → T
  | .v i => s i
  | .a f as => .a f (subs s as)
def subs (s : Sb) : List T → List T
  | [] => []
  | t :: r => sub s t :: subs s r
end
theorem subs_map (s : Sb) : ∀ l : List T, subs s l = l.map (sub s)
  | [] => rfl
  | t :: r => by rw [subs, subs_map s r]; rfl
theorem sub_v (s : Sb) (i : Int) : sub s (.v i) = s i := by rw [sub]
theorem sub_a (s : Sb) (f : Str) (as : List T) : sub s (.a f as) = .a f (as.map (sub s)) := by rw [sub, subs_map]
theorem rep_sub (l : Tab) (t : T) : rep l t = sub (fun i => (lookT l i).getD (.v i)) t := by
  refine T.ind (P := fun t => rep l t = sub (fun i => (lookT l i).getD (.v i)) t) (fun i => ?_) (fun f as ih => ?_) t
  · rw [rep_v, sub_v]
  · rw [rep_a, sub_a]; exact congrArg (T.a f) (List.map_congr_left ih)
/-- x occurs in t -/
inductive Oc (x : Int) : T → Prop
  | v : Oc x (.v x)
  | a {f as t} : t ∈ as → Oc x t → Oc x (.a f as)
theorem oc_v {x i : Int} : Oc x (.v i) ↔ x = i := ⟨fun h => by cases h; rfl, fun h => by rw [h]; exact .v⟩
theorem oc_a {x : Int} {f : Str} {as : List T} : Oc x (.a f as) ↔ ∃ t, t ∈ as ∧ Oc x t := ⟨fun h => by cases h with | a h1 h2 => exact ⟨_, h1, h2⟩, fun ⟨_, h1, h2⟩ => .a h1 h2⟩
theorem sub_congr {s s' : Sb} (t : T) : (∀ x, Oc x t → s x = s' x) → sub s t = sub s' t := by
  refine T.ind (P := fun t => (∀ x, Oc x t → s x = s' x) → sub s t = sub s' t) (fun i h => ?_) (fun f as ih h => ?_) t
  · rw [sub_v, sub_v]; exact h i .v
  · rw [sub_a, sub_a]; exact congrArg (T.a f) (List.map_congr_left fun t ht => ih t ht fun x hx => h x (.a ht hx))
theorem sub_inj {s s' : Sb} (t : T) : sub s t = sub s' t → ∀ x, Oc x t → s x = s' x := by
  refine T.ind (P := fun t => sub s t = sub s' t → ∀ x, Oc x t → s x = s' x) (fun i h x hx => ?_) (fun f as ih h x hx => ?_) t
  · rw [oc_v.mp hx]; rw [sub_v, sub_v] at h; exact h
  · obtain ⟨u, hu, ho⟩ := oc_a.mp hx
    rw [sub_a, sub_a] at h
    have := (T.a_inj h).2
    exact ih u hu (List.map_inj_left.mp this u hu) x ho
theorem sub_id (t : T) : sub T.v t = t := by
  refine T.ind (P := fun t => sub T.v t = t) (fun i => by rw [sub_v]) (fun f as ih => ?_) t
  rw [sub_a]
  exact congrArg (T.a f) (by rw [List.map_congr_left ih, List.map_id''] <;> intro _ <;> rfl)
theorem sub_sub (s s' : Sb) (t : T) : sub s (sub s' t) = sub (fun x => sub s (s' x)) t := by
  refine T.ind (P := fun t => sub s (sub s' t) = sub (fun x => sub s (s' x)) t) (fun i => by rw [sub_v, sub_v]) (fun f as ih => ?_) t
  rw [sub_a, sub_a, sub_a, List.map_map]
  exact congrArg (T.a f) (List.map_congr_left ih)
theorem oc_sub {s : Sb} {x : Int} (t : T) : Oc x (sub s t) ↔ ∃ y, Oc y t ∧ Oc x (s y) := by
  refine T.ind (P := fun t => Oc x (sub s t) ↔ ∃ y, Oc y t ∧ Oc x (s y)) (fun i => ?_) (fun f as ih => ?_) t
  · rw [sub_v]
    exact ⟨fun h => ⟨i, .v, h⟩, fun ⟨y, h1, h2⟩ => by rw [oc_v.mp h1] at h2; exact h2⟩
  · rw [sub_a, oc_a]
    constructor
    · rintro ⟨u, hu, ho⟩
      obtain ⟨t, ht, rfl⟩ := List.mem_map.mp hu
      obtain ⟨y, h1, h2⟩ := (ih t ht).mp ho
      exact ⟨y, .a ht h1, h2⟩
    · rintro ⟨y, h1, h2⟩
      obtain ⟨t, ht, ho⟩ := oc_a.mp h1
      exact ⟨_, List.mem_map.mpr ⟨t, ht, rfl⟩, (ih t ht).mpr ⟨y, ho, h2⟩⟩
/-- a variable within a term becomes smaller -/
theorem size_oc {s : Sb} {x : Int} {t : T} (h : Oc x t) : (s x).size ≤ (sub s t).size := by
  induction h with
  | v => rw [sub_v]; exact Nat.le_refl _
  | a ht ho ih =>
    rw [sub_a, size_a]
    exact Nat.le_trans ih (Nat.le_trans (size_le (List.mem_map.mpr ⟨_, ht, rfl⟩)) (by omega))
theorem no_oc {s : Sb} {x : Int} {t : T} (h : Oc x t) (hn : t ≠ .v x) : s x ≠ sub s t := by
  intro e
  cases h with
  | v => exact hn rfl
  | @a f as u ht ho =>
    have h1 := size_oc (s := s) ho
    have h2 : (sub s (T.a f as)).size = 1 + T.sizes (as.map (sub s)) := by rw [sub_a, size_a]
    have h3 := size_le (List.mem_map.mpr ⟨u, ht, rfl⟩ : sub s u ∈ as.map (sub s))
    rw [← e] at h2
    omega
theorem dep_oc {s : Sb} {x : Int} {t : T} (h : Oc x t) : (s x).dep ≤ (sub s t).dep := by
  induction h with
  | v => rw [sub_v]; exact Nat.le_refl _
  | a ht ho ih =>
    rw [sub_a, dep_a]
    exact Nat.le_trans ih (Nat.le_trans (deps_le (List.mem_map.mpr ⟨_, ht, rfl⟩)) (by omega))

/-! bindings -/
theorem lookT_put (b : Tab) (x : Int) (t : T) (y : Int) : lookT (putT b x t) y = if y = x then some t else lookT b y := by
  unfold putT
  split
  · rename_i h
    induction b with
    | nil => exact absurd h (by simp)
    | cons p b ih =>
      rw [List.map_cons, lookT_c, lookT_c]
      by_cases e : p.1 = x
      · rw [if_pos e]
        by_cases ey : y = x
        · rw [if_pos ey, if_pos (by rw [e, ey])]
        · rw [if_neg ey, if_neg (by rw [e]; exact Ne.symm ey)]
          by_cases hb : (b.any fun p => decide (p.1 = x)) = true
          · rw [ih hb, if_neg ey, if_neg (by rw [e]; exact Ne.symm ey)]
          · have : (b.map fun p => if p.1 = x then (p.1, t) else p) = b := by
              rw [List.map_congr_left (g := id) fun q hq => ?_, List.map_id]
              rw [if_neg]
              · rfl
              · intro z
                exact hb (List.any_eq_true.mpr ⟨q, hq, by simpa using z⟩)
            rw [this, if_neg (by rw [e]; exact Ne.symm ey)]
      · rw [if_neg e]
        have hb : (b.any fun p => decide (p.1 = x)) = true := by
          rw [List.any_cons] at h
          simpa [e] using h
        rw [ih hb]
        by_cases ey : y = x
        · rw [if_pos ey, if_pos ey, if_neg (by rw [ey]; exact e)]
        · rw [if_neg ey, if_neg ey]
  · rename_i h
    induction b with
    | nil =>
      show lookT [(x, t)] y = _
      rw [lookT_c]
      by_cases ey : y = x
      · rw [if_pos ey, if_pos ey.symm]
      · rw [if_neg ey, if_neg (Ne.symm ey)]
    | cons p b ih =>
      have hp : ¬ p.1 = x := fun z => h (by rw [List.any_cons, decide_eq_true z]; rfl)
      have hb : ¬ (b.any fun p => decide (p.1 = x)) = true := fun z => h (by rw [List.any_cons, z, Bool.or_true])
      rw [List.cons_append, lookT_c, lookT_c, ih hb]
      by_cases ey : y = x
      · rw [if_pos ey, if_neg (by rw [ey]; exact hp), if_pos ey]
      · rw [if_neg ey, if_neg ey]
/-- θ respects the bindings -/
def Sat (θ : Sb) (b : Tab) : Prop := ∀ x t, lookT b x = some t → θ x = sub θ t
/-- no variable leads back to itself -/
def Acy (b : Tab) (r : Int → Nat) : Prop := ∀ x t, lookT b x = some t → ∀ y, Oc y t → r y < r x
/-- the resolved terms -/
structure Fx (b : Tab) (σ : Sb) : Prop where
  un : ∀ x, lookT b x = none → σ x = .v x
  bd : ∀ x t, lookT b x = some t → σ x = sub σ t
def stp (b : Tab) (s : Sb) : Sb := fun x => match lookT b x with | some t => sub s t | none => .v x
def itr (b : Tab) : Nat → Sb
  | 0 => T.v
  | n + 1 => stp b (itr b n)
theorem itr_stable {b : Tab} {r : Int → Nat} (ac : Acy b r) : ∀ (k : Nat) (x : Int), r x < k → ∀ n, r x < n → itr b n x = itr b (r x + 1) x
  | 0, x, h, _, _ => absurd h (Nat.not_lt_zero _)
  | k + 1, x, h, n, hn => by
    obtain ⟨m, rfl⟩ : ∃ m, n = m + 1 := ⟨n - 1, by omega⟩
    show stp b (itr b m) x = stp b (itr b (r x)) x
    unfold stp
    cases e : lookT b x with
    | none => rfl
    | some t =>
      refine sub_congr t fun y hy => ?_
      have hr := ac x t e y hy
      rw [itr_stable ac k y (by omega) m (by omega), itr_stable ac k y (by omega) (r x) (by omega)]
theorem fx_of {b : Tab} {r : Int → Nat} (ac : Acy b r) : ∃ σ, Fx b σ := by
  refine ⟨fun x => itr b (r x + 1) x, fun x e => ?_, fun x t e => ?_⟩
  · show stp b (itr b (r x)) x = _
    unfold stp; rw [e]
  · show stp b (itr b (r x)) x = _
    unfold stp; rw [e]
    refine sub_congr t fun y hy => ?_
    have hr := ac x t e y hy
    exact itr_stable ac (r y + 1) y (by omega) _ (by omega)
theorem Fx.sat {b : Tab} {σ : Sb} (h : Fx b σ) : Sat σ b := h.bd
theorem Fx.mg {b : Tab} {r : Int → Nat} {σ θ : Sb} (ac : Acy b r) (h : Fx b σ) (s : Sat θ b) : ∀ (k : Nat) (x : Int), r x < k → sub θ (σ x) = θ x
  | 0, x, hk => absurd hk (Nat.not_lt_zero _)
  | k + 1, x, hk => by
    cases e : lookT b x with
    | none => rw [h.un x e, sub_v]
    | some t =>
      rw [h.bd x t e, sub_sub, s x t e]
      exact sub_congr t fun y hy => Fx.mg ac h s k y (by have := ac x t e y hy; omega)
theorem Fx.mgu {b : Tab} {r : Int → Nat} {σ θ : Sb} (ac : Acy b r) (h : Fx b σ) (s : Sat θ b) (t : T) : sub θ (sub σ t) = sub θ t := by
  rw [sub_sub]
  exact sub_congr t fun x _ => h.mg ac s (r x + 1) x (by omega)
theorem Fx.uniq {b : Tab} {r : Int → Nat} {σ σ' : Sb} (ac : Acy b r) (h : Fx b σ) (h' : Fx b σ') : ∀ (k : Nat) (x : Int), r x < k → σ x = σ' x
  | 0, x, hk => absurd hk (Nat.not_lt_zero _)
  | k + 1, x, hk => by
    cases e : lookT b x with
    | none => rw [h.un x e, h'.un x e]
    | some t =>
      rw [h.bd x t e, h'.bd x t e]
      exact sub_congr t fun y hy => Fx.uniq ac h h' k y (by have := ac x t e y hy; omega)
/-- resolved: unbound variables alone -/
theorem Fx.unb {b : Tab} {r : Int → Nat} {σ : Sb} (ac : Acy b r) (h : Fx b σ) : ∀ (k : Nat) (x : Int), r x < k → ∀ y, Oc y (σ x) → lookT b y = none
  | 0, x, hk, _, _ => absurd hk (Nat.not_lt_zero _)
  | k + 1, x, hk, y, hy => by
    cases e : lookT b x with
    | none =>
      rw [h.un x e] at hy
      rw [oc_v.mp hy]; exact e
    | some t =>
      rw [h.bd x t e] at hy
      obtain ⟨z, hz, hy⟩ := (oc_sub t).mp hy
      exact Fx.unb ac h k z (by have := ac x t e z hz; omega) y hy
/-- a variable is bound anew: x was not reached from t -/
theorem Acy.put {b : Tab} {r : Int → Nat} {σ : Sb} (ac : Acy b r) (h : Fx b σ) {x : Int} {t : T} (hx : lookT b x = none) (hn : ¬ Oc x (sub σ t)) : ∃ r', Acy (putT b x t) r' := by
  obtain ⟨N, hN⟩ : ∃ N, ∀ y, Oc y t → r y < N := by
    have key : ∀ t : T, ∃ N, ∀ y, Oc y t → r y < N := fun t => by
      refine T.ind (P := fun t => ∃ N, ∀ y, Oc y t → r y < N) (fun i => ⟨r i + 1, fun y hy => by rw [oc_v.mp hy]; omega⟩) (fun f as ih => ?_) t
      have : ∀ l : List T, (∀ t, t ∈ l → ∃ N, ∀ y, Oc y t → r y < N) → ∃ N, ∀ t, t ∈ l → ∀ y, Oc y t → r y < N := by
        intro l
        induction l with
        | nil => intro _; exact ⟨0, fun _ h => absurd h List.not_mem_nil⟩
        | cons a l ihl =>
          intro hl
          obtain ⟨N1, h1⟩ := hl a List.mem_cons_self
          obtain ⟨N2, h2⟩ := ihl fun t ht => hl t (List.mem_cons_of_mem _ ht)
          refine ⟨max N1 N2, fun t ht y hy => ?_⟩
          rcases List.mem_cons.mp ht with rfl | ht
          · have := h1 y hy; omega
          · have := h2 t ht y hy; omega
      obtain ⟨N, hN⟩ := this as ih
      exact ⟨N, fun y hy => by obtain ⟨u, hu, ho⟩ := oc_a.mp hy; exact hN u hu y ho⟩
    exact key t
  classical
  refine ⟨fun z => r z + if Oc x (σ z) then N else 0, fun z u e y hy => ?_⟩
  rw [lookT_put] at e
  by_cases ez : z = x
  · rw [if_pos ez] at e
    cases e
    subst ez
    have e1 : ¬ Oc z (σ y) := fun q => hn ((oc_sub _).mpr ⟨y, hy, q⟩)
    have e2 : Oc z (σ z) := by rw [h.un z hx]; exact .v
    have := hN y hy
    show r y + (if Oc z (σ y) then N else 0) < r z + if Oc z (σ z) then N else 0
    rw [if_neg e1, if_pos e2]
    omega
  · rw [if_neg ez] at e
    have h1 := ac z u e y hy
    have h2 : Oc x (σ y) → Oc x (σ z) := fun q => by rw [h.bd z u e]; exact (oc_sub u).mpr ⟨y, hy, q⟩
    show r y + (if Oc x (σ y) then N else 0) < r z + if Oc x (σ z) then N else 0
    by_cases q : Oc x (σ y)
    · rw [if_pos q, if_pos (h2 q)]; omega
    · rw [if_neg q]; split <;> omega
def del (b : Tab) (x : Int) : Tab := b.filter fun p => decide (p.1 ≠ x)
theorem lookT_del (b : Tab) (x y : Int) : lookT (del b x) y = if y = x then none else lookT b y := by
  induction b with
  | nil => show none = _; split <;> rfl
  | cons p b ih =>
    unfold del at ih ⊢
    rw [List.filter_cons]
    by_cases e : p.1 = x
    · rw [if_neg (by simpa using e), ih, lookT_c]
      by_cases ey : y = x
      · rw [if_pos ey, if_pos ey]
      · rw [if_neg ey, if_neg ey, if_neg (by rw [e]; exact Ne.symm ey)]
    · rw [if_pos (by simpa using e), lookT_c, lookT_c, ih]
      by_cases ey : p.1 = y
      · rw [if_pos ey, if_pos ey, if_neg (by rw [← ey]; exact e)]
      · rw [if_neg ey, if_neg ey]
theorem Acy.del {b : Tab} {r : Int → Nat} (ac : Acy b r) (x : Int) : Acy (del b x) r := fun y t e z hz => by
  rw [lookT_del] at e
  split at e
  · cases e
  · exact ac y t e z hz
theorem Acy.congr {b b' : Tab} {r : Int → Nat} (ac : Acy b r) (h : ∀ x, lookT b x = lookT b' x) : Acy b' r := fun x t e => ac x t (by rw [h]; exact e)
theorem Acy.bind {b : Tab} {r : Int → Nat} {σ : Sb} (ac : Acy b r) {x : Int} {t : T} (h : Fx (DL.del b x) σ) (hn : ¬ Oc x (sub σ t)) : ∃ r', Acy (putT b x t) r' := by
  obtain ⟨r', a'⟩ := (ac.del x).put h (by rw [lookT_del, if_pos rfl]) hn
  refine ⟨r', a'.congr fun y => ?_⟩
  rw [lookT_put, lookT_put, lookT_del]
  split <;> rfl
theorem del_id {b : Tab} {x : Int} (h : lookT b x = none) : ∀ y, lookT (del b x) y = lookT b y := fun y => by
  rw [lookT_del]
  split
  · rename_i e; rw [e, h]
  · rfl
theorem Fx.congr {b b' : Tab} {σ : Sb} (h : Fx b σ) (e : ∀ x, lookT b x = lookT b' x) : Fx b' σ := ⟨fun x q => h.un x (by rw [e]; exact q), fun x t q => h.bd x t (by rw [e]; exact q)⟩
theorem Sat.put {θ : Sb} {b : Tab} {x : Int} {t : T} (hx : lookT b x = none) : Sat θ (putT b x t) ↔ Sat θ b ∧ θ x = sub θ t := by
  constructor
  · intro h
    refine ⟨fun y u e => h y u ?_, h x t (by rw [lookT_put, if_pos rfl])⟩
    rw [lookT_put, if_neg (fun z => by rw [z, hx] at e; cases e)]
    exact e
  · rintro ⟨h1, h2⟩ y u e
    rw [lookT_put] at e
    split at e
    · rename_i z; cases e; rw [z]; exact h2
    · exact h1 y u e
theorem Sat.rebind {θ : Sb} {b : Tab} {x : Int} {s t : T} (hx : lookT b x = some s) : (Sat θ (putT b x t) ∧ sub θ s = sub θ t) ↔ Sat θ b ∧ θ x = sub θ t := by
  constructor
  · rintro ⟨h, e⟩
    have hxt := h x t (by rw [lookT_put, if_pos rfl])
    refine ⟨fun y u q => ?_, hxt⟩
    by_cases z : y = x
    · subst z
      rw [hx] at q
      cases q
      rw [hxt, e]
    · exact h y u (by rw [lookT_put, if_neg z]; exact q)
  · rintro ⟨h1, h2⟩
    refine ⟨fun y u e => ?_, by rw [← h2, h1 x s hx]⟩
    rw [lookT_put] at e
    split at e
    · rename_i z; cases e; rw [z]; exact h2
    · exact h1 y u e
/-- what fails the test has no unifier -/
theorem occ_no {θ : Sb} {b : Tab} {x : Int} {t : T} {σ : Sb} {r : Int → Nat} (ac : Acy b r) (h : Fx (DL.del b x) σ) (s : Sat θ b) (ho : Oc x (sub σ t)) (hn : sub σ t ≠ .v x) : θ x ≠ sub θ t := by
  have s' : Sat θ (DL.del b x) := fun y u e => s y u (by rw [lookT_del] at e; split at e; · cases e
                                                         · exact e)
  rw [← h.mgu (ac.del x) s' t]
  exact no_oc ho hn

/-! numbering -/
theorem mem_noteV {x : Int} (t : T) : ∀ l, x ∈ noteV t l ↔ x ∈ l ∨ Oc x t := by
  refine T.ind (P := fun t => ∀ l, x ∈ noteV t l ↔ x ∈ l ∨ Oc x t) (fun i l => ?_) (fun f as ih l => ?_) t
  · rw [noteV_v, insI, oc_v]
    split
    · rename_i h
      exact ⟨.inl, fun q => q.elim id fun e => by rw [e]; exact h⟩
    · simp
  · rw [noteV_a, oc_a]
    have : ∀ (as : List T), (∀ t, t ∈ as → ∀ l, x ∈ noteV t l ↔ x ∈ l ∨ Oc x t) → ∀ l, x ∈ noteVs as l ↔ x ∈ l ∨ ∃ t, t ∈ as ∧ Oc x t := by
      intro as
      induction as with
      | nil => intro _ l; rw [noteVs_0]; simp
      | cons a as iha =>
        intro h l
        rw [noteVs, iha (fun t ht => h t (List.mem_cons_of_mem _ ht)), h a List.mem_cons_self]
        simp [or_assoc]
    exact this as ih l
theorem nodup_noteV (t : T) : ∀ l : List Int, l.Nodup → (noteV t l).Nodup := by
  refine T.ind (P := fun t => ∀ l : List Int, l.Nodup → (noteV t l).Nodup) (fun i l h => ?_) (fun f as ih l h => ?_) t
  · rw [noteV_v, insI]
    split
    · exact h
    · rename_i hi
      exact List.nodup_append.mpr ⟨h, by simp, fun a ha b hb => by rw [List.mem_singleton.mp hb]; exact fun e => hi (e ▸ ha)⟩
  · rw [noteV_a]
    have : ∀ (as : List T), (∀ t, t ∈ as → ∀ l : List Int, l.Nodup → (noteV t l).Nodup) → ∀ l : List Int, l.Nodup → (noteVs as l).Nodup := by
      intro as
      induction as with
      | nil => intro _ l h; rw [noteVs_0]; exact h
      | cons a as iha => intro hh l h; rw [noteVs]; exact iha (fun t ht => hh t (List.mem_cons_of_mem _ ht)) _ (hh a List.mem_cons_self l h)
    exact this as ih l h
theorem nodup_noteVs : ∀ (as : List T) (l : List Int), l.Nodup → (noteVs as l).Nodup
  | [], l, h => by rw [noteVs_0]; exact h
  | a :: as, l, h => by rw [noteVs]; exact nodup_noteVs as _ (nodup_noteV a l h)
theorem mem_noteVs {x : Int} : ∀ (as : List T) (l : List Int), x ∈ noteVs as l ↔ x ∈ l ∨ ∃ t, t ∈ as ∧ Oc x t
  | [], l => by rw [noteVs_0]; simp
  | a :: as, l => by rw [noteVs, mem_noteVs as, mem_noteV]; simp [or_assoc]
/-- the numbers of variables, in order -/
def numL : Nat → List Int → Tab
  | _, [] => []
  | k, x :: r => (x, .v k) :: numL (k + 1) r
theorem numL_len : ∀ (k : Nat) (l : List Int), (numL k l).length = l.length
  | _, [] => rfl
  | k, _ :: r => by rw [numL, List.length_cons, List.length_cons, numL_len (k + 1) r]
/-- a renaming that keeps different variables apart -/
def Ren (α : Sb) (l : List Int) (a : Int → Int) : Prop := (∀ x, x ∈ l → α x = .v (a x)) ∧ ∀ x y, x ∈ l → y ∈ l → a x = a y → x = y
theorem noteV_ren {α : Sb} {a : Int → Int} (t : T) : ∀ l m, (∀ x, (x ∈ l ∨ Oc x t) → α x = .v (a x)) → (∀ x y, (x ∈ l ∨ Oc x t) → (y ∈ l ∨ Oc y t) → a x = a y → x = y) → m = l.map a → noteV (sub α t) m = (noteV t l).map a := by
  refine T.ind (P := fun t => ∀ l m, (∀ x, (x ∈ l ∨ Oc x t) → α x = .v (a x)) → (∀ x y, (x ∈ l ∨ Oc x t) → (y ∈ l ∨ Oc y t) → a x = a y → x = y) → m = l.map a → noteV (sub α t) m = (noteV t l).map a) (fun i l m h1 h2 e => ?_) (fun f as ih l m h1 h2 e => ?_) t
  · rw [sub_v, h1 i (.inr .v), noteV_v, noteV_v, insI, insI, e]
    by_cases hi : i ∈ l
    · rw [if_pos hi, if_pos (List.mem_map.mpr ⟨i, hi, rfl⟩)]
    · rw [if_neg hi, if_neg (fun q => ?_), List.map_append]
      · rfl
      · obtain ⟨y, hy, ey⟩ := List.mem_map.mp q
        exact hi (by rw [← h2 y i (.inl hy) (.inr .v) ey]; exact hy)
  · rw [sub_a, noteV_a, noteV_a]
    have key : ∀ (as : List T), (∀ t, t ∈ as → ∀ l m, (∀ x, (x ∈ l ∨ Oc x t) → α x = .v (a x)) → (∀ x y, (x ∈ l ∨ Oc x t) → (y ∈ l ∨ Oc y t) → a x = a y → x = y) → m = l.map a → noteV (sub α t) m = (noteV t l).map a) →
        ∀ l m, (∀ x, (x ∈ l ∨ ∃ t, t ∈ as ∧ Oc x t) → α x = .v (a x)) → (∀ x y, (x ∈ l ∨ ∃ t, t ∈ as ∧ Oc x t) → (y ∈ l ∨ ∃ t, t ∈ as ∧ Oc y t) → a x = a y → x = y) → m = l.map a → noteVs (as.map (sub α)) m = (noteVs as l).map a := by
      intro as
      induction as with
      | nil => intro _ l m _ _ e; rw [List.map_nil, noteVs_0, noteVs_0]; exact e
      | cons b as iha =>
        intro h l m q1 q2 e
        have inc : ∀ x, (x ∈ noteV b l ∨ ∃ t, t ∈ as ∧ Oc x t) → (x ∈ l ∨ ∃ t, t ∈ b :: as ∧ Oc x t) := fun x hx => by
          rcases hx with hx | ⟨t, ht, ho⟩
          · rcases (mem_noteV b l).mp hx with hx | hx
            · exact .inl hx
            · exact .inr ⟨b, List.mem_cons_self, hx⟩
          · exact .inr ⟨t, List.mem_cons_of_mem _ ht, ho⟩
        have inb : ∀ x, (x ∈ l ∨ Oc x b) → (x ∈ l ∨ ∃ t, t ∈ b :: as ∧ Oc x t) := fun x hx => hx.imp id fun q => ⟨b, List.mem_cons_self, q⟩
        rw [List.map_cons, noteVs, noteVs]
        exact iha (fun t ht => h t (List.mem_cons_of_mem _ ht)) (noteV b l) _ (fun x hx => q1 x (inc x hx)) (fun x y hx hy => q2 x y (inc x hx) (inc y hy)) (h b List.mem_cons_self l m (fun x hx => q1 x (inb x hx)) (fun x y hx hy => q2 x y (inb x hx) (inb y hy)) e)
    exact key as ih l m (fun x hx => h1 x (hx.imp id oc_a.mpr)) (fun x y hx hy => h2 x y (hx.imp id oc_a.mpr) (hy.imp id oc_a.mpr)) e
/-- the numbered term -/
def num (t : T) : T := rep (numL 0 (noteV t [])) t
theorem numL_ren {a : Int → Int} : ∀ (l : List Int) (k : Nat) (x : Int), x ∈ l → (∀ x y, x ∈ l → y ∈ l → a x = a y → x = y) → lookT (numL k (l.map a)) (a x) = lookT (numL k l) x
  | [], _, _, h, _ => absurd h List.not_mem_nil
  | y :: l, k, x, hx, hi => by
    rw [List.map_cons, numL, numL, lookT_c, lookT_c]
    by_cases e : y = x
    · rw [if_pos e, if_pos (by rw [e])]
    · rw [if_neg e, if_neg (fun q => e (hi y x List.mem_cons_self hx q))]
      have hx : x ∈ l := (List.mem_cons.mp hx).resolve_left (Ne.symm e)
      exact numL_ren l (k + 1) x hx fun u v hu hv => hi u v (List.mem_cons_of_mem _ hu) (List.mem_cons_of_mem _ hv)
theorem numL_look : ∀ (l : List Int) (k : Nat) (x : Int), x ∈ l → ∃ j : Nat, lookT (numL k l) x = some (.v j) ∧ k ≤ j ∧ j < k + l.length
  | [], _, _, h => absurd h List.not_mem_nil
  | y :: l, k, x, hx => by
    rw [numL, lookT_c]
    by_cases e : y = x
    · rw [if_pos e]; exact ⟨k, rfl, Nat.le_refl _, by rw [List.length_cons]; omega⟩
    · rw [if_neg e]
      obtain ⟨j, h1, h2, h3⟩ := numL_look l (k + 1) x ((List.mem_cons.mp hx).resolve_left (Ne.symm e))
      exact ⟨j, h1, by omega, by rw [List.length_cons]; omega⟩
theorem num_ren {α : Sb} {a : Int → Int} (t : T) (h1 : ∀ x, Oc x t → α x = .v (a x)) (h2 : ∀ x y, Oc x t → Oc y t → a x = a y → x = y) : num (sub α t) = num t := by
  unfold num
  have e := noteV_ren t [] [] (fun x hx => h1 x (hx.resolve_left List.not_mem_nil)) (fun x y hx hy => h2 x y (hx.resolve_left List.not_mem_nil) (hy.resolve_left List.not_mem_nil)) rfl
  rw [e, rep_sub, rep_sub, sub_sub]
  refine sub_congr t fun x hx => ?_
  rw [h1 x hx, sub_v]
  have mem : ∀ y, y ∈ noteV t [] ↔ Oc y t := fun y => by rw [mem_noteV]; simp
  have q := numL_ren (a := a) (noteV t []) 0 x ((mem x).mpr hx) fun u v hu hv => h2 u v ((mem u).mp hu) ((mem v).mp hv)
  obtain ⟨j, hj, _⟩ := numL_look (noteV t []) 0 x ((mem x).mpr hx)
  rw [q, hj]
  rfl
/-- two terms that are instances of one another -/
theorem var_of {α β : Sb} {t : T} (h : sub β (sub α t) = t) : ∃ a : Int → Int, (∀ x, Oc x t → α x = .v (a x)) ∧ ∀ x y, Oc x t → Oc y t → a x = a y → x = y := by
  have e : ∀ x, Oc x t → sub β (α x) = .v x := by
    intro x hx
    have : sub (fun x => sub β (α x)) t = sub T.v t := by rw [← sub_sub, h, sub_id]
    exact sub_inj t this x hx
  refine ⟨fun x => match α x with | .v i => i | .a _ _ => 0, fun x hx => ?_, fun x y hx hy hxy => ?_⟩
  · have := e x hx
    cases q : α x with
    | v i => simp only [q]
    | a f as => rw [q, sub_a] at this; cases this
  · have ex := e x hx
    have ey := e y hy
    cases q : α x with
    | a f as => rw [q, sub_a] at ex; cases ex
    | v i =>
      cases q2 : α y with
      | a f as => rw [q2, sub_a] at ey; cases ey
      | v j =>
        rw [q] at ex
        rw [q2] at ey
        simp only [q, q2] at hxy
        subst hxy
        rw [ex] at ey
        cases ey
        rfl
theorem num_var {t u : T} {α β : Sb} (h1 : u = sub α t) (h2 : t = sub β u) : num t = num u := by
  subst h1
  obtain ⟨a, q1, q2⟩ := var_of h2.symm
  exact (num_ren t q1 q2).symm
end DL

set_option Elab.async false
set_option linter.all false
set_option maxRecDepth 100000
set_option maxHeartbeats 4000000
namespace DL
open PySem PySem.Spec PyProof.Rows L2
/-! how deep bindings lead -/
theorem look_key {b : Tab} {x : Int} {t : T} (h : lookT b x = some t) : x ∈ keysT b := look_yes h
def cnt (r : Int → Nat) (l : List Int) (N : Nat) : Nat := l.countP fun y => decide (r y < N)
theorem cnt_le (r : Int → Nat) (l : List Int) (N : Nat) : cnt r l N ≤ l.length := List.countP_le_length
theorem cnt_mono {r : Int → Nat} {M N : Nat} (h : M ≤ N) : ∀ l : List Int, cnt r l M ≤ cnt r l N
  | [] => Nat.le_refl _
  | y :: l => by
    have ih := cnt_mono (r := r) h l
    unfold cnt at ih ⊢
    rw [List.countP_cons, List.countP_cons]
    by_cases h1 : r y < M
    · rw [if_pos (by simpa using h1), if_pos (by simpa using Nat.lt_of_lt_of_le h1 h)]; omega
    · rw [if_neg (by simpa using h1)]; split <;> omega
theorem cnt_step {r : Int → Nat} {x : Int} {N : Nat} (h : r x < N) : ∀ l : List Int, x ∈ l → cnt r l (r x) + 1 ≤ cnt r l N
  | [], hx => absurd hx List.not_mem_nil
  | y :: l, hx => by
    unfold cnt
    rw [List.countP_cons, List.countP_cons]
    rcases List.mem_cons.mp hx with e | hx
    · subst e
      have ih := cnt_mono (r := r) (Nat.le_of_lt h) l
      unfold cnt at ih
      rw [if_neg (by simp), if_pos (by simpa using h)]
      omega
    · have ih := cnt_step h l hx
      unfold cnt at ih
      by_cases h1 : r y < r x
      · rw [if_pos (by simpa using h1), if_pos (by simpa using Nat.lt_trans h1 h)]; omega
      · rw [if_neg (by simpa using h1)]; split <;> omega
/-- n calls are enough to go through t -/
inductive Lv (b : Tab) : Nat → T → Prop
  | u {n x} : lookT b x = none → Lv b (n + 1) (.v x)
  | b {n x t} : lookT b x = some t → Lv b n t → Lv b (n + 1) (.v x)
  | a {n f as} : (∀ t, t ∈ as → Lv b n t) → Lv b (n + 1) (.a f as)
theorem Lv.mono {b : Tab} {n m : Nat} {t : T} (h : Lv b n t) (hm : n ≤ m) : Lv b m t := by
  induction h generalizing m with
  | u e => obtain ⟨k, rfl⟩ : ∃ k, m = k + 1 := ⟨m - 1, by omega⟩; exact .u e
  | b e _ ih => obtain ⟨k, rfl⟩ : ∃ k, m = k + 1 := ⟨m - 1, by omega⟩; exact .b e (ih (by omega))
  | a _ ih => obtain ⟨k, rfl⟩ : ∃ k, m = k + 1 := ⟨m - 1, by omega⟩; exact .a fun t ht => ih t ht (by omega)
theorem Lv.pos {b : Tab} {n : Nat} {t : T} (h : Lv b n t) : 1 ≤ n := by cases h <;> omega
theorem lv_of {b : Tab} {r : Int → Nat} {D : Nat} (ac : Acy b r) (hd : ∀ x t, lookT b x = some t → t.dep ≤ D) : ∀ (N : Nat) (t : T), (∀ y, Oc y t → r y < N) → Lv b (t.dep + cnt r (keysT b) N * (D + 1)) t := by
  intro N
  induction N using Nat.strongRecOn with
  | ind N ihN =>
    intro t
    refine T.ind (P := fun t => (∀ y, Oc y t → r y < N) → Lv b (t.dep + cnt r (keysT b) N * (D + 1)) t) (fun x h => ?_) (fun f as ih h => ?_) t
    · rw [dep_v, Nat.add_comm]
      cases e : lookT b x with
      | none => exact .u e
      | some s =>
        have hx := h x .v
        have q := ihN (r x) hx s fun y hy => ac x s e y hy
        refine .b e (q.mono ?_)
        have h1 := cnt_step hx (keysT b) (look_key e)
        have h2 := hd x s e
        have h3 : (cnt r (keysT b) (r x) + 1) * (D + 1) ≤ cnt r (keysT b) N * (D + 1) := Nat.mul_le_mul_right _ h1
        rw [Nat.succ_mul] at h3
        omega
    · rw [dep_a, Nat.add_assoc, Nat.add_comm]
      refine .a fun t ht => (ih t ht fun y hy => h y (.a ht hy)).mono ?_
      have := deps_le ht
      omega
theorem oc_bound (r : Int → Nat) (t : T) : ∃ N, ∀ y, Oc y t → r y < N := by
  refine T.ind (P := fun t => ∃ N, ∀ y, Oc y t → r y < N) (fun i => ⟨r i + 1, fun y hy => by rw [oc_v.mp hy]; omega⟩) (fun f as ih => ?_) t
  have : ∀ l : List T, (∀ t, t ∈ l → ∃ N, ∀ y, Oc y t → r y < N) → ∃ N, ∀ t, t ∈ l → ∀ y, Oc y t → r y < N := by
    intro l
    induction l with
    | nil => intro _; exact ⟨0, fun _ h => absurd h List.not_mem_nil⟩
    | cons a l ihl =>
      intro hl
      obtain ⟨N1, h1⟩ := hl a List.mem_cons_self
      obtain ⟨N2, h2⟩ := ihl fun t ht => hl t (List.mem_cons_of_mem _ ht)
      refine ⟨max N1 N2, fun t ht y hy => ?_⟩
      rcases List.mem_cons.mp ht with rfl | ht
      · have := h1 y hy; omega
      · have := h2 t ht y hy; omega
  obtain ⟨N, hN⟩ := this as ih
  exact ⟨N, fun y hy => by obtain ⟨u, hu, ho⟩ := oc_a.mp hy; exact hN u hu y ho⟩
theorem lv_all {b : Tab} {r : Int → Nat} {D : Nat} (ac : Acy b r) (hd : ∀ x t, lookT b x = some t → t.dep ≤ D) (t : T) : Lv b (t.dep + b.length * (D + 1)) t := by
  obtain ⟨N, hN⟩ := oc_bound r t
  refine (lv_of ac hd N t hN).mono ?_
  have h1 := cnt_le r (keysT b) N
  have h2 : (keysT b).length = b.length := by unfold keysT; rw [List.length_map]
  have := Nat.mul_le_mul_right (D + 1) h1
  rw [h2] at this
  omega
theorem Lv.dep {b : Tab} {σ : Sb} {n : Nat} {t : T} (h : Lv b n t) (fx : Fx b σ) : (sub σ t).dep ≤ n := by
  induction h with
  | u e => rw [sub_v, fx.un _ e, dep_v]; omega
  | b e _ ih => rw [sub_v, fx.bd _ _ e]; omega
  | @a n f as _ ih =>
    rw [sub_a, dep_a]
    have := deps_of (l := as.map (sub σ)) (n := n) fun t ht => by
      obtain ⟨u, hu, rfl⟩ := List.mem_map.mp ht
      exact ih u hu
    omega
/-! at most so many arguments -/
inductive T.Ar : T → Prop
  | v {i} : T.Ar (.v i)
  | a {f as} : as.length ≤ 100 → (∀ t, t ∈ as → T.Ar t) → T.Ar (.a f as)
theorem T.Ar.len {f : Str} {as : List T} (h : (T.a f as).Ar) : as.length ≤ 100 := by cases h; assumption
theorem T.Ar.parts {f : Str} {as : List T} (h : (T.a f as).Ar) : ∀ t, t ∈ as → t.Ar := by cases h; assumption
theorem Ar.sub {σ : Sb} {t : T} (h : t.Ar) : (∀ x, Oc x t → (σ x).Ar) → (DL.sub σ t).Ar := by
  induction h with
  | v => intro q; rw [sub_v]; exact q _ .v
  | a hl _ ih =>
    intro q
    rw [sub_a]
    refine .a (by rw [List.length_map]; exact hl) fun t ht => ?_
    obtain ⟨u, hu, rfl⟩ := List.mem_map.mp ht
    exact ih u hu fun x hx => q x (.a hu hx)
theorem T.Ar.of_size {t : T} : t.size ≤ 100 → t.Ar := by
  refine T.ind (P := fun t => t.size ≤ 100 → t.Ar) (fun i _ => .v) (fun f as ih h => ?_) t
  rw [size_a] at h
  have := len_sizes as
  exact .a (by omega) fun t ht => ih t ht (by have := size_le ht; omega)

/-! tables: keys -/
theorem putT_new {b : Tab} {x : Int} (h : lookT b x = none) (t : T) : putT b x t = b ++ [(x, t)] := by
  unfold putT
  rw [if_neg]
  intro q
  obtain ⟨p, hp, e⟩ := List.any_eq_true.mp q
  exact lookT_none h p hp (by simpa using e)
theorem keys_new {b : Tab} {x : Int} (h : lookT b x = none) (t : T) : keysT (putT b x t) = keysT b ++ [x] := by
  rw [putT_new h]; unfold keysT; rw [List.map_append]; rfl
theorem keys_old {b : Tab} {x : Int} {s : T} (h : lookT b x = some s) (t : T) : keysT (putT b x t) = keysT b := by
  unfold putT
  rw [if_pos (List.any_eq_true.mpr ⟨(x, s), lookT_some h, by simp⟩)]
  unfold keysT
  rw [List.map_map]
  refine List.map_congr_left fun p _ => ?_
  simp only [Function.comp]
  split <;> rfl
theorem mem_put {b : Tab} {x : Int} {t : T} {p : Int × T} (h : p ∈ putT b x t) : p ∈ b ∨ p = (x, t) := by
  unfold putT at h
  split at h
  · obtain ⟨q, hq, e⟩ := List.mem_map.mp h
    split at e
    · rename_i z; right; rw [← e, z]
    · left; rw [← e]; exact hq
  · rcases List.mem_append.mp h with h | h
    · exact .inl h
    · right; exact List.mem_singleton.mp h
theorem look_in {b : Tab} {x : Int} {t : T} (nd : (keysT b).Nodup) (h : (x, t) ∈ b) : lookT b x = some t := by
  induction b with
  | nil => exact absurd h List.not_mem_nil
  | cons p b ih =>
    rw [lookT_c]
    have nd' : p.1 ∉ keysT b ∧ (keysT b).Nodup := List.nodup_cons.mp nd
    rcases List.mem_cons.mp h with e | h
    · cases e; rw [if_pos rfl]
    · have : x ∈ keysT b := List.mem_map.mpr ⟨_, h, rfl⟩
      rw [if_neg (fun e : p.1 = x => nd'.1 (by rw [e]; exact this)), ih nd'.2 h]
def isA : T → Bool
  | .v _ => false
  | .a _ _ => true
/-- bindings over the variables vs, their terms at most D deep -/
structure Bd (vs : List Int) (D : Nat) (b : Tab) : Prop where
  ac : ∃ r, Acy b r
  nd : (keysT b).Nodup
  ks : ∀ x, x ∈ keysT b → x ∈ vs
  tm : ∀ p, p ∈ b → p.2.In vs ∧ p.2.G ∧ p.2.dep ≤ D ∧ p.2.Ar
theorem Bd.nil {vs : List Int} {D : Nat} : Bd vs D [] := ⟨⟨fun _ => 0, fun x t e => by cases e⟩, List.nodup_nil, fun _ h => absurd h List.not_mem_nil, fun _ h => absurd h List.not_mem_nil⟩
theorem Bd.len {vs : List Int} {D : Nat} {b : Tab} (h : Bd vs D b) : b.length ≤ vs.length := by
  have h2 : (keysT b).length = b.length := by unfold keysT; rw [List.length_map]
  rw [← h2]
  exact nd_len ⟨h.nd, h.ks⟩
theorem Bd.look {vs : List Int} {D : Nat} {b : Tab} (h : Bd vs D b) {x : Int} {t : T} (e : lookT b x = some t) : t.In vs ∧ t.G ∧ t.dep ≤ D ∧ t.Ar := h.tm _ (lookT_some e)
theorem Bd.fx {vs : List Int} {D : Nat} {b : Tab} (h : Bd vs D b) : ∃ σ, Fx b σ := by obtain ⟨r, ac⟩ := h.ac; exact fx_of ac
theorem Bd.lv {vs : List Int} {D : Nat} {b : Tab} (h : Bd vs D b) (t : T) : Lv b (t.dep + vs.length * (D + 1)) t := by
  obtain ⟨r, ac⟩ := h.ac
  refine (lv_all ac (fun x t e => (h.look e).2.2.1) t).mono ?_
  have := Nat.mul_le_mul_right (D + 1) h.len
  omega
theorem Bd.dep {vs : List Int} {D : Nat} {b : Tab} (h : Bd vs D b) {σ : Sb} (fx : Fx b σ) (t : T) : (sub σ t).dep ≤ t.dep + vs.length * (D + 1) := (h.lv t).dep fx
theorem Lv.gar {vs : List Int} {D : Nat} {b : Tab} (h : Bd vs D b) {σ : Sb} (fx : Fx b σ) {n : Nat} {t : T} (l : Lv b n t) : t.G → t.Ar → (sub σ t).G ∧ (sub σ t).Ar := by
  induction l with
  | u e => intro g a; rw [sub_v, fx.un _ e]; exact ⟨g, a⟩
  | b e _ ih => intro _ _; rw [sub_v, fx.bd _ _ e]; exact ih (h.look e).2.1 (h.look e).2.2.2
  | @a n f as _ ih =>
    intro g a
    rw [sub_a]
    have q : ∀ t, t ∈ as.map (sub σ) → t.G ∧ t.Ar := fun t ht => by
      obtain ⟨u, hu, rfl⟩ := List.mem_map.mp ht
      exact ih u hu (g.parts u hu) (a.parts u hu)
    exact ⟨.a g.nm fun t ht => (q t ht).1, .a (by rw [List.length_map]; exact a.len) fun t ht => (q t ht).2⟩
theorem Bd.bind {vs : List Int} {D : Nat} {b : Tab} (h : Bd vs D b) {x : Int} {t : T} (hx : x ∈ vs) (ht : t.In vs ∧ t.G ∧ t.dep ≤ D ∧ t.Ar) {σ : Sb} (fx : Fx (DL.del b x) σ) (hn : ¬ Oc x (sub σ t)) : Bd vs D (putT b x t) := by
  obtain ⟨r, ac⟩ := h.ac
  refine ⟨ac.bind fx hn, ?_, ?_, fun p hp => ?_⟩
  · cases e : lookT b x with
    | none =>
      rw [keys_new e]
      exact List.nodup_append.mpr ⟨h.nd, by simp, fun a ha c hc => by rw [List.mem_singleton.mp hc]; exact fun z => look_no e (z ▸ ha)⟩
    | some s => rw [keys_old e]; exact h.nd
  · intro y hy
    cases e : lookT b x with
    | none =>
      rw [keys_new e] at hy
      rcases List.mem_append.mp hy with hy | hy
      · exact h.ks y hy
      · rw [List.mem_singleton.mp hy]; exact hx
    | some s => rw [keys_old e] at hy; exact h.ks y hy
  · rcases mem_put hp with hp | hp
    · exact h.tm p hp
    · rw [hp]; exact ht
/-! sizes under renaming -/
theorem size_ren {α : Sb} (t : T) : (∀ x, Oc x t → ∃ y, α x = .v y) → (sub α t).size = t.size ∧ (sub α t).dep = t.dep := by
  refine T.ind (P := fun t => (∀ x, Oc x t → ∃ y, α x = .v y) → (sub α t).size = t.size ∧ (sub α t).dep = t.dep) (fun i h => ?_) (fun f as ih h => ?_) t
  · obtain ⟨y, e⟩ := h i .v
    rw [sub_v, e, size_v, dep_v]
    exact ⟨by rw [size_v], by rw [dep_v]⟩
  · rw [sub_a, size_a, size_a, dep_a, dep_a]
    have q : ∀ l : List T, (∀ t, t ∈ l → (sub α t).size = t.size ∧ (sub α t).dep = t.dep) → T.sizes (l.map (sub α)) = T.sizes l ∧ T.deps (l.map (sub α)) = T.deps l := by
      intro l
      induction l with
      | nil => intro _; exact ⟨rfl, rfl⟩
      | cons a l ihl =>
        intro hl
        have h1 := hl a List.mem_cons_self
        have h2 := ihl fun t ht => hl t (List.mem_cons_of_mem _ ht)
        rw [List.map_cons, T.sizes, T.sizes, T.deps, T.deps, h1.1, h1.2, h2.1, h2.2]
        exact ⟨rfl, rfl⟩
    obtain ⟨h1, h2⟩ := q as fun t ht => ih t ht fun x hx => h x (.a ht hx)
    rw [h1, h2]
    exact ⟨rfl, rfl⟩
theorem num_size (t : T) : (num t).size = t.size ∧ (num t).dep = t.dep := by
  unfold num
  rw [rep_sub]
  refine size_ren t fun x hx => ?_
  obtain ⟨j, hj, _⟩ := numL_look (noteV t []) 0 x ((mem_noteV t []).mpr (.inr hx))
  exact ⟨j, by rw [hj]; rfl⟩
theorem nd_i {vs l : List Int} (okv : OkI vs) (h : NdIn vs l) : OkI l := fun i hi => okv i (h.2 i hi)
theorem nd_vs {vs : List Int} {as : List T} (hi : ∀ t, t ∈ as → t.In vs) {l : List Int} (h : NdIn vs l) : NdIn vs (noteVs as l) := noteVs_nd (fun t ht => noteV_nd (hi t ht)) l h
theorem nd_0 {vs : List Int} : NdIn vs [] := ⟨List.nodup_nil, fun _ h => (List.not_mem_nil h).elim⟩
/-- putting pairs into an empty dict -/
theorem putD_new {kvs : List (Key × D)} {k : Key} {v : D} (h : ∀ p, p ∈ kvs → p.1 ≠ k) : putD kvs k v = kvs ++ [(k, v)] := by
  unfold putD
  rw [if_neg]
  intro q
  obtain ⟨p, hp, e⟩ := List.any_eq_true.mp q
  exact h p hp (by simpa using e)
theorem foldP_tab : ∀ (l : Tab) (acc : Tab), (keysT (acc ++ l)).Nodup → foldP (tD acc) (l.map fun p => .tup [.int p.1, p.2.toD]) = tD (acc ++ l)
  | [], acc, _ => by rw [List.append_nil]; rfl
  | p :: l, acc, nd => by
    have hp : p.1 ∉ keysT acc := by
      intro hm
      unfold keysT at nd hm
      rw [List.map_append, List.nodup_append] at nd
      exact nd.2.2 p.1 hm p.1 List.mem_cons_self rfl
    have e : putP (tD acc) (.tup [.int p.1, p.2.toD]) = tD (acc ++ [p]) := by
      show putD (tD acc) (.inl p.1) p.2.toD = _
      rw [putD_new]
      · unfold tD; rw [List.map_append]; rfl
      · intro q hq eq
        obtain ⟨r, hr, rfl⟩ := List.mem_map.mp hq
        exact hp (List.mem_map.mpr ⟨r, hr, Sum.inl.inj eq⟩)
    show foldP (putP (tD acc) (.tup [.int p.1, p.2.toD])) (l.map _) = _
    rw [e, foldP_tab l (acc ++ [p]) (by rw [List.append_assoc]; exact nd), List.append_assoc]
    rfl
theorem numL_keys : ∀ (k : Nat) (l : List Int), keysT (numL k l) = l
  | _, [] => rfl
  | k, x :: r => by rw [numL]; show x :: keysT (numL (k + 1) r) = _; rw [numL_keys]
theorem numL_at : ∀ (k : Nat) (l : List Int) (i : Nat), (numL k l)[i]? = (l[i]?).map fun x => (x, T.v ((k + i : Nat) : Int))
  | k, [], i => by rw [numL]; rfl
  | k, x :: r, 0 => by rw [numL]; rfl
  | k, x :: r, i + 1 => by
    rw [numL, List.getElem?_cons_succ, List.getElem?_cons_succ, numL_at (k + 1) r i]
    cases r[i]? with
    | none => rfl
    | some y =>
      show some (y, T.v ((k + 1 + i : Nat) : Int)) = some (y, T.v ((k + (i + 1) : Nat) : Int))
      rw [show k + 1 + i = k + (i + 1) by omega]
theorem range_map {α : Type} {n : Nat} {g : Nat → D} {l : List α} {f : α → D} (hn : n = l.length) (h : ∀ i x, l[i]? = some x → g i = f x) : (List.range n).map g = l.map f := by
  apply List.ext_getElem?
  intro i
  rw [List.getElem?_map, List.getElem?_map]
  by_cases hi : i < l.length
  · rw [List.getElem?_range (by omega), List.getElem?_eq_getElem hi]
    exact congrArg some (h i _ (List.getElem?_eq_getElem hi))
  · rw [List.getElem?_eq_none (by rw [List.length_range]; omega), List.getElem?_eq_none (by omega)]
    rfl
def nums (ts : List T) : List T := ts.map (rep (numL 0 (noteVs ts [])))
theorem nums_one (t : T) : nums [t] = [num t] := by
  unfold nums num
  rw [noteVs, noteVs_0]
  rfl
end DL

set_option Elab.async false
set_option linter.all false
set_option maxRecDepth 100000
set_option maxHeartbeats 4000000
namespace DL
open PySem PySem.Spec PyProof.Rows L2
/-! a loop that ends well from here -/
def Wh (ta : M Bool) (f : M Fl) (QF : QFl) (σ : DEnv) (h : DHeap) : Prop := ∃ n, W (whileS ta f n σ h) QF
theorem kWh_mono {f : M Fl} {σ : DEnv} {P P' : DEnv → DHeap → Prop} {Q Q' : QFl} {b : Bool} {h : DHeap} (q : kWh f σ P Q b h) (i : ∀ s h, P s h → P' s h) (j : ∀ fl h, Q fl h → Q' fl h) : kWh f σ P' Q' b h := by
  cases b with
  | false => exact j _ _ q
  | true =>
    refine W_mono (Q := kWb P Q) q fun fl h1 q1 => ?_
    cases fl with
    | nx s => exact i _ _ q1
    | ct s => exact i _ _ q1
    | bk s => exact j _ _ q1
    | rt d => exact j _ _ q1
theorem Wh_step {ta : M Bool} {f : M Fl} {QF : QFl} {σ : DEnv} {h : DHeap} (q : W (ta σ h) (kWh f σ (Wh ta f QF) QF)) : Wh ta f QF σ h := by
  cases e1 : ta σ h with
  | bad => rw [e1] at q; exact q.elim
  | exc _ _ _ => rw [e1] at q; exact q.elim
  | ok b h1 =>
    rw [e1, Z4R] at q
    cases b with
    | false =>
      refine ⟨1, ?_⟩
      unfold whileS
      rw [e1]
      exact q
    | true =>
      rw [k_WhT] at q
      cases e2 : f σ h1 with
      | bad => rw [e2] at q; exact q.elim
      | exc _ _ _ => rw [e2] at q; exact q.elim
      | ok fl h2 =>
        rw [e2, Z4R] at q
        cases fl with
        | nx s =>
          obtain ⟨n, hn⟩ := q
          refine ⟨n + 1, ?_⟩
          unfold whileS
          rw [e1]
          simp only [Res.bind, if_true]
          rw [e2]
          exact hn
        | ct s =>
          obtain ⟨n, hn⟩ := q
          refine ⟨n + 1, ?_⟩
          unfold whileS
          rw [e1]
          simp only [Res.bind, if_true]
          rw [e2]
          exact hn
        | bk s =>
          refine ⟨1, ?_⟩
          unfold whileS
          rw [e1]
          simp only [Res.bind, if_true]
          rw [e2]
          exact q
        | rt d =>
          refine ⟨1, ?_⟩
          unfold whileS
          rw [e1]
          simp only [Res.bind, if_true]
          rw [e2]
          exact q
theorem Wh_while {ta : M Bool} {f : M Fl} {QF : QFl} {σ : DEnv} {h : DHeap} (q : Wh ta f QF σ h) : W (sWhile ta f σ h) QF := by
  obtain ⟨n, hn⟩ := q
  have nb : whileS ta f n σ h ≠ .bad := fun e => by rw [e] at hn; exact hn
  unfold sWhile
  rw [dif_pos ⟨n, nb⟩]
  generalize hc : Classical.choose (⟨n, nb⟩ : ∃ n, whileS ta f n σ h ≠ .bad) = n'
  have nb' : whileS ta f n' σ h ≠ .bad := by rw [← hc]; exact Classical.choose_spec (⟨n, nb⟩ : ∃ n, whileS ta f n σ h ≠ .bad)
  have e1 := whileS_more n n' σ h nb
  have e2 := whileS_more n' n σ h nb'
  rw [Nat.add_comm, e2] at e1
  rw [e1]
  exact hn

/-- what stood there stands there -/
def Old (h h' : DHeap) : Prop := ∀ (i : Nat) (c : Cell), h[i]? = some c → h'[i]? = some c
theorem Old.refl {h : DHeap} : Old h h := fun _ _ e => e
theorem Old.app {h h' g : DHeap} (o : Old h h') : Old h (h' ++ g) := fun i c e => app_at (o i c e)
theorem Old.trans {h h1 h2 : DHeap} (a : Old h h1) (b : Old h1 h2) : Old h h2 := fun i c e => b i c (a i c e)
theorem Old.new {h h' : DHeap} {j : Nat} {c : Cell} (o : Old h h') (hj : h.length ≤ j) : Old h (h'.set j c) := fun i d e => by
  rw [set_no (by have := (List.getElem?_eq_some_iff.mp e).1; omega)]
  exact o i d e
/-! the solver's steps, in plain terms -/
abbrev Pr := T × T
def Eqs (θ : Sb) (p : Pr) : Prop := sub θ p.1 = sub θ p.2
def nvb (b : Tab) : Nat := b.countP fun p => isA p.2
/-- what binding uses up -/
def en (vs : List Int) (b : Tab) : Nat := 2 * (vs.length - b.length) + nvb b
def dpt (σ : Sb) (p : Pr) : Nat := 2 * ((sub σ p.1).dep + (sub σ p.2).dep) + if (isA p.1 && isA p.2) = true then 0 else 1
structure Gd (vs : List Int) (D : Nat) (p : Pr) : Prop where
  l : p.1.In vs ∧ p.1.G ∧ p.1.dep ≤ D ∧ p.1.Ar
  r : p.2.In vs ∧ p.2.G ∧ p.2.dep ≤ D ∧ p.2.Ar
def Ltr (vs : List Int) (b b' : Tab) : Prop := en vs b' < en vs b ∨ b' = b
theorem Ltr.trans {vs : List Int} {a b c : Tab} (h : Ltr vs a b) (h' : Ltr vs b c) : Ltr vs a c := by
  rcases h with h | rfl
  · rcases h' with h' | rfl
    · exact .inl (Nat.lt_trans h' h)
    · exact .inl h
  · exact h'
structure Nxt (vs : List Int) (D : Nat) (b : Tab) (p : Pr) (b' : Tab) (push : List Pr) : Prop where
  bd : Bd vs D b'
  lt : Ltr vs b b'
  gd : ∀ q, q ∈ push → Gd vs D q
  eq : ∀ θ, (Sat θ b ∧ Eqs θ p) ↔ (Sat θ b' ∧ ∀ q, q ∈ push → Eqs θ q)
  dn : b' = b → ∀ σ, Fx b σ → ∀ q, q ∈ push → dpt σ q < dpt σ p
  ln : push.length ≤ 100
structure Aft (vs : List Int) (D : Nat) (b : Tab) (p : Pr) (b' : Tab) : Prop where
  bd : Bd vs D b'
  lt : Ltr vs b b'
  eq : ∀ θ, (Sat θ b ∧ Eqs θ p) ↔ Sat θ b'
def NoU (b : Tab) (p : Pr) : Prop := ∀ θ, Sat θ b → ¬ Eqs θ p
theorem run_stack {vs : List Int} {D : Nat} {ta : M Bool} {f : M Fl} {QF : QFl} {S : Tab → List Pr → DEnv → DHeap → Prop} {Fh : DHeap → Prop} (step : ∀ b stk p σ h, S b (stk ++ [p]) σ h → Bd vs D b → Gd vs D p → stk.length + 100 ≤ 16000000 →
      W (ta σ h) (kWh f σ (fun σ' h' => ∃ b' push, Nxt vs D b p b' push ∧ S b' (stk ++ push) σ' h') (fun fl h' => fl = .rt .non ∧ NoU b p ∧ Fh h'))) :
    ∀ (K : Nat) (hK : 4 * (D + vs.length * (D + 1)) + 1 < K) (N : Nat) (b : Tab) (p : Pr) (σb : Sb), Fx b σb → en vs b * K + dpt σb p < N → Bd vs D b → Gd vs D p → ∀ stk σ h, stk.length + 100 * (en vs b * K + dpt σb p + 1) ≤ 16000000 → S b (stk ++ [p]) σ h →
      (∀ b' σ' h', Aft vs D b p b' → S b' stk σ' h' → Wh ta f QF σ' h') → (NoU b p → ∀ h', Fh h' → QF (.rt .non) h') → Wh ta f QF σ h := by
  intro K hK N
  induction N with
  | zero => intro b p σb _ hm; exact absurd hm (Nat.not_lt_zero _)
  | succ N ih =>
    intro b p σb fx hm bd gd stk σ h hL hS hk hf
    refine Wh_step (W_mono (step b stk p σ h hS bd gd (by omega)) fun t h1 qq => kWh_mono qq (fun σ' h' qq => ?_) fun fl h' qq => ?_)
    · obtain ⟨b', push, nx, hS'⟩ := qq
      have inner : ∀ (n : Nat) (ps : List Pr), ps.length = n → n ≤ 100 → ∀ (b1 : Tab) σ1 h1, Bd vs D b1 → Ltr vs b' b1 → (∀ q, q ∈ ps → q ∈ push) → (∀ θ, (Sat θ b ∧ Eqs θ p) ↔ (Sat θ b1 ∧ ∀ q, q ∈ ps → Eqs θ q)) → S b1 (stk ++ ps) σ1 h1 → Wh ta f QF σ1 h1 := by
        intro n
        induction n with
        | zero =>
          intro ps hn _ b1 σ1 h1 bd1 lt1 _ eq1 hS1
          have hn := List.length_eq_zero_iff.mp hn
          subst hn
          rw [List.append_nil] at hS1
          exact hk b1 σ1 h1 ⟨bd1, nx.lt.trans lt1, fun θ => (eq1 θ).trans ⟨fun z => z.1, fun z => ⟨z, fun _ h => absurd h List.not_mem_nil⟩⟩⟩ hS1
        | succ n ihn =>
          intro ps hn hn2 b1 σ1 h1 bd1 lt1 sub1 eq1 hS1
          have hne : ps ≠ [] := by intro e; rw [e] at hn; cases hn
          obtain ⟨ps0, q, rfl⟩ : ∃ ps0 q, ps = ps0 ++ [q] := ⟨ps.dropLast, ps.getLast hne, (List.dropLast_concat_getLast hne).symm⟩
          have hq : q ∈ push := sub1 q (by simp)
          have gq := nx.gd q hq
          obtain ⟨σ1b, fx1⟩ := bd1.fx
          have dq : dpt σ1b q < K := by
            have h1 := bd1.dep fx1 q.1
            have h2 := bd1.dep fx1 q.2
            have h3 := gq.l.2.2.1
            have h4 := gq.r.2.2.1
            unfold dpt
            split <;> omega
          rw [← List.append_assoc] at hS1
          have dn : en vs b1 * K + dpt σ1b q < en vs b * K + dpt σb p := by
            rcases nx.lt.trans lt1 with hlt | e
            · have : (en vs b1 + 1) * K ≤ en vs b * K := Nat.mul_le_mul_right _ hlt
              rw [Nat.succ_mul] at this
              omega
            · have eb : b' = b := by
                rcases nx.lt with h | h
                · rcases lt1 with h' | h'
                  · rw [e] at h'; omega
                  · rw [← h', e] at h; omega
                · exact h
              subst e
              have hh := nx.dn eb σ1b fx1 q hq
              obtain ⟨r, ac⟩ := bd.ac
              have : dpt σ1b p = dpt σb p := by
                have e2 : ∀ t, sub σ1b t = sub σb t := fun t => sub_congr t fun x _ => fx1.uniq ac fx (r x + 1) x (by omega)
                unfold dpt
                rw [e2, e2]
              omega
          refine ih b1 q σ1b fx1 (by omega) bd1 gq (stk ++ ps0) σ1 h1 (by rw [List.length_append] at hn ⊢; simp only [List.length_cons, List.length_nil] at hn; omega) hS1 (fun b2 σ2 h2 af hS2 => ?_) fun no => ?_
          · refine ihn ps0 (by rw [List.length_append] at hn; simpa using hn) (by omega) b2 σ2 h2 af.bd (lt1.trans af.lt) (fun z hz => sub1 z (List.mem_append_left _ hz)) (fun θ => ?_) hS2
            rw [eq1 θ, ← af.eq θ]
            constructor
            · rintro ⟨z1, z2⟩
              exact ⟨⟨z1, z2 q (by simp)⟩, fun w hw => z2 w (List.mem_append_left _ hw)⟩
            · rintro ⟨⟨z1, z2⟩, z3⟩
              refine ⟨z1, fun w hw => ?_⟩
              rcases List.mem_append.mp hw with hw | hw
              · exact z3 w hw
              · rw [List.mem_singleton.mp hw]; exact z2
          · exact hf fun θ s e => by
              obtain ⟨z1, z2⟩ := (eq1 θ).mp ⟨s, e⟩
              exact no θ z1 (z2 q (by simp))
      exact inner push.length push rfl nx.ln b' σ' h' nx.bd (.inr rfl) (fun _ h => h) nx.eq hS'
    · obtain ⟨rfl, no, fh⟩ := qq
      exact hf no h' fh

/-- the end of a chain of variables -/
inductive Rto (b : Tab) : T → T → Prop
  | app {f as} : Rto b (.a f as) (.a f as)
  | un {x} : lookT b x = none → Rto b (.v x) (.v x)
  | nv {x f as} : lookT b x = some (.a f as) → Rto b (.v x) (.v x)
  | st {x y u} : lookT b x = some (.v y) → Rto b (.v y) u → Rto b (.v x) u
theorem Rto.sat {b : Tab} {t u : T} (h : Rto b t u) {θ : Sb} (s : Sat θ b) : sub θ t = sub θ u := by
  induction h with
  | app => rfl
  | un _ => rfl
  | nv _ => rfl
  | st e _ ih => rw [← ih, sub_v, s _ _ e]
theorem Rto.gd {vs : List Int} {D : Nat} {b : Tab} (bd : Bd vs D b) {t u : T} (h : Rto b t u) : (t.In vs ∧ t.G ∧ t.dep ≤ D ∧ t.Ar) → (u.In vs ∧ u.G ∧ u.dep ≤ D ∧ u.Ar) := by
  induction h with
  | app => exact id
  | un _ => exact id
  | nv _ => exact id
  | st e _ ih => exact fun _ => ih (bd.look e)
theorem Rto.end_ {b : Tab} {t : T} {x : Int} (h : Rto b t (.v x)) : ∀ y, lookT b x ≠ some (.v y) := by
  generalize hu : T.v x = u at h
  induction h with
  | app => cases hu
  | un e => cases hu; intro y; rw [e]; intro z; cases z
  | nv e => cases hu; intro y; rw [e]; intro z; cases z
  | st _ _ ih => exact ih hu
/-! dicts by a list of keys -/
def gDic (g : Int → D) (l : List Int) : List (Key × D) := l.map fun i => (Sum.inl i, g i)
theorem look_gDic (g : Int → D) (x : Int) : ∀ l : List Int, lookD (gDic g l) (.inl x) = if x ∈ l then some (g x) else none
  | [] => rfl
  | y :: l => by
    show lookD ((Sum.inl y, g y) :: gDic g l) _ = _
    rw [lookD_c, look_gDic g x l]
    by_cases e : y = x
    · subst e; rw [if_pos rfl, if_pos List.mem_cons_self]
    · rw [if_neg (fun q => e (Sum.inl.inj q))]
      by_cases h : x ∈ l
      · rw [if_pos h, if_pos (List.mem_cons_of_mem _ h)]
      · rw [if_neg h, if_neg (fun q => (List.mem_cons.mp q).elim (fun z => e z.symm) h)]
theorem put_gDic (g : Int → D) (x : Int) (l : List Int) (h : x ∉ l) : putD (gDic g l) (.inl x) (g x) = gDic g (l ++ [x]) := by
  rw [putD_new]
  · unfold gDic; rw [List.map_append]; rfl
  · intro p hp e
    obtain ⟨y, hy, rfl⟩ := List.mem_map.mp hp
    exact h (by rw [← Sum.inl.inj e]; exact hy)
theorem gDic_len (g : Int → D) (l : List Int) : (gDic g l).length = l.length := by unfold gDic; rw [List.length_map]
theorem vDic_g (l : List Int) : vDic l = gDic (fun _ => .bl true) l := rfl
theorem look_vDic (x : Int) (l : List Int) : (lookD (vDic l) (.inl x)).isSome = decide (x ∈ l) := by
  rw [vDic_g, look_gDic]
  by_cases h : x ∈ l
  · rw [if_pos h, decide_eq_true h]; rfl
  · rw [if_neg h, decide_eq_false h]; rfl
theorem Lv.inn {vs : List Int} {D : Nat} {b : Tab} (h : Bd vs D b) {σ : Sb} (fx : Fx b σ) {n : Nat} {t : T} (l : Lv b n t) : t.In vs → (sub σ t).In vs := by
  induction l with
  | u e => intro g; rw [sub_v, fx.un _ e]; exact g
  | b e _ ih => intro _; rw [sub_v, fx.bd _ _ e]; exact ih (h.look e).1
  | @a n f as _ ih =>
    intro g
    rw [sub_a]
    refine .a fun t ht => ?_
    obtain ⟨u, hu, rfl⟩ := List.mem_map.mp ht
    exact ih u hu (g.parts u hu)
/-! binding, in plain terms -/
theorem nvb_put_new {b : Tab} {x : Int} (h : lookT b x = none) (t : T) : nvb (putT b x t) = nvb b + (if isA t = true then 1 else 0) := by
  unfold nvb
  rw [putT_new h, List.countP_append, List.countP_cons, List.countP_nil]
  simp
theorem nvb_put_old {b : Tab} {x : Int} {s t : T} (nd : (keysT b).Nodup) (h : lookT b x = some s) (hs : isA s = true) (ht : isA t = false) : nvb (putT b x t) + 1 = nvb b := by
  unfold putT
  rw [if_pos (List.any_eq_true.mpr ⟨(x, s), lookT_some h, by simp⟩)]
  have key : ∀ b : Tab, (keysT b).Nodup → lookT b x = some s → nvb (b.map fun p => if p.1 = x then (p.1, t) else p) + 1 = nvb b := by
    intro b
    induction b with
    | nil => intro _ h; cases h
    | cons p b ih =>
      intro nd h
      have nd' : p.1 ∉ keysT b ∧ (keysT b).Nodup := List.nodup_cons.mp nd
      rw [lookT_c] at h
      unfold nvb at ih ⊢
      rw [List.map_cons, List.countP_cons, List.countP_cons]
      by_cases e : p.1 = x
      · rw [if_pos e] at h
        have hp : p.2 = s := Option.some.inj h
        have hb : (b.map fun p => if p.1 = x then (p.1, t) else p) = b := by
          rw [List.map_congr_left (g := id) fun q hq => ?_, List.map_id]
          rw [if_neg]
          · rfl
          · intro z
            exact nd'.1 (by rw [e, ← z]; exact List.mem_map.mpr ⟨q, hq, rfl⟩)
        rw [hb, if_pos e, hp, hs, ht]
        simp
      · rw [if_neg e] at h
        have := ih nd'.2 h
        rw [if_neg e]
        omega
  exact key b nd h
theorem putT_len_new {b : Tab} {x : Int} (h : lookT b x = none) (t : T) : (putT b x t).length = b.length + 1 := by rw [putT_new h, List.length_append]; rfl
theorem putT_len_old {b : Tab} {x : Int} {s : T} (h : lookT b x = some s) (t : T) : (putT b x t).length = b.length := by
  have := congrArg List.length (keys_old h t)
  unfold keysT at this
  rwa [List.length_map, List.length_map] at this
theorem en_new {vs : List Int} {D : Nat} {b : Tab} (bd : Bd vs D b) {x : Int} (hx : x ∈ vs) (h : lookT b x = none) (t : T) : en vs (putT b x t) < en vs b := by
  unfold en
  rw [putT_len_new h, nvb_put_new h]
  have h1 : ((keysT b) ++ [x]).length ≤ vs.length := nd_len ⟨List.nodup_append.mpr ⟨bd.nd, by simp, fun a ha c hc => by rw [List.mem_singleton.mp hc]; exact fun z => look_no h (z ▸ ha)⟩, fun y hy => by
    rcases List.mem_append.mp hy with hy | hy
    · exact bd.ks y hy
    · rw [List.mem_singleton.mp hy]; exact hx⟩
  rw [List.length_append] at h1
  have h2 : (keysT b).length = b.length := by unfold keysT; rw [List.length_map]
  rw [h2] at h1
  simp only [List.length_cons, List.length_nil] at h1
  split <;> omega
theorem en_old {vs : List Int} {D : Nat} {b : Tab} (bd : Bd vs D b) {x : Int} {s t : T} (h : lookT b x = some s) (hs : isA s = true) (ht : isA t = false) : en vs (putT b x t) < en vs b := by
  unfold en
  rw [putT_len_old h]
  have := nvb_put_old bd.nd h hs ht
  omega
def pqD (p : Pr) : D := .tup [p.1.toD, p.2.toD]
/-- the cells that bind may change -/
def Kp2 (B C : Nat) (h h' : DHeap) : Prop := (∀ i c, i ≠ B → i ≠ C → h[i]? = some c → h'[i]? = some c) ∧ h.length ≤ h'.length
theorem Kp2.refl {B C : Nat} {h : DHeap} : Kp2 B C h h := ⟨fun _ _ _ _ e => e, Nat.le_refl _⟩
theorem Kp2.trans {B C : Nat} {h h1 h2 : DHeap} (a : Kp2 B C h h1) (b : Kp2 B C h1 h2) : Kp2 B C h h2 := ⟨fun i c n1 n2 e => b.1 i c n1 n2 (a.1 i c n1 n2 e), Nat.le_trans a.2 b.2⟩
theorem Kp2.app {B C : Nat} {h h1 g : DHeap} (a : Kp2 B C h h1) : Kp2 B C h (h1 ++ g) := ⟨fun i c n1 n2 e => app_at (a.1 i c n1 n2 e), by rw [List.length_append]; have := a.2; omega⟩
theorem Kp2.setB {B C : Nat} {h h1 : DHeap} {d : Cell} (a : Kp2 B C h h1) : Kp2 B C h (h1.set B d) := ⟨fun i c n1 n2 e => by rw [set_no (Ne.symm n1)]; exact a.1 i c n1 n2 e, by rw [List.length_set]; exact a.2⟩
theorem Kp2.setC {B C : Nat} {h h1 : DHeap} {d : Cell} (a : Kp2 B C h h1) : Kp2 B C h (h1.set C d) := ⟨fun i c n1 n2 e => by rw [set_no (Ne.symm n2)]; exact a.1 i c n1 n2 e, by rw [List.length_set]; exact a.2⟩
def BindR (b : Tab) (x : Int) (σ0 : Sb) (u : T) (b' : Tab) (push : List Pr) (ok : Bool) : Prop :=
  (u = .v x ∧ b' = b ∧ push = [] ∧ ok = true) ∨ (∃ s, lookT b x = some s ∧ isA u = true ∧ b' = b ∧ push = [(s, u)] ∧ ok = true) ∨
  (u ≠ .v x ∧ Oc x (sub σ0 u) ∧ ok = false) ∨
  (u ≠ .v x ∧ ¬ Oc x (sub σ0 u) ∧ b' = putT b x u ∧ ok = true ∧ ((lookT b x = none ∧ push = []) ∨ ∃ s, lookT b x = some s ∧ isA u = false ∧ push = [(s, u)]))
theorem pq_ne (stk : List Pr) (p : Pr) : (!(List.map pqD (stk ++ [p])).isEmpty) = true := by simp
theorem pq_last (stk : List Pr) (p : Pr) : (List.map pqD (stk ++ [p]))[(List.map pqD (stk ++ [p])).length - 1]? = some (pqD p) := by simp
theorem pq_init (stk : List Pr) (p : Pr) : (List.map pqD (stk ++ [p])).dropLast = stk.map pqD := by simp
theorem T.Ok.ar {vs : List Int} {t : T} (h : t.Ok vs) : t.Ar := by
  induction h with
  | v _ => exact .v
  | a _ hl _ ih => exact .a (by omega) ih
theorem nxt_bind {vs : List Int} {D : Nat} {b : Tab} {r : Int → Nat} {σ0 : Sb} {x : Int} {u : T} {p : Pr} {b' : Tab} {push : List Pr} (bd : Bd vs D b) (ac : Acy b r) (fx : Fx (DL.del b x) σ0) (hx : x ∈ vs) (gu : u.In vs ∧ u.G ∧ u.dep ≤ D ∧ u.Ar)
    (eqp : ∀ θ, Sat θ b → (Eqs θ p ↔ θ x = sub θ u)) (pv : (isA p.1 && isA p.2) = false) (hdp : ∀ σ, Sat σ b → (sub σ p.1).dep + (sub σ p.2).dep = (σ x).dep + (sub σ u).dep) (xe : ∀ y, lookT b x ≠ some (.v y)) (R : BindR b x σ0 u b' push true) : Nxt vs D b p b' push := by
  have sA : ∀ s, lookT b x = some s → isA s = true := fun s e => by
    cases s with
    | v y => exact (xe y e).elim
    | a _ _ => rfl
  rcases R with ⟨rfl, rfl, rfl, _⟩ | ⟨s, es, hu, rfl, rfl, _⟩ | ⟨_, _, z⟩ | ⟨c, no, rfl, _, q⟩
  · refine ⟨bd, .inr rfl, fun q h => absurd h List.not_mem_nil, fun θ => ⟨fun z => ⟨z.1, fun q h => absurd h List.not_mem_nil⟩, fun z => ⟨z.1, (eqp θ z.1).mpr (by rw [sub_v])⟩⟩, fun _ _ _ q h => absurd h List.not_mem_nil, Nat.zero_le _⟩
  · refine ⟨bd, .inr rfl, fun q h => ?_, fun θ => ⟨fun z => ⟨z.1, fun q h => ?_⟩, fun z => ⟨z.1, ?_⟩⟩, fun _ σ fxs q h => ?_, by simp⟩
    · rw [List.mem_singleton.mp h]; exact ⟨bd.look es, gu⟩
    · rw [List.mem_singleton.mp h]
      show sub θ s = sub θ u
      rw [← z.1 x s es]; exact (eqp θ z.1).mp z.2
    · rw [eqp θ z.1, z.1 x s es]
      exact z.2 (s, u) (List.mem_singleton.mpr rfl)
    · rw [List.mem_singleton.mp h]
      have := hdp σ fxs.sat
      rw [fxs.bd x s es] at this
      unfold dpt
      rw [pv, this]
      simp only [sA s es, hu, Bool.and_self, if_true, Bool.false_eq_true, if_false]
      omega
  · cases z
  · have lt : en vs (putT b x u) < en vs b := by
      rcases q with ⟨el, _⟩ | ⟨s, el, hu, _⟩
      · exact en_new bd hx el u
      · exact en_old bd el (sA s el) hu
    refine ⟨bd.bind hx gu fx no, .inl lt, ?_, fun θ => ?_, fun e => by rw [e] at lt; exact absurd lt (Nat.lt_irrefl _), ?_⟩
    · rcases q with ⟨_, rfl⟩ | ⟨s, el, hu, rfl⟩
      · exact fun q h => absurd h List.not_mem_nil
      · exact fun q h => by rw [List.mem_singleton.mp h]; exact ⟨bd.look el, gu⟩
    · rcases q with ⟨el, rfl⟩ | ⟨s, el, hu, rfl⟩
      · rw [Sat.put el]
        exact ⟨fun z => ⟨⟨z.1, (eqp θ z.1).mp z.2⟩, fun q h => absurd h List.not_mem_nil⟩, fun z => ⟨z.1.1, (eqp θ z.1.1).mpr z.1.2⟩⟩
      · constructor
        · rintro ⟨z1, z2⟩
          obtain ⟨w1, w2⟩ := (Sat.rebind el).mpr ⟨z1, (eqp θ z1).mp z2⟩
          exact ⟨w1, fun q h => by rw [List.mem_singleton.mp h]; exact w2⟩
        · rintro ⟨z1, z2⟩
          obtain ⟨w1, w2⟩ := (Sat.rebind el).mp ⟨z1, z2 (s, u) (List.mem_singleton.mpr rfl)⟩
          exact ⟨w1, (eqp θ w1).mpr w2⟩
    · rcases q with ⟨_, rfl⟩ | ⟨s, _, _, rfl⟩ <;> simp
theorem no_bind {b : Tab} {r : Int → Nat} {σ0 : Sb} {x : Int} {u : T} {p : Pr} {b' : Tab} {push : List Pr} (ac : Acy b r) (fx : Fx (DL.del b x) σ0)
    (eqp : ∀ θ, Sat θ b → (Eqs θ p ↔ θ x = sub θ u)) (ue : ∀ y z, u = .v y → lookT b y ≠ some (.v z)) (R : BindR b x σ0 u b' push false) : NoU b p := by
  rcases R with ⟨_, _, _, z⟩ | ⟨_, _, _, _, _, z⟩ | ⟨c, ho, _⟩ | ⟨_, _, _, z, _⟩
  · cases z
  · cases z
  · intro θ s e
    refine occ_no ac fx s ho ?_ ((eqp θ s).mp e)
    cases u with
    | a f as => rw [sub_a]; intro z; cases z
    | v y =>
      have hy : y ≠ x := fun z => c (by rw [z])
      have ld : lookT (DL.del b x) y = lookT b y := by rw [lookT_del, if_neg hy]
      rw [sub_v]
      cases el : lookT b y with
      | none =>
        rw [fx.un y (by rw [ld]; exact el)]
        intro z
        cases z
        exact hy rfl
      | some w =>
        cases w with
        | v z => exact (ue y z rfl el).elim
        | a f as =>
          rw [fx.bd y _ (by rw [ld]; exact el), sub_a]
          intro z
          cases z
  · cases z
theorem map_zip {s : Sb} : ∀ {as bs : List T}, as.length = bs.length → (as.map (sub s) = bs.map (sub s) ↔ ∀ q, q ∈ as.zip bs → Eqs s q)
  | [], [], _ => by simp
  | a :: as, b :: bs, h => by
    rw [List.map_cons, List.map_cons, List.zip_cons_cons]
    constructor
    · intro e q hq
      obtain ⟨e1, e2⟩ := List.cons.inj e
      rcases List.mem_cons.mp hq with rfl | hq
      · exact e1
      · exact (map_zip (by simpa using h)).mp e2 q hq
    · intro e
      rw [(map_zip (by simpa using h)).mpr fun q hq => e q (List.mem_cons_of_mem _ hq), show sub s a = sub s b from e (a, b) List.mem_cons_self]
  | [], _ :: _, h => by cases h
  | _ :: _, [], h => by cases h
theorem nxt_dec {vs : List Int} {D : Nat} {b : Tab} {p : Pr} {f : Str} {as bs : List T} (bd : Bd vs D b) (h1 : Rto b p.1 (.a f as)) (h2 : Rto b p.2 (.a f bs)) (g1 : (T.a f as).In vs ∧ (T.a f as).G ∧ (T.a f as).dep ≤ D ∧ (T.a f as).Ar) (g2 : (T.a f bs).In vs ∧ (T.a f bs).G ∧ (T.a f bs).dep ≤ D ∧ (T.a f bs).Ar) (hl : as.length = bs.length) : Nxt vs D b p b (as.zip bs) := by
  have part : ∀ {f : Str} {as : List T}, ((T.a f as).In vs ∧ (T.a f as).G ∧ (T.a f as).dep ≤ D ∧ (T.a f as).Ar) → ∀ t, t ∈ as → t.In vs ∧ t.G ∧ t.dep ≤ D ∧ t.Ar := fun {f as} g t ht => by
    have := deps_le ht
    have h := g.2.2.1
    rw [dep_a] at h
    exact ⟨g.1.parts t ht, g.2.1.parts t ht, by omega, g.2.2.2.parts t ht⟩
  refine ⟨bd, .inr rfl, fun q hq => ⟨part g1 _ (List.of_mem_zip hq).1, part g2 _ (List.of_mem_zip hq).2⟩, fun θ => ?_, fun _ σ fx q hq => ?_, ?_⟩
  · refine and_congr_right fun s => ?_
    unfold Eqs
    rw [h1.sat s, h2.sat s, sub_a, sub_a]
    exact ⟨fun e => (map_zip hl).mp (T.a_inj e).2, fun e => by rw [(map_zip hl).mpr e]⟩
  · obtain ⟨m1, m2⟩ := List.of_mem_zip hq
    have d1 : (sub σ p.1).dep = 1 + T.deps (as.map (sub σ)) := by rw [h1.sat fx.sat, sub_a, dep_a]
    have d2 : (sub σ p.2).dep = 1 + T.deps (bs.map (sub σ)) := by rw [h2.sat fx.sat, sub_a, dep_a]
    have e1 := deps_le (List.mem_map.mpr ⟨q.1, m1, rfl⟩ : sub σ q.1 ∈ as.map (sub σ))
    have e2 := deps_le (List.mem_map.mpr ⟨q.2, m2, rfl⟩ : sub σ q.2 ∈ bs.map (sub σ))
    unfold dpt
    rw [d1, d2]
    split <;> split <;> omega
  · rw [List.length_zip]
    have := g1.2.2.2.len
    omega
theorem no_dec {b : Tab} {p : Pr} {f g : Str} {as bs : List T} (h1 : Rto b p.1 (.a f as)) (h2 : Rto b p.2 (.a g bs)) (h : ¬ (f = g ∧ as.length = bs.length)) : NoU b p := fun θ s e => by
  unfold Eqs at e
  rw [h1.sat s, h2.sat s, sub_a, sub_a] at e
  obtain ⟨e1, e2⟩ := T.a_inj e
  exact h ⟨e1, by have := congrArg List.length e2; simpa using this⟩
theorem Rto.nvar {b : Tab} {f : Str} {as : List T} {u : T} (h : Rto b (.a f as) u) : u = .a f as := by cases h; rfl
theorem Rto.var {b : Tab} {t : T} {x : Int} (h : Rto b t (.v x)) : isA t = false := by
  cases t with
  | v _ => rfl
  | a f as => have := h.nvar; cases this
theorem put_gDic2 (g : Int → D) (x : Int) (l : List Int) : putD (gDic g l) (.inl x) (g x) = gDic g (insI x l) := by
  unfold insI
  by_cases h : x ∈ l
  · rw [if_pos h]
    unfold putD
    rw [if_pos]
    · unfold gDic
      rw [List.map_map]
      refine List.map_congr_left fun y _ => ?_
      simp only [Function.comp]
      split
      · rename_i e; rw [Sum.inl.inj e]
      · rfl
    · exact List.any_eq_true.mpr ⟨_, List.mem_map.mpr ⟨x, h, rfl⟩, by simp⟩
  · rw [if_neg h, put_gDic g x l h]
/-- a most general unifier -/
structure Mg (σ : Sb) (l r : T) : Prop where
  e : sub σ l = sub σ r
  m : ∀ θ, sub θ l = sub θ r → ∀ t, sub θ (sub σ t) = sub θ t
theorem Mg.num {σ σ' : Sb} {l r : T} (h : Mg σ l r) (h' : Mg σ' l r) : DL.num (sub σ l) = DL.num (sub σ' l) := num_var (α := σ') (β := σ) (h.m σ' h'.e l).symm (h'.m σ h.e l).symm
theorem Mg.size {σ σ' : Sb} {l r : T} (h : Mg σ l r) (h' : Mg σ' l r) : (sub σ l).size = (sub σ' l).size ∧ (sub σ l).dep = (sub σ' l).dep := by
  have h1 := num_size (sub σ l)
  have h2 := num_size (sub σ' l)
  rw [h.num h'] at h1
  exact ⟨h1.1.symm.trans h2.1, h1.2.symm.trans h2.2⟩
end DL

set_option Elab.async false
set_option linter.all false
set_option maxRecDepth 100000
set_option maxHeartbeats 4000000
namespace DL
open PySem PySem.Spec PyProof.Rows L2
/-- the end of a chain of bindings -/
inductive Rte (b : Tab) : T → T → Prop
  | app {f as} : Rte b (.a f as) (.a f as)
  | un {x} : lookT b x = none → Rte b (.v x) (.v x)
  | st {x s u} : lookT b x = some s → Rte b s u → Rte b (.v x) u
theorem Rte.sat {b : Tab} {t u : T} (h : Rte b t u) {θ : Sb} (s : Sat θ b) : sub θ t = sub θ u := by
  induction h with
  | app => rfl
  | un _ => rfl
  | st e _ ih => rw [← ih, sub_v, s _ _ e]
theorem Rte.gd {vs : List Int} {D : Nat} {b : Tab} (bd : Bd vs D b) {t u : T} (h : Rte b t u) : (t.In vs ∧ t.G ∧ t.dep ≤ D ∧ t.Ar) → (u.In vs ∧ u.G ∧ u.dep ≤ D ∧ u.Ar) := by
  induction h with
  | app => exact id
  | un _ => exact id
  | st e _ ih => exact fun _ => ih (bd.look e)
theorem Rte.end_ {b : Tab} {t : T} {x : Int} (h : Rte b t (.v x)) : lookT b x = none := by
  generalize hu : T.v x = u at h
  induction h with
  | app => cases hu
  | un e => cases hu; exact e
  | st _ _ ih => exact ih hu
theorem Rte.lv {b : Tab} {t u : T} (h : Rte b t u) : ∀ {n : Nat}, Lv b n t → Lv b n u := by
  induction h with
  | app => exact id
  | un _ => exact id
  | st e _ ih =>
    intro n l
    cases l with
    | u e2 => rw [e] at e2; cases e2
    | b e2 l => rw [e] at e2; cases e2; exact (ih l).mono (Nat.le_succ _)
def rkT (r : Int → Nat) : T → Nat
  | .v x => r x + 1
  | .a _ _ => 0
theorem cnt_next {b : Tab} {r : Int → Nat} (ac : Acy b r) {x : Int} {s : T} (e : lookT b x = some s) : cnt r (keysT b) (rkT r s) + 1 ≤ cnt r (keysT b) (r x + 1) := by
  refine Nat.le_trans (Nat.succ_le_succ (cnt_mono ?_ (keysT b))) (cnt_step (Nat.lt_succ_self (r x)) (keysT b) (look_key e))
  cases s with
  | v y => exact ac x _ e y .v
  | a _ _ => exact Nat.zero_le _
def Ex (b b' : Tab) : Prop := ∀ x t, lookT b x = some t → lookT b' x = some t
theorem Ex.refl {b : Tab} : Ex b b := fun _ _ e => e
theorem Ex.trans {a b c : Tab} (h : Ex a b) (h' : Ex b c) : Ex a c := fun x t e => h' x t (h x t e)
theorem Ex.put {b : Tab} {x : Int} (h : lookT b x = none) (t : T) : Ex b (putT b x t) := fun y u e => by
  rw [lookT_put, if_neg (fun z => by rw [z, h] at e; cases e)]
  exact e
theorem Ex.sat {b b' : Tab} (h : Ex b b') {θ : Sb} (s : Sat θ b') : Sat θ b := fun x t e => s x t (h x t e)
theorem occ_no' {θ : Sb} {b : Tab} {x : Int} {t : T} {σ : Sb} {r : Int → Nat} (ac : Acy b r) (hx : lookT b x = none) (h : Fx b σ) (s : Sat θ b) (ho : Oc x (sub σ t)) (hn : sub σ t ≠ .v x) : θ x ≠ sub θ t :=
  occ_no ac (h.congr fun y => (del_id hx y).symm) s ho hn
theorem Bd.bind' {vs : List Int} {D : Nat} {b : Tab} (h : Bd vs D b) {x : Int} {t : T} (hx : x ∈ vs) (ht : t.In vs ∧ t.G ∧ t.dep ≤ D ∧ t.Ar) (el : lookT b x = none) {σ : Sb} (fx : Fx b σ) (hn : ¬ Oc x (sub σ t)) : Bd vs D (putT b x t) :=
  h.bind hx ht (fx.congr fun y => (del_id el y).symm) hn
theorem eq_take {θ : Sb} {as bs : List T} (hl : as.length = bs.length) {k : Nat} {a b : T} (ea : as[k]? = some a) (eb : bs[k]? = some b) : (∀ q, q ∈ (as.zip bs).take (k + 1) → Eqs θ q) ↔ (∀ q, q ∈ (as.zip bs).take k → Eqs θ q) ∧ sub θ a = sub θ b := by
  have e3 : (as.zip bs)[k]? = some (a, b) := by rw [List.getElem?_zip_eq_some]; exact ⟨ea, eb⟩
  rw [List.take_add_one, e3, Option.toList_some]
  constructor
  · intro h
    exact ⟨fun q hq => h q (List.mem_append_left _ hq), h (a, b) (List.mem_append_right _ (List.mem_singleton.mpr rfl))⟩
  · rintro ⟨h1, h2⟩ q hq
    rcases List.mem_append.mp hq with hq | hq
    · exact h1 q hq
    · rw [List.mem_singleton.mp hq]; exact h2
/-- a drawn table: its keys among V -/
structure TabOk (V : List Int) (tab : Tab) : Prop where
  nd : (keysT tab).Nodup
  ks : ∀ x, x ∈ keysT tab → x ∈ V
  tm : ∀ p, p ∈ tab → p.2.G ∧ p.2.dep ≤ 60
theorem TabOk.nil {V : List Int} : TabOk V [] := ⟨List.nodup_nil, fun _ h => absurd h List.not_mem_nil, fun _ h => absurd h List.not_mem_nil⟩
theorem TabOk.put {V : List Int} {tab : Tab} (h : TabOk V tab) {x : Int} {t : T} (hx : x ∈ V) (g : t.G) (d : t.dep ≤ 60) (e : lookT tab x = none) : TabOk V (putT tab x t) := by
  refine ⟨?_, fun y hy => ?_, fun p hp => ?_⟩
  · rw [keys_new e]
    exact List.nodup_append.mpr ⟨h.nd, by simp, fun a ha c hc => by rw [List.mem_singleton.mp hc]; exact fun z => look_no e (z ▸ ha)⟩
  · rw [keys_new e] at hy
    rcases List.mem_append.mp hy with hy | hy
    · exact h.ks y hy
    · rw [List.mem_singleton.mp hy]; exact hx
  · rcases mem_put hp with hp | hp
    · exact h.tm p hp
    · rw [hp]; exact ⟨g, d⟩
theorem Tape.setn {i f : Nat} {h : DHeap} {kvs : List (Key × D)} (t : Tape h i) (hf : f ≠ i) (hd : ∃ l, h[f]? = some (.dic l) := by exact ⟨_, by assumption⟩) : Tape (h.set f (.dic kvs)) i := by
  obtain ⟨j, ns, a, b, c, h1, h2, r⟩ := t
  obtain ⟨l, hd⟩ := hd
  refine ⟨j, ns, a, b, c, by rw [set_no hf]; exact h1, ?_, r⟩
  rw [set_no (fun z => by rw [z, h2] at hd; cases hd)]
  exact h2
theorem T.In.mono {us V : List Int} {t : T} (h : t.In us) (i : ∀ x, x ∈ us → x ∈ V) : t.In V := by
  induction h with
  | v h => exact .v (i _ h)
  | a _ ih => exact .a ih
theorem G.sub {σ : Sb} (t : T) : t.G → (∀ x, Oc x t → (σ x).G) → (DL.sub σ t).G := by
  refine T.ind (P := fun t => t.G → (∀ x, Oc x t → (σ x).G) → (DL.sub σ t).G) (fun i _ h => ?_) (fun f as ih g h => ?_) t
  · rw [sub_v]; exact h i .v
  · rw [sub_a]
    refine .a g.nm fun u hu => ?_
    obtain ⟨t, ht, rfl⟩ := List.mem_map.mp hu
    exact ih t ht (g.parts t ht) fun x hx => h x (.a ht hx)
theorem num_ok {V : List Int} {t : T} (hV : V.length ≤ 100000) (hi : t.In V) (g : t.G) (a : t.Ar) : (num t).G ∧ (num t).Ar := by
  have nd : NdIn V (noteV t []) := noteV_nd hi [] nd_0
  have hl := nd_len nd
  have key : ∀ x, Oc x t → ∃ j : Nat, (lookT (numL 0 (noteV t [])) x).getD (.v x) = .v j ∧ j < 100000 := fun x hx => by
    obtain ⟨j, hj, _, h3⟩ := numL_look (noteV t []) 0 x ((mem_noteV t []).mpr (.inr hx))
    exact ⟨j, by rw [hj]; rfl, by omega⟩
  unfold num
  rw [rep_sub]
  refine ⟨G.sub t g fun x hx => ?_, Ar.sub a fun x hx => ?_⟩
  · obtain ⟨j, e, h⟩ := key x hx
    rw [e]; exact .v (by omega) (by omega)
  · obtain ⟨j, e, _⟩ := key x hx
    rw [e]; exact .v
theorem cut_take (l : List Int) (n : Nat) : cutL (l.map D.int) none (some (n : Int)) = (l.take n).map D.int := by
  unfold cutL
  rw [HT.sIx_none, HT.sIx_nat, List.drop_zero, Nat.sub_zero, List.length_map, List.map_take]
  by_cases h : n ≤ l.length
  · rw [Nat.min_eq_left h]
  · rw [Nat.min_eq_right (by omega), List.take_of_length_le (by simp), List.take_of_length_le (by simp; omega)]
theorem isNon_T (t : T) : isNon t.toD = false := by
  cases t with
  | v i => rw [toD_v]; rfl
  | a f as => rw [toD_a]; rfl
theorem size_ar (t : T) : t.Ar → ∀ n, t.dep ≤ n → t.size ≤ 101 ^ n := by
  refine T.ind (P := fun t => t.Ar → ∀ n, t.dep ≤ n → t.size ≤ 101 ^ n) (fun i _ n _ => by rw [size_v]; exact Nat.pow_pos (by decide)) (fun f as ih ha n hd => ?_) t
  rw [dep_a] at hd
  obtain ⟨m, rfl⟩ : ∃ m, n = m + 1 := ⟨n - 1, by omega⟩
  rw [size_a, Nat.pow_succ]
  have h1 := sizes_of (l := as) (n := 101 ^ m) fun t ht => ih t ht (ha.parts t ht) m (by have := deps_le ht; omega)
  have h2 : as.length * 101 ^ m ≤ 100 * 101 ^ m := Nat.mul_le_mul_right _ ha.len
  have h3 : 0 < 101 ^ m := Nat.pow_pos (by decide)
  omega
end DL

set_option Elab.async false
set_option linter.all false
set_option maxRecDepth 100000
set_option maxHeartbeats 4000000
namespace DL
open PySem PySem.Spec PyProof.Rows L2
/-- a table as a substitution -/
def tS (tab : Tab) : Sb := fun x => (lookT tab x).getD (.v x)
theorem tS_some {tab : Tab} {x : Int} {t : T} (h : lookT tab x = some t) : tS tab x = t := by unfold tS; rw [h]; rfl
theorem tS_none {tab : Tab} {x : Int} (h : lookT tab x = none) : tS tab x = .v x := by unfold tS; rw [h]; rfl
theorem no_key {tab : Tab} {x : Int} (h : x ∉ keysT tab) : lookT tab x = none := by
  cases e : lookT tab x with
  | none => rfl
  | some t => exact (h (look_yes e)).elim
theorem rep_tS (tab : Tab) (t : T) : rep tab t = sub (tS tab) t := rep_sub tab t
/-- what a drawn term with variables put in is -/
def Blur (us : List Int) (t u : T) (tab : Tab) : Prop := (∀ y, y ∈ us → ¬ Oc y t) → sub (tS tab) u = t ∧ ∀ x, Oc x u → x ∈ keysT tab ∨ Oc x t
theorem Blur.later {us : List Int} {t u : T} {tab tab' : Tab} (h : Blur us t u tab) (ex : Ex tab tab') (hk : ∀ x, x ∈ keysT tab' → x ∈ us) : Blur us t u tab' := fun hd => by
  obtain ⟨h1, h2⟩ := h hd
  have key : ∀ x, x ∈ keysT tab → x ∈ keysT tab' := fun x hx => by
    obtain ⟨s, hs⟩ := look_mem hx
    exact look_yes (ex x s hs)
  refine ⟨?_, fun x hx => (h2 x hx).imp (key x) id⟩
  rw [← h1]
  refine sub_congr u fun x hx => ?_
  rcases h2 x hx with hx | hx
  · obtain ⟨s, hs⟩ := look_mem hx
    rw [tS_some hs, tS_some (ex x s hs)]
  · have h3 : x ∉ keysT tab' := fun z => hd x (hk x z) hx
    rw [tS_none (no_key h3), tS_none (no_key fun z => h3 (key x z))]
theorem Blur.self {us : List Int} {t : T} {tab : Tab} (hk : ∀ x, x ∈ keysT tab → x ∈ us) : Blur us t t tab := fun hd => by
  refine ⟨?_, fun x hx => .inr hx⟩
  have e : sub (tS tab) t = sub T.v t := sub_congr t fun x hx => tS_none (no_key fun z => hd x (hk x z) hx)
  rw [e, sub_id]
theorem Blur.var {us : List Int} {t : T} {tab : Tab} {x : Int} (h : lookT tab x = some t) : Blur us t (.v x) tab := fun _ => ⟨by rw [sub_v, tS_some h], fun y hy => .inl (by rw [oc_v.mp hy]; exact look_yes h)⟩
theorem Blur.app {us : List Int} {f : Str} {as ts : List T} {tab : Tab} (hl : ts.length = as.length) (h : ∀ (i : Nat) (t u : T), as[i]? = some t → ts[i]? = some u → Blur us t u tab) : Blur us (.a f as) (.a f ts) tab := fun hd => by
  have hd' : ∀ t, t ∈ as → ∀ y, y ∈ us → ¬ Oc y t := fun t ht y hy z => hd y hy (.a ht z)
  constructor
  · rw [sub_a]
    congr 1
    apply List.ext_getElem?
    intro i
    rw [List.getElem?_map]
    cases e : ts[i]? with
    | none =>
      rw [Option.map_none]
      exact (List.getElem?_eq_none (by rw [← hl]; exact List.getElem?_eq_none_iff.mp e)).symm
    | some u =>
      have hi : i < as.length := by rw [← hl]; exact (List.getElem?_eq_some_iff.mp e).1
      rw [List.getElem?_eq_getElem hi, Option.map_some]
      exact congrArg some (h i _ u (List.getElem?_eq_getElem hi) e (hd' _ (List.getElem_mem hi))).1
  · intro x hx
    obtain ⟨u, hu, ho⟩ := oc_a.mp hx
    obtain ⟨i, hi, rfl⟩ := List.mem_iff_getElem.mp hu
    have hi2 : i < as.length := by rw [← hl]; exact hi
    rcases (h i _ _ (List.getElem?_eq_getElem hi2) (List.getElem?_eq_getElem hi) (hd' _ (List.getElem_mem hi2))).2 x ho with q | q
    · exact .inl q
    · exact .inr (.a (List.getElem_mem hi2) q)
theorem w_ne {x y : D} {h : DHeap} {b : Bool} (q : ∀ {Q : QD}, W (eqD x y h) Q = Q (.bl b) h) {Q : QD} : W (neD x y h) Q = Q (.bl (!b)) h := by
  have key : W (neD x y h) Q = W (eqD x y h) (fun d h' => match d with | .bl b => Q (.bl (!b)) h' | _ => False) := by
    unfold neD eqD
    cases scalD x y with
    | some b => rfl
    | none =>
      cases seen h x with
      | none => rfl
      | some x' =>
        cases seen h y with
        | none => rfl
        | some y' => dsimp only; split <;> rfl
  rw [key, q]
theorem o_neT {u t : T} {h : DHeap} {Q : QD} (hu : okP u.toD = true) (ht : okP t.toD = true) : W (neD u.toD t.toD h) Q = Q (.bl (!decide (u = t))) h := by
  rw [w_ne (o_eqT hu ht), eqB_dec]
/-! sizes of instances -/
theorem size_sub (s : Sb) (t : T) : t.size ≤ (sub s t).size ∧ t.dep ≤ (sub s t).dep := by
  refine T.ind (P := fun t => t.size ≤ (sub s t).size ∧ t.dep ≤ (sub s t).dep) (fun i => ?_) (fun f as ih => ?_) t
  · rw [size_v, dep_v]; exact ⟨size_pos _, dep_pos _⟩
  · rw [sub_a, size_a, size_a, dep_a, dep_a]
    have q : ∀ l : List T, (∀ t, t ∈ l → t.size ≤ (sub s t).size ∧ t.dep ≤ (sub s t).dep) → T.sizes l ≤ T.sizes (l.map (sub s)) ∧ T.deps l ≤ T.deps (l.map (sub s)) := by
      intro l
      induction l with
      | nil => intro _; exact ⟨Nat.le_refl _, Nat.le_refl _⟩
      | cons a l ihl =>
        intro hl
        have h1 := hl a List.mem_cons_self
        have h2 := ihl fun t ht => hl t (List.mem_cons_of_mem _ ht)
        rw [List.map_cons, T.sizes, T.sizes, T.deps, T.deps]
        omega
    have := q as ih
    omega
theorem Mg.le {σ θ : Sb} {l r : T} (h : Mg σ l r) (e : sub θ l = sub θ r) : (sub σ l).size ≤ (sub θ l).size ∧ (sub σ l).dep ≤ (sub θ l).dep := by
  have := size_sub θ (sub σ l)
  rw [h.m θ e l] at this
  exact this
/-! matching is told by a substitution -/
theorem lookT_app {l : Tab} {i : Int} {t : T} (h : lookT l i = none) (j : Int) : lookT (l ++ [(i, t)]) j = if j = i then some t else lookT l j := by
  rw [← putT_new h, lookT_put]
theorem mt_some {θ : Sb} (p : T) : ∀ (t : T) (l : Tab), sub θ p = t → (∀ x s, lookT l x = some s → θ x = s) → (mt p t l).1 = true ∧ (∀ x s, lookT (mt p t l).2 x = some s → θ x = s) ∧ Ex l (mt p t l).2 := by
  refine T.ind (P := fun p => ∀ (t : T) (l : Tab), sub θ p = t → (∀ x s, lookT l x = some s → θ x = s) → (mt p t l).1 = true ∧ (∀ x s, lookT (mt p t l).2 x = some s → θ x = s) ∧ Ex l (mt p t l).2) (fun i t l e hl => ?_) (fun f as ih t l e hl => ?_) p
  · rw [sub_v] at e
    rw [mt_v]
    cases q : lookT l i with
    | some u =>
      refine ⟨?_, hl, Ex.refl⟩
      show (eqB u t, l).1 = true
      simp only [eqB_dec, decide_eq_true_eq]
      rw [← hl i u q]
      exact e
    | none =>
      refine ⟨rfl, fun x s h => ?_, fun x s h => ?_⟩
      · rw [lookT_app q] at h
        split at h
        · rename_i z; cases h; rw [z]; exact e
        · exact hl x s h
      · rw [lookT_app q, if_neg (fun z => by rw [z, q] at h; cases h)]
        exact h
  · rw [sub_a] at e
    subst e
    rw [mt_aa, if_pos ⟨rfl, by rw [List.length_map]⟩]
    have key : ∀ (as : List T), (∀ p, p ∈ as → ∀ (t : T) (l : Tab), sub θ p = t → (∀ x s, lookT l x = some s → θ x = s) → (mt p t l).1 = true ∧ (∀ x s, lookT (mt p t l).2 x = some s → θ x = s) ∧ Ex l (mt p t l).2) → ∀ l : Tab, (∀ x s, lookT l x = some s → θ x = s) →
        (mts as (as.map (sub θ)) l).1 = true ∧ (∀ x s, lookT (mts as (as.map (sub θ)) l).2 x = some s → θ x = s) ∧ Ex l (mts as (as.map (sub θ)) l).2 := by
      intro as
      induction as with
      | nil => intro _ l hl; rw [List.map_nil, mts_0]; exact ⟨rfl, hl, Ex.refl⟩
      | cons a as iha =>
        intro h l hl
        obtain ⟨h1, h2, h3⟩ := h a List.mem_cons_self (sub θ a) l rfl hl
        rw [List.map_cons, mts_c, if_pos h1]
        obtain ⟨q1, q2, q3⟩ := iha (fun p hp => h p (List.mem_cons_of_mem _ hp)) _ h2
        exact ⟨q1, q2, h3.trans q3⟩
    exact key as ih l hl
theorem mt_sound (p : T) : ∀ (t : T) (l : Tab), (mt p t l).1 = true → (∀ x, Oc x p → x ∈ keysT (mt p t l).2) ∧ Ex l (mt p t l).2 ∧ sub (tS (mt p t l).2) p = t := by
  refine T.ind (P := fun p => ∀ (t : T) (l : Tab), (mt p t l).1 = true → (∀ x, Oc x p → x ∈ keysT (mt p t l).2) ∧ Ex l (mt p t l).2 ∧ sub (tS (mt p t l).2) p = t) (fun i t l h => ?_) (fun f as ih t l h => ?_) p
  · rw [mt_v] at h ⊢
    cases q : lookT l i with
    | some u =>
      rw [q] at h
      simp only at h ⊢
      rw [eqB_dec, decide_eq_true_eq] at h
      exact ⟨fun x hx => by rw [oc_v.mp hx]; exact look_yes q, Ex.refl, by rw [sub_v, tS_some q, h]⟩
    | none =>
      have e : lookT (l ++ [(i, t)]) i = some t := by rw [lookT_app q, if_pos rfl]
      exact ⟨fun x hx => by rw [oc_v.mp hx]; exact look_yes e, fun x s hs => by rw [lookT_app q, if_neg (fun z => by rw [z, q] at hs; cases hs)]; exact hs, by rw [sub_v, tS_some e]⟩
  · cases t with
    | v j => rw [mt_av] at h; cases h
    | a g bs =>
      rw [mt_aa] at h ⊢
      by_cases c : f = g ∧ as.length = bs.length
      · rw [if_pos c] at h ⊢
        obtain ⟨rfl, hl⟩ := c
        have key : ∀ (as : List T), (∀ p, p ∈ as → ∀ (t : T) (l : Tab), (mt p t l).1 = true → (∀ x, Oc x p → x ∈ keysT (mt p t l).2) ∧ Ex l (mt p t l).2 ∧ sub (tS (mt p t l).2) p = t) → ∀ (bs : List T) (l : Tab), as.length = bs.length → (mts as bs l).1 = true →
            (∀ p, p ∈ as → ∀ x, Oc x p → x ∈ keysT (mts as bs l).2) ∧ Ex l (mts as bs l).2 ∧ as.map (sub (tS (mts as bs l).2)) = bs := by
          intro as
          induction as with
          | nil =>
            intro _ bs l hl _
            cases bs with
            | nil => rw [mts_0]; exact ⟨fun _ h => absurd h List.not_mem_nil, Ex.refl, rfl⟩
            | cons _ _ => cases hl
          | cons a as iha =>
            intro hp bs l hl h
            cases bs with
            | nil => cases hl
            | cons b bs =>
              rw [mts_c] at h ⊢
              by_cases c : (mt a b l).1 = true
              · rw [if_pos c] at h ⊢
                obtain ⟨h1, h2, h3⟩ := hp a List.mem_cons_self b l c
                obtain ⟨q1, q2, q3⟩ := iha (fun p hq => hp p (List.mem_cons_of_mem _ hq)) bs _ (by simpa using hl) h
                have hk : ∀ x, Oc x a → x ∈ keysT (mts as bs (mt a b l).2).2 := fun x hx => by
                  obtain ⟨s, hs⟩ := look_mem (h1 x hx)
                  exact look_yes (q2 x s hs)
                refine ⟨fun p hq x hx => ?_, h2.trans q2, ?_⟩
                · rcases List.mem_cons.mp hq with rfl | hq
                  · exact hk x hx
                  · exact q1 p hq x hx
                · rw [List.map_cons, q3]
                  congr 1
                  refine Eq.trans (sub_congr a fun x hx => ?_) h3
                  obtain ⟨s, hs⟩ := look_mem (h1 x hx)
                  rw [tS_some hs, tS_some (q2 x s hs)]
              · rw [if_neg c] at h; cases h
        obtain ⟨q1, q2, q3⟩ := key as ih bs l hl h
        exact ⟨fun x hx => by obtain ⟨u, hu, ho⟩ := oc_a.mp hx; exact q1 u hu x ho, q2, by rw [sub_a, q3]⟩
      · rw [if_neg c] at h; cases h
/-! numbering again changes nothing -/
theorem num_num (t : T) : num (num t) = num t := by
  have h : num t = sub (tS (numL 0 (noteV t []))) t := rep_sub _ _
  have key : ∀ x, Oc x t → ∃ j : Nat, tS (numL 0 (noteV t [])) x = .v j ∧ (noteV t [])[j]? = some x := fun x hx => by
    have hm : x ∈ noteV t [] := (mem_noteV t []).mpr (.inr hx)
    have : ∀ (l : List Int) (k : Nat), x ∈ l → ∃ j : Nat, lookT (numL k l) x = some (.v ((k + j : Nat) : Int)) ∧ l[j]? = some x := by
      intro l
      induction l with
      | nil => intro k h; exact absurd h List.not_mem_nil
      | cons y l ih =>
        intro k h
        rw [numL, lookT_c]
        by_cases e : y = x
        · rw [if_pos e]; exact ⟨0, rfl, by rw [e]; rfl⟩
        · rw [if_neg e]
          obtain ⟨j, h1, h2⟩ := ih (k + 1) ((List.mem_cons.mp h).resolve_left (Ne.symm e))
          exact ⟨j + 1, by rw [h1, show k + 1 + j = k + (j + 1) by omega], by rw [List.getElem?_cons_succ]; exact h2⟩
    obtain ⟨j, h1, h2⟩ := this (noteV t []) 0 hm
    exact ⟨j, by rw [tS_some h1, Nat.zero_add], h2⟩
  obtain ⟨a, ha⟩ : ∃ a : Int → Int, ∀ x, Oc x t → tS (numL 0 (noteV t [])) x = .v (a x) ∧ ∃ j : Nat, a x = j ∧ (noteV t [])[j]? = some x := by
    classical
    refine ⟨fun x => if hx : Oc x t then ((Classical.choose (key x hx) : Nat) : Int) else 0, fun x hx => ?_⟩
    have := Classical.choose_spec (key x hx)
    simp only [dif_pos hx]
    exact ⟨this.1, _, rfl, this.2⟩
  have q := num_ren t (fun x hx => (ha x hx).1) fun x y hx hy e => by
    obtain ⟨_, j, e1, e2⟩ := ha x hx
    obtain ⟨_, k, e3, e4⟩ := ha y hy
    rw [e1, e3] at e
    have : j = k := by omega
    subst this
    rw [e2] at e4
    exact Option.some.inj e4
  rw [← h] at q
  exact q
/-- the numbered term is a renaming of the term, and back -/
theorem num_iff (t : T) : ∃ α β : Sb, num t = sub α t ∧ t = sub β (num t) := by
  have h : num t = sub (tS (numL 0 (noteV t []))) t := rep_sub _ _
  refine ⟨_, fun i => match (noteV t [])[i.toNat]? with | some x => .v x | none => .v i, h, ?_⟩
  rw [h, sub_sub]
  conv => lhs; rw [← sub_id t]
  refine sub_congr t fun x hx => ?_
  have hm : x ∈ noteV t [] := (mem_noteV t []).mpr (.inr hx)
  have : ∀ (l : List Int) (k : Nat), x ∈ l → ∃ j : Nat, lookT (numL k l) x = some (.v ((k + j : Nat) : Int)) ∧ l[j]? = some x := by
    intro l
    induction l with
    | nil => intro k h; exact absurd h List.not_mem_nil
    | cons y l ih =>
      intro k h
      rw [numL, lookT_c]
      by_cases e : y = x
      · rw [if_pos e]; exact ⟨0, rfl, by rw [e]; rfl⟩
      · rw [if_neg e]
        obtain ⟨j, h1, h2⟩ := ih (k + 1) ((List.mem_cons.mp h).resolve_left (Ne.symm e))
        exact ⟨j + 1, by rw [h1, show k + 1 + j = k + (j + 1) by omega], by rw [List.getElem?_cons_succ]; exact h2⟩
  obtain ⟨j, h1, h2⟩ := this (noteV t []) 0 hm
  rw [tS_some h1, sub_v]
  simp only [Nat.zero_add, Int.toNat_natCast, h2]
theorem In.oc {vs : List Int} {x : Int} {t : T} (h : Oc x t) : t.In vs → x ∈ vs := by
  induction h with
  | v => intro h; cases h; assumption
  | a ht _ ih => intro h; exact ih (h.parts _ ht)
theorem In.sub {vs : List Int} {σ : Sb} (t : T) : (∀ x, Oc x t → (σ x).In vs) → (DL.sub σ t).In vs := by
  refine T.ind (P := fun t => (∀ x, Oc x t → (σ x).In vs) → (DL.sub σ t).In vs) (fun i h => ?_) (fun f as ih h => ?_) t
  · rw [sub_v]; exact h i .v
  · rw [sub_a]
    refine .a fun u hu => ?_
    obtain ⟨t, ht, rfl⟩ := List.mem_map.mp hu
    exact ih t ht fun x hx => h x (.a ht hx)
/-- the numbers from 0 on -/
def upto (n : Nat) : List Int := (List.range n).map Int.ofNat
theorem upto_len (n : Nat) : (upto n).length = n := by unfold upto; rw [List.length_map, List.length_range]
theorem mem_upto {n : Nat} {x : Int} : x ∈ upto n ↔ 0 ≤ x ∧ x < n := by
  unfold upto
  rw [List.mem_map]
  constructor
  · rintro ⟨i, hi, rfl⟩; have := List.mem_range.mp hi; exact ⟨Int.natCast_nonneg i, by rw [Int.ofNat_eq_natCast]; omega⟩
  · intro h; exact ⟨x.toNat, List.mem_range.mpr (by omega), by rw [Int.ofNat_eq_natCast]; omega⟩
theorem upto_ok {n : Nat} (h : n ≤ 4294967296) : OkI (upto n) := fun x hx => by have := mem_upto.mp hx; omega
theorem num_in {V : List Int} {t : T} (hi : t.In V) : (num t).In (upto V.length) := by
  have nd : NdIn V (noteV t []) := noteV_nd hi [] nd_0
  have hlen := nd_len nd
  have h : num t = DL.sub (tS (numL 0 (noteV t []))) t := rep_sub _ _
  rw [h]
  refine In.sub t fun x hx => ?_
  obtain ⟨j, e, _, h2⟩ := numL_look (noteV t []) 0 x ((mem_noteV t []).mpr (.inr hx))
  rw [tS_some e]
  exact .v (mem_upto.mpr (by omega))
/-- renamed sides lead to the same -/
theorem Mg.ren {σ σ' α β : Sb} {l r : T} (h : Mg σ l r) (hl : sub β (sub α l) = l) (hr : sub β (sub α r) = r) (h' : Mg σ' (sub α l) (sub α r)) : DL.num (sub σ l) = DL.num (sub σ' (sub α l)) := by
  have e1 : sub (fun x => sub σ (β x)) (sub α l) = sub (fun x => sub σ (β x)) (sub α r) := by
    rw [← sub_sub, ← sub_sub, hl, hr]; exact h.e
  have e2 : sub (fun x => sub σ' (α x)) l = sub (fun x => sub σ' (α x)) r := by
    rw [← sub_sub, ← sub_sub]; exact h'.e
  refine num_var (α := fun x => sub σ' (α x)) (β := fun x => sub σ (β x)) ?_ ?_
  · rw [h.m _ e2 l, ← sub_sub]
  · rw [h'.m _ e1 (sub α l), ← sub_sub, hl]
theorem Mg.swap {σ : Sb} {l r : T} (h : Mg σ l r) : Mg σ r l := ⟨h.e.symm, fun θ e t => h.m θ e.symm t⟩
end DL

set_option Elab.async false
set_option linter.all false
set_option maxRecDepth 100000
set_option maxHeartbeats 4000000
namespace DL
open PySem PySem.Spec PyProof.Rows L2
/-- if there is a common instance, there is a small one -/
def Sm (l r : T) : Prop := (∃ θ, sub θ l = sub θ r) → ∃ θ, sub θ l = sub θ r ∧ (sub θ l).size ≤ 400 ∧ (sub θ l).dep ≤ 40
theorem Sm.swap {l r : T} (h : Sm l r) : Sm r l := fun ⟨θ, e⟩ => by
  obtain ⟨θ', e', s, d⟩ := h ⟨θ, e.symm⟩
  exact ⟨θ', e'.symm, by rw [← e']; exact s, by rw [← e']; exact d⟩
theorem Sm.ren {l r : T} {α β : Sb} (h : Sm l r) (hl : sub β (sub α l) = l) (hr : sub β (sub α r) = r) : Sm (sub α l) (sub α r) := fun ⟨θ, e⟩ => by
  rw [sub_sub, sub_sub] at e
  obtain ⟨θ', e', s, d⟩ := h ⟨_, e⟩
  refine ⟨fun x => sub θ' (β x), ?_, ?_, ?_⟩
  · rw [← sub_sub, ← sub_sub, hl, hr]; exact e'
  · rw [← sub_sub, hl]; exact s
  · rw [← sub_sub, hl]; exact d
theorem Sm.mg {l r : T} {σ : Sb} (h : Sm l r) (mg : Mg σ l r) : (sub σ l).size ≤ 400 ∧ (sub σ l).dep ≤ 40 := by
  obtain ⟨θ, e, s, d⟩ := h ⟨σ, mg.e⟩
  have := mg.le e
  omega
theorem dep_one {t : T} (h : t.dep ≤ 1) : (∃ x, t = .v x) ∨ ∃ f, t = .a f [] := by
  cases t with
  | v x => exact .inl ⟨x, rfl⟩
  | a f as =>
    cases as with
    | nil => exact .inr ⟨f, rfl⟩
    | cons a as =>
      rw [dep_a, T.deps] at h
      have := dep_pos a
      omega
def trm : T → T
  | .a f [] => .a f []
  | _ => .v 0
theorem trm_size (t : T) : (trm t).size = 1 ∧ (trm t).dep = 1 := by
  unfold trm
  split
  · exact ⟨by rw [size_a, T.sizes], by rw [dep_a, T.deps]⟩
  · exact ⟨size_v _, dep_v _⟩
theorem trm_sub {σ : Sb} {t : T} (h : t.dep ≤ 1) : sub (fun x => trm (σ x)) t = trm (sub σ t) := by
  rcases dep_one h with ⟨x, rfl⟩ | ⟨f, rfl⟩
  · rw [sub_v, sub_v]
  · rw [sub_a, sub_a]; rfl
theorem bind_one {x : Int} {r : T} {σ : Sb} (e : sub σ (.v x) = sub σ r) (hr : r.size ≤ 400 ∧ r.dep ≤ 40) : ∃ θ, sub θ (.v x) = sub θ r ∧ (sub θ (.v x)).size ≤ 400 ∧ (sub θ (.v x)).dep ≤ 40 := by
  by_cases hv : r = .v x
  · subst hv
    exact ⟨T.v, rfl, by rw [sub_v, size_v]; decide, by rw [sub_v, dep_v]; decide⟩
  · have no : ¬ Oc x r := fun ho => no_oc ho hv (by rw [sub_v] at e; exact e)
    refine ⟨fun y => if y = x then r else .v y, ?_, ?_⟩
    · rw [sub_v, if_pos rfl]
      have q : sub (fun y => if y = x then r else .v y) r = sub T.v r := sub_congr r fun y hy => if_neg fun z => no (by rw [← z]; exact hy)
      rw [q, sub_id]
    · rw [sub_v, if_pos rfl]; exact hr
theorem Sm.flat {vs : List Int} {l r : T} (hl : l.Ok vs) (dl : l.dep ≤ 2) (zl : l.size ≤ 400) (hr : r.Ok vs) (dr : r.dep ≤ 2) (zr : r.size ≤ 400) : Sm l r := fun ⟨σ, e⟩ => by
  cases l with
  | v x => exact bind_one e ⟨zr, by omega⟩
  | a f as =>
    cases r with
    | v y =>
      obtain ⟨θ, e', s, d⟩ := bind_one e.symm ⟨zl, by omega⟩
      exact ⟨θ, e'.symm, by rw [← e']; exact s, by rw [← e']; exact d⟩
    | a g bs =>
      rw [dep_a] at dl dr
      have la : as.length ≤ 3 := by cases hl; assumption
      have pa : ∀ t, t ∈ as → t.dep ≤ 1 := fun t ht => Nat.le_trans (deps_le ht) (by omega)
      have pb : ∀ t, t ∈ bs → t.dep ≤ 1 := fun t ht => Nat.le_trans (deps_le ht) (by omega)
      have ma : as.map (sub fun x => trm (σ x)) = (as.map (sub σ)).map trm := by
        rw [List.map_map]
        exact List.map_congr_left fun t ht => trm_sub (pa t ht)
      have mb : bs.map (sub fun x => trm (σ x)) = (bs.map (sub σ)).map trm := by
        rw [List.map_map]
        exact List.map_congr_left fun t ht => trm_sub (pb t ht)
      rw [sub_a, sub_a] at e
      obtain ⟨e1, e2⟩ := T.a_inj e
      have hz : ∀ ts : List T, T.sizes (ts.map trm) = ts.length ∧ T.deps (ts.map trm) ≤ 1 := by
        intro ts
        induction ts with
        | nil => exact ⟨rfl, Nat.zero_le _⟩
        | cons t ts ih =>
          have := trm_size t
          rw [List.map_cons, T.sizes, T.deps, List.length_cons]
          omega
      have hz1 := hz (as.map (sub σ))
      rw [List.length_map] at hz1
      refine ⟨fun x => trm (σ x), ?_, ?_, ?_⟩
      · rw [sub_a, sub_a, ma, mb, e1, e2]
      · rw [sub_a, ma, size_a]; omega
      · rw [sub_a, ma, dep_a]; omega
/-- what one pair of sides answers, against the first pair -/
structure Gp (l r p q : T) : Prop where
  iff : (∃ θ, sub θ l = sub θ r) ↔ ∃ θ, sub θ p = sub θ q
  nm : ∀ σ σ', Mg σ l r → Mg σ' p q → num (sub σ' p) = num (sub σ l)
  sm : Sm p q
  gd : ∃ V : List Int, OkI V ∧ V.length = 6 ∧ (p.In V ∧ p.G ∧ p.dep ≤ 3 ∧ p.Ar) ∧ (q.In V ∧ q.G ∧ q.dep ≤ 3 ∧ q.Ar)
theorem Gp.swap {l r p q : T} (h : Gp l r p q) : Gp l r q p := ⟨h.iff.trans ⟨fun ⟨θ, e⟩ => ⟨θ, e.symm⟩, fun ⟨θ, e⟩ => ⟨θ, e.symm⟩⟩, fun σ σ' m m' => by rw [m'.e]; exact h.nm σ σ' m m'.swap, h.sm.swap, by obtain ⟨V, h1, h2, h3, h4⟩ := h.gd; exact ⟨V, h1, h2, h4, h3⟩⟩
theorem Gp.refl {l r : T} {V : List Int} (h1 : OkI V) (h2 : V.length = 6) (h3 : l.In V ∧ l.G ∧ l.dep ≤ 3 ∧ l.Ar) (h4 : r.In V ∧ r.G ∧ r.dep ≤ 3 ∧ r.Ar) (s : Sm l r) : Gp l r l r := ⟨Iff.rfl, fun σ σ' m m' => m'.num m, s, V, h1, h2, h3, h4⟩
theorem Gp.ren {l r : T} {V : List Int} {a : Int → Int} {α : Sb} (h : Gp l r l r) (hV : V.length = 6) (hα : ∀ x, x ∈ V → α x = .v (a x)) (inj : ∀ x y, x ∈ V → y ∈ V → a x = a y → x = y) (ok : OkI (V.map a)) (h3 : l.In V ∧ l.G ∧ l.dep ≤ 3 ∧ l.Ar) (h4 : r.In V ∧ r.G ∧ r.dep ≤ 3 ∧ r.Ar) : Gp l r (sub α l) (sub α r) := by
  obtain ⟨β, hβ⟩ : ∃ β : Sb, ∀ x, x ∈ V → β (a x) = .v x := by
    classical
    refine ⟨fun z => if q : ∃ x, x ∈ V ∧ a x = z then .v (Classical.choose q) else .v z, fun x hx => ?_⟩
    have q : ∃ y, y ∈ V ∧ a y = a x := ⟨x, hx, rfl⟩
    have qs := Classical.choose_spec q
    simp only [dif_pos q]
    exact congrArg T.v (inj _ _ qs.1 hx qs.2)
  have back : ∀ t : T, t.In V → sub β (sub α t) = t := fun t ht => by
    rw [sub_sub]
    refine Eq.trans (sub_congr t fun x hx => ?_) (sub_id t)
    have hx := In.oc hx ht
    rw [hα x hx, sub_v, hβ x hx]
  have gd : ∀ t : T, t.In V ∧ t.G ∧ t.dep ≤ 3 ∧ t.Ar → (sub α t).In (V.map a) ∧ (sub α t).G ∧ (sub α t).dep ≤ 3 ∧ (sub α t).Ar := fun t ⟨t1, t2, t3, t4⟩ => by
    have hd := size_ren (α := α) t fun x hx => ⟨a x, hα x (In.oc hx t1)⟩
    refine ⟨In.sub t fun x hx => ?_, G.sub t t2 fun x hx => ?_, by omega, Ar.sub t4 fun x hx => ?_⟩
    · have hx := In.oc hx t1
      rw [hα x hx]
      exact .v (List.mem_map.mpr ⟨x, hx, rfl⟩)
    · have hx := In.oc hx t1
      rw [hα x hx]
      have := ok _ (List.mem_map.mpr ⟨x, hx, rfl⟩)
      exact .v this.1 this.2
    · have hx := In.oc hx t1
      rw [hα x hx]
      exact .v
  have bl := back l h3.1
  have br := back r h4.1
  refine ⟨⟨fun ⟨θ, e⟩ => ⟨fun x => sub θ (β x), by rw [← sub_sub, ← sub_sub, bl, br]; exact e⟩, fun ⟨θ, e⟩ => ⟨fun x => sub θ (α x), by rw [← sub_sub, ← sub_sub]; exact e⟩⟩, fun σ σ' m m' => (Mg.ren m bl br m').symm, h.sm.ren bl br, V.map a, ok, by rw [List.length_map]; exact hV, gd l h3, gd r h4⟩
/-- odd factors modulo 65536 keep these variables apart -/
theorem odd_inj {f b x y : Int} (hf : f ∈ ([1, 3, 7, 9, 255, 4097, 65535] : List Int)) (hx : x ∈ ([0, 1, 3, 8, 12, 65535] : List Int)) (hy : y ∈ ([0, 1, 3, 8, 12, 65535] : List Int)) (e : (x * f + b) % 65536 = (y * f + b) % 65536) : x = y := by
  have e := Int.emod_eq_emod_iff_emod_sub_eq_zero.mp e
  have e2 : x * f + b - (y * f + b) = (x - y) * f := by rw [Int.sub_mul]; omega
  rw [e2] at e
  have key : ∀ f, f ∈ ([1, 3, 7, 9, 255, 4097, 65535] : List Int) → ∀ x, x ∈ ([0, 1, 3, 8, 12, 65535] : List Int) → ∀ y, y ∈ ([0, 1, 3, 8, 12, 65535] : List Int) → ((x - y) * f) % 65536 = 0 → x = y := by decide +kernel
  exact key f hf x hx y hy e
theorem gDic_tD (a : Int → Int) (l : List Int) : gDic (fun x => .int (a x)) l = tD (l.map fun x => (x, T.v (a x))) := by
  unfold gDic tD
  rw [List.map_map]
  refine List.map_congr_left fun x _ => ?_
  show (Sum.inl x, D.int (a x)) = (Sum.inl x, (T.v (a x)).toD)
  rw [toD_v]
theorem tS_map (a : Int → Int) (l : List Int) (x : Int) (h : x ∈ l) : tS (l.map fun x => (x, T.v (a x))) x = .v (a x) := by
  refine tS_some ?_
  induction l with
  | nil => exact absurd h List.not_mem_nil
  | cons y l ih =>
    rw [List.map_cons, lookT_c]
    by_cases e : y = x
    · rw [if_pos e, e]
    · rw [if_neg e]
      exact ih ((List.mem_cons.mp h).resolve_left (Ne.symm e))
end DL

set_option Elab.async false
set_option linter.all false
set_option maxRecDepth 100000
set_option maxHeartbeats 4000000
namespace DL
open PySem PySem.Spec PyProof.Rows L2
/-! lists of terms -/
theorem eqv_Ts : ∀ (as bs : List T), PyData.eqvAll (toPs (as.map T.toD)) (toPs (bs.map T.toD)) = true ↔ as = bs
  | [], [] => by simp [toPs, PyData.eqvAll]
  | [], _ :: _ => by simp [toPs, PyData.eqvAll]
  | _ :: _, [] => by simp [toPs, PyData.eqvAll]
  | a :: as, b :: bs => by
    rw [List.map_cons, List.map_cons, toPs, toPs, PyData.eqvAll, Bool.and_eq_true, eqv_T, eqv_Ts as bs]
    simp
theorem okP_tup {l : List T} (h : OkS l) : okP (.tup (l.map T.toD)) = true := okP_of (by rw [gdD]; exact gdDs_map fun t ht => gd_T (h t ht).1) (by
  rw [hD]
  have := hDs_map (g := T.toD) (n := 60) (l := l) fun t ht => Nat.le_trans (hD_T t) (h t ht).2
  omega)
theorem okA_tup {l : List T} (h : OkS l) (hs : T.sizes l ≤ 90000) : gdD (.tup (l.map T.toD)) = true ∧ hD (.tup (l.map T.toD)) ≤ 64 ∧ wD (.tup (l.map T.toD)) ≤ 16777216 := by
  refine ⟨?_, ?_, ?_⟩
  · rw [gdD]; exact gdDs_map fun t ht => gd_T (h t ht).1
  · rw [hD]
    have := hDs_map (g := T.toD) (n := 60) (l := l) fun t ht => Nat.le_trans (hD_T t) (h t ht).2
    omega
  · rw [wD]
    have := wDs_T (as := l) fun t ht => wD_T (h t ht).1
    omega
theorem o_eqTs {as bs : List T} {h : DHeap} {Q : QD} (ha : OkS as) (hb : OkS bs) : W (eqD (.tup (as.map T.toD)) (.tup (bs.map T.toD)) h) Q = Q (.bl (decide (as = bs))) h := by
  have e : eqvD (.tup (as.map T.toD)) (.tup (bs.map T.toD)) = decide (as = bs) := by
    have q : eqvD (.tup (as.map T.toD)) (.tup (bs.map T.toD)) = PyData.eqvAll (toPs (as.map T.toD)) (toPs (bs.map T.toD)) := by
      show PyData.eqv (.tuple (toPs (as.map T.toD))) (.tuple (toPs (bs.map T.toD))) = _
      rw [PyData.eqv]
    rw [q]
    by_cases h : as = bs
    · rw [decide_eq_true h]; exact (eqv_Ts as bs).mpr h
    · rw [decide_eq_false h]; exact Bool.eq_false_iff.mpr fun q => h ((eqv_Ts as bs).mp q)
  rw [← e]
  unfold eqD
  have s1 : scalD (.tup (as.map T.toD)) (.tup (bs.map T.toD)) = none := rfl
  have s2 : ∀ l : List D, seen h (.tup l) = some (.tup l) := fun _ => rfl
  rw [s1]
  simp only [s2, okP_tup ha, okP_tup hb, and_self, if_true]
  rfl
theorem o_neTs {as bs : List T} {h : DHeap} {Q : QD} (ha : OkS as) (hb : OkS bs) : W (neD (.tup (as.map T.toD)) (.tup (bs.map T.toD)) h) Q = Q (.bl (!decide (as = bs))) h := w_ne (o_eqTs ha hb)
theorem num_a (f : Str) (ts : List T) : num (.a f ts) = .a f (nums ts) := by unfold num nums; rw [noteV_a, rep_a]
theorem nums_nums (ts : List T) : nums (nums ts) = nums ts := by
  have := num_num (.a ⟨#[]⟩ ts)
  rw [num_a, num_a] at this
  exact (T.a_inj this).2
theorem nums_ren {α : Sb} {a : Int → Int} {ts : List T} (h1 : ∀ x, (∃ t, t ∈ ts ∧ Oc x t) → α x = .v (a x)) (h2 : ∀ x y, (∃ t, t ∈ ts ∧ Oc x t) → (∃ t, t ∈ ts ∧ Oc y t) → a x = a y → x = y) : nums (ts.map (sub α)) = nums ts := by
  have := num_ren (α := α) (a := a) (.a ⟨#[]⟩ ts) (fun x hx => h1 x (oc_a.mp hx)) fun x y hx hy => h2 x y (oc_a.mp hx) (oc_a.mp hy)
  rw [sub_a, num_a, num_a] at this
  exact (T.a_inj this).2
theorem nums_conv {α : Sb} {ts : List T} (e : nums (ts.map (sub α)) = nums ts) : ∃ a : Int → Int, (∀ x, (∃ t, t ∈ ts ∧ Oc x t) → α x = .v (a x)) ∧ ∀ x y, (∃ t, t ∈ ts ∧ Oc x t) → (∃ t, t ∈ ts ∧ Oc y t) → a x = a y → x = y := by
  have e1 : num (sub α (.a ⟨#[]⟩ ts)) = num (.a ⟨#[]⟩ ts) := by rw [sub_a, num_a, num_a, e]
  obtain ⟨α1, β1, p1, p2⟩ := num_iff (.a ⟨#[]⟩ ts)
  obtain ⟨α2, β2, q1, q2⟩ := num_iff (sub α (.a ⟨#[]⟩ ts))
  have back : sub (fun x => sub β1 (α2 x)) (sub α (.a ⟨#[]⟩ ts)) = .a ⟨#[]⟩ ts := by
    rw [← sub_sub, ← q1, e1, ← p2]
  obtain ⟨a, h1, h2⟩ := var_of back
  exact ⟨a, fun x hx => h1 x (oc_a.mpr hx), fun x y hx hy => h2 x y (oc_a.mpr hx) (oc_a.mpr hy)⟩
theorem nums_each {V : List Int} (hV : V.length ≤ 100000) {ts : List T} (hl : ts.length ≤ 100) (h : ∀ t, t ∈ ts → t.In V ∧ t.G ∧ t.Ar) : (∀ u, u ∈ nums ts → ∃ t, t ∈ ts ∧ u.size = t.size ∧ u.dep = t.dep ∧ u.G ∧ u.Ar ∧ u.In (upto V.length)) ∧ T.sizes (nums ts) = T.sizes ts ∧ (nums ts).length = ts.length := by
  have hi : (T.a ⟨#[]⟩ ts).In V := .a fun t ht => (h t ht).1
  have hg : (T.a ⟨#[]⟩ ts).G := .a ⟨fun c hc => absurd hc (by simp), by decide⟩ fun t ht => (h t ht).2.1
  have ha : (T.a ⟨#[]⟩ ts).Ar := .a hl fun t ht => (h t ht).2.2
  have ok := num_ok hV hi hg ha
  have inn := num_in hi
  have sz := (num_size (.a ⟨#[]⟩ ts)).1
  rw [num_a] at ok inn sz
  rw [size_a, size_a] at sz
  refine ⟨fun u hu => ?_, by omega, by unfold nums; rw [List.length_map]⟩
  have hu2 := hu
  unfold nums at hu2
  obtain ⟨t, ht, rfl⟩ := List.mem_map.mp hu2
  have key : ∀ x, Oc x t → ∃ y, tS (numL 0 (noteVs ts [])) x = .v y := fun x hx => by
    obtain ⟨j, e, _⟩ := numL_look (noteVs ts []) 0 x ((mem_noteVs ts []).mpr (.inr ⟨t, ht, hx⟩))
    exact ⟨j, tS_some e⟩
  have hs := size_ren (α := tS (numL 0 (noteVs ts []))) t key
  rw [← rep_tS] at hs
  exact ⟨t, ht, hs.1, hs.2, ok.1.parts _ hu, ok.2.parts _ hu, inn.parts _ hu⟩
end DL

set_option Elab.async false
set_option linter.all false
set_option maxRecDepth 100000
set_option maxHeartbeats 4000000
namespace DL
open PySem PySem.Spec PyProof.Rows L2
/-- all names in a term are of one kind -/
inductive T.Nms (P : Str → Prop) : T → Prop
  | v {i : Int} : T.Nms P (.v i)
  | a {f : Str} {as : List T} : P f → (∀ t, t ∈ as → T.Nms P t) → T.Nms P (.a f as)
theorem T.Nms.nm {P : Str → Prop} {f : Str} {as : List T} (h : (T.a f as).Nms P) : P f := by cases h; assumption
theorem T.Nms.parts {P : Str → Prop} {f : Str} {as : List T} (h : (T.a f as).Nms P) : ∀ t, t ∈ as → t.Nms P := by cases h; assumption
theorem T.Ok.nms {vs : List Int} {t : T} (h : t.Ok vs) : t.Nms NmOk := by
  induction h with
  | v => exact .v
  | a h _ _ ih => exact .a h ih
def NmI (t u : T) : Prop := ∀ P : Str → Prop, t.Nms P → u.Nms P
theorem NmI.self {t : T} : NmI t t := fun _ h => h
theorem NmI.var {t : T} {x : Int} : NmI t (.v x) := fun _ _ => .v
theorem NmI.app {f : Str} {as ts : List T} (hl : ts.length = as.length) (h : ∀ (i : Nat) (t u : T), as[i]? = some t → ts[i]? = some u → NmI t u) : NmI (.a f as) (.a f ts) := fun P hp => by
  refine .a hp.nm fun u hu => ?_
  obtain ⟨i, hi, rfl⟩ := List.mem_iff_getElem.mp hu
  have hi2 : i < as.length := by rw [← hl]; exact hi
  exact h i _ _ (List.getElem?_eq_getElem hi2) (List.getElem?_eq_getElem hi) P (hp.parts _ (List.getElem_mem hi2))
/-! terms whose variables are frozen: names that stand nowhere else in their places -/
structure Frz (D : List Int) (φ : Sb) (nf : Int → Str) : Prop where
  eq : ∀ x, x ∈ D → φ x = .a (nf x) []
  no : ∀ x, x ∈ D → ¬ NmOk (nf x)
  inj : ∀ x y, x ∈ D → y ∈ D → nf x = nf y → x = y
def Gz (D : List Int) (t : T) : Prop := t.Nms NmOk ∧ t.In D
theorem Gz.parts {D : List Int} {f : Str} {as : List T} (h : Gz D (.a f as)) : ∀ t, t ∈ as → Gz D t := fun t ht => ⟨h.1.parts t ht, h.2.parts t ht⟩
theorem Frz.sub_inj {D : List Int} {φ : Sb} {nf : Int → Str} (F : Frz D φ nf) (u : T) : ∀ t, Gz D u → Gz D t → sub φ u = sub φ t → u = t := by
  refine T.ind (P := fun u => ∀ t, Gz D u → Gz D t → sub φ u = sub φ t → u = t) (fun i t hu ht e => ?_) (fun f as ih t hu ht e => ?_) u
  · have hi : i ∈ D := by cases hu.2; assumption
    cases t with
    | v j =>
      have hj : j ∈ D := by cases ht.2; assumption
      rw [sub_v, sub_v, F.eq i hi, F.eq j hj] at e
      rw [F.inj i j hi hj (T.a_inj e).1]
    | a g bs =>
      rw [sub_v, sub_a, F.eq i hi] at e
      exact (F.no i hi (by rw [(T.a_inj e).1]; exact ht.1.nm)).elim
  · cases t with
    | v j =>
      have hj : j ∈ D := by cases ht.2; assumption
      rw [sub_v, sub_a, F.eq j hj] at e
      exact (F.no j hj (by rw [← (T.a_inj e).1]; exact hu.1.nm)).elim
    | a g bs =>
      rw [sub_a, sub_a] at e
      obtain ⟨e1, e2⟩ := T.a_inj e
      rw [e1]
      congr 1
      have hu2 := hu.parts
      have ht2 := ht.parts
      clear e e1 hu ht
      induction as generalizing bs with
      | nil =>
        cases bs with
        | nil => rfl
        | cons _ _ => cases e2
      | cons a as iha =>
        cases bs with
        | nil => cases e2
        | cons b bs =>
          rw [List.map_cons, List.map_cons] at e2
          obtain ⟨e3, e4⟩ := List.cons.inj e2
          rw [ih a List.mem_cons_self b (hu2 a List.mem_cons_self) (ht2 b List.mem_cons_self) e3, iha (fun t h => ih t (List.mem_cons_of_mem _ h)) bs e4 (fun t h => hu2 t (List.mem_cons_of_mem _ h)) fun t h => ht2 t (List.mem_cons_of_mem _ h)]
def frT (φ : Sb) (l : Tab) : Tab := l.map fun p => (p.1, sub φ p.2)
theorem look_frT (φ : Sb) (x : Int) : ∀ l : Tab, lookT (frT φ l) x = (lookT l x).map (sub φ)
  | [] => rfl
  | p :: l => by
    show lookT ((p.1, sub φ p.2) :: frT φ l) x = _
    rw [lookT_c, lookT_c, look_frT φ x l]
    by_cases e : p.1 = x
    · simp only [if_pos e, Option.map_some]
    · simp only [if_neg e]
def GzT (D : List Int) (l : Tab) : Prop := ∀ x s, lookT l x = some s → Gz D s
theorem mt_frz {D : List Int} {φ : Sb} {nf : Int → Str} (F : Frz D φ nf) (p : T) : ∀ (t : T) (l : Tab), p.Nms NmOk → Gz D t → GzT D l → mt p (sub φ t) (frT φ l) = ((mt p t l).1, frT φ (mt p t l).2) ∧ GzT D (mt p t l).2 := by
  refine T.ind (P := fun p => ∀ (t : T) (l : Tab), p.Nms NmOk → Gz D t → GzT D l → mt p (sub φ t) (frT φ l) = ((mt p t l).1, frT φ (mt p t l).2) ∧ GzT D (mt p t l).2) (fun i t l _ ht hl => ?_) (fun f as ih t l hp ht hl => ?_) p
  · rw [mt_v, mt_v, look_frT]
    cases q : lookT l i with
    | some u =>
      simp only [Option.map_some]
      refine ⟨?_, hl⟩
      have : eqB (sub φ u) (sub φ t) = eqB u t := by
        rw [eqB_dec, eqB_dec]
        by_cases e : u = t
        · rw [e]; simp
        · rw [decide_eq_false e, decide_eq_false fun z => e (F.sub_inj u t (hl _ _ q) ht z)]
      rw [this]
    | none =>
      simp only [Option.map_none]
      refine ⟨?_, fun x s h => ?_⟩
      · unfold frT
        rw [List.map_append]
        rfl
      · rw [lookT_app q] at h
        split at h
        · cases h; exact ht
        · exact hl x s h
  · cases t with
    | v j =>
      have hj : j ∈ D := by cases ht.2; assumption
      rw [sub_v, F.eq j hj, mt_aa, mt_av, if_neg fun z => F.no j hj (by rw [← z.1]; exact hp.nm)]
      exact ⟨rfl, hl⟩
    | a g bs =>
      rw [sub_a, mt_aa, mt_aa, List.length_map]
      by_cases c : f = g ∧ as.length = bs.length
      · rw [if_pos c, if_pos c]
        have hlen := c.2
        have hp2 := hp.parts
        have ht2 := ht.parts
        clear c hp ht
        induction as generalizing bs l with
        | nil =>
          cases bs with
          | nil => rw [List.map_nil, mts_0, mts_0]; exact ⟨rfl, hl⟩
          | cons _ _ => cases hlen
        | cons a as iha =>
          cases bs with
          | nil => cases hlen
          | cons b bs =>
            obtain ⟨q1, q2⟩ := ih a List.mem_cons_self b l (hp2 a List.mem_cons_self) (ht2 b List.mem_cons_self) hl
            rw [List.map_cons, mts_c, mts_c, q1]
            by_cases c : (mt a b l).1 = true
            · simp only [c, if_true]
              exact iha (fun t h => ih t (List.mem_cons_of_mem _ h)) (mt a b l).2 q2 bs (by simpa using hlen) (fun t h => hp2 t (List.mem_cons_of_mem _ h)) fun t h => ht2 t (List.mem_cons_of_mem _ h)
            · simp only [c, if_false]
              exact ⟨rfl, q2⟩
      · rw [if_neg c, if_neg c]
        exact ⟨rfl, hl⟩
end DL

set_option Elab.async false
set_option linter.all false
set_option maxRecDepth 100000
set_option maxHeartbeats 4000000
namespace DL
open PySem PySem.Spec PyProof.Rows L2
theorem inB_ti (i : Int) (l : List Int) (h : DHeap) : inB (.int i) (.tup (l.map D.int)) h = some (decide (i ∈ l)) := by
  unfold inB
  have h1 : ((l.map D.int).all fun z => (keyD z).isSome) = true := by rw [List.all_map, List.all_eq_true]; intro x _; rfl
  have h2 : ((l.map D.int).any fun z => decide (keyD z = some (.inl i))) = decide (i ∈ l) := by
    rw [List.any_map]
    induction l with
    | nil => rfl
    | cons a l ih =>
      rw [List.any_cons, ih (by rw [List.all_map, List.all_eq_true]; intro x _; rfl)]
      by_cases e : a = i
      · simp [keyD, e]
      · have e2 : ¬ i = a := fun z => e z.symm
        simp [keyD, e, e2]
  show (if ((l.map D.int).all fun z => (keyD z).isSome) = true then some ((l.map D.int).any fun z => decide (keyD z = some (.inl i))) else none) = _
  rw [if_pos h1, h2]
theorem o_inTi {i : Int} {l : List Int} {h : DHeap} {Q : QD} : W (inD (.int i) (.tup (l.map D.int)) h) Q = Q (.bl (decide (i ∈ l))) h := by unfold inD; rw [inB_ti]; rfl
theorem o_ninTi {i : Int} {l : List Int} {h : DHeap} {Q : QD} : W (ninD (.int i) (.tup (l.map D.int)) h) Q = Q (.bl (!decide (i ∈ l))) h := by unfold ninD; rw [inB_ti]; rfl
theorem o_inC {c : Nat} {z : Str} {h : DHeap} {Q : QD} : W (inD (.str ⟨#[c]⟩) (.str z) h) Q = Q (.bl (decide (c ∈ z.cps.toList))) h := rfl
theorem o_ninC {c : Nat} {z : Str} {h : DHeap} {Q : QD} : W (ninD (.str ⟨#[c]⟩) (.str z) h) Q = Q (.bl (!decide (c ∈ z.cps.toList))) h := rfl
theorem bls_map {α : Type} (f : α → Bool) : ∀ l : List α, blsOf (l.map fun x => .bl (f x)) = some (l.map f)
  | [] => rfl
  | a :: l => by rw [List.map_cons, blsOf, bls_map f l]; rfl
/-! all parts of a term, with repeats -/
mutual
def prt : T → List T
  | .v i => [.v i]
  | .a f as => .a f as :: prts as
def prts : List T → List T
  | [] => []
  | a :: as => prt a ++ prts as
end
theorem prt_v (i : Int) : prt (.v i) = [.v i] := by rw [prt]
theorem prt_a (f : Str) (as : List T) : prt (.a f as) = .a f as :: prts as := by rw [prt]
theorem prts_c (a : T) (as : List T) : prts (a :: as) = prt a ++ prts as := by rw [prts]
theorem prts_0 : prts [] = [] := by rw [prts]
theorem prts_mem {u : T} : ∀ {as : List T}, u ∈ prts as ↔ ∃ a, a ∈ as ∧ u ∈ prt a
  | [] => by rw [prts_0]; exact ⟨fun h => absurd h List.not_mem_nil, fun ⟨_, h, _⟩ => absurd h List.not_mem_nil⟩
  | a :: as => by
    rw [prts_c, List.mem_append, prts_mem (as := as)]
    constructor
    · rintro (h | ⟨b, hb, h⟩)
      · exact ⟨a, List.mem_cons_self, h⟩
      · exact ⟨b, List.mem_cons_of_mem _ hb, h⟩
    · rintro ⟨b, hb, h⟩
      rcases List.mem_cons.mp hb with rfl | hb
      · exact .inl h
      · exact .inr ⟨b, hb, h⟩
theorem prts_app : ∀ as bs : List T, prts (as ++ bs) = prts as ++ prts bs
  | [], bs => by rw [prts_0]; rfl
  | a :: as, bs => by rw [List.cons_append, prts_c, prts_c, prts_app as bs, List.append_assoc]
theorem prts_take {as : List T} {k : Nat} {t : T} (e : as[k]? = some t) : prts (as.take (k + 1)) = prts (as.take k) ++ prt t := by
  rw [List.take_add_one, e, Option.toList_some, prts_app, prts_c, prts_0, List.append_nil]
theorem prt_len (t : T) : (prt t).length = t.size := by
  refine T.ind (P := fun t => (prt t).length = t.size) (fun i => by rw [prt_v, size_v]; rfl) (fun f as ih => ?_) t
  rw [prt_a, List.length_cons, size_a]
  have : ∀ l : List T, (∀ t, t ∈ l → (prt t).length = t.size) → (prts l).length = T.sizes l := by
    intro l
    induction l with
    | nil => intro _; rw [prts_0, T.sizes]; rfl
    | cons a l ihl => intro h; rw [prts_c, List.length_append, T.sizes, h a List.mem_cons_self, ihl fun t ht => h t (List.mem_cons_of_mem _ ht)]
  rw [this as ih]
  omega
theorem prts_len (l : List T) : (prts l).length = T.sizes l := by
  induction l with
  | nil => rw [prts_0, T.sizes]; rfl
  | cons a l ih => rw [prts_c, List.length_append, T.sizes, prt_len, ih]
theorem prt_self (t : T) : t ∈ prt t := by
  cases t with
  | v i => rw [prt_v]; exact List.mem_singleton.mpr rfl
  | a f as => rw [prt_a]; exact List.mem_cons_self
theorem prt_all {P : T → Prop} (hP : ∀ f as, P (.a f as) → ∀ u, u ∈ as → P u) (t : T) : P t → ∀ u, u ∈ prt t → P u := by
  refine T.ind (P := fun t => P t → ∀ u, u ∈ prt t → P u) (fun i h u hu => ?_) (fun f as ih h u hu => ?_) t
  · rw [prt_v] at hu; rw [List.mem_singleton.mp hu]; exact h
  · rw [prt_a] at hu
    rcases List.mem_cons.mp hu with rfl | hu
    · exact h
    · obtain ⟨a, ha, hu⟩ := prts_mem.mp hu
      exact ih a ha (hP f as h a ha) u hu
theorem prt_size (t : T) : ∀ u, u ∈ prt t → u.size ≤ t.size := by
  refine T.ind (P := fun t => ∀ u, u ∈ prt t → u.size ≤ t.size) (fun i u hu => ?_) (fun f as ih u hu => ?_) t
  · rw [prt_v] at hu; rw [List.mem_singleton.mp hu]; exact Nat.le_refl _
  · rw [prt_a] at hu
    rcases List.mem_cons.mp hu with rfl | hu
    · exact Nat.le_refl _
    · obtain ⟨a, ha, hu⟩ := prts_mem.mp hu
      have h1 := ih a ha u hu
      have h2 := size_le ha
      rw [size_a]; omega
/-- a variable of a part is a variable of the term -/
theorem prt_oc {x : Int} (t : T) : ∀ u, u ∈ prt t → Oc x u → Oc x t := by
  refine T.ind (P := fun t => ∀ u, u ∈ prt t → Oc x u → Oc x t) (fun i u hu h => ?_) (fun f as ih u hu h => ?_) t
  · rw [prt_v] at hu; rw [← List.mem_singleton.mp hu]; exact h
  · rw [prt_a] at hu
    rcases List.mem_cons.mp hu with rfl | hu
    · exact h
    · obtain ⟨a, ha, hu⟩ := prts_mem.mp hu
      exact .a ha (ih a ha u hu h)
theorem inT_mem {t : T} {l : List T} : inT t l = true ↔ t ∈ l := by
  unfold inT
  rw [List.any_map, List.any_eq_true]
  constructor
  · rintro ⟨u, hu, h⟩
    have : eqB u t = true := h
    rw [eqB_dec, decide_eq_true_eq] at this
    rw [← this]; exact hu
  · intro h
    exact ⟨t, h, by show eqB t t = true; rw [eqB_dec, decide_eq_true_eq]⟩
def Clo (m : Nat) (l : List T) : Prop := ∀ x, x ∈ l → x.size ≤ m → ∀ u, u ∈ prt x → u ∈ l
theorem mem_noteS (t : T) : ∀ (m : Nat) (l : List T), t.size ≤ m → Clo m l → Clo m (noteS t l) ∧ ∀ u, u ∈ noteS t l ↔ u ∈ l ∨ u ∈ prt t := by
  refine T.ind (P := fun t => ∀ (m : Nat) (l : List T), t.size ≤ m → Clo m l → Clo m (noteS t l) ∧ ∀ u, u ∈ noteS t l ↔ u ∈ l ∨ u ∈ prt t) (fun i m l hm hl => ?_) (fun f as ih m l hm hl => ?_) t
  · rw [noteS_v, prt_v]
    by_cases c : inT (.v i) l = true
    · rw [if_pos c]
      have c := inT_mem.mp c
      exact ⟨hl, fun u => ⟨.inl, fun h => h.elim id fun h => by rw [List.mem_singleton.mp h]; exact c⟩⟩
    · rw [if_neg c]
      refine ⟨fun x hx hxm u hu => ?_, fun u => by rw [List.mem_append]⟩
      rcases List.mem_append.mp hx with hx | hx
      · exact List.mem_append.mpr (.inl (hl x hx hxm u hu))
      · rw [List.mem_singleton.mp hx, prt_v] at hu
        exact List.mem_append.mpr (.inr hu)
  · rw [noteS_a]
    by_cases c : inT (.a f as) l = true
    · rw [if_pos c]
      have c := inT_mem.mp c
      exact ⟨hl, fun u => ⟨.inl, fun h => h.elim id fun h => hl _ c hm u h⟩⟩
    · rw [if_neg c]
      rw [size_a] at hm
      have key : ∀ (as : List T), (∀ t, t ∈ as → ∀ (m : Nat) (l : List T), t.size ≤ m → Clo m l → Clo m (noteS t l) ∧ ∀ u, u ∈ noteS t l ↔ u ∈ l ∨ u ∈ prt t) → ∀ (k : Nat) (l : List T), T.sizes as ≤ k → Clo k l → Clo k (noteSs as l) ∧ ∀ u, u ∈ noteSs as l ↔ u ∈ l ∨ u ∈ prts as := by
        intro as
        induction as with
        | nil => intro _ k l _ h; rw [noteSs, prts_0]; exact ⟨h, fun u => ⟨.inl, fun h => h.elim id fun h => absurd h List.not_mem_nil⟩⟩
        | cons a as iha =>
          intro ih k l hk h
          rw [T.sizes] at hk
          obtain ⟨q1, q2⟩ := ih a List.mem_cons_self k l (by omega) h
          obtain ⟨q3, q4⟩ := iha (fun t ht => ih t (List.mem_cons_of_mem _ ht)) k (noteS a l) (by omega) q1
          rw [noteSs, prts_c]
          refine ⟨q3, fun u => ?_⟩
          rw [q4, q2, List.mem_append, or_assoc]
      have c0 : Clo (T.sizes as) (l ++ [.a f as]) := fun x hx hxm u hu => by
        rcases List.mem_append.mp hx with hx | hx
        · exact List.mem_append.mpr (.inl (hl x hx (by omega) u hu))
        · rw [List.mem_singleton.mp hx, size_a] at hxm
          omega
      obtain ⟨q1, q2⟩ := key as ih (T.sizes as) (l ++ [.a f as]) (Nat.le_refl _) c0
      have q3 : ∀ u, u ∈ noteSs as (l ++ [.a f as]) ↔ u ∈ l ∨ u ∈ prt (.a f as) := fun u => by
        rw [q2, List.mem_append, prt_a, List.mem_singleton, List.mem_cons, or_assoc]
      refine ⟨fun x hx hxm u hu => ?_, q3⟩
      rcases (q3 x).mp hx with hx2 | hx2
      · exact (q3 u).mpr (.inl (hl x hx2 hxm u hu))
      · rw [prt_a] at hx2
        rcases List.mem_cons.mp hx2 with rfl | hx2
        · exact (q3 u).mpr (.inr hu)
        · obtain ⟨a, ha, hxa⟩ := prts_mem.mp hx2
          exact q1 x hx (Nat.le_trans (prt_size a x hxa) (size_le ha)) u hu
theorem noteS_mem (t u : T) : u ∈ noteS t [] ↔ u ∈ prt t := by
  have := (mem_noteS t t.size [] (Nat.le_refl _) fun _ h => absurd h List.not_mem_nil).2 u
  rw [this]
  exact ⟨fun h => h.elim (fun h => absurd h List.not_mem_nil) id, .inr⟩
end DL

set_option Elab.async false
set_option linter.all false
set_option maxRecDepth 100000
set_option maxHeartbeats 4000000
namespace DL
open PySem PySem.Spec PyProof.Rows L2
/-- the variables of numbered terms are 0, 1, 2 and so on -/
theorem noteVs_nums (ts : List T) : noteVs (nums ts) [] = upto (noteVs ts []).length := by
  have nd : (noteVs ts []).Nodup := nodup_noteVs ts [] List.nodup_nil
  have oc : ∀ x, Oc x (.a ⟨#[]⟩ ts) → x ∈ noteVs ts [] := fun x hx => (mem_noteVs ts []).mpr (.inr (oc_a.mp hx))
  have lk : ∀ (i : Nat) x, (noteVs ts [])[i]? = some x → tS (numL 0 (noteVs ts [])) x = .v (i : Int) := fun i x hi => by
    refine tS_some (look_in (by rw [numL_keys]; exact nd) ?_)
    have := numL_at 0 (noteVs ts []) i
    rw [hi, Option.map_some, Nat.zero_add] at this
    exact List.mem_of_getElem? this
  obtain ⟨a, ha⟩ : ∃ a : Int → Int, a = fun x => match tS (numL 0 (noteVs ts [])) x with | .v n => n | _ => 0 := ⟨_, rfl⟩
  have hai : ∀ (i : Nat) x, (noteVs ts [])[i]? = some x → a x = i := fun i x hi => by
    rw [ha]
    simp only [lk i x hi]
  have key := noteV_ren (α := tS (numL 0 (noteVs ts []))) (a := a) (.a ⟨#[]⟩ ts) [] [] (fun x hx => by
    have hx := oc x (hx.resolve_left List.not_mem_nil)
    obtain ⟨i, hi⟩ := List.mem_iff_getElem?.mp hx
    rw [lk i x hi, hai i x hi]) (fun x y hx hy e => by
    obtain ⟨i, hi⟩ := List.mem_iff_getElem?.mp (oc x (hx.resolve_left List.not_mem_nil))
    obtain ⟨j, hj⟩ := List.mem_iff_getElem?.mp (oc y (hy.resolve_left List.not_mem_nil))
    rw [hai i x hi, hai j y hj] at e
    have : i = j := by omega
    rw [this, hj] at hi
    exact (Option.some.inj hi).symm) rfl
  have e1 : sub (tS (numL 0 (noteVs ts []))) (.a ⟨#[]⟩ ts) = .a ⟨#[]⟩ (nums ts) := by
    rw [sub_a]
    unfold nums
    congr 1
    exact List.map_congr_left fun t _ => (rep_tS _ t).symm
  rw [e1, noteV_a, noteV_a] at key
  rw [key]
  apply List.ext_getElem?
  intro i
  rw [List.getElem?_map]
  unfold upto
  rw [List.getElem?_map]
  by_cases hi : i < (noteVs ts []).length
  · rw [List.getElem?_eq_getElem hi, Option.map_some, hai i _ (List.getElem?_eq_getElem hi), List.getElem?_range hi, Option.map_some]
    rfl
  · rw [List.getElem?_eq_none (by omega), List.getElem?_eq_none (by rw [List.length_range]; omega)]
    rfl
/-! rules as data -/
def rD (nm : Str) (pr : List T) (c : T) : D := .tup [.str nm, .tup (pr.map T.toD), c.toD]
theorem rD_ok {nm : Str} {pr : List T} {c : T} (hn : NmG nm) (hp : OkS pr) (hc : c.G) (dc : c.dep ≤ 60) (hs : T.sizes pr ≤ 40000) (hz : c.size ≤ 40000) : gdD (rD nm pr c) = true ∧ hD (rD nm pr c) ≤ 64 ∧ wD (rD nm pr c) ≤ 16777216 := by
  have e0 : T.toD (.a nm []) = .tup [.str nm] := by rw [toD_a]; rfl
  have g0 : gdD (T.toD (.a nm [])) = true := gd_T (.a hn fun _ h => absurd h List.not_mem_nil)
  have w0 : wD (T.toD (.a nm [])) + 2 ≤ 170 * (T.a nm []).size := wD_T (.a hn fun _ h => absurd h List.not_mem_nil)
  rw [e0] at g0 w0
  rw [gdD, gdDs, gdDs, Bool.and_true] at g0
  simp only [wD, wDs] at w0
  rw [size_a, T.sizes] at w0
  refine ⟨?_, ?_, ?_⟩
  · unfold rD
    rw [gdD, gdDs, gdDs, gdDs, gdDs, g0, gdD, gdDs_map fun t ht => gd_T (hp t ht).1, gd_T hc]
    rfl
  · unfold rD
    rw [hD, hDs, hDs, hDs, hDs, hD]
    have h1 := hDs_map (g := T.toD) (n := 60) (l := pr) fun t ht => Nat.le_trans (hD_T t) (hp t ht).2
    have h2 := hD_T c
    have h3 : hD (.str nm) = 0 := rfl
    omega
  · unfold rD
    simp only [wD, wDs]
    have h1 := wDs_T (as := pr) fun t ht => wD_T (hp t ht).1
    have h2 := wD_T hc
    omega
theorem o_eqRl {nm : Str} {pr pr2 : List T} {c c2 : T} {h : DHeap} {Q : QD} (ha : okP (rD nm pr c) = true) (hb : okP (rD nm pr2 c2) = true) : W (eqD (rD nm pr c) (rD nm pr2 c2) h) Q = Q (.bl (decide (c :: pr = c2 :: pr2))) h := by
  have e : eqvD (rD nm pr c) (rD nm pr2 c2) = decide (c :: pr = c2 :: pr2) := by
    have q : eqvD (rD nm pr c) (rD nm pr2 c2) = (PyData.eqv (.str nm) (.str nm) && (PyData.eqvAll (toPs (pr.map T.toD)) (toPs (pr2.map T.toD)) && (PyData.eqv (toP c.toD) (toP c2.toD) && true))) := by
      show PyData.eqv (.tuple [.str nm, .tuple (toPs (pr.map T.toD)), toP c.toD]) (.tuple [.str nm, .tuple (toPs (pr2.map T.toD)), toP c2.toD]) = _
      simp only [PyData.eqv, PyData.eqvAll]
    rw [q]
    have h0 : PyData.eqv (.str nm) (.str nm) = true := by simp [PyData.eqv]
    rw [h0, Bool.true_and, Bool.and_true]
    by_cases h1 : pr = pr2
    · by_cases h2 : c = c2
      · rw [(eqv_Ts pr pr2).mpr h1, (eqv_T c c2).mpr h2, decide_eq_true (by rw [h1, h2])]; rfl
      · rw [Bool.eq_false_iff.mpr fun q => h2 ((eqv_T c c2).mp q), decide_eq_false fun q => h2 (List.cons.inj q).1, Bool.and_false]
    · rw [Bool.eq_false_iff.mpr fun q => h1 ((eqv_Ts pr pr2).mp q), decide_eq_false fun q => h1 (List.cons.inj q).2, Bool.false_and]
  rw [← e]
  unfold eqD
  have s1 : scalD (rD nm pr c) (rD nm pr2 c2) = none := rfl
  have s2 : ∀ nm pr c, seen h (rD nm pr c) = some (rD nm pr c) := fun _ _ _ => rfl
  rw [s1]
  simp only [s2, ha, hb, and_self, if_true]
  rfl
end DL

set_option Elab.async false
set_option linter.all false
set_option maxRecDepth 100000
namespace DL
open PySem PySem.Spec PyProof.Rows L2
section
variable {σ s σ1 : DEnv} {h : DHeap} {n : Nat} {Q : QD} {QY : QOD} {QS : QLs} {QI : QSr} {fa fb fc f g fk fv te : M D} {ta t t1 : M Bool} {x y z d : D} {ds r : List D} {a b c : Int} {w : Str} {vs vs1 : List Nat} {gg gg1 : D → DEnv → Option DEnv} {gs : List D → DEnv → Option DEnv} {src src1 : M Src} {sr : Src} {ps : List (M D × M D)} {l : List (Key × D)}
/-! unary minus -/
def kNg (Q : QD) : QD := fun x h => match x with | .int i => Q (.int (-i)) h | _ => False
theorem Z7F : W (negM f σ h) Q = W (f σ h) (kNg Q) := W_b fun x h1 => by
  unfold kNg
  cases x <;> rfl
theorem Z7G {i : Int} : kNg Q (.int i) h = Q (.int (-i)) h := rfl
/-! max(.., default=..) -/
def kMx4 (d : D) (Q : QD) (h : DHeap) : Option (List Int) → Prop | some ns => Q (maxOr ns d) h | none => False
def kMx3 (d : D) (Q : QD) (h : DHeap) : Option (List D) → Prop | some ds => kMx4 d Q h (intsOf ds) | none => False
def kMx2 (x : D) (Q : QD) : QD := fun d h => kMx3 d Q h (seqOf h x)
def kMx (g : M D) (σ : DEnv) (Q : QD) : QD := fun x h => W (g σ h) (kMx2 x Q)
theorem Z6V : W (maxDv f g σ h) Q = W (f σ h) (kMx g σ Q) := W_b fun x h1 => W_b fun d h2 => by
  unfold kMx2 kMx3 kMx4
  cases seqOf h2 x with
  | none => rfl
  | some ds => simp only; cases intsOf ds with
    | none => rfl
    | some ns => simp only [maxOr]; cases maxL ns <;> rfl
theorem Z6W : kMx g σ Q x h = W (g σ h) (kMx2 x Q) := rfl
theorem Z6X : kMx2 x Q d h = kMx3 d Q h (seqOf h x) := rfl
theorem Z6Y : kMx3 d Q h (some ds) = kMx4 d Q h (intsOf ds) := rfl
theorem Z6Z {ns : List Int} : kMx4 d Q h (some ns) = Q (maxOr ns d) h := rfl
/-! range by steps -/
def kR43 (x y : D) (QI : QSr) : QD := fun z h => match x, y, z with
  | .int i, .int j, .int c => RgC i j c (Builtin.Range.rangeSize i j c).toNat ∧ QI ⟨rngL i c (Builtin.Range.rangeSize i j c).toNat, none⟩ h
  | _, _, _ => False
def kR42 (fc : M D) (σ : DEnv) (x : D) (QI : QSr) : QD := fun y h => W (fc σ h) (kR43 x y QI)
def kR41 (fb fc : M D) (σ : DEnv) (QI : QSr) : QD := fun x h => W (fb σ h) (kR42 fc σ x QI)
theorem Z7a : W (rng3 fa fb fc σ h) QI = W (fa σ h) (kR41 fb fc σ QI) := W_b fun x _ => W_b fun y _ => W_b fun z _ => by
  classical cases x <;> cases y <;> cases z <;> first | rfl | exact W_ite
theorem Z7b : kR41 fb fc σ QI x h = W (fb σ h) (kR42 fc σ x QI) := rfl
theorem Z7c : kR42 fc σ x QI y h = W (fc σ h) (kR43 x y QI) := rfl
theorem Z7d : kR43 (.int a) (.int b) QI (.int c) h = (RgC a b c (Builtin.Range.rangeSize a b c).toNat ∧ QI ⟨rngL a c (Builtin.Range.rangeSize a b c).toNat, none⟩ h) := rfl
/-! comprehensions with any target -/
def kCoG (vs : List Nat) (gg : D → DEnv → Option DEnv) (t : M Bool) (te : M D) (σ : DEnv) (QS : QLs) : QSr := fun s h => s.items.length ≤ 16777216 ∧ W (loopC s (stepG vs gg t te σ) s.items h) QS
theorem Z7e : W (compG src vs gg t te σ h) QS = W (src σ h) (kCoG vs gg t te σ QS) := W_b fun s h => by
  unfold kCoG
  rw [← sizeLine_eq]
  by_cases e : s.items.length ≤ sizeLine
  · rw [if_pos e, W_calm]; simp [e]
  · rw [if_neg e]; simp [e, W]
theorem Z7f : kCoG vs gg t te σ QS sr h = (sr.items.length ≤ 16777216 ∧ W (loopC sr (stepG vs gg t te σ) sr.items h) QS) := rfl
def kG0 (t : M Bool) (te : M D) (h : DHeap) (QY : QOD) : Option DEnv → Prop | some σ1 => W (t σ1 h) (kX te σ1 QY) | none => False
theorem Z7g : W (stepG vs gg t te σ x h) QY = kG0 t te h QY (gg x (wipeD σ vs)) := by
  unfold stepG kG0
  cases gg x (wipeD σ vs) with
  | none => rfl
  | some σ1 => exact W_b fun b _ => by cases b <;> first | rfl | exact W_b fun _ _ => rfl
theorem Z7h : kG0 t te h QY (some σ1) = W (t σ1 h) (kX te σ1 QY) := rfl
theorem Z7i {i : Nat} : cN i d σ = some (σ.set i (some d)) := rfl
def kcs (gs : List D → DEnv → Option DEnv) (r : List D) : Option DEnv → Option DEnv | some σ1 => gs r σ1 | none => none
theorem Z7j : csCons gg gs (d :: r) σ = kcs gs r (gg d σ) := by
  show (match gg d σ with | some σ1 => gs r σ1 | none => none) = _
  cases gg d σ <;> rfl
theorem Z7k : kcs gs r (some σ1) = gs r σ1 := rfl
theorem Z7l : csNil [] σ = some σ := rfl
theorem g_T {k : Nat} : cT k gs (.tup ds) σ = if ds.length = k then gs ds σ else none := rfl
theorem Z7t : wipeD σ [] = σ := rfl
theorem Z7u {v : Nat} : wipeD σ (v :: vs) = (wipeD σ vs).set v none := rfl
/-! two fors -/
def kLen (QS : QLs) : QLs := fun ys h => ys.length ≤ 16777216 ∧ QS ys h
theorem Z7E : kLen QS ds h = (ds.length ≤ 16777216 ∧ QS ds h) := rfl
def kCoGG (vs : List Nat) (gg : D → DEnv → Option DEnv) (t : M Bool) (src1 : M Src) (vs1 : List Nat) (gg1 : D → DEnv → Option DEnv) (t1 : M Bool) (te : M D) (σ : DEnv) (QS : QLs) : QSr := fun s h => W (loopCC s (stepGG vs gg t src1 vs1 gg1 t1 te σ) s.items h) (kLen QS)
theorem Z7m : W (compGG src vs gg t src1 vs1 gg1 t1 te σ h) QS = W (src σ h) (kCoGG vs gg t src1 vs1 gg1 t1 te σ QS) := W_b fun s h => by
  unfold kCoGG
  rw [W_bind, W_calm]
  exact W_ext fun ys h => by
    unfold kLen
    rw [← sizeLine_eq]
    by_cases e : ys.length ≤ sizeLine
    · rw [if_pos e]; simp [e, W]
    · rw [if_neg e]; simp [e, W]
theorem Z7n : kCoGG vs gg t src1 vs1 gg1 t1 te σ QS sr h = W (loopCC sr (stepGG vs gg t src1 vs1 gg1 t1 te σ) sr.items h) (kLen QS) := rfl
def kIn1 (vs1 : List Nat) (gg1 : D → DEnv → Option DEnv) (t1 : M Bool) (te : M D) (σ1 : DEnv) (QS : QLs) : QSr := fun s h => W (loopC s (stepG vs1 gg1 t1 te σ1) s.items h) QS
def kGt (src1 : M Src) (vs1 : List Nat) (gg1 : D → DEnv → Option DEnv) (t1 : M Bool) (te : M D) (σ1 : DEnv) (QS : QLs) : QBl := fun b h => if b = true then W (src1 σ1 h) (kIn1 vs1 gg1 t1 te σ1 QS) else QS [] h
def kGG0 (t : M Bool) (src1 : M Src) (vs1 : List Nat) (gg1 : D → DEnv → Option DEnv) (t1 : M Bool) (te : M D) (h : DHeap) (QS : QLs) : Option DEnv → Prop | some σ1 => W (t σ1 h) (kGt src1 vs1 gg1 t1 te σ1 QS) | none => False
theorem Z7o : W (stepGG vs gg t src1 vs1 gg1 t1 te σ x h) QS = kGG0 t src1 vs1 gg1 t1 te h QS (gg x (wipeD σ vs)) := by
  unfold stepGG kGG0
  cases gg x (wipeD σ vs) with
  | none => rfl
  | some σ1 => exact W_b fun b _ => by cases b <;> first | rfl | exact W_bind
theorem Z7p : kGG0 t src1 vs1 gg1 t1 te h QS (some σ1) = W (t σ1 h) (kGt src1 vs1 gg1 t1 te σ1 QS) := rfl
theorem Z7q : kGt src1 vs1 gg1 t1 te σ1 QS true h = W (src1 σ1 h) (kIn1 vs1 gg1 t1 te σ1 QS) := rfl
theorem Z7r : kGt src1 vs1 gg1 t1 te σ1 QS false h = QS [] h := rfl
theorem Z7s : kIn1 vs1 gg1 t1 te σ1 QS sr h = W (loopC sr (stepG vs1 gg1 t1 te σ1) sr.items h) QS := rfl
/-! a dict display -/
def kDN3 (l : List (Key × D)) (n : Nat) (Q : QD) (h : DHeap) : Option Cell → Prop | some (.dic []) => Q (.ref n) (h.set n (.dic (putAll l))) | _ => False
def kDN (n : Nat) (Q : QD) : List (Key × D) → DHeap → Prop := fun l h => kDN3 l n Q h (h[n]?)
theorem Z7v : W (dispN ps σ h) Q = W (dispGo ps σ (h ++ [.dic []])) (kDN h.length Q) := W_b fun l h1 => by
  unfold kDN kDN3
  cases e : h1[h.length]? with
  | none => rfl
  | some c =>
    cases c with
    | lst _ => rfl
    | dic kvs => cases kvs <;> rfl
theorem Z7w : kDN n Q l h = kDN3 l n Q h (h[n]?) := rfl
theorem Z7x : kDN3 l n Q h (some (.dic [])) = Q (.ref n) (h.set n (.dic (putAll l))) := rfl
abbrev QKs := List (Key × D) → DHeap → Prop
def kDg4 (y : D) (QK : QKs) (l : List (Key × D)) (h : DHeap) : Option Key → Prop | some k => QK ((k, y) :: l) h | none => False
def kDg3 (x y : D) (QK : QKs) : QKs := fun l h => kDg4 y QK l h (keyD x)
def kDg2 (ps : List (M D × M D)) (σ : DEnv) (x : D) (QK : QKs) : QD := fun y h => W (dispGo ps σ h) (kDg3 x y QK)
def kDg1 (fv : M D) (ps : List (M D × M D)) (σ : DEnv) (QK : QKs) : QD := fun x h => W (fv σ h) (kDg2 ps σ x QK)
theorem Z7y {QK : QKs} : W (dispGo [] σ h) QK = QK [] h := rfl
theorem Z7z {QK : QKs} : W (dispGo ((fk, fv) :: ps) σ h) QK = W (fk σ h) (kDg1 fv ps σ QK) := W_b fun x _ => W_b fun y _ => W_b fun l h3 => by
  unfold kDg3 kDg4
  show W (match keyD x with | some k => _ | none => _) QK = _
  cases keyD x <;> rfl
theorem Z7A {QK : QKs} : kDg1 fv ps σ QK x h = W (fv σ h) (kDg2 ps σ x QK) := rfl
theorem Z7B {QK : QKs} : kDg2 ps σ x QK y h = W (dispGo ps σ h) (kDg3 x y QK) := rfl
theorem Z7C {QK : QKs} : kDg3 (.int a) y QK l h = QK ((.inl a, y) :: l) h := rfl
theorem Z7D {QK : QKs} : kDg3 (.str w) y QK l h = QK ((.inr w, y) :: l) h := rfl
end
theorem loopCC_i {s : Src} {step : D → DHeap → Res (List D)} {QS : QLs} (P : Nat → List D → DHeap → Prop) {l : List D} {h : DHeap} (h0 : P 0 [] h) (hc : ∀ i ys h, P i ys h → s.chk h)
    (hs : ∀ i ys h x, l[i]? = some x → P i ys h → W (step x h) (fun zs h1 => P (i + 1) (ys ++ zs) h1)) (he : ∀ ys h, P l.length ys h → QS ys h) : W (loopCC s step l h) QS := by
  have go : ∀ (r : List D) (i : Nat) (ys : List D) (h : DHeap), l.drop i = r → i ≤ l.length → P i ys h → W (loopCC s step r h) (fun zs h' => P l.length (ys ++ zs) h') := by
    intro r
    induction r with
    | nil =>
      intro i ys h e hi p
      have ei : i = l.length := by
        have := List.drop_eq_nil_iff.mp e
        omega
      subst ei
      unfold loopCC
      rw [if_pos (hc _ _ _ p)]
      show P l.length (ys ++ []) h
      rw [List.append_nil]
      exact p
    | cons x r ih =>
      intro i ys h e hi p
      have hlt : i < l.length := by
        rcases Nat.lt_or_ge i l.length with q | q
        · exact q
        · rw [List.drop_eq_nil_iff.mpr q] at e; cases e
      rw [List.drop_eq_getElem_cons hlt] at e
      obtain ⟨e1, e2⟩ := List.cons.inj e
      unfold loopCC
      rw [if_pos (hc _ _ _ p), W_bind]
      refine W_mono (hs i ys h x (by rw [← e1]; exact List.getElem?_eq_getElem hlt) p) fun zs h1 q => ?_
      rw [W_bind]
      refine W_mono (ih (i + 1) (ys ++ zs) h1 e2 hlt q) fun us h2 q2 => ?_
      show P l.length (ys ++ (zs ++ us)) h2
      rw [← List.append_assoc]
      exact q2
  refine W_mono (go l 0 [] h rfl (Nat.zero_le _) h0) fun zs h' q => he zs h' (by simpa using q)
/-- two fors that only reckon -/
theorem loopCC_m {α : Type} {s : Src} {step : D → DHeap → Res (List D)} (e : α → D) (g : α → List D) (l : List α) (h : DHeap) (hs : s.at_ = none) (hx : ∀ x, x ∈ l → W (step (e x) h) (fun o h' => o = g x ∧ h' = h)) :
    W (loopCC s step (l.map e) h) (fun ys h' => ys = l.flatMap g ∧ h' = h) := by
  refine loopCC_i (fun i ys h' => ys = (l.take i).flatMap g ∧ h' = h) ⟨rfl, rfl⟩ (fun _ _ _ _ => by unfold Src.chk; rw [hs]; trivial) (fun i ys h' x ex p => ?_) fun ys h' p => ?_
  · obtain ⟨rfl, rfl⟩ := p
    obtain ⟨y, ey, rfl, my⟩ := map_at ex
    refine W_mono (hx y my) fun o h1 q => ?_
    obtain ⟨rfl, rfl⟩ := q
    refine ⟨?_, rfl⟩
    rw [List.take_add_one, ey]
    simp
  · rw [List.length_map, List.take_length] at p
    exact p
/-- a comprehension that leaves what was there -/
theorem loopC_o {α : Type} {s : Src} {step : D → DHeap → Res (Option D)} (e : α → D) (g : α → D) (l : List α) (h : DHeap) (hs : ∀ h', Old h h' → s.chk h') (hx : ∀ x, x ∈ l → ∀ h1, Old h h1 → W (step (e x) h1) (fun o h' => o = some (g x) ∧ Old h1 h')) :
    W (loopC s step (l.map e) h) (fun ys h' => ys = l.map g ∧ Old h h') := by
  refine loopC_i (fun i ys h' => ys = (l.take i).map g ∧ Old h h') ⟨rfl, Old.refl⟩ (fun _ _ h' p => hs h' p.2) (fun i ys h' x ex p => ?_) fun ys h' p => ?_
  · obtain ⟨rfl, o⟩ := p
    obtain ⟨y, ey, rfl, my⟩ := map_at ex
    refine W_mono (hx y my h' o) fun o1 h1 q => ?_
    obtain ⟨rfl, o2⟩ := q
    refine ⟨?_, o.trans o2⟩
    rw [List.take_add_one, ey]
    simp
  · rw [List.length_map, List.take_length] at p
    exact p
end DL

set_option Elab.async false
set_option linter.all false
set_option maxRecDepth 100000
namespace DL
open PySem PySem.Spec PyProof.Rows L2
section
variable {σ : DEnv} {h : DHeap} {fa fb : M D} {Q : QD} {QI : QSr} {x y : D} {a c : Int} {ds : List D}
def kLr1 (Q : QD) : QD := fun d h => match d with | .int j => (-4611686018427387904 ≤ j ∧ j < 4611686018427387904 ∧ j.toNat ≤ 16777216) ∧ Q (.ref h.length) (h ++ [.lst (rangeL 0 j.toNat)]) | _ => False
theorem Z7H : W (lrg1 fa σ h) Q = W (fa σ h) (kLr1 Q) := W_b fun d _ => by cases d <;> first | rfl | exact W_ite
theorem Z7I : kLr1 Q (.int a) h = ((-4611686018427387904 ≤ a ∧ a < 4611686018427387904 ∧ a.toNat ≤ 16777216) ∧ Q (.ref h.length) (h ++ [.lst (rangeL 0 a.toNat)])) := rfl
def kLr3 (x : D) (Q : QD) : QD := fun y h => match x, y with | .int i, .int j => (-4611686018427387904 ≤ i ∧ i < 4611686018427387904 ∧ -4611686018427387904 ≤ j ∧ j < 4611686018427387904 ∧ (j - i).toNat ≤ 16777216) ∧ Q (.ref h.length) (h ++ [.lst (rangeL i (j - i).toNat)]) | _, _ => False
def kLr2 (fb : M D) (σ : DEnv) (Q : QD) : QD := fun x h => W (fb σ h) (kLr3 x Q)
theorem Z7J : W (lrg2 fa fb σ h) Q = W (fa σ h) (kLr2 fb σ Q) := W_b fun d _ => W_b fun e _ => by cases d <;> cases e <;> first | rfl | exact W_ite
theorem Z7K : kLr2 fb σ Q x h = W (fb σ h) (kLr3 x Q) := rfl
theorem Z7L : kLr3 (.int a) Q (.int c) h = ((-4611686018427387904 ≤ a ∧ a < 4611686018427387904 ∧ -4611686018427387904 ≤ c ∧ c < 4611686018427387904 ∧ (c - a).toNat ≤ 16777216) ∧ Q (.ref h.length) (h ++ [.lst (rangeL a (c - a).toNat)])) := rfl
def kRv (QI : QSr) : QD := fun d h => match d with | .tup ds => QI ⟨ds.reverse, none⟩ h | _ => False
theorem Z7M : W (revM fa σ h) QI = W (fa σ h) (kRv QI) := W_b fun d _ => by cases d <;> rfl
theorem Z7N : kRv QI (.tup ds) h = QI ⟨ds.reverse, none⟩ h := rfl
end
end DL

set_option Elab.async false
set_option linter.all false
set_option maxRecDepth 100000
namespace DL
open PySem PySem.Spec PyProof.Rows L2
section
variable {σ : DEnv} {h : DHeap} {n : Nat} {Q : QD} {fo fe : M D} {x y : D} {ds : List D}
/-! x.index(y) -/
def kJxT (ds : List D) (Q : QD) : QD := fun y h => W (idxR ds y h) Q
def kJxU (y : D) (Q : QD) (o : Option Cell) (h : DHeap) : Prop := match o with | some (.lst ds) => W (idxR ds y h) Q | _ => False
def kJxS (n : Nat) (Q : QD) : QD := fun y h => kJxU y Q (h[n]?) h
def kJxR (fe : M D) (σ : DEnv) (n : Nat) (Q : QD) (o : Option Cell) (h : DHeap) : Prop := match o with | some (.lst _) => W (fe σ h) (kJxS n Q) | _ => False
def kJx (fe : M D) (σ : DEnv) (Q : QD) : QD := fun x h => match x with | .tup ds => W (fe σ h) (kJxT ds Q) | .ref n => kJxR fe σ n Q (h[n]?) h | _ => False
theorem Z7O : W (idxM fo fe σ h) Q = W (fo σ h) (kJx fe σ Q) := W_b fun x h1 => by
  cases x with
  | tup ds => exact W_b fun y h2 => rfl
  | ref n =>
    show W (match h1[n]? with | some (.lst _) => ((fe σ h1).bind fun y h2 => match h2[n]? with | some (.lst ds) => idxR ds y h2 | _ => .bad) | _ => .bad) Q = kJxR fe σ n Q (h1[n]?) h1
    cases e : h1[n]? with
    | none => rfl
    | some c =>
      cases c with
      | dic _ => rfl
      | lst _ =>
        refine W_b fun y h2 => ?_
        show W (match h2[n]? with | some (.lst ds) => idxR ds y h2 | _ => .bad) Q = kJxU y Q (h2[n]?) h2
        cases e2 : h2[n]? with
        | none => rfl
        | some c2 => cases c2 <;> rfl
  | _ => rfl
theorem Z7P : kJx fe σ Q (.tup ds) h = W (fe σ h) (kJxT ds Q) := rfl
theorem Z7Q : kJx fe σ Q (.ref n) h = kJxR fe σ n Q (h[n]?) h := rfl
theorem Z7R : kJxR fe σ n Q (some (.lst ds)) h = W (fe σ h) (kJxS n Q) := rfl
theorem Z7S : kJxS n Q y h = kJxU y Q (h[n]?) h := rfl
theorem Z7T : kJxU y Q (some (.lst ds)) h = W (idxR ds y h) Q := rfl
theorem Z7U : kJxT ds Q y h = W (idxR ds y h) Q := rfl
theorem o_idx {j : Nat} (h1 : okP y = true) (h2 : okP (.tup ds) = true) (e : ds.findIdx? (fun z => eqvD z y) = some j) : W (idxR ds y h) Q = Q (.int (j : Nat)) h := by
  unfold idxR
  rw [if_pos ⟨h1, h2⟩, e]
  rfl
theorem eqv_int (a b : Int) : eqvD (.int a) (.int b) = decide (a = b) := by
  unfold eqvD toP
  by_cases e : a = b
  · subst e; simp [PyData.eqv]
  · rw [decide_eq_false e]; simp [PyData.eqv, e]
/-- the place of an int in a tuple of ints -/
theorem okP_intT {l : List Int} (h : OkI l) : okP (.tup (l.map D.int)) = true := okP_of (by
  rw [gdD]
  exact gdDs_map fun t ht => by
    rw [gdD, decide_eq_true (h t ht).1, decide_eq_true (h t ht).2]
    rfl) (by
  rw [hD]
  have := hDs_map (g := D.int) (n := 0) (l := l) fun t _ => Nat.le_refl _
  omega)
theorem o_idxI {l : List Int} {k : Int} {j : Nat} (hl : OkI l) (hj : l[j]? = some k) (hn : ∀ m, m < j → l[m]? ≠ some k) : W (idxR (l.map D.int) (.int k) h) Q = Q (.int (j : Nat)) h := by
  obtain ⟨hlt, hk⟩ := List.getElem?_eq_some_iff.mp hj
  have kk := hl k (by rw [← hk]; exact List.getElem_mem hlt)
  refine o_idx (okP_int kk.1 kk.2) (okP_intT hl) ?_
  rw [List.findIdx?_eq_some_iff_getElem]
  refine ⟨by rw [List.length_map]; exact hlt, by rw [List.getElem_map, eqv_int, hk]; simp, fun m hm => ?_⟩
  rw [List.getElem_map, eqv_int]
  have := hn m hm
  rw [List.getElem?_eq_getElem (by omega)] at this
  simpa using this
/-! dict(t) -/
theorem o_dicT : W (dicTD [.tup ds] h) Q = (keyed ds = true ∧ Q (.ref h.length) (h ++ [.dic (foldP [] ds)])) := by
  show W (if keyed ds = true then _ else _) Q = _
  by_cases e : keyed ds = true
  · rw [if_pos e]
    exact propext ⟨fun q => ⟨e, q⟩, fun q => q.2⟩
  · rw [if_neg e]
    exact propext ⟨fun q => q.elim, fun q => absurd q.1 e⟩
def pD (p : Int × T) : D := .tup [.int p.1, p.2.toD]
def foldT (b : Tab) (ps : List (Int × T)) : Tab := ps.foldl (fun b p => putT b p.1 p.2) b
theorem foldP_T : ∀ (ps : List (Int × T)) (b : Tab), foldP (tD b) (ps.map pD) = tD (foldT b ps)
  | [], b => rfl
  | p :: ps, b => by
    show foldP (putP (tD b) (pD p)) (ps.map pD) = tD (foldT (putT b p.1 p.2) ps)
    rw [show putP (tD b) (pD p) = putD (tD b) (.inl p.1) p.2.toD from rfl, tD_putT, foldP_T]
theorem keyed_T (ps : List (Int × T)) : keyed (ps.map pD) = true := by
  unfold keyed
  rw [List.all_map, List.all_eq_true]
  intro p _
  rfl
theorem o_dicP {ps : List (Int × T)} : W (dicTD [.tup (ps.map pD)] h) Q = Q (.ref h.length) (h ++ [.dic (tD (foldT [] ps))]) := by
  rw [o_dicT, show foldP [] (ps.map pD) = tD (foldT [] ps) from foldP_T ps []]
  exact propext ⟨fun q => q.2, fun q => ⟨keyed_T ps, q⟩⟩
end
end DL

set_option Elab.async false
set_option linter.all false
set_option maxRecDepth 100000
namespace DL
open PySem PySem.Spec PyProof.Rows L2
section
variable {σ : DEnv} {h : DHeap} {n : Nat} {Q : QD} {f fo fe fe2 : M D} {x y : D} {ds : List D}
def kLt2 (Q : QD) (h : DHeap) : Option (List Int) → Prop | some ns => ns.length ≤ 4000 ∧ Q (.int ((dedI ns).length : Nat)) h | none => False
def kLt (Q : QD) : QD := fun d h => match d with | .tup ds => kLt2 Q h (intsOf ds) | _ => False
theorem Z7V : W (lenSetM f σ h) Q = W (f σ h) (kLt Q) := W_b fun d h1 => by
  cases d with
  | tup ds =>
    show W (match intsOf ds with | some ns => if ns.length ≤ 4000 then .ok (.int ((dedI ns).length : Nat)) h1 else .bad | none => .bad) Q = kLt2 Q h1 (intsOf ds)
    cases intsOf ds with
    | none => rfl
    | some ns =>
      show W (if ns.length ≤ 4000 then _ else _) Q = (_ ∧ _)
      by_cases e : ns.length ≤ 4000
      · rw [if_pos e]; exact propext ⟨fun q => ⟨e, q⟩, fun q => q.2⟩
      · rw [if_neg e]; exact propext ⟨fun q => q.elim, fun q => absurd q.1 e⟩
  | _ => rfl
theorem Z7W : kLt Q (.tup ds) h = kLt2 Q h (intsOf ds) := rfl
theorem Z7X {ns : List Int} : kLt2 Q h (some ns) = (ns.length ≤ 4000 ∧ Q (.int ((dedI ns).length : Nat)) h) := rfl
theorem o_minR {ns : List Int} {m : Int} (e : h[n]? = some (.lst (ns.map .int))) (em : minL ns = some m) : W (minD [.ref n] h) Q = Q (.int m) h := by
  have i : intsOf (ns.map D.int) = some ns := Z5T ns
  show W (match seqOf h (.ref n) with | some ds => (match intsOf ds with | some ns => (match (minL ns).map D.int with | some r => .ok r h | none => .bad) | none => .bad) | none => .bad) Q = _
  show W (match (match h[n]? with | some (.lst ds) => some ds | _ => none) with | some ds => (match intsOf ds with | some ns => (match (minL ns).map D.int with | some r => .ok r h | none => .bad) | none => .bad) | none => .bad) Q = _
  rw [e]
  simp only [i, em]
  rfl
theorem o_maxR {ns : List Int} {m : Int} (e : h[n]? = some (.lst (ns.map .int))) (em : maxL ns = some m) : W (maxD [.ref n] h) Q = Q (.int m) h := by
  have i : intsOf (ns.map D.int) = some ns := Z5T ns
  show W (match (match h[n]? with | some (.lst ds) => some ds | _ => none) with | some ds => (match intsOf ds with | some ns => (match (maxL ns).map D.int with | some r => .ok r h | none => .bad) | none => .bad) | none => .bad) Q = _
  rw [e]
  simp only [i, em]
  rfl
/-! l.reverse() -/
def kRw2 (n : Nat) (Q : QD) (h : DHeap) : Option Cell → Prop | some (.lst ds) => Q .non (h.set n (.lst ds.reverse)) | _ => False
def kRw (Q : QD) : QD := fun x h => match x with | .ref n => kRw2 n Q h (h[n]?) | _ => False
theorem Z7Y : W (rvsM fo σ h) Q = W (fo σ h) (kRw Q) := W_b fun x h1 => by
  cases x with
  | ref n =>
    show W (match h1[n]? with | some (.lst ds) => .ok .non (h1.set n (.lst ds.reverse)) | _ => .bad) Q = kRw2 n Q h1 (h1[n]?)
    cases h1[n]? with
    | none => rfl
    | some c => cases c <;> rfl
  | _ => rfl
theorem Z7Z : kRw Q (.ref n) h = kRw2 n Q h (h[n]?) := rfl
theorem Z8a : kRw2 n Q h (some (.lst ds)) = Q .non (h.set n (.lst ds.reverse)) := rfl
/-! l.insert(i, x) -/
def kIs4 (n : Nat) (y : D) (Q : QD) (h : DHeap) : D → Option Cell → Prop
  | .int i, some (.lst ds) => (ds.length < sizeLine ∧ 0 ≤ i ∧ i < 2 ^ 63) ∧ Q .non (h.set n (.lst (ds.take i.toNat ++ [y] ++ ds.drop i.toNat)))
  | _, _ => False
def kIs3 (n : Nat) (i : D) (Q : QD) : QD := fun y h => kIs4 n y Q h i (h[n]?)
def kIs2 (fe2 : M D) (σ : DEnv) (n : Nat) (Q : QD) : QD := fun i h => W (fe2 σ h) (kIs3 n i Q)
def kIs1 (fe fe2 : M D) (σ : DEnv) (n : Nat) (Q : QD) (h : DHeap) : Option Cell → Prop | some (.lst _) => W (fe σ h) (kIs2 fe2 σ n Q) | _ => False
def kIs (fe fe2 : M D) (σ : DEnv) (Q : QD) : QD := fun x h => match x with | .ref n => kIs1 fe fe2 σ n Q h (h[n]?) | _ => False
theorem Z8b : W (insM fo fe fe2 σ h) Q = W (fo σ h) (kIs fe fe2 σ Q) := W_b fun x h1 => by
  cases x with
  | ref n =>
    show W (match h1[n]? with | some (.lst _) => ((fe σ h1).bind fun i h2 => (fe2 σ h2).bind fun y h3 => match i, h3[n]? with | .int i, some (.lst ds) => if ds.length < sizeLine ∧ 0 ≤ i ∧ i < 2 ^ 63 then .ok .non (h3.set n (.lst (ds.take i.toNat ++ [y] ++ ds.drop i.toNat))) else .bad | _, _ => .bad) | _ => .bad) Q = kIs1 fe fe2 σ n Q h1 (h1[n]?)
    cases h1[n]? with
    | none => rfl
    | some c =>
      cases c with
      | dic _ => rfl
      | lst _ =>
        refine W_b fun i h2 => W_b fun y h3 => ?_
        show W _ Q = kIs4 n y Q h3 i (h3[n]?)
        cases i with
        | int i =>
          cases h3[n]? with
          | none => rfl
          | some c =>
            cases c with
            | dic _ => rfl
            | lst ds =>
              show W (if ds.length < sizeLine ∧ 0 ≤ i ∧ i < 2 ^ 63 then _ else _) Q = (_ ∧ _)
              by_cases e : ds.length < sizeLine ∧ 0 ≤ i ∧ i < 2 ^ 63
              · rw [if_pos e]; exact propext ⟨fun q => ⟨e, q⟩, fun q => q.2⟩
              · rw [if_neg e]; exact propext ⟨fun q => q.elim, fun q => absurd q.1 e⟩
        | _ => rfl
  | _ => rfl
theorem Z8c : kIs fe fe2 σ Q (.ref n) h = kIs1 fe fe2 σ n Q h (h[n]?) := rfl
theorem Z8d : kIs1 fe fe2 σ n Q h (some (.lst ds)) = W (fe σ h) (kIs2 fe2 σ n Q) := rfl
theorem Z8e : kIs2 fe2 σ n Q x h = W (fe2 σ h) (kIs3 n x Q) := rfl
theorem Z8f : kIs3 n x Q y h = kIs4 n y Q h x (h[n]?) := rfl
theorem Z8g {i : Int} : kIs4 n y Q h (.int i) (some (.lst ds)) = ((ds.length < sizeLine ∧ 0 ≤ i ∧ i < 2 ^ 63) ∧ Q .non (h.set n (.lst (ds.take i.toNat ++ [y] ++ ds.drop i.toNat)))) := rfl
end
end DL

set_option Elab.async false
set_option linter.all false
set_option maxRecDepth 100000
namespace DL
open PySem PySem.Spec PyProof.Rows L2
def EVB0 := And.intro @Z0a (And.intro @Z0b (And.intro @Z0c (And.intro @Z0d (And.intro @Z0e (And.intro @Z0f (And.intro @Z0g (And.intro @Z0h (And.intro @Z0i (And.intro @Z0j (And.intro @Z0k (And.intro @Z0l (And.intro @Z0m (And.intro @Z0n (And.intro @Z0o (And.intro @Z0p (And.intro @Z0q (And.intro @Z0r (And.intro @Z0s (And.intro @Z0t (And.intro @Z0u (And.intro @Z0v (And.intro @Z0w (And.intro @Z0x (And.intro @Z0y (And.intro @Z0z (And.intro @Z0A (And.intro @Z0B (And.intro @Z0C (And.intro @Z0D (And.intro @Z0E (And.intro @Z0F (And.intro @Z0G (And.intro @Z0H (And.intro @Z0I (And.intro @Z0J (And.intro @Z0K (And.intro @Z0L (And.intro @Z0M (@Z0N)))))))))))))))))))))))))))))))))))))))
def EVB1 := And.intro @Z0O (And.intro @Z0P (And.intro @Z0Q (And.intro @Z0R (And.intro @Z0S (And.intro @Z0T (And.intro @Z0U (And.intro @Z0V (And.intro @Z0W (And.intro @Z0X (And.intro @Z0Y (And.intro @Z0Z (And.intro @Z1a (And.intro @Z1b (And.intro @Z1c (And.intro @Z1d (And.intro @Z1e (And.intro @Z1f (And.intro @Z1g (And.intro @Z1h (And.intro @Z1i (And.intro @Z1j (And.intro @Z1k (And.intro @Z1l (And.intro @Z1m (And.intro @Z1n (And.intro @Z1o (And.intro @Z1p (And.intro @Z1q (And.intro @Z1r (And.intro @Z1s (And.intro @Z1t (And.intro @Z1u (And.intro @Z1v (And.intro @Z1w (And.intro @Z1x (And.intro @Z1y (And.intro @Z1z (And.intro @Z1A (@Z1B)))))))))))))))))))))))))))))))))))))))
def EVB2 := And.intro @Z1C (And.intro @Z1D (And.intro @Z1E (And.intro @Z1F (And.intro @Z1G (And.intro @Z1H (And.intro @Z1I (And.intro @Z1J (And.intro @Z1K (And.intro @Z1L (And.intro @Z1M (And.intro @Z1N (And.intro @Z1O (And.intro @Z1P (And.intro @Z1Q (And.intro @Z1R (And.intro @Z1S (And.intro @Z1T (And.intro @Z1U (And.intro @Z1V (And.intro @Z1W (And.intro @Z1X (And.intro @Z1Y (And.intro @Z1Z (And.intro @Z2a (And.intro @Z2b (And.intro @Z2c (And.intro @Z2d (And.intro @Z2e (And.intro @Z2f (And.intro @Z2g (And.intro @Z2h (And.intro @Z2i (And.intro @Z2j (And.intro @Z2k (And.intro @Z2l (And.intro @Z2m (And.intro @Z2n (And.intro @Z2o (@Z2p)))))))))))))))))))))))))))))))))))))))
def EVB3 := And.intro @Z2q (And.intro @Z2r (And.intro @Z2s (And.intro @Z2t (And.intro @Z2u (And.intro @Z2v (And.intro @Z2w (And.intro @Z2x (And.intro @Z2y (And.intro @Z2z (And.intro @Z2A (And.intro @Z2B (And.intro @Z2C (And.intro @Z2D (And.intro @Z2E (And.intro @Z2F (And.intro @Z2G (And.intro @Z2H (And.intro @Z2I (And.intro @Z2J (And.intro @Z2K (And.intro @Z2L (And.intro @Z2M (And.intro @Z2N (And.intro @Z2O (And.intro @Z2P (And.intro @Z2Q (And.intro @Z2R (And.intro @Z2S (And.intro @Z2T (And.intro @Z2U (And.intro @Z2V (And.intro @Z2W (And.intro @Z2X (And.intro @Z2Y (And.intro @Z2Z (And.intro @Z3a (And.intro @Z3b (And.intro @Z3c (@Z3d)))))))))))))))))))))))))))))))))))))))
def EVB4 := And.intro @Z3e (And.intro @Z3f (And.intro @Z3g (And.intro @Z3h (And.intro @Z3i (And.intro @Z3j (And.intro @Z3k (And.intro @Z3l (And.intro @Z3m (And.intro @Z3n (And.intro @Z3o (And.intro @Z3p (And.intro @Z3q (And.intro @Z3r (And.intro @Z3s (And.intro @Z3t (And.intro @Z3u (And.intro @Z3v (And.intro @Z3w (And.intro @Z3x (And.intro @Z3y (And.intro @Z3z (And.intro @Z3A (And.intro @Z3B (And.intro @Z3C (And.intro @Z3D (And.intro @Z3E (And.intro @Z3F (And.intro @Z3G (And.intro @Z3H (And.intro @Z3I (And.intro @Z3J (And.intro @Z3K (And.intro @Z3L (And.intro @Z3M (And.intro @Z3N (And.intro @Z3O (And.intro @Z3P (And.intro @Z3Q (@Z3R)))))))))))))))))))))))))))))))))))))))
def EVB5 := And.intro @Z3S (And.intro @Z3T (And.intro @Z3U (And.intro @Z3V (And.intro @Z3W (And.intro @Z3X (And.intro @Z3Y (And.intro @Z3Z (And.intro @Z4a (And.intro @Z4b (And.intro @Z4c (And.intro @Z4d (And.intro @Z4e (And.intro @Z4f (And.intro @Z4g (And.intro @Z4h (And.intro @Z4i (And.intro @Z4j (And.intro @Z4k (And.intro @Z4l (And.intro @Z4m (And.intro @Z4n (And.intro @Z4o (And.intro @Z4p (And.intro @Z4q (And.intro @Z4r (And.intro @Z4s (And.intro @Z4t (And.intro @Z4u (And.intro @Z4v (And.intro @Z4w (And.intro @Z4x (And.intro @Z4y (And.intro @Z4z (And.intro @Z4A (And.intro @Z4B (And.intro @Z4C (And.intro @Z4D (And.intro @Z4E (@Z4F)))))))))))))))))))))))))))))))))))))))
def EVB6 := And.intro @Z4G (And.intro @Z4H (And.intro @Z4I (And.intro @Z4J (And.intro @Z4K (And.intro @Z4L (And.intro @Z4M (And.intro @Z4N (And.intro @Z4O (And.intro @Z4P (And.intro @List.set_cons_zero.{0} (And.intro @List.set_cons_succ.{0} (And.intro @List.getElem?_cons_zero.{0} (And.intro @List.getElem?_cons_succ.{0} (And.intro @List.map_cons.{0,0} (And.intro @List.map_nil.{0,0} (And.intro @List.cons_append.{0} (And.intro @List.nil_append.{0} (And.intro @List.length_cons.{0} (And.intro @List.length_nil.{0} (And.intro @List.replicate_succ.{0} (And.intro @List.replicate_zero.{0} (And.intro @decide_true (And.intro @decide_false (And.intro @Bool.not_true (And.intro @Bool.not_false (And.intro @true_and (And.intro @and_true (And.intro @Nat.sub_self (And.intro @Nat.zero_add (And.intro @Z4Q (And.intro @decide_eq_true_eq (And.intro @Z4R (And.intro @Z4S (And.intro @Z4T (And.intro @Z4U (And.intro @Z4V (And.intro @Z4W (And.intro @Z4X (@Z4Y)))))))))))))))))))))))))))))))))))))))
def EVB7 := And.intro @Z4Z (And.intro @Z5a (And.intro @Z5b (And.intro @Z5c (And.intro @Z5d (And.intro @Z5e (And.intro @Z5f (And.intro @Z5g (And.intro @Z5h (And.intro @Z5i (And.intro @Z5j (And.intro @Z5k (And.intro @Z5l (And.intro @Z5m (And.intro @Z5n (And.intro @Z5o (And.intro @Z5p (And.intro @Z5q (And.intro @Z5r (And.intro @Z5s (And.intro @Z5t (And.intro @Z5u (And.intro @Z5v (And.intro @Z5w (And.intro @Z5x (And.intro @Z5y (And.intro @Z5z (And.intro @Z5A (And.intro @Z5B (And.intro @Z5C (And.intro @Z5D (And.intro @Z5E (And.intro @Z5F (And.intro @Z5G (And.intro @Z5H (And.intro @Z5I (And.intro @Z5J (And.intro @Z5K (And.intro @Z5L (@Z5M)))))))))))))))))))))))))))))))))))))))
def EVB8 := And.intro @Z5N (And.intro @Z5O (And.intro @Z5P (And.intro @Z5Q (And.intro @Z5R (And.intro @Z5S (And.intro @Z5T (And.intro @Z5U (And.intro @Z5V (And.intro @Z5W (And.intro @Z5X (And.intro @Z5Y (And.intro @Z5Z (And.intro @Z6a (And.intro @Z6b (And.intro @Z6c (And.intro @Z6d (And.intro @Z6e (And.intro @Z6f (And.intro @Z6g (And.intro @Z6h (And.intro @Z6i (And.intro @Z6j (And.intro @Z6k (And.intro @Z6l (And.intro @Z6m (And.intro @Z6n (And.intro @Z6o (And.intro @Z6p (And.intro @Z6q (And.intro @Z6r (And.intro @Z6s (And.intro @Z6t (And.intro @Z6u (And.intro @Z6v (And.intro @Z6w (And.intro @Z6x (And.intro @Z6y (And.intro @Z6z (@Z6A)))))))))))))))))))))))))))))))))))))))
def EVB9 := And.intro @Z6B (And.intro @Z6C (And.intro @Z6D (And.intro @Z6E (And.intro @Z6F (And.intro @Z6G (And.intro @Z6H (And.intro @Z6I (And.intro @Z6J (And.intro @Z6K (And.intro @Z6L (And.intro @Z6M (And.intro @Z6N (And.intro @Z6O (And.intro @Z6P (And.intro @Z6Q (And.intro @Z6R (And.intro @Z6S (And.intro @Z6T (And.intro @Z6U (And.intro @Z6V (And.intro @Z6W (And.intro @Z6X (And.intro @Z6Y (And.intro @Z6Z (And.intro @Z7a (And.intro @Z7b (And.intro @Z7c (And.intro @Z7d (And.intro @Z7e (And.intro @Z7f (And.intro @Z7g (And.intro @Z7h (And.intro @Z7i (And.intro @Z7j (And.intro @Z7k (And.intro @Z7l (And.intro @Z7m (And.intro @Z7n (@Z7o)))))))))))))))))))))))))))))))))))))))
def EVB10 := And.intro @Z7p (And.intro @Z7q (And.intro @Z7r (And.intro @Z7s (And.intro @Z7t (And.intro @Z7u (And.intro @Z7v (And.intro @Z7w (And.intro @Z7x (And.intro @Z7y (And.intro @Z7z (And.intro @Z7A (And.intro @Z7B (And.intro @Z7C (And.intro @Z7D (And.intro @Z7E (And.intro @Z7F (And.intro @Z7G (And.intro @Z7H (And.intro @Z7I (And.intro @Z7J (And.intro @Z7K (And.intro @Z7L (And.intro @Z7M (And.intro @Z7N (And.intro @Z7O (And.intro @Z7P (And.intro @Z7Q (And.intro @Z7R (And.intro @Z7S (And.intro @Z7T (And.intro @Z7U (And.intro @Z7V (And.intro @Z7W (And.intro @Z7X (And.intro @Z7Y (And.intro @Z7Z (And.intro @Z8a (And.intro @Z8b (@Z8c)))))))))))))))))))))))))))))))))))))))
def EVB11 := And.intro @Z8d (And.intro @Z8e (And.intro @Z8f (@Z8g)))
def EVB := And.intro EVB0 (And.intro EVB1 (And.intro EVB2 (And.intro EVB3 (And.intro EVB4 (And.intro EVB5 (And.intro EVB6 (And.intro EVB7 (And.intro EVB8 (And.intro EVB9 (And.intro EVB10 (EVB11)))))))))))
end DL

set_option Elab.async false
set_option linter.all false
set_option maxRecDepth 100000
set_option maxHeartbeats 4000000
namespace DL
open PySem PySem.Spec PyProof.Rows L2
theorem cutL_to {α : Type} (l : List α) (n : Nat) : cutL l none (some (n : Int)) = l.take n := by
  unfold cutL
  rw [HT.sIx_none, HT.sIx_nat]
  simp only [List.drop_zero, Nat.sub_zero]
  rw [List.take_eq_take_iff]
  omega
theorem cutL_from {α : Type} (l : List α) (n : Nat) : cutL l (some (n : Int)) none = l.drop n := by
  unfold cutL
  rw [HT.sIx_none, HT.sIx_nat]
  by_cases h : n ≤ l.length
  · rw [Nat.min_eq_left h, List.take_of_length_le (by rw [List.length_drop]; exact Nat.le_refl _)]
  · rw [Nat.min_eq_right (by omega), List.drop_length, List.drop_eq_nil_of_le (by omega), List.take_nil]
theorem T.Ok.mono {vs ws : List Int} {t : T} (h : t.Ok vs) (i : ∀ x, x ∈ vs → x ∈ ws) : t.Ok ws := by
  induction h with
  | v hx => exact .v (i _ hx)
  | a h1 h2 _ ih => exact .a h1 h2 ih
/-! rings of variables -/
theorem ring_eq {n : Nat} {f : Nat → Nat} (h : ∀ k, k < n → f ((k + 1) % n) ≤ f k) : ∀ k, k < n → f k = f 0 := by
  have up : ∀ k, k < n → f k ≤ f 0 := by
    intro k
    induction k with
    | zero => intro _; exact Nat.le_refl _
    | succ k ih =>
      intro hk
      have := h k (by omega)
      rw [Nat.mod_eq_of_lt hk] at this
      exact Nat.le_trans this (ih (by omega))
  have dn : ∀ j k, k + j + 1 = n → f 0 ≤ f k := by
    intro j
    induction j with
    | zero =>
      intro k hk
      have := h k (by omega)
      rw [show k + 1 = n by omega, Nat.mod_self] at this
      exact this
    | succ j ih =>
      intro k hk
      have := h k (by omega)
      rw [Nat.mod_eq_of_lt (show k + 1 < n by omega)] at this
      exact Nat.le_trans (ih (k + 1) (by omega)) this
  exact fun k hk => Nat.le_antisymm (up k hk) (dn (n - k - 1) k (by omega))
/-- a term around one variable, or the variable -/
structure Ctx (x : Int) (c : T) : Prop where
  ok : c.Ok [x]
  dep : c.dep ≤ 3
  oc : Oc x c
theorem Ctx.size {x : Int} {c : T} (h : Ctx x c) (θ : Sb) : (θ x).size ≤ (sub θ c).size := size_oc h.oc
theorem Ctx.lt {x : Int} {f : Str} {as : List T} (h : Ctx x (.a f as)) (θ : Sb) : (θ x).size < (sub θ (.a f as)).size := by
  obtain ⟨t, ht, ho⟩ := oc_a.mp h.oc
  rw [sub_a, size_a]
  have h1 := size_oc (s := θ) ho
  have h2 := size_le (List.mem_map.mpr ⟨t, ht, rfl⟩ : sub θ t ∈ as.map (sub θ))
  omega
def Ring (n : Nat) (x : Nat → Int) (cs : List T) : Prop := cs.length = n ∧ ∀ (k : Nat) c, cs[k]? = some c → Ctx (x ((k + 1) % n)) c
def rvs (n : Nat) (x : Nat → Int) : List T := (List.range n).map fun k => .v (x k)
theorem rvs_len (n : Nat) (x : Nat → Int) : (rvs n x).length = n := by unfold rvs; rw [List.length_map, List.length_range]
theorem rvs_at {n : Nat} {x : Nat → Int} {k : Nat} (hk : k < n) : (rvs n x)[k]? = some (.v (x k)) := by
  unfold rvs; rw [List.getElem?_map, List.getElem?_range hk]; rfl
theorem ring_sol {n : Nat} {x : Nat → Int} {cs : List T} (r : Ring n x cs) {f : Str} {θ : Sb} (e : sub θ (.a f (rvs n x)) = sub θ (.a f cs)) {k : Nat} {c : T} (hc : cs[k]? = some c) : θ (x k) = sub θ c := by
  have hk : k < n := by rw [← r.1]; exact (List.getElem?_eq_some_iff.mp hc).1
  rw [sub_a, sub_a] at e
  have e2 := congrArg (fun l => l[k]?) (T.a_inj e).2
  simp only [List.getElem?_map] at e2
  rw [rvs_at hk, hc, Option.map_some, Option.map_some, sub_v] at e2
  exact Option.some.inj e2
theorem ring_no {n : Nat} {x : Nat → Int} {cs : List T} (r : Ring n x cs) {f g : Str} {as : List T} (ha : .a g as ∈ cs) (θ : Sb) : sub θ (.a f (rvs n x)) ≠ sub θ (.a f cs) := by
  intro e
  obtain ⟨j, hj⟩ := List.mem_iff_getElem?.mp ha
  have hjn : j < n := by rw [← r.1]; exact (List.getElem?_eq_some_iff.mp hj).1
  have le : ∀ k, k < n → (θ (x ((k + 1) % n))).size ≤ (θ (x k)).size := fun k hk => by
    have hkc : k < cs.length := by rw [r.1]; exact hk
    have hc : cs[k]? = some cs[k] := List.getElem?_eq_getElem hkc
    rw [ring_sol r e hc]
    exact (r.2 k _ hc).size θ
  have eqs := ring_eq (f := fun k => (θ (x k)).size) le
  have lt := (r.2 j _ hj).lt θ
  rw [← ring_sol r e hj] at lt
  have h1 := eqs j hjn
  have h2 := eqs ((j + 1) % n) (Nat.mod_lt _ (by omega))
  omega
/-- no variable is nested: the variables are alike -/
def ringS (n : Nat) (x : Nat → Int) : Sb := fun y => if y ∈ (List.range n).map x then .v (x 0) else .v y
theorem ringS_in {n : Nat} {x : Nat → Int} {k : Nat} (hk : k < n) : ringS n x (x k) = .v (x 0) := by
  unfold ringS
  rw [if_pos (List.mem_map.mpr ⟨k, List.mem_range.mpr hk, rfl⟩)]
theorem ring_vars {n : Nat} {x : Nat → Int} {cs : List T} (r : Ring n x cs) (hv : ∀ c, c ∈ cs → ∃ i, c = .v i) {k : Nat} {c : T} (hc : cs[k]? = some c) : c = .v (x ((k + 1) % n)) := by
  obtain ⟨i, rfl⟩ := hv c (List.mem_of_getElem? hc)
  rw [oc_v.mp (r.2 k _ hc).oc]
theorem ring_mg {n : Nat} {x : Nat → Int} {cs : List T} (r : Ring n x cs) (hv : ∀ c, c ∈ cs → ∃ i, c = .v i) (f : Str) : Mg (ringS n x) (.a f (rvs n x)) (.a f cs) := by
  refine ⟨?_, fun θ e t => ?_⟩
  · rw [sub_a, sub_a]
    congr 1
    apply List.ext_getElem?
    intro k
    rw [List.getElem?_map, List.getElem?_map]
    by_cases hk : k < n
    · have hkc : k < cs.length := by rw [r.1]; exact hk
      have hc : cs[k]? = some cs[k] := List.getElem?_eq_getElem hkc
      rw [rvs_at hk, hc, ring_vars r hv hc, Option.map_some, Option.map_some, sub_v, sub_v, ringS_in hk, ringS_in (Nat.mod_lt _ (by omega))]
    · rw [List.getElem?_eq_none (by rw [rvs_len]; omega), List.getElem?_eq_none (by rw [r.1]; omega)]
  · have step : ∀ k, k < n → θ (x k) = θ (x ((k + 1) % n)) := fun k hk => by
      have hkc : k < cs.length := by rw [r.1]; exact hk
      have hc : cs[k]? = some cs[k] := List.getElem?_eq_getElem hkc
      rw [ring_sol r e hc, ring_vars r hv hc, sub_v]
    have all : ∀ k, k < n → θ (x k) = θ (x 0) := by
      intro k
      induction k with
      | zero => intro _; rfl
      | succ k ih =>
        intro hk
        have := step k (by omega)
        rw [Nat.mod_eq_of_lt hk] at this
        rw [← this]; exact ih (by omega)
    rw [sub_sub]
    refine sub_congr t fun y _ => ?_
    unfold ringS
    by_cases hy : y ∈ (List.range n).map x
    · rw [if_pos hy, sub_v]
      obtain ⟨k, hk, rfl⟩ := List.mem_map.mp hy
      exact (all k (List.mem_range.mp hk)).symm
    · rw [if_neg hy, sub_v]
theorem noteVs_same (y : Int) : ∀ n, noteVs (List.replicate n (.v y)) [y] = [y]
  | 0 => rfl
  | n + 1 => by
    rw [List.replicate_succ]
    show noteVs (List.replicate n (.v y)) (noteV (.v y) [y]) = _
    rw [noteV_v, insI, if_pos (by simp), noteVs_same y n]
theorem ring_num {n : Nat} {x : Nat → Int} (hn : 1 ≤ n) (f : Str) : num (sub (ringS n x) (.a f (rvs n x))) = .a f (List.replicate n (.v 0)) := by
  have e1 : sub (ringS n x) (.a f (rvs n x)) = .a f (List.replicate n (.v (x 0))) := by
    rw [sub_a]
    congr 1
    apply List.ext_getElem?
    intro k
    rw [List.getElem?_map]
    by_cases hk : k < n
    · rw [rvs_at hk, Option.map_some, sub_v, ringS_in hk, List.getElem?_replicate, if_pos hk]
    · rw [List.getElem?_eq_none (by rw [rvs_len]; omega), List.getElem?_eq_none (by rw [List.length_replicate]; omega)]; rfl
  rw [e1]
  obtain ⟨m, rfl⟩ : ∃ m, n = m + 1 := ⟨n - 1, by omega⟩
  unfold num
  have e2 : noteV (.a f (List.replicate (m + 1) (.v (x 0)))) [] = [x 0] := by
    rw [noteV_a, List.replicate_succ]
    show noteVs (List.replicate m (.v (x 0))) (noteV (.v (x 0)) []) = _
    rw [noteV_v, insI, if_neg (by simp)]
    exact noteVs_same (x 0) m
  rw [e2, rep_a, List.map_replicate, rep_v]
  have : (lookT (numL 0 [x 0]) (x 0)).getD (.v (x 0)) = .v 0 := by
    have h1 : lookT (numL 0 [x 0]) (x 0) = some (.v 0) := look_in (by rw [numL_keys]; simp) (by simp [numL])
    rw [h1]; rfl
  rw [this]
/-! two parts that differ, within a term -/
theorem hole_no {C a b : T} {y : Int} (hC : C.Ok [y]) (oc : Oc y C) (hab : ∀ θ, sub θ a ≠ sub θ b) (θ : Sb) : sub θ (rep [(y, a)] C) ≠ sub θ (rep [(y, b)] C) := by
  intro e
  rw [rep_tS, rep_tS, sub_sub, sub_sub] at e
  have h := sub_inj C e y oc
  have hy : ∀ t : T, tS [(y, t)] y = t := fun t => tS_some (by unfold lookT; simp)
  simp only [hy] at h
  exact hab θ h
theorem ok_size {vs : List Int} {t : T} (h : t.Ok vs) : t.size ≤ 4 ^ t.dep := by
  induction h with
  | v _ => rw [size_v]; exact Nat.pow_pos (by decide)
  | @a f as _ h2 _ ih =>
    rw [size_a, dep_a]
    have h1 := sizes_of (l := as) (n := 4 ^ T.deps as) fun t ht => Nat.le_trans (ih t ht) (Nat.pow_le_pow_right (by decide) (deps_le ht))
    have h3 : as.length * 4 ^ T.deps as ≤ 3 * 4 ^ T.deps as := Nat.mul_le_mul_right _ h2
    have h4 : 0 < 4 ^ T.deps as := Nat.pow_pos (by decide)
    rw [Nat.add_comm 1 (T.deps as), Nat.pow_succ]
    omega
theorem hole_ok {V : List Int} {C x : T} {y : Int} (hC : C.Ok [y]) (h1 : x.In V) (h2 : x.G) (h3 : x.Ar) : (rep [(y, x)] C).In V ∧ (rep [(y, x)] C).G ∧ (rep [(y, x)] C).Ar ∧ (rep [(y, x)] C).dep ≤ C.dep + x.dep := by
  induction hC with
  | @v i hi =>
    have : rep [(y, x)] (.v i) = x := by
      rw [rep_v, List.mem_singleton.mp hi]
      unfold lookT
      simp
    rw [this]
    exact ⟨h1, h2, h3, by omega⟩
  | @a f as hf hl _ ih =>
    rw [rep_a]
    refine ⟨.a fun t ht => ?_, .a hf.g fun t ht => ?_, .a (by rw [List.length_map]; omega) fun t ht => ?_, ?_⟩
    · obtain ⟨u, hu, rfl⟩ := List.mem_map.mp ht; exact (ih u hu).1
    · obtain ⟨u, hu, rfl⟩ := List.mem_map.mp ht; exact (ih u hu).2.1
    · obtain ⟨u, hu, rfl⟩ := List.mem_map.mp ht; exact (ih u hu).2.2.1
    · rw [dep_a, dep_a]
      have := deps_of (l := as.map (rep [(y, x)])) (n := T.deps as + x.dep) fun t ht => by
        obtain ⟨u, hu, rfl⟩ := List.mem_map.mp ht
        have h1 := (ih u hu).2.2.2
        have h2 := deps_le hu
        omega
      omega
theorem hole_size {C : T} {y : Int} {nm : Str} (hC : C.Ok [y]) : (rep [(y, .a nm [])] C).size = C.size ∧ (rep [(y, .a nm [])] C).dep = C.dep ∧ ∀ x, ¬ Oc x (rep [(y, .a nm [])] C) := by
  induction hC with
  | @v i hi =>
    have : rep [(y, .a nm [])] (.v i) = .a nm [] := by
      rw [rep_v, List.mem_singleton.mp hi]
      unfold lookT
      simp
    rw [this, size_v, dep_v, size_a, dep_a, T.sizes, T.deps]
    exact ⟨rfl, rfl, fun x h => by obtain ⟨t, ht, _⟩ := oc_a.mp h; exact absurd ht List.not_mem_nil⟩
  | @a f as hf hl _ ih =>
    have go : ∀ l : List T, (∀ t, t ∈ l → (rep [(y, .a nm [])] t).size = t.size ∧ (rep [(y, .a nm [])] t).dep = t.dep) → T.sizes (l.map (rep [(y, .a nm [])])) = T.sizes l ∧ T.deps (l.map (rep [(y, .a nm [])])) = T.deps l := by
      intro l
      induction l with
      | nil => intro _; exact ⟨rfl, rfl⟩
      | cons t l ihl =>
        intro h
        obtain ⟨q1, q2⟩ := ihl fun u hu => h u (List.mem_cons_of_mem _ hu)
        obtain ⟨q3, q4⟩ := h t List.mem_cons_self
        rw [List.map_cons, T.sizes, T.sizes, T.deps, T.deps, q1, q2, q3, q4]
        exact ⟨rfl, rfl⟩
    obtain ⟨q1, q2⟩ := go as fun t ht => ⟨(ih t ht).1, (ih t ht).2.1⟩
    rw [rep_a, size_a, size_a, dep_a, dep_a, q1, q2]
    refine ⟨rfl, rfl, fun x h => ?_⟩
    obtain ⟨t, ht, ho⟩ := oc_a.mp h
    obtain ⟨u, hu, rfl⟩ := List.mem_map.mp ht
    exact (ih u hu).2.2 x ho
end DL

set_option Elab.async false
set_option linter.all false
set_option maxRecDepth 100000
set_option maxHeartbeats 4000000
namespace DL
open PySem PySem.Spec PyProof.Rows L2
/-! helpers for the laws' walks -/
theorem Old.lenH {h h' : DHeap} (o : Old h h') : h.length ≤ h'.length := by
  rcases Nat.lt_or_ge h'.length h.length with q | q
  · have e := o (h'.length) _ (List.getElem?_eq_getElem q)
    have := (List.getElem?_eq_some_iff.mp e).1
    omega
  · exact q
theorem Old.putH {h h' : DHeap} {i : Nat} {c : Cell} (o : Old h h') (hi : h.length ≤ i) : Old h (h'.set i c) := fun n d e => by
  have hn := (List.getElem?_eq_some_iff.mp e).1
  rw [set_no (by omega)]
  exact o n d e
theorem tapeH {h h' : DHeap} {i : Nat} (t : Tape h i) (o : Old h h') : Tape h' i := by
  obtain ⟨j, ns, a, b, c, h1, h2, r⟩ := t
  exact ⟨j, ns, a, b, c, o _ _ h1, o _ _ h2, r⟩
theorem evH {i : Nat} {h h' : DHeap} (o : Old h h') : Ev i h h' := fun n c _ e => o n c e
theorem Ev.oldH {i : Nat} {h h' h2 : DHeap} (a : Ev i h h') (o : Old h' h2) : Ev i h h2 := fun n c hn e => o n c (a n c hn e)
theorem Old.setH {h h' : DHeap} {i : Nat} {c : Cell} (o : Old h h') (hi : h.length ≤ i) : Old h (h'.set i c) := o.putH hi
theorem W_oldH {α : Type} {r : Res α} {Q : α → DHeap → Prop} {x : α} {h : DHeap} (w : W r (fun d h' => d = x ∧ Old h h')) (k : ∀ h', Old h h' → Q x h') : W r Q := W_mono w fun d h' q => by
  rw [q.1]; exact k h' q.2
theorem W_sameH {α : Type} {r : Res α} {Q : α → DHeap → Prop} {x : α} {h : DHeap} (w : W r (fun d h' => d = x ∧ h' = h)) (k : Q x h) : W r Q := W_mono w fun d h' q => by
  rw [q.1, q.2]; exact k
/-- a call's result, taken -/
theorem W_eqO {α : Type} {r : Res α} {x : α} {h : DHeap} (w : W r (fun d h' => d = x ∧ Old h h')) : ∃ h', r = .ok x h' ∧ Old h h' := by
  obtain ⟨_, h', e, rfl, o⟩ := W_get w
  exact ⟨h', e, o⟩
theorem W_eqS {α : Type} {r : Res α} {x : α} {h : DHeap} (w : W r (fun d h' => d = x ∧ h' = h)) : r = .ok x h := by
  obtain ⟨_, h', e, rfl, rfl⟩ := W_get w
  exact e
theorem W_eqR {α : Type} {r : Res α} {x : α} {h : DHeap} (w : W r (fun d h' => d = x ∧ h' = h)) : r = .ok x h := W_eqS w
/-- a comprehension that keeps what passes a test -/
theorem loopF {α : Type} {s : Src} {step : D → DHeap → Res (Option D)} (e : α → D) (p : α → Bool) {l : List α} {h : DHeap} (hs : s.chk h) (hx : ∀ x, x ∈ l → W (step (e x) h) (fun o h' => o = (if p x then some (e x) else none) ∧ h' = h)) : W (loopC s step (l.map e) h) (fun ys h' => ys = (l.filter p).map e ∧ h' = h) := by
  refine loopC_i (fun k ys h' => ys = ((l.take k).filter p).map e ∧ h' = h) ⟨rfl, rfl⟩ (fun _ _ _ q => by rw [q.2]; exact hs) (fun k ys h' y ey q => ?_) fun ys h' q => ?_
  · obtain ⟨rfl, rfl⟩ := q
    obtain ⟨x, ex, rfl, mx⟩ := map_at ey
    refine W_mono (hx x mx) fun o h1 q => ?_
    obtain ⟨rfl, rfl⟩ := q
    refine ⟨?_, rfl⟩
    rw [List.take_add_one, ex, Option.toList_some, List.filter_append]
    by_cases c : p x = true
    · simp [c]
    · simp [c]
  · rw [List.length_map, List.take_length] at q
    exact q
theorem loopFO {α : Type} {s : Src} {step : D → DHeap → Res (Option D)} (e : α → D) (p : α → Bool) (l : List α) (h : DHeap) (hs : ∀ h', Old h h' → s.chk h') (hx : ∀ x, x ∈ l → ∀ h1, Old h h1 → W (step (e x) h1) (fun o h' => o = (if p x then some (e x) else none) ∧ Old h1 h')) : W (loopC s step (l.map e) h) (fun ys h' => ys = (l.filter p).map e ∧ Old h h') := by
  refine loopC_i (fun k ys h' => ys = ((l.take k).filter p).map e ∧ Old h h') ⟨rfl, Old.refl⟩ (fun _ _ _ q => hs _ q.2) (fun k ys h' y ey q => ?_) fun ys h' q => ?_
  · obtain ⟨rfl, o1⟩ := q
    obtain ⟨x, ex, rfl, mx⟩ := map_at ey
    refine W_mono (hx x mx h' o1) fun o h1 q => ?_
    obtain ⟨rfl, o2⟩ := q
    refine ⟨?_, o1.trans o2⟩
    rw [List.take_add_one, ex, Option.toList_some, List.filter_append]
    by_cases c : p x = true
    · simp [c]
    · simp [c]
  · rw [List.length_map, List.take_length] at q
    exact q
/-- a comprehension that keeps nothing -/
theorem loop0 {α : Type} {s : Src} {step : D → DHeap → Res (Option D)} (e : α → D) {l : List α} {h : DHeap} (hs : s.chk h) (hx : ∀ x, x ∈ l → W (step (e x) h) (fun o h' => o = none ∧ h' = h)) : W (loopC s step (l.map e) h) (fun ys h' => ys = [] ∧ h' = h) := by
  refine W_mono (loopF e (fun _ => false) hs fun x hx' => hx x hx') fun ys h' q => ?_
  obtain ⟨rfl, rfl⟩ := q
  exact ⟨by simp, rfl⟩
theorem er_perm {α : Type} : ∀ (l : List α) (j : Nat) (hj : j < l.length), (l[j] :: l.eraseIdx j).Perm l
  | a :: l, 0, _ => List.Perm.refl _
  | a :: l, j + 1, hj => by
    have := er_perm l j (by simpa using hj)
    rw [List.getElem_cons_succ, List.eraseIdx_cons_succ]
    exact (List.Perm.swap a _ _).trans (this.cons a)
end DL

set_option Elab.async false
set_option linter.all false
set_option maxRecDepth 100000
set_option maxHeartbeats 4000000
namespace Q
open PySem PySem.Spec PyProof.Rows L2 DL
def topS (i : Nat) : Stmt := PySem.Challenge.pw_openrules_k13_great_common_instances.main.body.getD i (.Pass ⟨0, 0, 0, 0⟩)
abbrev i_note_variables : Nat := 0
abbrev i_variables_of : Nat := 1
abbrev i_replaced : Nat := 2
abbrev i_numbered : Nat := 3
abbrev i_root_of : Nat := 4
abbrev i_occurs : Nat := 5
abbrev i_bind : Nat := 6
abbrev i_unifier : Nat := 7
abbrev i_measured : Nat := 8
abbrev i_written_out : Nat := 9
abbrev i_resolved : Nat := 10
abbrev i_unify : Nat := 11
abbrev i__law_tape : Nat := 12
abbrev i__law_draw : Nat := 13
abbrev i__law_replaced : Nat := 14
abbrev i__law_collect : Nat := 15
abbrev i__law_variables : Nat := 16
abbrev i__law_numbered : Nat := 17
abbrev i__law_resolved : Nat := 18
abbrev i__law_occurs : Nat := 19
abbrev i__law_unified : Nat := 20
abbrev i__law_full : Nat := 21
abbrev i__law_common : Nat := 22
abbrev i__law_alike : Nat := 23
abbrev i__law_pad : Nat := 24
abbrev i__law_doubled : Nat := 25
abbrev i__law_filled : Nat := 26
abbrev i__law_deep : Nat := 27
abbrev i_law : Nat := 28
section
variable [TbC] {P : Program} {w : World} {K : PySem.W.Frag} {mg : Str → Option Value} {base : Heap} {k : Nat}
abbrev s_note_variables : Stmt := topS 7
theorem sc_note_variables : FnScope ["term", "found", "argument"] ["term", "found"] (defScope s_note_variables) := ⟨rfl, rfl, rfl, by decide +kernel, rfl, by decide +kernel, by decide +kernel⟩
noncomputable def B_note_variables (C : Nat → List D → DHeap → Res D) : M Fl :=
  sIf (tst (isiM "int" (vr 0))) (sAsg (cst (.bl true)) (gSb (vr 1) (vr 0))) (sFor (srcM (slM (vr 0) (oSome (cst (.int 1))) (oNone))) (gN 2) (sExpr (callF (C i_note_variables) (aCons (vr 2) (aCons (vr 1) (aNil))))))
theorem ok_note_variables {f : Addr} {fd : FuncData} {C : Nat → List D → DHeap → Res D} (F : Fun K "note_variables" "note_variables" s_note_variables f fd) (D_note_variables : Defn P w K mg base k "note_variables" (C i_note_variables)) (z_int : mg "int" = none) (z_isinstance : mg "isinstance" = none)   : FnG P w K mg base (k + 1) f fd ["term", "found"] (runDef 2 3 (B_note_variables C)) :=
  okG F sc_note_variables fun cdv hlk A outer s H E hr hg hp => have nd := sc_note_variables.nd
  dss_one (ds_if (dt_val (de_isi (n := "int") (.inl rfl) (by rfl) z_isinstance (by rfl) z_int (by decide +kernel) (de_vr 0))) (dss_one (ds_asg (de_bl) (dg_sub (hu_of hr) (de_vr 1) (de_vr 0)))) (dss_one (ds_for hp rfl (di_val (de_sl (de_vr 0) (do_some (de_int)) (do_none))) (dg_name (i := 2) nd rfl (by first | exact Or.inl rfl | exact Or.inr rfl)) (dss_one (ds_expr (de_call D_note_variables hr hg (by rfl) (da_cons (de_vr 2) (da_cons (de_vr 1) (da_nil)))))))))
abbrev s_variables_of : Stmt := topS 8
theorem sc_variables_of : FnScope ["terms", "found", "term"] ["terms"] (defScope s_variables_of) := ⟨rfl, rfl, rfl, by decide +kernel, rfl, by decide +kernel, by decide +kernel⟩
noncomputable def B_variables_of (C : Nat → List D → DHeap → Res D) : M Fl :=
  sSeq (sSet 1 (newDic)) (sSeq (sFor (srcM (vr 0)) (gN 2) (sExpr (callF (C i_note_variables) (aCons (vr 2) (aCons (vr 1) (aNil)))))) (sRet (callM tupD (aCons (callM lisD (aCons (vr 1) (aNil))) (aNil)))))
theorem ok_variables_of {f : Addr} {fd : FuncData} {C : Nat → List D → DHeap → Res D} (F : Fun K "variables_of" "variables_of" s_variables_of f fd) (D_note_variables : Defn P w K mg base k "note_variables" (C i_note_variables)) (z_list : mg "list" = none) (z_tuple : mg "tuple" = none)   : FnG P w K mg base (k + 1) f fd ["terms"] (runDef 1 3 (B_variables_of C)) :=
  okG F sc_variables_of fun cdv hlk A outer s H E hr hg hp => have nd := sc_variables_of.nd
  dss_cons (ds_set (i := 1) nd rfl (by first | exact Or.inl rfl | exact Or.inr rfl) (de_dic)) (dss_cons (ds_for hp rfl (di_val (de_vr 0)) (dg_name (i := 2) nd rfl (by first | exact Or.inl rfl | exact Or.inr rfl)) (dss_one (ds_expr (de_call D_note_variables hr hg (by rfl) (da_cons (de_vr 2) (da_cons (de_vr 1) (da_nil))))))) (dss_one (ds_ret (de_callTy cd_tup (by rfl) z_tuple (by decide +kernel) (da_cons (de_callTy (cd_lis rfl) (by rfl) z_list (by decide +kernel) (da_cons (de_vr 1) (da_nil))) (da_nil))))))
abbrev s_replaced : Stmt := topS 9
theorem sc_replaced : FnScope ["term", "table", "argument"] ["term", "table"] (defScope s_replaced) := ⟨rfl, rfl, rfl, by decide +kernel, rfl, by decide +kernel, by decide +kernel⟩
noncomputable def B_replaced (C : Nat → List D → DHeap → Res D) : M Fl :=
  sSeq (sIf (tst (isiM "int" (vr 0))) (sRet (getM2 (vr 1) (vr 0) (vr 0))) (sNil)) (sRet (bin2 addD (tupM (aCons (bin2 ixD (vr 0) (cst (.int 0))) (aNil))) (compCall cTup (compM (srcM (slM (vr 0) (oSome (cst (.int 1))) (oNone))) 2 (tTrue) (callF (C i_replaced) (aCons (vr 2) (aCons (vr 1) (aNil))))))))
theorem ok_replaced {f : Addr} {fd : FuncData} {C : Nat → List D → DHeap → Res D} (F : Fun K "replaced" "replaced" s_replaced f fd) (D_replaced : Defn P w K mg base k "replaced" (C i_replaced)) (z_int : mg "int" = none) (z_isinstance : mg "isinstance" = none) (z_tuple : mg "tuple" = none)   : FnG P w K mg base (k + 1) f fd ["term", "table"] (runDef 2 3 (B_replaced C)) :=
  okG F sc_replaced fun cdv hlk A outer s H E hr hg hp => have nd := sc_replaced.nd
  dss_cons (ds_if (dt_val (de_isi (n := "int") (.inl rfl) (by rfl) z_isinstance (by rfl) z_int (by decide +kernel) (de_vr 0))) (dss_one (ds_ret (de_get2 (hu_of hr) (de_vr 1) (de_vr 0) (de_vr 0)))) (dss_nil)) (dss_one (ds_ret (de_op od_add (de_tup (da_cons (de_ix (hu_of hr) (de_vr 0) (de_int) (fun _ _ => rfl)) (da_nil))) (de_compTy cc_tup (by rfl) z_tuple (by decide +kernel) (dc_comp (ii := 2) (xi := "argument") rfl nd (di_val (de_sl (de_vr 0) (do_some (de_int)) (do_none))) (blkOk_by (own := [("argument", 2)]) (N := ["term", "table", "argument"]) (sc := defScope s_replaced) (by decide +kernel)) (fun _ _ _ _ _ => pg_name (i := 2) nd rfl (by first | exact Or.inl rfl | exact Or.inr rfl)) (fun _ _ _ _ _ => dts_nil) (fun _ _ _ _ _ => de_call D_replaced hr hg (by rfl) (da_cons (de_vr 2) (da_cons (de_vr 1) (da_nil)))))))))
abbrev s_numbered : Stmt := topS 10
theorem sc_numbered : FnScope ["terms", "order", "table", "k", "term"] ["terms"] (defScope s_numbered) := ⟨rfl, rfl, rfl, by decide +kernel, rfl, by decide +kernel, by decide +kernel⟩
noncomputable def B_numbered (C : Nat → List D → DHeap → Res D) : M Fl :=
  sSeq (sSet 1 (callF (C i_variables_of) (aCons (vr 0) (aNil)))) (sSeq (sSet 2 (dcompM (compM (rng1 (callM lenD (aCons (vr 1) (aNil)))) 3 (tTrue) (pairM (bin2 ixD (vr 1) (vr 3)) (vr 3))))) (sRet (compCall cTup (compM (srcM (vr 0)) 4 (tTrue) (callF (C i_replaced) (aCons (vr 4) (aCons (vr 2) (aNil))))))))
theorem ok_numbered {f : Addr} {fd : FuncData} {C : Nat → List D → DHeap → Res D} (F : Fun K "numbered" "numbered" s_numbered f fd) (D_variables_of : Defn P w K mg base k "variables_of" (C i_variables_of)) (D_replaced : Defn P w K mg base k "replaced" (C i_replaced)) (z_len : mg "len" = none) (z_range : mg "range" = none) (z_tuple : mg "tuple" = none)   : FnG P w K mg base (k + 1) f fd ["terms"] (runDef 1 5 (B_numbered C)) :=
  okG F sc_numbered fun cdv hlk A outer s H E hr hg hp => have nd := sc_numbered.nd
  dss_cons (ds_set (i := 1) nd rfl (by first | exact Or.inl rfl | exact Or.inr rfl) (de_call D_variables_of hr hg (by rfl) (da_cons (de_vr 0) (da_nil)))) (dss_cons (ds_set (i := 2) nd rfl (by first | exact Or.inl rfl | exact Or.inr rfl) (de_dcomp (ii := 3) (xi := "k") rfl nd (di_rng1 (by rfl) z_range (de_callB cd_len (by rfl) z_len (by decide +kernel) (da_cons (de_vr 1) (da_nil)))) (blkOk_by (own := [("k", 3)]) (N := ["terms", "order", "table", "k", "term"]) (sc := defScope s_numbered) (by decide +kernel)) (fun _ _ _ _ _ => pg_name (i := 3) nd rfl (by first | exact Or.inl rfl | exact Or.inr rfl)) (fun _ _ _ _ _ => dts_nil) (fun _ _ _ _ _ => de_ix (hu_of hr) (de_vr 1) (de_vr 3) (fun _ _ => rfl)) (fun _ _ _ _ _ => de_vr 3))) (dss_one (ds_ret (de_compTy cc_tup (by rfl) z_tuple (by decide +kernel) (dc_comp (ii := 4) (xi := "term") rfl nd (di_val (de_vr 0)) (blkOk_by (own := [("term", 4)]) (N := ["terms", "order", "table", "k", "term"]) (sc := defScope s_numbered) (by decide +kernel)) (fun _ _ _ _ _ => pg_name (i := 4) nd rfl (by first | exact Or.inl rfl | exact Or.inr rfl)) (fun _ _ _ _ _ => dts_nil) (fun _ _ _ _ _ => de_call D_replaced hr hg (by rfl) (da_cons (de_vr 4) (da_cons (de_vr 2) (da_nil)))))))))
abbrev s_root_of : Stmt := topS 14
theorem sc_root_of : FnScope ["term", "bindings"] ["term", "bindings"] (defScope s_root_of) := ⟨rfl, rfl, rfl, by decide +kernel, rfl, by decide +kernel, by decide +kernel⟩
noncomputable def B_root_of (C : Nat → List D → DHeap → Res D) : M Fl :=
  sSeq (sWhile (andT (tst (isiM "int" (vr 0))) (tst (isiM "int" (getM1 (vr 1) (vr 0))))) (sSet 0 (bin2 ixD (vr 1) (vr 0)))) (sRet (vr 0))
theorem ok_root_of {f : Addr} {fd : FuncData} {C : Nat → List D → DHeap → Res D} (F : Fun K "root_of" "root_of" s_root_of f fd)  (z_int : mg "int" = none) (z_isinstance : mg "isinstance" = none)   : FnG P w K mg base (k + 1) f fd ["term", "bindings"] (runDef 2 2 (B_root_of C)) :=
  okG F sc_root_of fun cdv hlk A outer s H E hr hg hp => have nd := sc_root_of.nd
  dss_cons (ds_while hp (dt_w (dw_and (dt_val (de_isi (n := "int") (.inl rfl) (by rfl) z_isinstance (by rfl) z_int (by decide +kernel) (de_vr 0))) (dw_and1 (dt_val (de_isi (n := "int") (.inl rfl) (by rfl) z_isinstance (by rfl) z_int (by decide +kernel) (de_get1 (hu_of hr) (de_vr 1) (de_vr 0))))))) (dss_one (ds_set (i := 0) nd rfl (by first | exact Or.inl rfl | exact Or.inr rfl) (de_ix (hu_of hr) (de_vr 1) (de_vr 0) (fun _ _ => rfl))))) (dss_one (ds_ret (de_vr 0)))
abbrev s_occurs : Stmt := topS 15
theorem sc_occurs : FnScope ["variable", "term", "bindings", "seen", "argument"] ["variable", "term", "bindings", "seen"] (defScope s_occurs) := ⟨rfl, rfl, rfl, by decide +kernel, rfl, by decide +kernel, by decide +kernel⟩
noncomputable def B_occurs (C : Nat → List D → DHeap → Res D) : M Fl :=
  sSeq (sIf (tst (isiM "int" (vr 1))) (sSeq (sIf (tst (bin2 eqD (vr 1) (vr 0))) (sRet (cst (.bl true))) (sNil)) (sSeq (sIf (orT (tst (bin2 inD (vr 1) (vr 3))) (tst (bin2 ninD (vr 1) (vr 2)))) (sRet (cst (.bl false))) (sNil)) (sSeq (sAsg (cst (.bl true)) (gSb (vr 3) (vr 1))) (sRet (callF (C i_occurs) (aCons (vr 0) (aCons (bin2 ixD (vr 2) (vr 1)) (aCons (vr 2) (aCons (vr 3) (aNil)))))))))) (sNil)) (sSeq (sFor (srcM (slM (vr 1) (oSome (cst (.int 1))) (oNone))) (gN 4) (sIf (tst (callF (C i_occurs) (aCons (vr 0) (aCons (vr 4) (aCons (vr 2) (aCons (vr 3) (aNil))))))) (sRet (cst (.bl true))) (sNil))) (sRet (cst (.bl false))))
theorem ok_occurs {f : Addr} {fd : FuncData} {C : Nat → List D → DHeap → Res D} (F : Fun K "occurs" "occurs" s_occurs f fd) (D_occurs : Defn P w K mg base k "occurs" (C i_occurs)) (z_int : mg "int" = none) (z_isinstance : mg "isinstance" = none)   : FnG P w K mg base (k + 1) f fd ["variable", "term", "bindings", "seen"] (runDef 4 5 (B_occurs C)) :=
  okG F sc_occurs fun cdv hlk A outer s H E hr hg hp => have nd := sc_occurs.nd
  dss_cons (ds_if (dt_val (de_isi (n := "int") (.inl rfl) (by rfl) z_isinstance (by rfl) z_int (by decide +kernel) (de_vr 1))) (dss_cons (ds_if (dt_cmp (od_eq hr.units) (de_vr 1) (de_vr 0) (nomark _)) (dss_one (ds_ret (de_bl))) (dss_nil)) (dss_cons (ds_if (dt_w (dw_or (dt_cmp (od_in (u200 hr)) (de_vr 1) (de_vr 3) (by rfl)) (dw_or1 (dt_cmp (od_notin (u200 hr)) (de_vr 1) (de_vr 2) (by rfl))))) (dss_one (ds_ret (de_bl))) (dss_nil)) (dss_cons (ds_asg (de_bl) (dg_sub (hu_of hr) (de_vr 3) (de_vr 1))) (dss_one (ds_ret (de_call D_occurs hr hg (by rfl) (da_cons (de_vr 0) (da_cons (de_ix (hu_of hr) (de_vr 2) (de_vr 1) (fun _ _ => rfl)) (da_cons (de_vr 2) (da_cons (de_vr 3) (da_nil))))))))))) (dss_nil)) (dss_cons (ds_for hp rfl (di_val (de_sl (de_vr 1) (do_some (de_int)) (do_none))) (dg_name (i := 4) nd rfl (by first | exact Or.inl rfl | exact Or.inr rfl)) (dss_one (ds_if (dt_val (de_call D_occurs hr hg (by rfl) (da_cons (de_vr 0) (da_cons (de_vr 4) (da_cons (de_vr 2) (da_cons (de_vr 3) (da_nil))))))) (dss_one (ds_ret (de_bl))) (dss_nil)))) (dss_one (ds_ret (de_bl))))
abbrev s_bind : Stmt := topS 16
theorem sc_bind : FnScope ["variable", "term", "bindings", "waiting"] ["variable", "term", "bindings", "waiting"] (defScope s_bind) := ⟨rfl, rfl, rfl, by decide +kernel, rfl, by decide +kernel, by decide +kernel⟩
noncomputable def B_bind (C : Nat → List D → DHeap → Res D) : M Fl :=
  sSeq (sIf (tst (bin2 eqD (vr 0) (vr 1))) (sRet (cst (.bl true))) (sNil)) (sSeq (sIf (andT (tst (bin2 inD (vr 0) (vr 2))) (notT (tst (isiM "int" (vr 1))))) (sSeq (sExpr (appM (vr 3) (tupM (aCons (bin2 ixD (vr 2) (vr 0)) (aCons (vr 1) (aNil)))))) (sRet (cst (.bl true)))) (sNil)) (sSeq (sIf (tst (callF (C i_occurs) (aCons (vr 0) (aCons (vr 1) (aCons (vr 2) (aCons (newDic) (aNil))))))) (sRet (cst (.bl false))) (sNil)) (sSeq (sIf (tst (bin2 inD (vr 0) (vr 2))) (sExpr (appM (vr 3) (tupM (aCons (bin2 ixD (vr 2) (vr 0)) (aCons (vr 1) (aNil)))))) (sNil)) (sSeq (sAsg (vr 1) (gSb (vr 2) (vr 0))) (sRet (cst (.bl true)))))))
theorem ok_bind {f : Addr} {fd : FuncData} {C : Nat → List D → DHeap → Res D} (F : Fun K "bind" "bind" s_bind f fd) (D_occurs : Defn P w K mg base k "occurs" (C i_occurs)) (z_int : mg "int" = none) (z_isinstance : mg "isinstance" = none)   : FnG P w K mg base (k + 1) f fd ["variable", "term", "bindings", "waiting"] (runDef 4 4 (B_bind C)) :=
  okG F sc_bind fun cdv hlk A outer s H E hr hg hp => have nd := sc_bind.nd
  dss_cons (ds_if (dt_cmp (od_eq hr.units) (de_vr 0) (de_vr 1) (nomark _)) (dss_one (ds_ret (de_bl))) (dss_nil)) (dss_cons (ds_if (dt_w (dw_and (dt_cmp (od_in (u200 hr)) (de_vr 0) (de_vr 2) (by rfl)) (dw_and1 (dt_not (dt_val (de_isi (n := "int") (.inl rfl) (by rfl) z_isinstance (by rfl) z_int (by decide +kernel) (de_vr 1))))))) (dss_cons (ds_expr (de_app (de_vr 3) (de_tup (da_cons (de_ix (hu_of hr) (de_vr 2) (de_vr 0) (fun _ _ => rfl)) (da_cons (de_vr 1) (da_nil)))))) (dss_one (ds_ret (de_bl)))) (dss_nil)) (dss_cons (ds_if (dt_val (de_call D_occurs hr hg (by rfl) (da_cons (de_vr 0) (da_cons (de_vr 1) (da_cons (de_vr 2) (da_cons (de_dic) (da_nil))))))) (dss_one (ds_ret (de_bl))) (dss_nil)) (dss_cons (ds_if (dt_cmp (od_in (u200 hr)) (de_vr 0) (de_vr 2) (by rfl)) (dss_one (ds_expr (de_app (de_vr 3) (de_tup (da_cons (de_ix (hu_of hr) (de_vr 2) (de_vr 0) (fun _ _ => rfl)) (da_cons (de_vr 1) (da_nil))))))) (dss_nil)) (dss_cons (ds_asg (de_vr 1) (dg_sub (hu_of hr) (de_vr 2) (de_vr 0))) (dss_one (ds_ret (de_bl)))))))
abbrev s_unifier : Stmt := topS 17
theorem sc_unifier : FnScope ["pairs", "bindings", "waiting", "left", "right", "k"] ["pairs"] (defScope s_unifier) := ⟨rfl, rfl, rfl, by decide +kernel, rfl, by decide +kernel, by decide +kernel⟩
noncomputable def B_unifier (C : Nat → List D → DHeap → Res D) : M Fl :=
  sSeq (sSet 1 (newDic)) (sSeq (sSet 2 (callM lisD (aCons (vr 0) (aNil)))) (sSeq (sWhile (tru (vr 2)) (sSeq (sAsg (popM (vr 2)) (gTp 2 (gsCons (gN 3) (gsCons (gN 4) (gsNil))))) (sSeq (sSet 3 (callF (C i_root_of) (aCons (vr 3) (aCons (vr 1) (aNil))))) (sSeq (sSet 4 (callF (C i_root_of) (aCons (vr 4) (aCons (vr 1) (aNil))))) (sSeq (sIf (tst (isiM "int" (vr 4))) (sPar 3 4 (aCons (vr 4) (aCons (vr 3) (aNil)))) (sNil)) (sIf (tst (isiM "int" (vr 3))) (sIf (notT (tst (callF (C i_bind) (aCons (vr 3) (aCons (vr 4) (aCons (vr 1) (aCons (vr 2) (aNil)))))))) (sRet (cst .non)) (sNil)) (sIf (orT (tst (bin2 neD (bin2 ixD (vr 3) (cst (.int 0))) (bin2 ixD (vr 4) (cst (.int 0))))) (tst (bin2 neD (callM lenD (aCons (vr 3) (aNil))) (callM lenD (aCons (vr 4) (aNil)))))) (sRet (cst .non)) (sFor (rng2 (cst (.int 1)) (callM lenD (aCons (vr 3) (aNil)))) (gN 5) (sExpr (appM (vr 2) (tupM (aCons (bin2 ixD (vr 3) (vr 5)) (aCons (bin2 ixD (vr 4) (vr 5)) (aNil)))))))))))))) (sRet (vr 1))))
theorem ok_unifier {f : Addr} {fd : FuncData} {C : Nat → List D → DHeap → Res D} (F : Fun K "unifier" "unifier" s_unifier f fd) (D_root_of : Defn P w K mg base k "root_of" (C i_root_of)) (D_bind : Defn P w K mg base k "bind" (C i_bind)) (z_int : mg "int" = none) (z_isinstance : mg "isinstance" = none) (z_len : mg "len" = none) (z_list : mg "list" = none) (z_range : mg "range" = none)   : FnG P w K mg base (k + 1) f fd ["pairs"] (runDef 1 6 (B_unifier C)) :=
  okG F sc_unifier fun cdv hlk A outer s H E hr hg hp => have nd := sc_unifier.nd
  dss_cons (ds_set (i := 1) nd rfl (by first | exact Or.inl rfl | exact Or.inr rfl) (de_dic)) (dss_cons (ds_set (i := 2) nd rfl (by first | exact Or.inl rfl | exact Or.inr rfl) (de_callTy (cd_lis rfl) (by rfl) z_list (by decide +kernel) (da_cons (de_vr 0) (da_nil)))) (dss_cons (ds_while hp (dt_tru (de_vr 2)) (dss_cons (ds_asg (de_pop (de_vr 2)) (dg_tup rfl (dgs_cons (dg_name (i := 3) nd rfl (by first | exact Or.inl rfl | exact Or.inr rfl)) (dgs_cons (dg_name (i := 4) nd rfl (by first | exact Or.inl rfl | exact Or.inr rfl)) (dgs_nil))))) (dss_cons (ds_set (i := 3) nd rfl (by first | exact Or.inl rfl | exact Or.inr rfl) (de_call D_root_of hr hg (by rfl) (da_cons (de_vr 3) (da_cons (de_vr 1) (da_nil))))) (dss_cons (ds_set (i := 4) nd rfl (by first | exact Or.inl rfl | exact Or.inr rfl) (de_call D_root_of hr hg (by rfl) (da_cons (de_vr 4) (da_cons (de_vr 1) (da_nil))))) (dss_cons (ds_if (dt_val (de_isi (n := "int") (.inl rfl) (by rfl) z_isinstance (by rfl) z_int (by decide +kernel) (de_vr 4))) (dss_one (ds_par (i := 3) (j := 4) rfl nd rfl rfl (by decide) rfl rfl (da_cons (de_vr 4) (da_cons (de_vr 3) (da_nil))) (by rfl))) (dss_nil)) (dss_one (ds_if (dt_val (de_isi (n := "int") (.inl rfl) (by rfl) z_isinstance (by rfl) z_int (by decide +kernel) (de_vr 3))) (dss_one (ds_if (dt_not (dt_val (de_call D_bind hr hg (by rfl) (da_cons (de_vr 3) (da_cons (de_vr 4) (da_cons (de_vr 1) (da_cons (de_vr 2) (da_nil)))))))) (dss_one (ds_ret (de_non))) (dss_nil))) (dss_one (ds_if (dt_w (dw_or (dt_cmp (od_ne hr.units) (de_ix (hu_of hr) (de_vr 3) (de_int) (fun _ _ => rfl)) (de_ix (hu_of hr) (de_vr 4) (de_int) (fun _ _ => rfl)) (nomark _)) (dw_or1 (dt_cmp (od_ne hr.units) (de_callB cd_len (by rfl) z_len (by decide +kernel) (da_cons (de_vr 3) (da_nil))) (de_callB cd_len (by rfl) z_len (by decide +kernel) (da_cons (de_vr 4) (da_nil))) (nomark _))))) (dss_one (ds_ret (de_non))) (dss_one (ds_for hp rfl (di_rng2 (by rfl) z_range (de_int) (de_callB cd_len (by rfl) z_len (by decide +kernel) (da_cons (de_vr 3) (da_nil)))) (dg_name (i := 5) nd rfl (by first | exact Or.inl rfl | exact Or.inr rfl)) (dss_one (ds_expr (de_app (de_vr 2) (de_tup (da_cons (de_ix (hu_of hr) (de_vr 3) (de_vr 5) (fun _ _ => rfl)) (da_cons (de_ix (hu_of hr) (de_vr 4) (de_vr 5) (fun _ _ => rfl)) (da_nil)))))))))))))))))) (dss_one (ds_ret (de_vr 1)))))
abbrev s_measured : Stmt := topS 18
theorem sc_measured : FnScope ["term", "bindings", "known", "size", "depth", "argument", "part"] ["term", "bindings", "known"] (defScope s_measured) := ⟨rfl, rfl, rfl, by decide +kernel, rfl, by decide +kernel, by decide +kernel⟩
noncomputable def B_measured (C : Nat → List D → DHeap → Res D) : M Fl :=
  sSeq (sIf (tst (isiM "int" (vr 0))) (sSeq (sIf (tst (bin2 ninD (vr 0) (vr 1))) (sRet (tupM (aCons (cst (.int 1)) (aCons (cst (.int 1)) (aNil))))) (sNil)) (sSeq (sIf (tst (bin2 ninD (vr 0) (vr 2))) (sAsg (callF (C i_measured) (aCons (bin2 ixD (vr 1) (vr 0)) (aCons (vr 1) (aCons (vr 2) (aNil))))) (gSb (vr 2) (vr 0))) (sNil)) (sRet (bin2 ixD (vr 2) (vr 0))))) (sNil)) (sSeq (sSet 3 (cst (.int 1))) (sSeq (sSet 4 (cst (.int 0))) (sSeq (sFor (srcM (slM (vr 0) (oSome (cst (.int 1))) (oNone))) (gN 5) (sSeq (sSet 6 (callF (C i_measured) (aCons (vr 5) (aCons (vr 1) (aCons (vr 2) (aNil)))))) (sSeq (sSet 3 (bin2 addD (vr 3) (bin2 ixD (vr 6) (cst (.int 0))))) (sSet 4 (callM max2D (aCons (vr 4) (aCons (bin2 ixD (vr 6) (cst (.int 1))) (aNil)))))))) (sRet (tupM (aCons (vr 3) (aCons (bin2 addD (vr 4) (cst (.int 1))) (aNil))))))))
theorem ok_measured {f : Addr} {fd : FuncData} {C : Nat → List D → DHeap → Res D} (F : Fun K "measured" "measured" s_measured f fd) (D_measured : Defn P w K mg base k "measured" (C i_measured)) (z_int : mg "int" = none) (z_isinstance : mg "isinstance" = none) (z_max : mg "max" = none)   : FnG P w K mg base (k + 1) f fd ["term", "bindings", "known"] (runDef 3 7 (B_measured C)) :=
  okG F sc_measured fun cdv hlk A outer s H E hr hg hp => have nd := sc_measured.nd
  dss_cons (ds_if (dt_val (de_isi (n := "int") (.inl rfl) (by rfl) z_isinstance (by rfl) z_int (by decide +kernel) (de_vr 0))) (dss_cons (ds_if (dt_cmp (od_notin (u200 hr)) (de_vr 0) (de_vr 1) (by rfl)) (dss_one (ds_ret (de_tup (da_cons (de_int) (da_cons (de_int) (da_nil)))))) (dss_nil)) (dss_cons (ds_if (dt_cmp (od_notin (u200 hr)) (de_vr 0) (de_vr 2) (by rfl)) (dss_one (ds_asg (de_call D_measured hr hg (by rfl) (da_cons (de_ix (hu_of hr) (de_vr 1) (de_vr 0) (fun _ _ => rfl)) (da_cons (de_vr 1) (da_cons (de_vr 2) (da_nil))))) (dg_sub (hu_of hr) (de_vr 2) (de_vr 0)))) (dss_nil)) (dss_one (ds_ret (de_ix (hu_of hr) (de_vr 2) (de_vr 0) (fun _ _ => rfl)))))) (dss_nil)) (dss_cons (ds_set (i := 3) nd rfl (by first | exact Or.inl rfl | exact Or.inr rfl) (de_int)) (dss_cons (ds_set (i := 4) nd rfl (by first | exact Or.inl rfl | exact Or.inr rfl) (de_int)) (dss_cons (ds_for hp rfl (di_val (de_sl (de_vr 0) (do_some (de_int)) (do_none))) (dg_name (i := 5) nd rfl (by first | exact Or.inl rfl | exact Or.inr rfl)) (dss_cons (ds_set (i := 6) nd rfl (by first | exact Or.inl rfl | exact Or.inr rfl) (de_call D_measured hr hg (by rfl) (da_cons (de_vr 5) (da_cons (de_vr 1) (da_cons (de_vr 2) (da_nil)))))) (dss_cons (ds_set (i := 3) nd rfl (by first | exact Or.inl rfl | exact Or.inr rfl) (de_op od_add (de_vr 3) (de_ix (hu_of hr) (de_vr 6) (de_int) (fun _ _ => rfl)))) (dss_one (ds_set (i := 4) nd rfl (by first | exact Or.inl rfl | exact Or.inr rfl) (de_callB (cd_max2 rfl) (by rfl) z_max (by decide +kernel) (da_cons (de_vr 4) (da_cons (de_ix (hu_of hr) (de_vr 6) (de_int) (fun _ _ => rfl)) (da_nil))))))))) (dss_one (ds_ret (de_tup (da_cons (de_vr 3) (da_cons (de_op od_add (de_vr 4) (de_int)) (da_nil)))))))))
abbrev s_written_out : Stmt := topS 19
theorem sc_written_out : FnScope ["term", "bindings", "argument"] ["term", "bindings"] (defScope s_written_out) := ⟨rfl, rfl, rfl, by decide +kernel, rfl, by decide +kernel, by decide +kernel⟩
noncomputable def B_written_out (C : Nat → List D → DHeap → Res D) : M Fl :=
  sSeq (sIf (tst (isiM "int" (vr 0))) (sSeq (sIf (tst (bin2 inD (vr 0) (vr 1))) (sRet (callF (C i_written_out) (aCons (bin2 ixD (vr 1) (vr 0)) (aCons (vr 1) (aNil))))) (sNil)) (sRet (vr 0))) (sNil)) (sRet (bin2 addD (tupM (aCons (bin2 ixD (vr 0) (cst (.int 0))) (aNil))) (compCall cTup (compM (srcM (slM (vr 0) (oSome (cst (.int 1))) (oNone))) 2 (tTrue) (callF (C i_written_out) (aCons (vr 2) (aCons (vr 1) (aNil))))))))
theorem ok_written_out {f : Addr} {fd : FuncData} {C : Nat → List D → DHeap → Res D} (F : Fun K "written_out" "written_out" s_written_out f fd) (D_written_out : Defn P w K mg base k "written_out" (C i_written_out)) (z_int : mg "int" = none) (z_isinstance : mg "isinstance" = none) (z_tuple : mg "tuple" = none)   : FnG P w K mg base (k + 1) f fd ["term", "bindings"] (runDef 2 3 (B_written_out C)) :=
  okG F sc_written_out fun cdv hlk A outer s H E hr hg hp => have nd := sc_written_out.nd
  dss_cons (ds_if (dt_val (de_isi (n := "int") (.inl rfl) (by rfl) z_isinstance (by rfl) z_int (by decide +kernel) (de_vr 0))) (dss_cons (ds_if (dt_cmp (od_in (u200 hr)) (de_vr 0) (de_vr 1) (by rfl)) (dss_one (ds_ret (de_call D_written_out hr hg (by rfl) (da_cons (de_ix (hu_of hr) (de_vr 1) (de_vr 0) (fun _ _ => rfl)) (da_cons (de_vr 1) (da_nil)))))) (dss_nil)) (dss_one (ds_ret (de_vr 0)))) (dss_nil)) (dss_one (ds_ret (de_op od_add (de_tup (da_cons (de_ix (hu_of hr) (de_vr 0) (de_int) (fun _ _ => rfl)) (da_nil))) (de_compTy cc_tup (by rfl) z_tuple (by decide +kernel) (dc_comp (ii := 2) (xi := "argument") rfl nd (di_val (de_sl (de_vr 0) (do_some (de_int)) (do_none))) (blkOk_by (own := [("argument", 2)]) (N := ["term", "bindings", "argument"]) (sc := defScope s_written_out) (by decide +kernel)) (fun _ _ _ _ _ => pg_name (i := 2) nd rfl (by first | exact Or.inl rfl | exact Or.inr rfl)) (fun _ _ _ _ _ => dts_nil) (fun _ _ _ _ _ => de_call D_written_out hr hg (by rfl) (da_cons (de_vr 2) (da_cons (de_vr 1) (da_nil)))))))))
abbrev s_resolved : Stmt := topS 20
theorem sc_resolved : FnScope ["term", "bindings", "most_size", "most_depth", "size", "depth"] ["term", "bindings", "most_size", "most_depth"] (defScope s_resolved) := ⟨rfl, rfl, rfl, by decide +kernel, rfl, by decide +kernel, by decide +kernel⟩
noncomputable def B_resolved (C : Nat → List D → DHeap → Res D) : M Fl :=
  sSeq (sAsg (callF (C i_measured) (aCons (vr 0) (aCons (vr 1) (aCons (newDic) (aNil))))) (gTp 2 (gsCons (gN 4) (gsCons (gN 5) (gsNil))))) (sSeq (sIf (orT (tst (bin2 gtD (vr 4) (vr 2))) (tst (bin2 gtD (vr 5) (vr 3)))) (sRet (cst .non)) (sNil)) (sRet (callF (C i_written_out) (aCons (vr 0) (aCons (vr 1) (aNil))))))
theorem ok_resolved {f : Addr} {fd : FuncData} {C : Nat → List D → DHeap → Res D} (F : Fun K "resolved" "resolved" s_resolved f fd) (D_measured : Defn P w K mg base k "measured" (C i_measured)) (D_written_out : Defn P w K mg base k "written_out" (C i_written_out))    : FnG P w K mg base (k + 1) f fd ["term", "bindings", "most_size", "most_depth"] (runDef 4 6 (B_resolved C)) :=
  okG F sc_resolved fun cdv hlk A outer s H E hr hg hp => have nd := sc_resolved.nd
  dss_cons (ds_asg (de_call D_measured hr hg (by rfl) (da_cons (de_vr 0) (da_cons (de_vr 1) (da_cons (de_dic) (da_nil))))) (dg_tup rfl (dgs_cons (dg_name (i := 4) nd rfl (by first | exact Or.inl rfl | exact Or.inr rfl)) (dgs_cons (dg_name (i := 5) nd rfl (by first | exact Or.inl rfl | exact Or.inr rfl)) (dgs_nil))))) (dss_cons (ds_if (dt_w (dw_or (dt_cmp od_gt (de_vr 4) (de_vr 2) (nomark _)) (dw_or1 (dt_cmp od_gt (de_vr 5) (de_vr 3) (nomark _))))) (dss_one (ds_ret (de_non))) (dss_nil)) (dss_one (ds_ret (de_call D_written_out hr hg (by rfl) (da_cons (de_vr 0) (da_cons (de_vr 1) (da_nil)))))))
abbrev s_unify : Stmt := topS 21
theorem sc_unify : FnScope ["left", "right", "bindings", "common"] ["left", "right"] (defScope s_unify) := ⟨rfl, rfl, rfl, by decide +kernel, rfl, by decide +kernel, by decide +kernel⟩
noncomputable def B_unify (C : Nat → List D → DHeap → Res D) : M Fl :=
  sSeq (sSet 2 (callF (C i_unifier) (aCons (lstM (aCons (tupM (aCons (vr 0) (aCons (vr 1) (aNil)))) (aNil))) (aNil)))) (sSeq (sIf (tst (bin2 isD' (vr 2) (cst .non))) (sRet (cst .non)) (sNil)) (sSeq (sSet 3 (callF (C i_resolved) (aCons (vr 0) (aCons (vr 2) (aCons (cst (.int 400)) (aCons (cst (.int 40)) (aNil))))))) (sSeq (sIf (tst (bin2 isD' (vr 3) (cst .non))) (sRaise "TooLarge") (sNil)) (sRet (bin2 ixD (callF (C i_numbered) (aCons (tupM (aCons (vr 3) (aNil))) (aNil))) (cst (.int 0)))))))
theorem ok_unify {f : Addr} {fd : FuncData} {C : Nat → List D → DHeap → Res D} (F : Fun K "unify" "unify" s_unify f fd) (D_numbered : Defn P w K mg base k "numbered" (C i_numbered)) (D_unifier : Defn P w K mg base k "unifier" (C i_unifier)) (D_resolved : Defn P w K mg base k "resolved" (C i_resolved))  {C_TooLarge : Addr} (K_MOST_SIZE : GC K mg "MOST_SIZE" (.int 400)) (K_MOST_DEPTH : GC K mg "MOST_DEPTH" (.int 40)) (X_TooLarge : XCls K mg "TooLarge" C_TooLarge) : FnG P w K mg base (k + 1) f fd ["left", "right"] (runDef 2 4 (B_unify C)) :=
  okG F sc_unify fun cdv hlk A outer s H E hr hg hp => have nd := sc_unify.nd
  dss_cons (ds_set (i := 2) nd rfl (by first | exact Or.inl rfl | exact Or.inr rfl) (de_call D_unifier hr hg (by rfl) (da_cons (de_lst (da_cons (de_tup (da_cons (de_vr 0) (da_cons (de_vr 1) (da_nil)))) (da_nil))) (da_nil)))) (dss_cons (ds_if (dt_cmp od_is (de_vr 2) (de_non) (nomark _)) (dss_one (ds_ret (de_non))) (dss_nil)) (dss_cons (ds_set (i := 3) nd rfl (by first | exact Or.inl rfl | exact Or.inr rfl) (de_call D_resolved hr hg (by rfl) (da_cons (de_vr 0) (da_cons (de_vr 2) (da_cons (de_glob K_MOST_SIZE (by rfl)) (da_cons (de_glob K_MOST_DEPTH (by rfl)) (da_nil))))))) (dss_cons (ds_if (dt_cmp od_is (de_vr 3) (de_non) (nomark _)) (dss_one (ds_raise rfl X_TooLarge (by rfl))) (dss_nil)) (dss_one (ds_ret (de_ix (hu_of hr) (de_call D_numbered hr hg (by rfl) (da_cons (de_tup (da_cons (de_vr 3) (da_nil))) (da_nil))) (de_int) (fun _ _ => rfl)))))))
abbrev s__law_tape : Stmt := topS 23
theorem sc__law_tape : FnScope ["_law_script", "_law_total", "_law_cell"] ["_law_script"] (defScope s__law_tape) := ⟨rfl, rfl, rfl, by decide +kernel, rfl, by decide +kernel, by decide +kernel⟩
noncomputable def B__law_tape (C : Nat → List D → DHeap → Res D) : M Fl :=
  sSeq (sSet 1 (cst (.int 7))) (sSeq (sFor (srcM (vr 0)) (gN 2) (sSet 1 (bin2 modD (callM intD (aCons (bin2 addD (bin2 mulD (vr 1) (cst (.int 31))) (callM absD (aCons (callM intD (aCons (vr 2) (aNil))) (aNil)))) (aNil))) (cst (.int 2147483647))))) (sRet (lstM (aCons (callM lisD (aCons (vr 0) (aNil))) (aCons (cst (.int 0)) (aCons (cst (.int 0)) (aCons (vr 1) (aNil))))))))
theorem ok__law_tape {f : Addr} {fd : FuncData} {C : Nat → List D → DHeap → Res D} (F : Fun K "_law_tape" "_law_tape" s__law_tape f fd)  (z_abs : mg "abs" = none) (z_int : mg "int" = none) (z_list : mg "list" = none)   : FnG P w K mg base (k + 1) f fd ["_law_script"] (runDef 1 3 (B__law_tape C)) :=
  okG F sc__law_tape fun cdv hlk A outer s H E hr hg hp => have nd := sc__law_tape.nd
  dss_cons (ds_set (i := 1) nd rfl (by first | exact Or.inl rfl | exact Or.inr rfl) (de_int)) (dss_cons (ds_for hp rfl (di_val (de_vr 0)) (dg_name (i := 2) nd rfl (by first | exact Or.inl rfl | exact Or.inr rfl)) (dss_one (ds_set (i := 1) nd rfl (by first | exact Or.inl rfl | exact Or.inr rfl) (de_op od_mod (de_callTy cd_int (by rfl) z_int (by decide +kernel) (da_cons (de_op od_add (de_op od_mul (de_vr 1) (de_int)) (de_callB cd_abs (by rfl) z_abs (by decide +kernel) (da_cons (de_callTy cd_int (by rfl) z_int (by decide +kernel) (da_cons (de_vr 2) (da_nil))) (da_nil)))) (da_nil))) (de_int))))) (dss_one (ds_ret (de_lst (da_cons (de_callTy (cd_lis rfl) (by rfl) z_list (by decide +kernel) (da_cons (de_vr 0) (da_nil))) (da_cons (de_int) (da_cons (de_int) (da_cons (de_vr 1) (da_nil)))))))))
abbrev s__law_draw : Stmt := topS 24
theorem sc__law_draw : FnScope ["_law_tape_here", "_law_many", "_law_place", "_law_number"] ["_law_tape_here", "_law_many"] (defScope s__law_draw) := ⟨rfl, rfl, rfl, by decide +kernel, rfl, by decide +kernel, by decide +kernel⟩
noncomputable def B__law_draw (C : Nat → List D → DHeap → Res D) : M Fl :=
  sSeq (sIf (tst (bin2 eqD (bin2 ixD (vr 0) (cst (.int 2))) (cst (.int 0)))) (sSeq (sSet 2 (bin2 ixD (vr 0) (cst (.int 1)))) (sSeq (sSet 3 (cst (.int 0))) (sSeq (sIf (tst (bin2 ltD (vr 2) (callM lenD (aCons (bin2 ixD (vr 0) (cst (.int 0))) (aNil))))) (sSet 3 (callM absD (aCons (callM intD (aCons (bin2 ixD (bin2 ixD (vr 0) (cst (.int 0))) (vr 2)) (aNil))) (aNil)))) (sSeq (sAsg (bin2 modD (callM intD (aCons (bin2 addD (bin2 addD (bin2 mulD (bin2 ixD (vr 0) (cst (.int 3))) (cst (.int 48271))) (vr 2)) (cst (.int 1))) (aNil))) (cst (.int 2147483647))) (gSb (vr 0) (cst (.int 3)))) (sSet 3 (bin2 ixD (vr 0) (cst (.int 3)))))) (sSeq (sAsg (bin2 addD (vr 2) (cst (.int 1))) (gSb (vr 0) (cst (.int 1)))) (sSeq (sIf (tst (bin2 ltD (vr 3) (bin2 powD (cst (.int 10)) (cst (.int 18))))) (sSeq (sSet 3 (bin2 modD (callM intD (aCons (bin2 addD (bin2 addD (bin2 mulD (vr 3) (cst (.int 48271))) (bin2 mulD (vr 2) (cst (.int 69621)))) (cst (.int 5))) (aNil))) (cst (.int 2147483647)))) (sSeq (sSet 3 (bin2 modD (callM intD (aCons (bin2 mulD (vr 3) (cst (.int 69621))) (aNil))) (cst (.int 2147483629)))) (sRet (bin2 modD (callM intD (aCons (vr 3) (aNil))) (callM max2D (aCons (vr 1) (aCons (cst (.int 1)) (aNil)))))))) (sNil)) (sAsg (vr 3) (gSb (vr 0) (cst (.int 2))))))))) (sNil)) (sSeq (sSet 3 (bin2 ixD (vr 0) (cst (.int 2)))) (sSeq (sAsg (bin2 divD (vr 3) (callM max2D (aCons (vr 1) (aCons (cst (.int 2)) (aNil))))) (gSb (vr 0) (cst (.int 2)))) (sRet (bin2 modD (callM intD (aCons (vr 3) (aNil))) (callM max2D (aCons (vr 1) (aCons (cst (.int 1)) (aNil))))))))
theorem ok__law_draw {f : Addr} {fd : FuncData} {C : Nat → List D → DHeap → Res D} (F : Fun K "_law_draw" "_law_draw" s__law_draw f fd)  (z_abs : mg "abs" = none) (z_int : mg "int" = none) (z_len : mg "len" = none) (z_max : mg "max" = none)   : FnG P w K mg base (k + 1) f fd ["_law_tape_here", "_law_many"] (runDef 2 4 (B__law_draw C)) :=
  okG F sc__law_draw fun cdv hlk A outer s H E hr hg hp => have nd := sc__law_draw.nd
  dss_cons (ds_if (dt_cmp (od_eq hr.units) (de_ix (hu_of hr) (de_vr 0) (de_int) (fun _ _ => rfl)) (de_int) (nomark _)) (dss_cons (ds_set (i := 2) nd rfl (by first | exact Or.inl rfl | exact Or.inr rfl) (de_ix (hu_of hr) (de_vr 0) (de_int) (fun _ _ => rfl))) (dss_cons (ds_set (i := 3) nd rfl (by first | exact Or.inl rfl | exact Or.inr rfl) (de_int)) (dss_cons (ds_if (dt_cmp od_lt (de_vr 2) (de_callB cd_len (by rfl) z_len (by decide +kernel) (da_cons (de_ix (hu_of hr) (de_vr 0) (de_int) (fun _ _ => rfl)) (da_nil))) (nomark _)) (dss_one (ds_set (i := 3) nd rfl (by first | exact Or.inl rfl | exact Or.inr rfl) (de_callB cd_abs (by rfl) z_abs (by decide +kernel) (da_cons (de_callTy cd_int (by rfl) z_int (by decide +kernel) (da_cons (de_ix (hu_of hr) (de_ix (hu_of hr) (de_vr 0) (de_int) (fun _ _ => rfl)) (de_vr 2) (fun _ _ => rfl)) (da_nil))) (da_nil))))) (dss_cons (ds_asg (de_op od_mod (de_callTy cd_int (by rfl) z_int (by decide +kernel) (da_cons (de_op od_add (de_op od_add (de_op od_mul (de_ix (hu_of hr) (de_vr 0) (de_int) (fun _ _ => rfl)) (de_int)) (de_vr 2)) (de_int)) (da_nil))) (de_int)) (dg_sub (hu_of hr) (de_vr 0) (de_int))) (dss_one (ds_set (i := 3) nd rfl (by first | exact Or.inl rfl | exact Or.inr rfl) (de_ix (hu_of hr) (de_vr 0) (de_int) (fun _ _ => rfl)))))) (dss_cons (ds_asg (de_op od_add (de_vr 2) (de_int)) (dg_sub (hu_of hr) (de_vr 0) (de_int))) (dss_cons (ds_if (dt_cmp od_lt (de_vr 3) (de_op od_pow (de_int) (de_int)) (nomark _)) (dss_cons (ds_set (i := 3) nd rfl (by first | exact Or.inl rfl | exact Or.inr rfl) (de_op od_mod (de_callTy cd_int (by rfl) z_int (by decide +kernel) (da_cons (de_op od_add (de_op od_add (de_op od_mul (de_vr 3) (de_int)) (de_op od_mul (de_vr 2) (de_int))) (de_int)) (da_nil))) (de_int))) (dss_cons (ds_set (i := 3) nd rfl (by first | exact Or.inl rfl | exact Or.inr rfl) (de_op od_mod (de_callTy cd_int (by rfl) z_int (by decide +kernel) (da_cons (de_op od_mul (de_vr 3) (de_int)) (da_nil))) (de_int))) (dss_one (ds_ret (de_op od_mod (de_callTy cd_int (by rfl) z_int (by decide +kernel) (da_cons (de_vr 3) (da_nil))) (de_callB (cd_max2 rfl) (by rfl) z_max (by decide +kernel) (da_cons (de_vr 1) (da_cons (de_int) (da_nil))))))))) (dss_nil)) (dss_one (ds_asg (de_vr 3) (dg_sub (hu_of hr) (de_vr 0) (de_int))))))))) (dss_nil)) (dss_cons (ds_set (i := 3) nd rfl (by first | exact Or.inl rfl | exact Or.inr rfl) (de_ix (hu_of hr) (de_vr 0) (de_int) (fun _ _ => rfl))) (dss_cons (ds_asg (de_op od_div (de_vr 3) (de_callB (cd_max2 rfl) (by rfl) z_max (by decide +kernel) (da_cons (de_vr 1) (da_cons (de_int) (da_nil))))) (dg_sub (hu_of hr) (de_vr 0) (de_int))) (dss_one (ds_ret (de_op od_mod (de_callTy cd_int (by rfl) z_int (by decide +kernel) (da_cons (de_vr 3) (da_nil))) (de_callB (cd_max2 rfl) (by rfl) z_max (by decide +kernel) (da_cons (de_vr 1) (da_cons (de_int) (da_nil)))))))))
abbrev s__law_replaced : Stmt := topS 25
theorem sc__law_replaced : FnScope ["_law_term", "_law_table", "_law_part"] ["_law_term", "_law_table"] (defScope s__law_replaced) := ⟨rfl, rfl, rfl, by decide +kernel, rfl, by decide +kernel, by decide +kernel⟩
noncomputable def B__law_replaced (C : Nat → List D → DHeap → Res D) : M Fl :=
  sSeq (sIf (tst (isiM "int" (vr 0))) (sSeq (sIf (tst (bin2 inD (vr 0) (vr 1))) (sRet (bin2 ixD (vr 1) (vr 0))) (sNil)) (sRet (vr 0))) (sNil)) (sRet (bin2 addD (tupM (aCons (bin2 ixD (vr 0) (cst (.int 0))) (aNil))) (compCall cTup (compM (srcM (slM (vr 0) (oSome (cst (.int 1))) (oNone))) 2 (tTrue) (callF (C i__law_replaced) (aCons (vr 2) (aCons (vr 1) (aNil))))))))
theorem ok__law_replaced {f : Addr} {fd : FuncData} {C : Nat → List D → DHeap → Res D} (F : Fun K "_law_replaced" "_law_replaced" s__law_replaced f fd) (D__law_replaced : Defn P w K mg base k "_law_replaced" (C i__law_replaced)) (z_int : mg "int" = none) (z_isinstance : mg "isinstance" = none) (z_tuple : mg "tuple" = none)   : FnG P w K mg base (k + 1) f fd ["_law_term", "_law_table"] (runDef 2 3 (B__law_replaced C)) :=
  okG F sc__law_replaced fun cdv hlk A outer s H E hr hg hp => have nd := sc__law_replaced.nd
  dss_cons (ds_if (dt_val (de_isi (n := "int") (.inl rfl) (by rfl) z_isinstance (by rfl) z_int (by decide +kernel) (de_vr 0))) (dss_cons (ds_if (dt_cmp (od_in (u200 hr)) (de_vr 0) (de_vr 1) (by rfl)) (dss_one (ds_ret (de_ix (hu_of hr) (de_vr 1) (de_vr 0) (fun _ _ => rfl)))) (dss_nil)) (dss_one (ds_ret (de_vr 0)))) (dss_nil)) (dss_one (ds_ret (de_op od_add (de_tup (da_cons (de_ix (hu_of hr) (de_vr 0) (de_int) (fun _ _ => rfl)) (da_nil))) (de_compTy cc_tup (by rfl) z_tuple (by decide +kernel) (dc_comp (ii := 2) (xi := "_law_part") rfl nd (di_val (de_sl (de_vr 0) (do_some (de_int)) (do_none))) (blkOk_by (own := [("_law_part", 2)]) (N := ["_law_term", "_law_table", "_law_part"]) (sc := defScope s__law_replaced) (by decide +kernel)) (fun _ _ _ _ _ => pg_name (i := 2) nd rfl (by first | exact Or.inl rfl | exact Or.inr rfl)) (fun _ _ _ _ _ => dts_nil) (fun _ _ _ _ _ => de_call D__law_replaced hr hg (by rfl) (da_cons (de_vr 2) (da_cons (de_vr 1) (da_nil)))))))))
abbrev s__law_collect : Stmt := topS 26
theorem sc__law_collect : FnScope ["_law_term", "_law_found", "_law_part"] ["_law_term", "_law_found"] (defScope s__law_collect) := ⟨rfl, rfl, rfl, by decide +kernel, rfl, by decide +kernel, by decide +kernel⟩
noncomputable def B__law_collect (C : Nat → List D → DHeap → Res D) : M Fl :=
  sIf (tst (isiM "int" (vr 0))) (sIf (tst (bin2 ninD (vr 0) (vr 1))) (sExpr (appM (vr 1) (vr 0))) (sNil)) (sFor (srcM (slM (vr 0) (oSome (cst (.int 1))) (oNone))) (gN 2) (sExpr (callF (C i__law_collect) (aCons (vr 2) (aCons (vr 1) (aNil))))))
theorem ok__law_collect {f : Addr} {fd : FuncData} {C : Nat → List D → DHeap → Res D} (F : Fun K "_law_collect" "_law_collect" s__law_collect f fd) (D__law_collect : Defn P w K mg base k "_law_collect" (C i__law_collect)) (z_int : mg "int" = none) (z_isinstance : mg "isinstance" = none)   : FnG P w K mg base (k + 1) f fd ["_law_term", "_law_found"] (runDef 2 3 (B__law_collect C)) :=
  okG F sc__law_collect fun cdv hlk A outer s H E hr hg hp => have nd := sc__law_collect.nd
  dss_one (ds_if (dt_val (de_isi (n := "int") (.inl rfl) (by rfl) z_isinstance (by rfl) z_int (by decide +kernel) (de_vr 0))) (dss_one (ds_if (dt_cmp (od_notin (u200 hr)) (de_vr 0) (de_vr 1) (by rfl)) (dss_one (ds_expr (de_app (de_vr 1) (de_vr 0)))) (dss_nil))) (dss_one (ds_for hp rfl (di_val (de_sl (de_vr 0) (do_some (de_int)) (do_none))) (dg_name (i := 2) nd rfl (by first | exact Or.inl rfl | exact Or.inr rfl)) (dss_one (ds_expr (de_call D__law_collect hr hg (by rfl) (da_cons (de_vr 2) (da_cons (de_vr 1) (da_nil)))))))))
abbrev s__law_variables : Stmt := topS 27
theorem sc__law_variables : FnScope ["_law_terms", "_law_found", "_law_term"] ["_law_terms"] (defScope s__law_variables) := ⟨rfl, rfl, rfl, by decide +kernel, rfl, by decide +kernel, by decide +kernel⟩
noncomputable def B__law_variables (C : Nat → List D → DHeap → Res D) : M Fl :=
  sSeq (sSet 1 (lstM (aNil))) (sSeq (sFor (srcM (vr 0)) (gN 2) (sExpr (callF (C i__law_collect) (aCons (vr 2) (aCons (vr 1) (aNil)))))) (sRet (vr 1)))
theorem ok__law_variables {f : Addr} {fd : FuncData} {C : Nat → List D → DHeap → Res D} (F : Fun K "_law_variables" "_law_variables" s__law_variables f fd) (D__law_collect : Defn P w K mg base k "_law_collect" (C i__law_collect))    : FnG P w K mg base (k + 1) f fd ["_law_terms"] (runDef 1 3 (B__law_variables C)) :=
  okG F sc__law_variables fun cdv hlk A outer s H E hr hg hp => have nd := sc__law_variables.nd
  dss_cons (ds_set (i := 1) nd rfl (by first | exact Or.inl rfl | exact Or.inr rfl) (de_lst (da_nil))) (dss_cons (ds_for hp rfl (di_val (de_vr 0)) (dg_name (i := 2) nd rfl (by first | exact Or.inl rfl | exact Or.inr rfl)) (dss_one (ds_expr (de_call D__law_collect hr hg (by rfl) (da_cons (de_vr 2) (da_cons (de_vr 1) (da_nil))))))) (dss_one (ds_ret (de_vr 1))))
abbrev s__law_numbered : Stmt := topS 28
theorem sc__law_numbered : FnScope ["_law_terms", "_law_found", "_law_table", "_law_k", "_law_term"] ["_law_terms"] (defScope s__law_numbered) := ⟨rfl, rfl, rfl, by decide +kernel, rfl, by decide +kernel, by decide +kernel⟩
noncomputable def B__law_numbered (C : Nat → List D → DHeap → Res D) : M Fl :=
  sSeq (sSet 1 (callF (C i__law_variables) (aCons (vr 0) (aNil)))) (sSeq (sSet 2 (newDic)) (sSeq (sFor (rng1 (callM lenD (aCons (vr 1) (aNil)))) (gN 3) (sAsg (vr 3) (gSb (vr 2) (bin2 ixD (vr 1) (vr 3))))) (sRet (compL (compM (srcM (vr 0)) 4 (tTrue) (callF (C i__law_replaced) (aCons (vr 4) (aCons (vr 2) (aNil)))))))))
theorem ok__law_numbered {f : Addr} {fd : FuncData} {C : Nat → List D → DHeap → Res D} (F : Fun K "_law_numbered" "_law_numbered" s__law_numbered f fd) (D__law_replaced : Defn P w K mg base k "_law_replaced" (C i__law_replaced)) (D__law_variables : Defn P w K mg base k "_law_variables" (C i__law_variables)) (z_len : mg "len" = none) (z_range : mg "range" = none)   : FnG P w K mg base (k + 1) f fd ["_law_terms"] (runDef 1 5 (B__law_numbered C)) :=
  okG F sc__law_numbered fun cdv hlk A outer s H E hr hg hp => have nd := sc__law_numbered.nd
  dss_cons (ds_set (i := 1) nd rfl (by first | exact Or.inl rfl | exact Or.inr rfl) (de_call D__law_variables hr hg (by rfl) (da_cons (de_vr 0) (da_nil)))) (dss_cons (ds_set (i := 2) nd rfl (by first | exact Or.inl rfl | exact Or.inr rfl) (de_dic)) (dss_cons (ds_for hp rfl (di_rng1 (by rfl) z_range (de_callB cd_len (by rfl) z_len (by decide +kernel) (da_cons (de_vr 1) (da_nil)))) (dg_name (i := 3) nd rfl (by first | exact Or.inl rfl | exact Or.inr rfl)) (dss_one (ds_asg (de_vr 3) (dg_sub (hu_of hr) (de_vr 2) (de_ix (hu_of hr) (de_vr 1) (de_vr 3) (fun _ _ => rfl)))))) (dss_one (ds_ret (de_comp (dc_comp (ii := 4) (xi := "_law_term") rfl nd (di_val (de_vr 0)) (blkOk_by (own := [("_law_term", 4)]) (N := ["_law_terms", "_law_found", "_law_table", "_law_k", "_law_term"]) (sc := defScope s__law_numbered) (by decide +kernel)) (fun _ _ _ _ _ => pg_name (i := 4) nd rfl (by first | exact Or.inl rfl | exact Or.inr rfl)) (fun _ _ _ _ _ => dts_nil) (fun _ _ _ _ _ => de_call D__law_replaced hr hg (by rfl) (da_cons (de_vr 4) (da_cons (de_vr 2) (da_nil))))))))))
abbrev s__law_resolved : Stmt := topS 29
theorem sc__law_resolved : FnScope ["_law_term", "_law_bound", "_law_k"] ["_law_term", "_law_bound"] (defScope s__law_resolved) := ⟨rfl, rfl, rfl, by decide +kernel, rfl, by decide +kernel, by decide +kernel⟩
noncomputable def B__law_resolved (C : Nat → List D → DHeap → Res D) : M Fl :=
  sSeq (sFor (rng1 (bin2 addD (callM lenD (aCons (vr 1) (aNil))) (cst (.int 1)))) (gN 2) (sSeq (sIf (orT (notT (tst (isiM "int" (vr 0)))) (tst (bin2 ninD (vr 0) (vr 1)))) (sBrk) (sNil)) (sSet 0 (bin2 ixD (vr 1) (vr 0))))) (sRet (vr 0))
theorem ok__law_resolved {f : Addr} {fd : FuncData} {C : Nat → List D → DHeap → Res D} (F : Fun K "_law_resolved" "_law_resolved" s__law_resolved f fd)  (z_int : mg "int" = none) (z_isinstance : mg "isinstance" = none) (z_len : mg "len" = none) (z_range : mg "range" = none)   : FnG P w K mg base (k + 1) f fd ["_law_term", "_law_bound"] (runDef 2 3 (B__law_resolved C)) :=
  okG F sc__law_resolved fun cdv hlk A outer s H E hr hg hp => have nd := sc__law_resolved.nd
  dss_cons (ds_for hp rfl (di_rng1 (by rfl) z_range (de_op od_add (de_callB cd_len (by rfl) z_len (by decide +kernel) (da_cons (de_vr 1) (da_nil))) (de_int))) (dg_name (i := 2) nd rfl (by first | exact Or.inl rfl | exact Or.inr rfl)) (dss_cons (ds_if (dt_w (dw_or (dt_not (dt_val (de_isi (n := "int") (.inl rfl) (by rfl) z_isinstance (by rfl) z_int (by decide +kernel) (de_vr 0)))) (dw_or1 (dt_cmp (od_notin (u200 hr)) (de_vr 0) (de_vr 1) (by rfl))))) (dss_one (ds_break)) (dss_nil)) (dss_one (ds_set (i := 0) nd rfl (by first | exact Or.inl rfl | exact Or.inr rfl) (de_ix (hu_of hr) (de_vr 1) (de_vr 0) (fun _ _ => rfl)))))) (dss_one (ds_ret (de_vr 0)))
abbrev s__law_occurs : Stmt := topS 30
theorem sc__law_occurs : FnScope ["_law_variable", "_law_term", "_law_bound", "_law_part"] ["_law_variable", "_law_term", "_law_bound"] (defScope s__law_occurs) := ⟨rfl, rfl, rfl, by decide +kernel, rfl, by decide +kernel, by decide +kernel⟩
noncomputable def B__law_occurs (C : Nat → List D → DHeap → Res D) : M Fl :=
  sSeq (sSet 1 (callF (C i__law_resolved) (aCons (vr 1) (aCons (vr 2) (aNil))))) (sSeq (sIf (tst (isiM "int" (vr 1))) (sRet (bin2 eqD (vr 1) (vr 0))) (sNil)) (sSeq (sFor (srcM (slM (vr 1) (oSome (cst (.int 1))) (oNone))) (gN 3) (sIf (tst (callF (C i__law_occurs) (aCons (vr 0) (aCons (vr 3) (aCons (vr 2) (aNil)))))) (sRet (cst (.bl true))) (sNil))) (sRet (cst (.bl false)))))
theorem ok__law_occurs {f : Addr} {fd : FuncData} {C : Nat → List D → DHeap → Res D} (F : Fun K "_law_occurs" "_law_occurs" s__law_occurs f fd) (D__law_resolved : Defn P w K mg base k "_law_resolved" (C i__law_resolved)) (D__law_occurs : Defn P w K mg base k "_law_occurs" (C i__law_occurs)) (z_int : mg "int" = none) (z_isinstance : mg "isinstance" = none)   : FnG P w K mg base (k + 1) f fd ["_law_variable", "_law_term", "_law_bound"] (runDef 3 4 (B__law_occurs C)) :=
  okG F sc__law_occurs fun cdv hlk A outer s H E hr hg hp => have nd := sc__law_occurs.nd
  dss_cons (ds_set (i := 1) nd rfl (by first | exact Or.inl rfl | exact Or.inr rfl) (de_call D__law_resolved hr hg (by rfl) (da_cons (de_vr 1) (da_cons (de_vr 2) (da_nil))))) (dss_cons (ds_if (dt_val (de_isi (n := "int") (.inl rfl) (by rfl) z_isinstance (by rfl) z_int (by decide +kernel) (de_vr 1))) (dss_one (ds_ret (de_cmp (od_eq hr.units) (de_vr 1) (de_vr 0) (nomark _)))) (dss_nil)) (dss_cons (ds_for hp rfl (di_val (de_sl (de_vr 1) (do_some (de_int)) (do_none))) (dg_name (i := 3) nd rfl (by first | exact Or.inl rfl | exact Or.inr rfl)) (dss_one (ds_if (dt_val (de_call D__law_occurs hr hg (by rfl) (da_cons (de_vr 0) (da_cons (de_vr 3) (da_cons (de_vr 2) (da_nil)))))) (dss_one (ds_ret (de_bl))) (dss_nil)))) (dss_one (ds_ret (de_bl)))))
abbrev s__law_unified : Stmt := topS 31
theorem sc__law_unified : FnScope ["_law_left", "_law_right", "_law_bound", "_law_k"] ["_law_left", "_law_right", "_law_bound"] (defScope s__law_unified) := ⟨rfl, rfl, rfl, by decide +kernel, rfl, by decide +kernel, by decide +kernel⟩
noncomputable def B__law_unified (C : Nat → List D → DHeap → Res D) : M Fl :=
  sSeq (sSet 0 (callF (C i__law_resolved) (aCons (vr 0) (aCons (vr 2) (aNil))))) (sSeq (sSet 1 (callF (C i__law_resolved) (aCons (vr 1) (aCons (vr 2) (aNil))))) (sSeq (sIf (tst (bin2 eqD (vr 0) (vr 1))) (sRet (cst (.bl true))) (sNil)) (sSeq (sIf (tst (isiM "int" (vr 0))) (sSeq (sIf (tst (callF (C i__law_occurs) (aCons (vr 0) (aCons (vr 1) (aCons (vr 2) (aNil)))))) (sRet (cst (.bl false))) (sNil)) (sSeq (sAsg (vr 1) (gSb (vr 2) (vr 0))) (sRet (cst (.bl true))))) (sNil)) (sSeq (sIf (tst (isiM "int" (vr 1))) (sRet (callF (C i__law_unified) (aCons (vr 1) (aCons (vr 0) (aCons (vr 2) (aNil)))))) (sNil)) (sSeq (sIf (orT (tst (bin2 neD (bin2 ixD (vr 0) (cst (.int 0))) (bin2 ixD (vr 1) (cst (.int 0))))) (tst (bin2 neD (callM lenD (aCons (vr 0) (aNil))) (callM lenD (aCons (vr 1) (aNil)))))) (sRet (cst (.bl false))) (sNil)) (sSeq (sFor (rng2 (cst (.int 1)) (callM lenD (aCons (vr 0) (aNil)))) (gN 3) (sIf (notT (tst (callF (C i__law_unified) (aCons (bin2 ixD (vr 0) (vr 3)) (aCons (bin2 ixD (vr 1) (vr 3)) (aCons (vr 2) (aNil))))))) (sRet (cst (.bl false))) (sNil))) (sRet (cst (.bl true)))))))))
theorem ok__law_unified {f : Addr} {fd : FuncData} {C : Nat → List D → DHeap → Res D} (F : Fun K "_law_unified" "_law_unified" s__law_unified f fd) (D__law_resolved : Defn P w K mg base k "_law_resolved" (C i__law_resolved)) (D__law_occurs : Defn P w K mg base k "_law_occurs" (C i__law_occurs)) (D__law_unified : Defn P w K mg base k "_law_unified" (C i__law_unified)) (z_int : mg "int" = none) (z_isinstance : mg "isinstance" = none) (z_len : mg "len" = none) (z_range : mg "range" = none)   : FnG P w K mg base (k + 1) f fd ["_law_left", "_law_right", "_law_bound"] (runDef 3 4 (B__law_unified C)) :=
  okG F sc__law_unified fun cdv hlk A outer s H E hr hg hp => have nd := sc__law_unified.nd
  dss_cons (ds_set (i := 0) nd rfl (by first | exact Or.inl rfl | exact Or.inr rfl) (de_call D__law_resolved hr hg (by rfl) (da_cons (de_vr 0) (da_cons (de_vr 2) (da_nil))))) (dss_cons (ds_set (i := 1) nd rfl (by first | exact Or.inl rfl | exact Or.inr rfl) (de_call D__law_resolved hr hg (by rfl) (da_cons (de_vr 1) (da_cons (de_vr 2) (da_nil))))) (dss_cons (ds_if (dt_cmp (od_eq hr.units) (de_vr 0) (de_vr 1) (nomark _)) (dss_one (ds_ret (de_bl))) (dss_nil)) (dss_cons (ds_if (dt_val (de_isi (n := "int") (.inl rfl) (by rfl) z_isinstance (by rfl) z_int (by decide +kernel) (de_vr 0))) (dss_cons (ds_if (dt_val (de_call D__law_occurs hr hg (by rfl) (da_cons (de_vr 0) (da_cons (de_vr 1) (da_cons (de_vr 2) (da_nil)))))) (dss_one (ds_ret (de_bl))) (dss_nil)) (dss_cons (ds_asg (de_vr 1) (dg_sub (hu_of hr) (de_vr 2) (de_vr 0))) (dss_one (ds_ret (de_bl))))) (dss_nil)) (dss_cons (ds_if (dt_val (de_isi (n := "int") (.inl rfl) (by rfl) z_isinstance (by rfl) z_int (by decide +kernel) (de_vr 1))) (dss_one (ds_ret (de_call D__law_unified hr hg (by rfl) (da_cons (de_vr 1) (da_cons (de_vr 0) (da_cons (de_vr 2) (da_nil))))))) (dss_nil)) (dss_cons (ds_if (dt_w (dw_or (dt_cmp (od_ne hr.units) (de_ix (hu_of hr) (de_vr 0) (de_int) (fun _ _ => rfl)) (de_ix (hu_of hr) (de_vr 1) (de_int) (fun _ _ => rfl)) (nomark _)) (dw_or1 (dt_cmp (od_ne hr.units) (de_callB cd_len (by rfl) z_len (by decide +kernel) (da_cons (de_vr 0) (da_nil))) (de_callB cd_len (by rfl) z_len (by decide +kernel) (da_cons (de_vr 1) (da_nil))) (nomark _))))) (dss_one (ds_ret (de_bl))) (dss_nil)) (dss_cons (ds_for hp rfl (di_rng2 (by rfl) z_range (de_int) (de_callB cd_len (by rfl) z_len (by decide +kernel) (da_cons (de_vr 0) (da_nil)))) (dg_name (i := 3) nd rfl (by first | exact Or.inl rfl | exact Or.inr rfl)) (dss_one (ds_if (dt_not (dt_val (de_call D__law_unified hr hg (by rfl) (da_cons (de_ix (hu_of hr) (de_vr 0) (de_vr 3) (fun _ _ => rfl)) (da_cons (de_ix (hu_of hr) (de_vr 1) (de_vr 3) (fun _ _ => rfl)) (da_cons (de_vr 2) (da_nil))))))) (dss_one (ds_ret (de_bl))) (dss_nil)))) (dss_one (ds_ret (de_bl)))))))))
abbrev s__law_full : Stmt := topS 32
theorem sc__law_full : FnScope ["_law_term", "_law_bound", "_law_part"] ["_law_term", "_law_bound"] (defScope s__law_full) := ⟨rfl, rfl, rfl, by decide +kernel, rfl, by decide +kernel, by decide +kernel⟩
noncomputable def B__law_full (C : Nat → List D → DHeap → Res D) : M Fl :=
  sSeq (sSet 0 (callF (C i__law_resolved) (aCons (vr 0) (aCons (vr 1) (aNil))))) (sSeq (sIf (tst (isiM "int" (vr 0))) (sRet (vr 0)) (sNil)) (sRet (bin2 addD (tupM (aCons (bin2 ixD (vr 0) (cst (.int 0))) (aNil))) (compCall cTup (compM (srcM (slM (vr 0) (oSome (cst (.int 1))) (oNone))) 2 (tTrue) (callF (C i__law_full) (aCons (vr 2) (aCons (vr 1) (aNil)))))))))
theorem ok__law_full {f : Addr} {fd : FuncData} {C : Nat → List D → DHeap → Res D} (F : Fun K "_law_full" "_law_full" s__law_full f fd) (D__law_resolved : Defn P w K mg base k "_law_resolved" (C i__law_resolved)) (D__law_full : Defn P w K mg base k "_law_full" (C i__law_full)) (z_int : mg "int" = none) (z_isinstance : mg "isinstance" = none) (z_tuple : mg "tuple" = none)   : FnG P w K mg base (k + 1) f fd ["_law_term", "_law_bound"] (runDef 2 3 (B__law_full C)) :=
  okG F sc__law_full fun cdv hlk A outer s H E hr hg hp => have nd := sc__law_full.nd
  dss_cons (ds_set (i := 0) nd rfl (by first | exact Or.inl rfl | exact Or.inr rfl) (de_call D__law_resolved hr hg (by rfl) (da_cons (de_vr 0) (da_cons (de_vr 1) (da_nil))))) (dss_cons (ds_if (dt_val (de_isi (n := "int") (.inl rfl) (by rfl) z_isinstance (by rfl) z_int (by decide +kernel) (de_vr 0))) (dss_one (ds_ret (de_vr 0))) (dss_nil)) (dss_one (ds_ret (de_op od_add (de_tup (da_cons (de_ix (hu_of hr) (de_vr 0) (de_int) (fun _ _ => rfl)) (da_nil))) (de_compTy cc_tup (by rfl) z_tuple (by decide +kernel) (dc_comp (ii := 2) (xi := "_law_part") rfl nd (di_val (de_sl (de_vr 0) (do_some (de_int)) (do_none))) (blkOk_by (own := [("_law_part", 2)]) (N := ["_law_term", "_law_bound", "_law_part"]) (sc := defScope s__law_full) (by decide +kernel)) (fun _ _ _ _ _ => pg_name (i := 2) nd rfl (by first | exact Or.inl rfl | exact Or.inr rfl)) (fun _ _ _ _ _ => dts_nil) (fun _ _ _ _ _ => de_call D__law_full hr hg (by rfl) (da_cons (de_vr 2) (da_cons (de_vr 1) (da_nil))))))))))
abbrev s__law_common : Stmt := topS 33
theorem sc__law_common : FnScope ["_law_left", "_law_right", "_law_bound"] ["_law_left", "_law_right"] (defScope s__law_common) := ⟨rfl, rfl, rfl, by decide +kernel, rfl, by decide +kernel, by decide +kernel⟩
noncomputable def B__law_common (C : Nat → List D → DHeap → Res D) : M Fl :=
  sSeq (sSet 2 (newDic)) (sSeq (sIf (notT (tst (callF (C i__law_unified) (aCons (vr 0) (aCons (vr 1) (aCons (vr 2) (aNil))))))) (sRet (cst .non)) (sNil)) (sRet (bin2 ixD (callF (C i__law_numbered) (aCons (lstM (aCons (callF (C i__law_full) (aCons (vr 0) (aCons (vr 2) (aNil)))) (aNil))) (aNil))) (cst (.int 0)))))
theorem ok__law_common {f : Addr} {fd : FuncData} {C : Nat → List D → DHeap → Res D} (F : Fun K "_law_common" "_law_common" s__law_common f fd) (D__law_numbered : Defn P w K mg base k "_law_numbered" (C i__law_numbered)) (D__law_unified : Defn P w K mg base k "_law_unified" (C i__law_unified)) (D__law_full : Defn P w K mg base k "_law_full" (C i__law_full))    : FnG P w K mg base (k + 1) f fd ["_law_left", "_law_right"] (runDef 2 3 (B__law_common C)) :=
  okG F sc__law_common fun cdv hlk A outer s H E hr hg hp => have nd := sc__law_common.nd
  dss_cons (ds_set (i := 2) nd rfl (by first | exact Or.inl rfl | exact Or.inr rfl) (de_dic)) (dss_cons (ds_if (dt_not (dt_val (de_call D__law_unified hr hg (by rfl) (da_cons (de_vr 0) (da_cons (de_vr 1) (da_cons (de_vr 2) (da_nil))))))) (dss_one (ds_ret (de_non))) (dss_nil)) (dss_one (ds_ret (de_ix (hu_of hr) (de_call D__law_numbered hr hg (by rfl) (da_cons (de_lst (da_cons (de_call D__law_full hr hg (by rfl) (da_cons (de_vr 0) (da_cons (de_vr 2) (da_nil)))) (da_nil))) (da_nil))) (de_int) (fun _ _ => rfl)))))
abbrev s__law_alike : Stmt := topS 34
theorem sc__law_alike : FnScope ["_law_told", "_law_due"] ["_law_told", "_law_due"] (defScope s__law_alike) := ⟨rfl, rfl, rfl, by decide +kernel, rfl, by decide +kernel, by decide +kernel⟩
noncomputable def B__law_alike (C : Nat → List D → DHeap → Res D) : M Fl :=
  sSeq (sIf (andT (tst (isiM "tuple" (vr 1))) (notT (tst (isiM "tuple" (vr 0))))) (sRet (cst (.bl false))) (sNil)) (sSeq (sIf (andT (tst (isiM "int" (vr 1))) (notT (tst (isiM "int" (vr 0))))) (sRet (cst (.bl false))) (sNil)) (sRet (andV (bin2 eqD (vr 0) (vr 1)) (bin2 eqD (callM reprD (aCons (vr 0) (aNil))) (callM reprD (aCons (vr 1) (aNil)))))))
theorem ok__law_alike {f : Addr} {fd : FuncData} {C : Nat → List D → DHeap → Res D} (F : Fun K "_law_alike" "_law_alike" s__law_alike f fd)  (z_int : mg "int" = none) (z_isinstance : mg "isinstance" = none) (z_repr : mg "repr" = none) (z_tuple : mg "tuple" = none)   : FnG P w K mg base (k + 1) f fd ["_law_told", "_law_due"] (runDef 2 2 (B__law_alike C)) :=
  okG F sc__law_alike fun cdv hlk A outer s H E hr hg hp => have nd := sc__law_alike.nd
  dss_cons (ds_if (dt_w (dw_and (dt_val (de_isi (n := "tuple") (.inr (.inl rfl)) (by rfl) z_isinstance (by rfl) z_tuple (by decide +kernel) (de_vr 1))) (dw_and1 (dt_not (dt_val (de_isi (n := "tuple") (.inr (.inl rfl)) (by rfl) z_isinstance (by rfl) z_tuple (by decide +kernel) (de_vr 0))))))) (dss_one (ds_ret (de_bl))) (dss_nil)) (dss_cons (ds_if (dt_w (dw_and (dt_val (de_isi (n := "int") (.inl rfl) (by rfl) z_isinstance (by rfl) z_int (by decide +kernel) (de_vr 1))) (dw_and1 (dt_not (dt_val (de_isi (n := "int") (.inl rfl) (by rfl) z_isinstance (by rfl) z_int (by decide +kernel) (de_vr 0))))))) (dss_one (ds_ret (de_bl))) (dss_nil)) (dss_one (ds_ret (de_and (de_cmp (od_eq hr.units) (de_vr 0) (de_vr 1) (nomark _)) (de_one (de_cmp (od_eq hr.units) (de_callB (cd_repr hg (u200 hr)) (by rfl) z_repr (by decide +kernel) (da_cons (de_vr 0) (da_nil))) (de_callB (cd_repr hg (u200 hr)) (by rfl) z_repr (by decide +kernel) (da_cons (de_vr 1) (da_nil))) (nomark _)))))))
abbrev s__law_pad : Stmt := topS 35
theorem sc__law_pad : FnScope ["_law_many", "_law_term", "_law_size", "_law_k"] ["_law_many"] (defScope s__law_pad) := ⟨rfl, rfl, rfl, by decide +kernel, rfl, by decide +kernel, by decide +kernel⟩
noncomputable def B__law_pad (C : Nat → List D → DHeap → Res D) : M Fl :=
  sSeq (sSet 1 (tupM (aCons (cst (.str "pad")) (aNil)))) (sSeq (sSet 2 (cst (.int 1))) (sSeq (sFor (rng1 (vr 0)) (gN 3) (sIf (tst (bin2 geA (bin2 subD (vr 0) (vr 2)) (cst (.int 8)))) (sSeq (sSet 1 (bin2 addD (tupM (aCons (cst (.str "pad")) (aCons (vr 1) (aNil)))) (tupM (aCons (tupM (aCons (cst (.str "a")) (aNil))) (aCons (tupM (aCons (cst (.str "a")) (aNil))) (aCons (tupM (aCons (cst (.str "a")) (aNil))) (aCons (tupM (aCons (cst (.str "a")) (aNil))) (aCons (tupM (aCons (cst (.str "a")) (aNil))) (aCons (tupM (aCons (cst (.str "a")) (aNil))) (aCons (tupM (aCons (cst (.str "a")) (aNil))) (aNil))))))))))) (sSet 2 (bin2 addD (vr 2) (cst (.int 8))))) (sIf (tst (bin2 geA (bin2 subD (vr 0) (vr 2)) (cst (.int 4)))) (sSeq (sSet 1 (tupM (aCons (cst (.str "pad")) (aCons (vr 1) (aCons (tupM (aCons (cst (.str "a")) (aNil))) (aCons (tupM (aCons (cst (.str "a")) (aNil))) (aCons (tupM (aCons (cst (.str "a")) (aNil))) (aNil)))))))) (sSet 2 (bin2 addD (vr 2) (cst (.int 4))))) (sIf (tst (bin2 geA (bin2 subD (vr 0) (vr 2)) (cst (.int 1)))) (sSeq (sSet 1 (tupM (aCons (cst (.str "pad")) (aCons (vr 1) (aNil))))) (sSet 2 (bin2 addD (vr 2) (cst (.int 1))))) (sNil))))) (sRet (vr 1))))
theorem ok__law_pad {f : Addr} {fd : FuncData} {C : Nat → List D → DHeap → Res D} (F : Fun K "_law_pad" "_law_pad" s__law_pad f fd)  (z_range : mg "range" = none)   : FnG P w K mg base (k + 1) f fd ["_law_many"] (runDef 1 4 (B__law_pad C)) :=
  okG F sc__law_pad fun cdv hlk A outer s H E hr hg hp => have nd := sc__law_pad.nd
  dss_cons (ds_set (i := 1) nd rfl (by first | exact Or.inl rfl | exact Or.inr rfl) (de_tup (da_cons (de_str) (da_nil)))) (dss_cons (ds_set (i := 2) nd rfl (by first | exact Or.inl rfl | exact Or.inr rfl) (de_int)) (dss_cons (ds_for hp rfl (di_rng1 (by rfl) z_range (de_vr 0)) (dg_name (i := 3) nd rfl (by first | exact Or.inl rfl | exact Or.inr rfl)) (dss_one (ds_if (dt_cmp (od_geA hr.units0) (de_op od_sub (de_vr 0) (de_vr 2)) (de_int) (nomark _)) (dss_cons (ds_set (i := 1) nd rfl (by first | exact Or.inl rfl | exact Or.inr rfl) (de_op od_add (de_tup (da_cons (de_str) (da_cons (de_vr 1) (da_nil)))) (de_tup (da_cons (de_tup (da_cons (de_str) (da_nil))) (da_cons (de_tup (da_cons (de_str) (da_nil))) (da_cons (de_tup (da_cons (de_str) (da_nil))) (da_cons (de_tup (da_cons (de_str) (da_nil))) (da_cons (de_tup (da_cons (de_str) (da_nil))) (da_cons (de_tup (da_cons (de_str) (da_nil))) (da_cons (de_tup (da_cons (de_str) (da_nil))) (da_nil))))))))))) (dss_one (ds_set (i := 2) nd rfl (by first | exact Or.inl rfl | exact Or.inr rfl) (de_op od_add (de_vr 2) (de_int))))) (dss_one (ds_if (dt_cmp (od_geA hr.units0) (de_op od_sub (de_vr 0) (de_vr 2)) (de_int) (nomark _)) (dss_cons (ds_set (i := 1) nd rfl (by first | exact Or.inl rfl | exact Or.inr rfl) (de_tup (da_cons (de_str) (da_cons (de_vr 1) (da_cons (de_tup (da_cons (de_str) (da_nil))) (da_cons (de_tup (da_cons (de_str) (da_nil))) (da_cons (de_tup (da_cons (de_str) (da_nil))) (da_nil)))))))) (dss_one (ds_set (i := 2) nd rfl (by first | exact Or.inl rfl | exact Or.inr rfl) (de_op od_add (de_vr 2) (de_int))))) (dss_one (ds_if (dt_cmp (od_geA hr.units0) (de_op od_sub (de_vr 0) (de_vr 2)) (de_int) (nomark _)) (dss_cons (ds_set (i := 1) nd rfl (by first | exact Or.inl rfl | exact Or.inr rfl) (de_tup (da_cons (de_str) (da_cons (de_vr 1) (da_nil))))) (dss_one (ds_set (i := 2) nd rfl (by first | exact Or.inl rfl | exact Or.inr rfl) (de_op od_add (de_vr 2) (de_int))))) (dss_nil)))))))) (dss_one (ds_ret (de_vr 1)))))
abbrev s__law_doubled : Stmt := topS 36
theorem sc__law_doubled : FnScope ["_law_tape_here", "_law_many", "_law_left", "_law_right", "_law_total", "_law_size", "_law_k", "_law_first", "_law_group", "_law_nested", "_law_inner"] ["_law_tape_here", "_law_many"] (defScope s__law_doubled) := ⟨rfl, rfl, rfl, by decide +kernel, rfl, by decide +kernel, by decide +kernel⟩
noncomputable def B__law_doubled (C : Nat → List D → DHeap → Res D) : M Fl :=
  sSeq (sSet 2 (lstM (aNil))) (sSeq (sSet 3 (lstM (aNil))) (sSeq (sSet 4 (cst (.int 1))) (sSeq (sSet 5 (cst (.int 1))) (sSeq (sFor (rng1 (vr 1)) (gN 6) (sSeq (sSet 5 (bin2 addD (cst (.int 1)) (bin2 mulD (cst (.int 2)) (vr 5)))) (sSet 4 (bin2 addD (vr 4) (vr 5))))) (sSeq (sFor (rng3 (cst (.int 0)) (vr 1) (cst (.int 6))) (gN 7) (sSeq (sSetC 8 (compM (rng2 (vr 7) (callM min2D (aCons (bin2 addD (vr 7) (cst (.int 6))) (aCons (vr 1) (aNil))))) 6 (tTrue) (vr 6))) (sSeq (sExpr (appM (vr 2) (bin2 addD (tupM (aCons (cst (.str "group")) (aNil))) (callM tupD (aCons (vr 8) (aNil)))))) (sSeq (sSet 9 (lstM (aNil))) (sSeq (sFor (srcM (vr 8)) (gN 6) (sSeq (sSet 10 (bin2 addD (vr 6) (cst (.int 1)))) (sSeq (sIf (tst (bin2 eqD (vr 10) (vr 1))) (sSet 10 (tupM (aCons (cst (.str "c")) (aNil)))) (sNil)) (sExpr (appM (vr 9) (tupM (aCons (cst (.str "twice")) (aCons (vr 10) (aCons (vr 10) (aNil)))))))))) (sSeq (sExpr (appM (vr 3) (bin2 addD (tupM (aCons (cst (.str "group")) (aNil))) (callM tupD (aCons (vr 9) (aNil)))))) (sSet 4 (bin2 addD (vr 4) (cst (.int 1)))))))))) (sRet (lstM (aCons (bin2 addD (tupM (aCons (cst (.str "all")) (aNil))) (callM tupD (aCons (vr 2) (aNil)))) (aCons (bin2 addD (tupM (aCons (cst (.str "all")) (aNil))) (callM tupD (aCons (vr 3) (aNil)))) (aCons (bin2 gtD (vr 4) (cst (.int 400))) (aNil)))))))))))
theorem ok__law_doubled {f : Addr} {fd : FuncData} {C : Nat → List D → DHeap → Res D} (F : Fun K "_law_doubled" "_law_doubled" s__law_doubled f fd)  (z_min : mg "min" = none) (z_range : mg "range" = none) (z_tuple : mg "tuple" = none)   : FnG P w K mg base (k + 1) f fd ["_law_tape_here", "_law_many"] (runDef 2 11 (B__law_doubled C)) :=
  okG F sc__law_doubled fun cdv hlk A outer s H E hr hg hp => have nd := sc__law_doubled.nd
  dss_cons (ds_set (i := 2) nd rfl (by first | exact Or.inl rfl | exact Or.inr rfl) (de_lst (da_nil))) (dss_cons (ds_set (i := 3) nd rfl (by first | exact Or.inl rfl | exact Or.inr rfl) (de_lst (da_nil))) (dss_cons (ds_set (i := 4) nd rfl (by first | exact Or.inl rfl | exact Or.inr rfl) (de_int)) (dss_cons (ds_set (i := 5) nd rfl (by first | exact Or.inl rfl | exact Or.inr rfl) (de_int)) (dss_cons (ds_for hp rfl (di_rng1 (by rfl) z_range (de_vr 1)) (dg_name (i := 6) nd rfl (by first | exact Or.inl rfl | exact Or.inr rfl)) (dss_cons (ds_set (i := 5) nd rfl (by first | exact Or.inl rfl | exact Or.inr rfl) (de_op od_add (de_int) (de_op od_mul (de_int) (de_vr 5)))) (dss_one (ds_set (i := 4) nd rfl (by first | exact Or.inl rfl | exact Or.inr rfl) (de_op od_add (de_vr 4) (de_vr 5)))))) (dss_cons (ds_for hp rfl (di_rng3 (by rfl) z_range (de_int) (de_vr 1) (de_int)) (dg_name (i := 7) nd rfl (by first | exact Or.inl rfl | exact Or.inr rfl)) (dss_cons (ds_setC (i := 8) (ii := 6) (xi := "_law_k") rfl nd rfl rfl (sw_true rfl rfl rfl (by decide +kernel)) (di_rng2 (by rfl) z_range (de_vr 7) (de_callB (cd_min2 rfl) (by rfl) z_min (by decide +kernel) (da_cons (de_op od_add (de_vr 7) (de_int)) (da_cons (de_vr 1) (da_nil))))) (blkOk_by (own := [("_law_k", 6)]) (N := ["_law_tape_here", "_law_many", "_law_left", "_law_right", "_law_total", "_law_size", "_law_k", "_law_first", "_law_group", "_law_nested", "_law_inner"]) (sc := defScope s__law_doubled) (by decide +kernel)) (fun _ _ _ _ _ => pg_name (i := 6) nd rfl (by first | exact Or.inl rfl | exact Or.inr rfl)) (fun _ _ _ _ _ => dts_nil) (fun _ _ _ _ _ => de_vr 6)) (dss_cons (ds_expr (de_app (de_vr 2) (de_op od_add (de_tup (da_cons (de_str) (da_nil))) (de_callTy cd_tup (by rfl) z_tuple (by decide +kernel) (da_cons (de_vr 8) (da_nil)))))) (dss_cons (ds_set (i := 9) nd rfl (by first | exact Or.inl rfl | exact Or.inr rfl) (de_lst (da_nil))) (dss_cons (ds_for hp rfl (di_val (de_vr 8)) (dg_name (i := 6) nd rfl (by first | exact Or.inl rfl | exact Or.inr rfl)) (dss_cons (ds_set (i := 10) nd rfl (by first | exact Or.inl rfl | exact Or.inr rfl) (de_op od_add (de_vr 6) (de_int))) (dss_cons (ds_if (dt_cmp (od_eq hr.units) (de_vr 10) (de_vr 1) (nomark _)) (dss_one (ds_set (i := 10) nd rfl (by first | exact Or.inl rfl | exact Or.inr rfl) (de_tup (da_cons (de_str) (da_nil))))) (dss_nil)) (dss_one (ds_expr (de_app (de_vr 9) (de_tup (da_cons (de_str) (da_cons (de_vr 10) (da_cons (de_vr 10) (da_nil))))))))))) (dss_cons (ds_expr (de_app (de_vr 3) (de_op od_add (de_tup (da_cons (de_str) (da_nil))) (de_callTy cd_tup (by rfl) z_tuple (by decide +kernel) (da_cons (de_vr 9) (da_nil)))))) (dss_one (ds_set (i := 4) nd rfl (by first | exact Or.inl rfl | exact Or.inr rfl) (de_op od_add (de_vr 4) (de_int)))))))))) (dss_one (ds_ret (de_lst (da_cons (de_op od_add (de_tup (da_cons (de_str) (da_nil))) (de_callTy cd_tup (by rfl) z_tuple (by decide +kernel) (da_cons (de_vr 2) (da_nil)))) (da_cons (de_op od_add (de_tup (da_cons (de_str) (da_nil))) (de_callTy cd_tup (by rfl) z_tuple (by decide +kernel) (da_cons (de_vr 3) (da_nil)))) (da_cons (de_cmp od_gt (de_vr 4) (de_int) (nomark _)) (da_nil))))))))))))
abbrev s__law_filled : Stmt := topS 37
theorem sc__law_filled : FnScope ["_law_tape_here", "_law_pad_here", "_law_right", "_law_k", "_law_left"] ["_law_tape_here"] (defScope s__law_filled) := ⟨rfl, rfl, rfl, by decide +kernel, rfl, by decide +kernel, by decide +kernel⟩
noncomputable def B__law_filled (C : Nat → List D → DHeap → Res D) : M Fl :=
  sSeq (sSet 1 (bin2 addD (cst (.int 24)) (callF (C i__law_draw) (aCons (vr 0) (aCons (cst (.int 8)) (aNil)))))) (sSeq (sSet 2 (lstM (aNil))) (sSeq (sFor (rng1 (cst (.int 5))) (gN 3) (sExpr (appM (vr 2) (tupM (aCons (cst (.str "twice")) (aCons (bin2 addD (vr 3) (cst (.int 1))) (aCons (bin2 addD (vr 3) (cst (.int 1))) (aNil)))))))) (sSeq (sExpr (appM (vr 2) (tupM (aCons (cst (.str "twice")) (aCons (tupM (aCons (cst (.str "c")) (aCons (tupM (aCons (cst (.str "d")) (aNil))) (aNil)))) (aCons (tupM (aCons (cst (.str "c")) (aCons (tupM (aCons (cst (.str "d")) (aNil))) (aNil)))) (aNil))))))) (sSeq (sSet 4 (tupM (aCons (cst (.str "all")) (aCons (cst (.int 0)) (aCons (cst (.int 1)) (aCons (cst (.int 2)) (aCons (cst (.int 3)) (aCons (cst (.int 4)) (aCons (cst (.int 5)) (aCons (callF (C i__law_pad) (aCons (vr 1) (aNil))) (aNil))))))))))) (sRet (lstM (aCons (vr 4) (aCons (bin2 addD (bin2 addD (tupM (aCons (cst (.str "all")) (aNil))) (callM tupD (aCons (vr 2) (aNil)))) (tupM (aCons (callF (C i__law_pad) (aCons (vr 1) (aNil))) (aNil)))) (aCons (bin2 gtD (bin2 addD (cst (.int 373)) (vr 1)) (cst (.int 400))) (aNil))))))))))
theorem ok__law_filled {f : Addr} {fd : FuncData} {C : Nat → List D → DHeap → Res D} (F : Fun K "_law_filled" "_law_filled" s__law_filled f fd) (D__law_draw : Defn P w K mg base k "_law_draw" (C i__law_draw)) (D__law_pad : Defn P w K mg base k "_law_pad" (C i__law_pad)) (z_range : mg "range" = none) (z_tuple : mg "tuple" = none)   : FnG P w K mg base (k + 1) f fd ["_law_tape_here"] (runDef 1 5 (B__law_filled C)) :=
  okG F sc__law_filled fun cdv hlk A outer s H E hr hg hp => have nd := sc__law_filled.nd
  dss_cons (ds_set (i := 1) nd rfl (by first | exact Or.inl rfl | exact Or.inr rfl) (de_op od_add (de_int) (de_call D__law_draw hr hg (by rfl) (da_cons (de_vr 0) (da_cons (de_int) (da_nil)))))) (dss_cons (ds_set (i := 2) nd rfl (by first | exact Or.inl rfl | exact Or.inr rfl) (de_lst (da_nil))) (dss_cons (ds_for hp rfl (di_rng1 (by rfl) z_range (de_int)) (dg_name (i := 3) nd rfl (by first | exact Or.inl rfl | exact Or.inr rfl)) (dss_one (ds_expr (de_app (de_vr 2) (de_tup (da_cons (de_str) (da_cons (de_op od_add (de_vr 3) (de_int)) (da_cons (de_op od_add (de_vr 3) (de_int)) (da_nil))))))))) (dss_cons (ds_expr (de_app (de_vr 2) (de_tup (da_cons (de_str) (da_cons (de_tup (da_cons (de_str) (da_cons (de_tup (da_cons (de_str) (da_nil))) (da_nil)))) (da_cons (de_tup (da_cons (de_str) (da_cons (de_tup (da_cons (de_str) (da_nil))) (da_nil)))) (da_nil))))))) (dss_cons (ds_set (i := 4) nd rfl (by first | exact Or.inl rfl | exact Or.inr rfl) (de_tup (da_cons (de_str) (da_cons (de_int) (da_cons (de_int) (da_cons (de_int) (da_cons (de_int) (da_cons (de_int) (da_cons (de_int) (da_cons (de_call D__law_pad hr hg (by rfl) (da_cons (de_vr 1) (da_nil))) (da_nil))))))))))) (dss_one (ds_ret (de_lst (da_cons (de_vr 4) (da_cons (de_op od_add (de_op od_add (de_tup (da_cons (de_str) (da_nil))) (de_callTy cd_tup (by rfl) z_tuple (by decide +kernel) (da_cons (de_vr 2) (da_nil)))) (de_tup (da_cons (de_call D__law_pad hr hg (by rfl) (da_cons (de_vr 1) (da_nil))) (da_nil)))) (da_cons (de_cmp od_gt (de_op od_add (de_int) (de_vr 1)) (de_int) (nomark _)) (da_nil)))))))))))
abbrev s__law_deep : Stmt := topS 38
theorem sc__law_deep : FnScope ["_law_tape_here", "_law_many", "_law_right", "_law_k", "_law_inner", "_law_j"] ["_law_tape_here"] (defScope s__law_deep) := ⟨rfl, rfl, rfl, by decide +kernel, rfl, by decide +kernel, by decide +kernel⟩
noncomputable def B__law_deep (C : Nat → List D → DHeap → Res D) : M Fl :=
  sSeq (sSet 1 (bin2 addD (cst (.int 34)) (callF (C i__law_draw) (aCons (vr 0) (aCons (cst (.int 10)) (aNil)))))) (sSeq (sSet 2 (lstM (aNil))) (sSeq (sFor (rng1 (cst (.int 6))) (gN 3) (sSeq (sSet 4 (bin2 addD (vr 3) (cst (.int 1)))) (sSeq (sIf (tst (bin2 eqD (vr 3) (cst (.int 5)))) (sSet 4 (tupM (aCons (cst (.str "c")) (aNil)))) (sNil)) (sSeq (sFor (rng1 (bin2 addD (bin2 divD (vr 1) (cst (.int 6))) (callM intD (aCons (bin2 ltD (vr 3) (bin2 modD (callM intD (aCons (vr 1) (aNil))) (cst (.int 6)))) (aNil))))) (gN 5) (sSet 4 (tupM (aCons (cst (.str "s")) (aCons (vr 4) (aNil)))))) (sExpr (appM (vr 2) (vr 4))))))) (sRet (lstM (aCons (tupM (aCons (cst (.str "all")) (aCons (cst (.int 0)) (aCons (cst (.int 1)) (aCons (cst (.int 2)) (aCons (cst (.int 3)) (aCons (cst (.int 4)) (aCons (cst (.int 5)) (aNil))))))))) (aCons (bin2 addD (tupM (aCons (cst (.str "all")) (aNil))) (callM tupD (aCons (vr 2) (aNil)))) (aCons (bin2 gtD (bin2 addD (vr 1) (cst (.int 2))) (cst (.int 40))) (aNil))))))))
theorem ok__law_deep {f : Addr} {fd : FuncData} {C : Nat → List D → DHeap → Res D} (F : Fun K "_law_deep" "_law_deep" s__law_deep f fd) (D__law_draw : Defn P w K mg base k "_law_draw" (C i__law_draw)) (z_int : mg "int" = none) (z_range : mg "range" = none) (z_tuple : mg "tuple" = none)   : FnG P w K mg base (k + 1) f fd ["_law_tape_here"] (runDef 1 6 (B__law_deep C)) :=
  okG F sc__law_deep fun cdv hlk A outer s H E hr hg hp => have nd := sc__law_deep.nd
  dss_cons (ds_set (i := 1) nd rfl (by first | exact Or.inl rfl | exact Or.inr rfl) (de_op od_add (de_int) (de_call D__law_draw hr hg (by rfl) (da_cons (de_vr 0) (da_cons (de_int) (da_nil)))))) (dss_cons (ds_set (i := 2) nd rfl (by first | exact Or.inl rfl | exact Or.inr rfl) (de_lst (da_nil))) (dss_cons (ds_for hp rfl (di_rng1 (by rfl) z_range (de_int)) (dg_name (i := 3) nd rfl (by first | exact Or.inl rfl | exact Or.inr rfl)) (dss_cons (ds_set (i := 4) nd rfl (by first | exact Or.inl rfl | exact Or.inr rfl) (de_op od_add (de_vr 3) (de_int))) (dss_cons (ds_if (dt_cmp (od_eq hr.units) (de_vr 3) (de_int) (nomark _)) (dss_one (ds_set (i := 4) nd rfl (by first | exact Or.inl rfl | exact Or.inr rfl) (de_tup (da_cons (de_str) (da_nil))))) (dss_nil)) (dss_cons (ds_for hp rfl (di_rng1 (by rfl) z_range (de_op od_add (de_op od_div (de_vr 1) (de_int)) (de_callTy cd_int (by rfl) z_int (by decide +kernel) (da_cons (de_cmp od_lt (de_vr 3) (de_op od_mod (de_callTy cd_int (by rfl) z_int (by decide +kernel) (da_cons (de_vr 1) (da_nil))) (de_int)) (nomark _)) (da_nil))))) (dg_name (i := 5) nd rfl (by first | exact Or.inl rfl | exact Or.inr rfl)) (dss_one (ds_set (i := 4) nd rfl (by first | exact Or.inl rfl | exact Or.inr rfl) (de_tup (da_cons (de_str) (da_cons (de_vr 4) (da_nil))))))) (dss_one (ds_expr (de_app (de_vr 2) (de_vr 4)))))))) (dss_one (ds_ret (de_lst (da_cons (de_tup (da_cons (de_str) (da_cons (de_int) (da_cons (de_int) (da_cons (de_int) (da_cons (de_int) (da_cons (de_int) (da_cons (de_int) (da_nil))))))))) (da_cons (de_op od_add (de_tup (da_cons (de_str) (da_nil))) (de_callTy cd_tup (by rfl) z_tuple (by decide +kernel) (da_cons (de_vr 2) (da_nil)))) (da_cons (de_cmp od_gt (de_op od_add (de_vr 1) (de_int)) (de_int) (nomark _)) (da_nil)))))))))
abbrev s_law : Stmt := topS 39
theorem sc_law : FnScope ["_law_script", "_law_tape_here", "_law_choice", "_law_sides", "_law_at", "_law_ends", "_law_first", "_law_told", "_law_refused", "e"] ["_law_script"] (defScope s_law) := ⟨rfl, rfl, rfl, by decide +kernel, rfl, by decide +kernel, by decide +kernel⟩
noncomputable def B_law (C : Nat → List D → DHeap → Res D) : M Fl :=
  sSeq (sSet 1 (callF (C i__law_tape) (aCons (vr 0) (aNil)))) (sSeq (sSet 2 (callF (C i__law_draw) (aCons (vr 1) (aCons (cst (.int 3)) (aNil))))) (sSeq (sSet 3 (callF (C i__law_filled) (aCons (vr 1) (aNil)))) (sSeq (sIf (tst (bin2 eqD (vr 2) (cst (.int 1)))) (sSet 3 (callF (C i__law_doubled) (aCons (vr 1) (aCons (bin2 addD (cst (.int 1)) (callF (C i__law_draw) (aCons (vr 1) (aCons (cst (.int 18)) (aNil))))) (aNil))))) (sNil)) (sSeq (sIf (tst (bin2 eqD (vr 2) (cst (.int 2)))) (sSet 3 (callF (C i__law_deep) (aCons (vr 1) (aNil)))) (sNil)) (sSeq (sIf (tst (bin2 eqD (callF (C i__law_draw) (aCons (vr 1) (aCons (cst (.int 4)) (aNil)))) (cst (.int 0)))) (sSeq (sSet 4 (bin2 ixD (lstM (aCons (cst (.int 1)) (aCons (callM lenD (aCons (bin2 ixD (vr 3) (cst (.int 0))) (aNil))) (aNil)))) (callF (C i__law_draw) (aCons (vr 1) (aCons (cst (.int 2)) (aNil)))))) (sSeq (sSet 5 (bin2 ixD (lstM (aCons (lstM (aCons (tupM (aCons (cst (.str "a")) (aNil))) (aCons (tupM (aCons (cst (.str "b")) (aNil))) (aNil)))) (aCons (lstM (aCons (cst (.int 90)) (aCons (tupM (aCons (cst (.str "s")) (aCons (cst (.int 90)) (aNil)))) (aNil)))) (aNil)))) (callF (C i__law_draw) (aCons (vr 1) (aCons (cst (.int 2)) (aNil)))))) (sSet 3 (lstM (aCons (bin2 addD (bin2 addD (slM (bin2 ixD (vr 3) (cst (.int 0))) (oNone) (oSome (vr 4))) (tupM (aCons (bin2 ixD (vr 5) (cst (.int 0))) (aNil)))) (slM (bin2 ixD (vr 3) (cst (.int 0))) (oSome (vr 4)) (oNone))) (aCons (bin2 addD (bin2 addD (slM (bin2 ixD (vr 3) (cst (.int 1))) (oNone) (oSome (vr 4))) (tupM (aCons (bin2 ixD (vr 5) (cst (.int 1))) (aNil)))) (slM (bin2 ixD (vr 3) (cst (.int 1))) (oSome (vr 4)) (oNone))) (aCons (cst .non) (aNil)))))))) (sNil)) (sSeq (sSet 6 (callF (C i__law_draw) (aCons (vr 1) (aCons (cst (.int 2)) (aNil))))) (sSeq (sSet 7 (cst .non)) (sSeq (sSet 8 (cst (.bl false))) (sSeq (sTryA 9 [("TooLarge", true)] (sSet 7 (callF (C i_unify) (aCons (bin2 ixD (vr 3) (vr 6)) (aCons (bin2 ixD (vr 3) (bin2 subD (cst (.int 1)) (vr 6))) (aNil))))) (fun y => sSet 8 (andV (isxM [("TooLarge", true)] y) (notV (isxM [("TooLarge", false)] y))))) (sSeq (sIf (tst (bin2 isD' (bin2 ixD (vr 3) (cst (.int 2))) (cst .non))) (sRet (andV (bin2 isD' (vr 7) (cst .non)) (notV (vr 8)))) (sNil)) (sSeq (sIf (tru (bin2 ixD (vr 3) (cst (.int 2)))) (sRet (vr 8)) (sNil)) (sRet (andV (notV (vr 8)) (callF (C i__law_alike) (aCons (vr 7) (aCons (callF (C i__law_common) (aCons (bin2 ixD (vr 3) (cst (.int 0))) (aCons (bin2 ixD (vr 3) (cst (.int 1))) (aNil)))) (aNil)))))))))))))))))
theorem ok_law {f : Addr} {fd : FuncData} {C : Nat → List D → DHeap → Res D} (F : Fun K "law" "law" s_law f fd) (D_unify : Defn P w K mg base k "unify" (C i_unify)) (D__law_tape : Defn P w K mg base k "_law_tape" (C i__law_tape)) (D__law_draw : Defn P w K mg base k "_law_draw" (C i__law_draw)) (D__law_common : Defn P w K mg base k "_law_common" (C i__law_common)) (D__law_alike : Defn P w K mg base k "_law_alike" (C i__law_alike)) (D__law_doubled : Defn P w K mg base k "_law_doubled" (C i__law_doubled)) (D__law_filled : Defn P w K mg base k "_law_filled" (C i__law_filled)) (D__law_deep : Defn P w K mg base k "_law_deep" (C i__law_deep)) (z_isinstance : mg "isinstance" = none) (z_len : mg "len" = none) {C_HasExistentials : Addr} {C_LinkProblems : Addr} {C_RuleError : Addr} {C_TacticFailed : Addr} {C_TooLarge : Addr} (X_TooLarge : XCls K mg "TooLarge" C_TooLarge) (M_TooLarge_TooLarge : PySem.W.exmOne K (.ref C_TooLarge) (.ref C_TooLarge) = some true) (V_TooLarge : ExcC K C_TooLarge) (I_TooLarge_RuleError : PySem.W.kitOne K (.ref C_TooLarge) (.ref C_RuleError) = some true) (X_RuleError : XCls K mg "RuleError" C_RuleError) (I_TooLarge_TacticFailed : PySem.W.kitOne K (.ref C_TooLarge) (.ref C_TacticFailed) = some false) (I_TooLarge_LinkProblems : PySem.W.kitOne K (.ref C_TooLarge) (.ref C_LinkProblems) = some false) (I_TooLarge_HasExistentials : PySem.W.kitOne K (.ref C_TooLarge) (.ref C_HasExistentials) = some false) (Y_TacticFailed : mg "TacticFailed" = some (.ref C_TacticFailed)) (Y_LinkProblems : mg "LinkProblems" = some (.ref C_LinkProblems)) (Y_HasExistentials : mg "HasExistentials" = some (.ref C_HasExistentials)) : FnG P w K mg base (k + 1) f fd ["_law_script"] (runDef 1 10 (B_law C)) :=
  okG F sc_law fun cdv hlk A outer s H E hr hg hp => have nd := sc_law.nd
  dss_cons (ds_set (i := 1) nd rfl (by first | exact Or.inl rfl | exact Or.inr rfl) (de_call D__law_tape hr hg (by rfl) (da_cons (de_vr 0) (da_nil)))) (dss_cons (ds_set (i := 2) nd rfl (by first | exact Or.inl rfl | exact Or.inr rfl) (de_call D__law_draw hr hg (by rfl) (da_cons (de_vr 1) (da_cons (de_int) (da_nil))))) (dss_cons (ds_set (i := 3) nd rfl (by first | exact Or.inl rfl | exact Or.inr rfl) (de_call D__law_filled hr hg (by rfl) (da_cons (de_vr 1) (da_nil)))) (dss_cons (ds_if (dt_cmp (od_eq hr.units) (de_vr 2) (de_int) (nomark _)) (dss_one (ds_set (i := 3) nd rfl (by first | exact Or.inl rfl | exact Or.inr rfl) (de_call D__law_doubled hr hg (by rfl) (da_cons (de_vr 1) (da_cons (de_op od_add (de_int) (de_call D__law_draw hr hg (by rfl) (da_cons (de_vr 1) (da_cons (de_int) (da_nil))))) (da_nil)))))) (dss_nil)) (dss_cons (ds_if (dt_cmp (od_eq hr.units) (de_vr 2) (de_int) (nomark _)) (dss_one (ds_set (i := 3) nd rfl (by first | exact Or.inl rfl | exact Or.inr rfl) (de_call D__law_deep hr hg (by rfl) (da_cons (de_vr 1) (da_nil))))) (dss_nil)) (dss_cons (ds_if (dt_cmp (od_eq hr.units) (de_call D__law_draw hr hg (by rfl) (da_cons (de_vr 1) (da_cons (de_int) (da_nil)))) (de_int) (nomark _)) (dss_cons (ds_set (i := 4) nd rfl (by first | exact Or.inl rfl | exact Or.inr rfl) (de_ix (hu_of hr) (de_lst (da_cons (de_int) (da_cons (de_callB cd_len (by rfl) z_len (by decide +kernel) (da_cons (de_ix (hu_of hr) (de_vr 3) (de_int) (fun _ _ => rfl)) (da_nil))) (da_nil)))) (de_call D__law_draw hr hg (by rfl) (da_cons (de_vr 1) (da_cons (de_int) (da_nil)))) (fun _ _ => rfl))) (dss_cons (ds_set (i := 5) nd rfl (by first | exact Or.inl rfl | exact Or.inr rfl) (de_ix (hu_of hr) (de_lst (da_cons (de_lst (da_cons (de_tup (da_cons (de_str) (da_nil))) (da_cons (de_tup (da_cons (de_str) (da_nil))) (da_nil)))) (da_cons (de_lst (da_cons (de_int) (da_cons (de_tup (da_cons (de_str) (da_cons (de_int) (da_nil)))) (da_nil)))) (da_nil)))) (de_call D__law_draw hr hg (by rfl) (da_cons (de_vr 1) (da_cons (de_int) (da_nil)))) (fun _ _ => rfl))) (dss_one (ds_set (i := 3) nd rfl (by first | exact Or.inl rfl | exact Or.inr rfl) (de_lst (da_cons (de_op od_add (de_op od_add (de_sl (de_ix (hu_of hr) (de_vr 3) (de_int) (fun _ _ => rfl)) (do_none) (do_some (de_vr 4))) (de_tup (da_cons (de_ix (hu_of hr) (de_vr 5) (de_int) (fun _ _ => rfl)) (da_nil)))) (de_sl (de_ix (hu_of hr) (de_vr 3) (de_int) (fun _ _ => rfl)) (do_some (de_vr 4)) (do_none))) (da_cons (de_op od_add (de_op od_add (de_sl (de_ix (hu_of hr) (de_vr 3) (de_int) (fun _ _ => rfl)) (do_none) (do_some (de_vr 4))) (de_tup (da_cons (de_ix (hu_of hr) (de_vr 5) (de_int) (fun _ _ => rfl)) (da_nil)))) (de_sl (de_ix (hu_of hr) (de_vr 3) (de_int) (fun _ _ => rfl)) (do_some (de_vr 4)) (do_none))) (da_cons (de_non) (da_nil))))))))) (dss_nil)) (dss_cons (ds_set (i := 6) nd rfl (by first | exact Or.inl rfl | exact Or.inr rfl) (de_call D__law_draw hr hg (by rfl) (da_cons (de_vr 1) (da_cons (de_int) (da_nil))))) (dss_cons (ds_set (i := 7) nd rfl (by first | exact Or.inl rfl | exact Or.inr rfl) (de_non)) (dss_cons (ds_set (i := 8) nd rfl (by first | exact Or.inl rfl | exact Or.inr rfl) (de_bl)) (dss_cons (ds_tryA (i := 9) rfl rfl nd rfl rfl ⟨by rfl, by decide, .inl X_TooLarge.gm⟩ (tab_cons X_TooLarge.gm M_TooLarge_TooLarge tab_nil) (fun pn xe hp => dss_one (ds_set (i := 7) nd rfl (by first | exact Or.inl rfl | exact Or.inr rfl) (de_call D_unify hr hg (by rfl) (da_cons (de_ix (hu_of hr) (de_vr 3) (de_vr 6) (fun _ _ => rfl)) (da_cons (de_ix (hu_of hr) (de_vr 3) (de_op od_sub (de_int) (de_vr 6)) (fun _ _ => rfl)) (da_nil)))))) (fun a oe cls d pn y hz hf hy hd => dsx_set (k := 8) nd rfl (by first | exact Or.inl rfl | exact Or.inr rfl) (dx_and (dx_isE (cv := V.ref C_RuleError) hz hf hy hd (by rfl) z_isinstance rel_ref (tabI_cons X_TooLarge.gm V_TooLarge I_TooLarge_RuleError tabI_nil) rfl (Or.inl rfl) (pe_glob (by rfl) X_RuleError.gm rfl)) (dx_one (dx_not (dx_isET (cvs := [V.ref C_HasExistentials, V.ref C_LinkProblems, V.ref C_TacticFailed]) hz hf hy hd (by rfl) z_isinstance (.cons (.own _) (.cons (.own _) (.cons (.own _) .nil))) (tabA_cons X_TooLarge.gm V_TooLarge (kA_no I_TooLarge_HasExistentials (kA_no I_TooLarge_LinkProblems (kA_no I_TooLarge_TacticFailed kA_nil))) tabA_nil) rfl (Or.inl rfl) (pcs_cons (pe_glob (by rfl) Y_HasExistentials rfl) (pcs_cons (pe_glob (by rfl) Y_LinkProblems rfl) (pcs_cons (pe_glob (by rfl) Y_TacticFailed rfl) pcs_nil))) (by simp))))))) (dss_cons (ds_if (dt_cmp od_is (de_ix (hu_of hr) (de_vr 3) (de_int) (fun _ _ => rfl)) (de_non) (nomark _)) (dss_one (ds_ret (de_and (de_cmp od_is (de_vr 7) (de_non) (nomark _)) (de_one (de_not (de_vr 8)))))) (dss_nil)) (dss_cons (ds_if (dt_tru (de_ix (hu_of hr) (de_vr 3) (de_int) (fun _ _ => rfl))) (dss_one (ds_ret (de_vr 8))) (dss_nil)) (dss_one (ds_ret (de_and (de_not (de_vr 8)) (de_one (de_call D__law_alike hr hg (by rfl) (da_cons (de_vr 7) (da_cons (de_call D__law_common hr hg (by rfl) (da_cons (de_ix (hu_of hr) (de_vr 3) (de_int) (fun _ _ => rfl)) (da_cons (de_ix (hu_of hr) (de_vr 3) (de_int) (fun _ _ => rfl)) (da_nil)))) (da_nil)))))))))))))))))))
end
noncomputable def run : Nat → Nat → List D → DHeap → Res D
  | 0, _ => fun _ _ => .bad
  | n + 1, 0 => runDef 2 3 (B_note_variables (run n))
  | n + 1, 1 => runDef 1 3 (B_variables_of (run n))
  | n + 1, 2 => runDef 2 3 (B_replaced (run n))
  | n + 1, 3 => runDef 1 5 (B_numbered (run n))
  | n + 1, 4 => runDef 2 2 (B_root_of (run n))
  | n + 1, 5 => runDef 4 5 (B_occurs (run n))
  | n + 1, 6 => runDef 4 4 (B_bind (run n))
  | n + 1, 7 => runDef 1 6 (B_unifier (run n))
  | n + 1, 8 => runDef 3 7 (B_measured (run n))
  | n + 1, 9 => runDef 2 3 (B_written_out (run n))
  | n + 1, 10 => runDef 4 6 (B_resolved (run n))
  | n + 1, 11 => runDef 2 4 (B_unify (run n))
  | n + 1, 12 => runDef 1 3 (B__law_tape (run n))
  | n + 1, 13 => runDef 2 4 (B__law_draw (run n))
  | n + 1, 14 => runDef 2 3 (B__law_replaced (run n))
  | n + 1, 15 => runDef 2 3 (B__law_collect (run n))
  | n + 1, 16 => runDef 1 3 (B__law_variables (run n))
  | n + 1, 17 => runDef 1 5 (B__law_numbered (run n))
  | n + 1, 18 => runDef 2 3 (B__law_resolved (run n))
  | n + 1, 19 => runDef 3 4 (B__law_occurs (run n))
  | n + 1, 20 => runDef 3 4 (B__law_unified (run n))
  | n + 1, 21 => runDef 2 3 (B__law_full (run n))
  | n + 1, 22 => runDef 2 3 (B__law_common (run n))
  | n + 1, 23 => runDef 2 2 (B__law_alike (run n))
  | n + 1, 24 => runDef 1 4 (B__law_pad (run n))
  | n + 1, 25 => runDef 2 11 (B__law_doubled (run n))
  | n + 1, 26 => runDef 1 5 (B__law_filled (run n))
  | n + 1, 27 => runDef 1 6 (B__law_deep (run n))
  | n + 1, 28 => runDef 1 10 (B_law (run n))
  | _ + 1, _ => fun _ _ => .bad
theorem r_note_variables (n : Nat) : run (n + 1) i_note_variables = runDef 2 3 (B_note_variables (run n)) := rfl
theorem r_variables_of (n : Nat) : run (n + 1) i_variables_of = runDef 1 3 (B_variables_of (run n)) := rfl
theorem r_replaced (n : Nat) : run (n + 1) i_replaced = runDef 2 3 (B_replaced (run n)) := rfl
theorem r_numbered (n : Nat) : run (n + 1) i_numbered = runDef 1 5 (B_numbered (run n)) := rfl
theorem r_root_of (n : Nat) : run (n + 1) i_root_of = runDef 2 2 (B_root_of (run n)) := rfl
theorem r_occurs (n : Nat) : run (n + 1) i_occurs = runDef 4 5 (B_occurs (run n)) := rfl
theorem r_bind (n : Nat) : run (n + 1) i_bind = runDef 4 4 (B_bind (run n)) := rfl
theorem r_unifier (n : Nat) : run (n + 1) i_unifier = runDef 1 6 (B_unifier (run n)) := rfl
theorem r_measured (n : Nat) : run (n + 1) i_measured = runDef 3 7 (B_measured (run n)) := rfl
theorem r_written_out (n : Nat) : run (n + 1) i_written_out = runDef 2 3 (B_written_out (run n)) := rfl
theorem r_resolved (n : Nat) : run (n + 1) i_resolved = runDef 4 6 (B_resolved (run n)) := rfl
theorem r_unify (n : Nat) : run (n + 1) i_unify = runDef 2 4 (B_unify (run n)) := rfl
theorem r__law_tape (n : Nat) : run (n + 1) i__law_tape = runDef 1 3 (B__law_tape (run n)) := rfl
theorem r__law_draw (n : Nat) : run (n + 1) i__law_draw = runDef 2 4 (B__law_draw (run n)) := rfl
theorem r__law_replaced (n : Nat) : run (n + 1) i__law_replaced = runDef 2 3 (B__law_replaced (run n)) := rfl
theorem r__law_collect (n : Nat) : run (n + 1) i__law_collect = runDef 2 3 (B__law_collect (run n)) := rfl
theorem r__law_variables (n : Nat) : run (n + 1) i__law_variables = runDef 1 3 (B__law_variables (run n)) := rfl
theorem r__law_numbered (n : Nat) : run (n + 1) i__law_numbered = runDef 1 5 (B__law_numbered (run n)) := rfl
theorem r__law_resolved (n : Nat) : run (n + 1) i__law_resolved = runDef 2 3 (B__law_resolved (run n)) := rfl
theorem r__law_occurs (n : Nat) : run (n + 1) i__law_occurs = runDef 3 4 (B__law_occurs (run n)) := rfl
theorem r__law_unified (n : Nat) : run (n + 1) i__law_unified = runDef 3 4 (B__law_unified (run n)) := rfl
theorem r__law_full (n : Nat) : run (n + 1) i__law_full = runDef 2 3 (B__law_full (run n)) := rfl
theorem r__law_common (n : Nat) : run (n + 1) i__law_common = runDef 2 3 (B__law_common (run n)) := rfl
theorem r__law_alike (n : Nat) : run (n + 1) i__law_alike = runDef 2 2 (B__law_alike (run n)) := rfl
theorem r__law_pad (n : Nat) : run (n + 1) i__law_pad = runDef 1 4 (B__law_pad (run n)) := rfl
theorem r__law_doubled (n : Nat) : run (n + 1) i__law_doubled = runDef 2 11 (B__law_doubled (run n)) := rfl
theorem r__law_filled (n : Nat) : run (n + 1) i__law_filled = runDef 1 5 (B__law_filled (run n)) := rfl
theorem r__law_deep (n : Nat) : run (n + 1) i__law_deep = runDef 1 6 (B__law_deep (run n)) := rfl
theorem r_law (n : Nat) : run (n + 1) i_law = runDef 1 10 (B_law (run n)) := rfl
noncomputable def Z_law_12 (C : Nat → List D → DHeap → Res D) : M Fl := sRet (andV (notV (vr 8)) (callF (C i__law_alike) (aCons (vr 7) (aCons (callF (C i__law_common) (aCons (bin2 ixD (vr 3) (cst (.int 0))) (aCons (bin2 ixD (vr 3) (cst (.int 1))) (aNil)))) (aNil)))))
noncomputable def Z_law_11 (C : Nat → List D → DHeap → Res D) : M Fl := sSeq (sIf (tru (bin2 ixD (vr 3) (cst (.int 2)))) (sRet (vr 8)) (sNil)) (Z_law_12 C)
noncomputable def Z_law_10 (C : Nat → List D → DHeap → Res D) : M Fl := sSeq (sIf (tst (bin2 isD' (bin2 ixD (vr 3) (cst (.int 2))) (cst .non))) (sRet (andV (bin2 isD' (vr 7) (cst .non)) (notV (vr 8)))) (sNil)) (Z_law_11 C)
noncomputable def Z_law_9 (C : Nat → List D → DHeap → Res D) : M Fl := sSeq (sTryA 9 [("TooLarge", true)] (sSet 7 (callF (C i_unify) (aCons (bin2 ixD (vr 3) (vr 6)) (aCons (bin2 ixD (vr 3) (bin2 subD (cst (.int 1)) (vr 6))) (aNil))))) (fun y => sSet 8 (andV (isxM [("TooLarge", true)] y) (notV (isxM [("TooLarge", false)] y))))) (Z_law_10 C)
noncomputable def Z_law_8 (C : Nat → List D → DHeap → Res D) : M Fl := sSeq (sSet 8 (cst (.bl false))) (Z_law_9 C)
noncomputable def Z_law_7 (C : Nat → List D → DHeap → Res D) : M Fl := sSeq (sSet 7 (cst .non)) (Z_law_8 C)
noncomputable def Z_law_6 (C : Nat → List D → DHeap → Res D) : M Fl := sSeq (sSet 6 (callF (C i__law_draw) (aCons (vr 1) (aCons (cst (.int 2)) (aNil))))) (Z_law_7 C)
noncomputable def Z_law_5 (C : Nat → List D → DHeap → Res D) : M Fl := sSeq (sIf (tst (bin2 eqD (callF (C i__law_draw) (aCons (vr 1) (aCons (cst (.int 4)) (aNil)))) (cst (.int 0)))) (sSeq (sSet 4 (bin2 ixD (lstM (aCons (cst (.int 1)) (aCons (callM lenD (aCons (bin2 ixD (vr 3) (cst (.int 0))) (aNil))) (aNil)))) (callF (C i__law_draw) (aCons (vr 1) (aCons (cst (.int 2)) (aNil)))))) (sSeq (sSet 5 (bin2 ixD (lstM (aCons (lstM (aCons (tupM (aCons (cst (.str "a")) (aNil))) (aCons (tupM (aCons (cst (.str "b")) (aNil))) (aNil)))) (aCons (lstM (aCons (cst (.int 90)) (aCons (tupM (aCons (cst (.str "s")) (aCons (cst (.int 90)) (aNil)))) (aNil)))) (aNil)))) (callF (C i__law_draw) (aCons (vr 1) (aCons (cst (.int 2)) (aNil)))))) (sSet 3 (lstM (aCons (bin2 addD (bin2 addD (slM (bin2 ixD (vr 3) (cst (.int 0))) (oNone) (oSome (vr 4))) (tupM (aCons (bin2 ixD (vr 5) (cst (.int 0))) (aNil)))) (slM (bin2 ixD (vr 3) (cst (.int 0))) (oSome (vr 4)) (oNone))) (aCons (bin2 addD (bin2 addD (slM (bin2 ixD (vr 3) (cst (.int 1))) (oNone) (oSome (vr 4))) (tupM (aCons (bin2 ixD (vr 5) (cst (.int 1))) (aNil)))) (slM (bin2 ixD (vr 3) (cst (.int 1))) (oSome (vr 4)) (oNone))) (aCons (cst .non) (aNil)))))))) (sNil)) (Z_law_6 C)
noncomputable def Z_law_4 (C : Nat → List D → DHeap → Res D) : M Fl := sSeq (sIf (tst (bin2 eqD (vr 2) (cst (.int 2)))) (sSet 3 (callF (C i__law_deep) (aCons (vr 1) (aNil)))) (sNil)) (Z_law_5 C)
noncomputable def Z_law_3 (C : Nat → List D → DHeap → Res D) : M Fl := sSeq (sIf (tst (bin2 eqD (vr 2) (cst (.int 1)))) (sSet 3 (callF (C i__law_doubled) (aCons (vr 1) (aCons (bin2 addD (cst (.int 1)) (callF (C i__law_draw) (aCons (vr 1) (aCons (cst (.int 18)) (aNil))))) (aNil))))) (sNil)) (Z_law_4 C)
noncomputable def Z_law_2 (C : Nat → List D → DHeap → Res D) : M Fl := sSeq (sSet 3 (callF (C i__law_filled) (aCons (vr 1) (aNil)))) (Z_law_3 C)
noncomputable def Z_law_1 (C : Nat → List D → DHeap → Res D) : M Fl := sSeq (sSet 2 (callF (C i__law_draw) (aCons (vr 1) (aCons (cst (.int 3)) (aNil))))) (Z_law_2 C)
noncomputable def Z_law_0 (C : Nat → List D → DHeap → Res D) : M Fl := sSeq (sSet 1 (callF (C i__law_tape) (aCons (vr 0) (aNil)))) (Z_law_1 C)
end Q

set_option Elab.async false
set_option linter.all false
set_option maxRecDepth 100000
set_option maxHeartbeats 4000000
namespace Q
open PySem PySem.Spec PyProof.Rows L2 DL
theorem draw_ok (n i : Nat) (m : Int) (h : DHeap) (ht : Tape h i) (hm : m < 2 ^ 29) :
    W (run (n + 1) i__law_draw [.ref i, .int m] h) (fun d h' => ∃ r : Int, d = .int r ∧ 0 ≤ r ∧ (r < m ∨ r < 1) ∧ Tape h' i ∧ Ev i h h') := by
  obtain ⟨j, ns, a, b, c, h1, h2, hij, hl, ha, hb, hc⟩ := ht
  have fin : ∀ (x : Int) (a' b' c' : Int) (h' : DHeap), 0 ≤ x → 0 ≤ a' → 0 ≤ b' → 0 ≤ c' → Ev i h h' → h'[i]? = some (.lst [.ref j, .int a', .int b', .int c']) → ∃ r : Int, D.int (x % (if 1 > m then 1 else m)) = .int r ∧ 0 ≤ r ∧ (r < m ∨ r < 1) ∧ Tape h' i ∧ Ev i h h' := by
    intro x a' b' c' h' hx ha' hb' hc' ev e1
    refine ⟨_, rfl, ?_, ?_, ⟨j, ns, a', b', c', e1, ev j _ (by omega) h2, hij, hl, ha', hb', hc'⟩, ev⟩
    · apply Int.emod_nonneg; split <;> omega
    · split
      · right; exact Int.emod_lt_of_pos _ (by omega)
      · left; exact Int.emod_lt_of_pos _ (by omega)
  rw [r__law_draw]
  unfold B__law_draw
  simp -implicitDefEqProofs only [EVB, h1, h2]
  refine if_d (fun e => ?_) (fun e => ?_)
  · subst e
    simp -implicitDefEqProofs only [EVB, h1, h2, List.length_map]
    refine if_d (fun ea => ?_) (fun ea => ?_)
    · obtain ⟨d, hd, _, hm'⟩ := atI_in (l := ns.map D.int) (k := a) ha (by simpa using ea)
      obtain ⟨v, _, rfl⟩ := List.mem_map.mp hm'
      simp -implicitDefEqProofs only [EVB, h1, h2, hd]
      have hx : 0 ≤ (if v < 0 then -v else v) := by split <;> omega
      generalize (if v < 0 then -v else v) = x at hx ⊢
      refine ⟨by decide, if_d (fun ex => ?_) (fun ex => ?_)⟩
      · simp -implicitDefEqProofs only [EVB, set_at h1]
        repeat (refine And.intro (by first | omega | decide | (split <;> omega) | (simp only [List.length_map, List.length_append, List.length_cons, List.length_nil]; omega)) ?_)
        exact fin _ _ _ _ _ (Int.emod_nonneg _ (by decide)) (by omega) (by decide) hc Ev.refl.set (set_at h1)
      · simp -implicitDefEqProofs only [EVB, set_at h1, set_at (set_at h1)]
        repeat (refine And.intro (by first | omega | decide | (split <;> omega) | (simp only [List.length_map, List.length_append, List.length_cons, List.length_nil]; omega)) ?_)
        exact fin _ _ _ _ _ hx (by omega) (Int.ediv_nonneg hx (by split <;> omega)) hc Ev.refl.set.set.set (set_at (set_at (set_at h1)))
    · simp -implicitDefEqProofs only [EVB, h1, h2, set_at h1]
      repeat (refine And.intro (by first | omega | decide | (split <;> omega) | (simp only [List.length_map, List.length_append, List.length_cons, List.length_nil]; omega)) ?_)
      have hx : 0 ≤ (c * 48271 + a + 1) % 2147483647 := Int.emod_nonneg _ (by decide)
      generalize (c * 48271 + a + 1) % 2147483647 = x at hx ⊢
      refine if_d (fun ex => ?_) (fun ex => ?_)
      · simp -implicitDefEqProofs only [EVB, set_at (set_at h1)]
        repeat (refine And.intro (by first | omega | decide | (split <;> omega) | (simp only [List.length_map, List.length_append, List.length_cons, List.length_nil]; omega)) ?_)
        exact fin _ _ _ _ _ (Int.emod_nonneg _ (by decide)) (by omega) (by decide) hx Ev.refl.set.set (set_at (set_at h1))
      · simp -implicitDefEqProofs only [EVB, set_at (set_at h1), set_at (set_at (set_at h1))]
        repeat (refine And.intro (by first | omega | decide | (split <;> omega) | (simp only [List.length_map, List.length_append, List.length_cons, List.length_nil]; omega)) ?_)
        exact fin _ _ _ _ _ hx (by omega) (Int.ediv_nonneg hx (by split <;> omega)) hx Ev.refl.set.set.set.set (set_at (set_at (set_at (set_at h1))))
  · simp -implicitDefEqProofs only [EVB, h1, h2, set_at h1]
    repeat (refine And.intro (by first | omega | decide | (split <;> omega) | (simp only [List.length_map, List.length_append, List.length_cons, List.length_nil]; omega)) ?_)
    exact fin b a _ c _ hb ha (Int.ediv_nonneg hb (by split <;> omega)) hc Ev.refl.set (set_at h1)

theorem tape_ok (n : Nat) (ns : List Int) (h : DHeap) (hl : ns.length ≤ 63) :
    W (run (n + 1) i__law_tape [.fl (ns.map .int)] h) (fun d h' => d = .ref (h.length + 1) ∧ Tape h' (h.length + 1) ∧ ∀ (k : Nat) (c : Cell), h[k]? = some c → h'[k]? = some c) := by
  rw [r__law_tape]
  unfold B__law_tape
  simp -implicitDefEqProofs only [EVB]
  refine loopS_i (fun _ σ h' => h' = h ∧ ∃ t y, σ = [some (.fl (ns.map .int)), some (.int t), y] ∧ 0 ≤ t) ⟨rfl, 7, none, rfl, by decide⟩ (fun _ _ _ _ => trivial) (fun i σ h' x ex p => ?_) fun σ h' p => ?_
  · obtain ⟨rfl, t, y, rfl, ht⟩ := p
    obtain ⟨v, _, rfl⟩ := List.mem_map.mp (List.mem_of_getElem? ex)
    simp -implicitDefEqProofs only [EVB]
    repeat (refine And.intro (by first | omega | decide | (split <;> omega) | (simp only [List.length_map, List.length_append, List.length_cons, List.length_nil]; omega)) ?_)
    exact ⟨_, _, rfl, Int.emod_nonneg _ (by decide)⟩
  · obtain ⟨rfl, t, y, rfl, ht⟩ := p
    simp -implicitDefEqProofs only [EVB]
    repeat (refine And.intro (by first | omega | decide | (split <;> omega) | (simp only [List.length_map, List.length_append, List.length_cons, List.length_nil]; omega)) ?_)
    refine ⟨by simp, ⟨h'.length, ns, 0, 0, t, ?_, ?_, rfl, hl, by decide, by decide, ht⟩, fun k c e => app_at (app_at e)⟩
    · rw [show h'.length + 1 = (h' ++ [Cell.lst (ns.map .int)]).length by simp]
      exact app_end
    · exact app_at app_end

end Q

set_option Elab.async false
set_option linter.all false
set_option maxRecDepth 100000
set_option maxHeartbeats 4000000
namespace Q
open PySem PySem.Spec PyProof.Rows L2 DL
theorem sp_note_variables (vs : List Int) (okv : OkI vs) (hv : vs.length ≤ 100000) (f : Nat) (t : T) : ∀ n l h, t.dep ≤ n → t.In vs → NdIn vs l → h[f]? = some (.dic (vDic l)) → W (run n i_note_variables [t.toD, .ref f] h) (fun d h' => d = .non ∧ h' = h.set f (.dic (vDic (noteV t l)))) := by
  refine T.ind (P := fun t => ∀ n l h, t.dep ≤ n → t.In vs → NdIn vs l → h[f]? = some (.dic (vDic l)) → W (run n i_note_variables [t.toD, .ref f] h) (fun d h' => d = .non ∧ h' = h.set f (.dic (vDic (noteV t l))))) (fun i n l h hd g ol e => ?_) (fun nm as ih n l h hd g ol e => ?_) t
  · rw [dep_v] at hd
    obtain ⟨m, rfl⟩ : ∃ m, n = m + 1 := ⟨n - 1, by omega⟩
    rw [r_note_variables, toD_v]
    unfold B_note_variables
    simp -implicitDefEqProofs only [EVB, e, vDic_put, vDic_len]
    have := nd_len ol
    exact ⟨by omega, by rw [noteV_v]⟩
  · rw [dep_a] at hd
    obtain ⟨m, rfl⟩ : ∃ m, n = m + 1 := ⟨n - 1, by omega⟩
    rw [r_note_variables, toD_a]
    unfold B_note_variables
    simp -implicitDefEqProofs only [EVB, cutL_1]
    refine loopS_i (fun k σ h' => h' = h.set f (.dic (vDic (noteVs (as.take k) l))) ∧ ∃ x2, σ = [some (D.tup (D.str nm :: as.map T.toD)), some (.ref f), x2]) ⟨by rw [List.take_zero, noteVs_0, set_same e], none, rfl⟩ (fun _ _ _ _ => by trivial) (fun k σ h' y ey p => ?_) fun σ h' p => ?_
    · obtain ⟨rfl, x2, rfl⟩ := p
      obtain ⟨t, et, rfl, ht⟩ := map_at ey
      simp -implicitDefEqProofs only [EVB]
      refine W_mono (ih t ht m (noteVs (as.take k) l) _ (Nat.le_trans (deps_le ht) (by omega)) (g.parts t ht) (nd_vs (fun u hu => g.parts u (List.mem_of_mem_take hu)) ol) (set_at e)) fun d h' q => ?_
      obtain ⟨rfl, rfl⟩ := q
      simp -implicitDefEqProofs only [EVB, noteVs_take et, set_set]
      exact ⟨_, rfl⟩
    · obtain ⟨rfl, x2, rfl⟩ := p
      rw [List.length_map, List.take_length]
      simp -implicitDefEqProofs only [EVB, noteV_a]
theorem sp_variables_of (vs : List Int) (okv : OkI vs) (hv : vs.length ≤ 100000) (n : Nat) (ts : List T) (h : DHeap) (g : ∀ t, t ∈ ts → t.In vs ∧ t.dep ≤ n) : W (run (n + 1) i_variables_of [.tup (ts.map T.toD)] h) (fun d h' => d = .tup ((noteVs ts []).map D.int) ∧ ∃ g, h' = h ++ g) := by
  rw [r_variables_of]
  unfold B_variables_of
  simp -implicitDefEqProofs only [EVB]
  refine loopS_i (fun k σ h' => h' = h ++ [.dic (vDic (noteVs (ts.take k) []))] ∧ ∃ x2, σ = [some (.tup (ts.map T.toD)), some (.ref h.length), x2]) ⟨by rw [List.take_zero, noteVs_0]; rfl, none, rfl⟩ (fun _ _ _ _ => by trivial) (fun k σ h' y ey p => ?_) fun σ h' p => ?_
  · obtain ⟨rfl, x2, rfl⟩ := p
    obtain ⟨t, et, rfl, ht⟩ := map_at ey
    simp -implicitDefEqProofs only [EVB]
    refine W_mono (sp_note_variables vs okv hv h.length t n (noteVs (ts.take k) []) _ (g t ht).2 (g t ht).1 (nd_vs (fun u hu => (g u (List.mem_of_mem_take hu)).1) nd_0) app_end) fun d h' q => ?_
    obtain ⟨rfl, rfl⟩ := q
    simp -implicitDefEqProofs only [EVB, noteVs_take et, set_end]
    exact ⟨_, rfl⟩
  · obtain ⟨rfl, x2, rfl⟩ := p
    rw [List.length_map, List.take_length]
    simp -implicitDefEqProofs only [EVB, app_end, vDic_keys]
    exact ⟨_, List.append_assoc _ _ _⟩
theorem sp_replaced (f : Nat) (l : Tab) (h : DHeap) (e : h[f]? = some (.dic (tD l))) (t : T) : ∀ n, t.Ar → t.dep ≤ n → W (run n i_replaced [t.toD, .ref f] h) (fun d h' => d = (rep l t).toD ∧ h' = h) := by
  refine T.ind (P := fun t => ∀ n, t.Ar → t.dep ≤ n → W (run n i_replaced [t.toD, .ref f] h) (fun d h' => d = (rep l t).toD ∧ h' = h)) (fun i n hs hd => ?_) (fun nm as ih n hs hd => ?_) t
  · rw [dep_v] at hd
    obtain ⟨m, rfl⟩ : ∃ m, n = m + 1 := ⟨n - 1, by omega⟩
    rw [r_replaced, toD_v, rep_v]
    unfold B_replaced
    simp -implicitDefEqProofs only [EVB, e, lookD_t]
    cases el : lookT l i with
    | some u => rfl
    | none => exact (toD_v i).symm
  · rw [dep_a] at hd
    have hln := hs.len
    obtain ⟨m, rfl⟩ : ∃ m, n = m + 1 := ⟨n - 1, by omega⟩
    rw [r_replaced, toD_a, rep_a]
    unfold B_replaced
    simp -implicitDefEqProofs only [EVB, cutL_1]
    refine ⟨by omega, by rw [List.length_map]; omega, W_mono (loopC_m T.toD (fun t => (rep l t).toD) as h rfl fun t ht => ?_) fun ys h' q => ?_⟩
    · simp -implicitDefEqProofs only [EVB]
      refine W_mono (ih t ht m (hs.parts t ht) (Nat.le_trans (deps_le ht) (by omega))) fun d h' q => ?_
      obtain ⟨rfl, rfl⟩ := q
      simp -implicitDefEqProofs only [EVB]
    · obtain ⟨rfl, rfl⟩ := q
      simp -implicitDefEqProofs only [EVB]
      rw [toD_a, List.map_map]
      exact ⟨by rw [List.length_map]; omega, rfl⟩
theorem sp_numbered (vs : List Int) (okv : OkI vs) (hv : vs.length ≤ 100000) (n : Nat) (ts : List T) (h : DHeap) (g : ∀ t, t ∈ ts → t.In vs ∧ t.dep ≤ n ∧ t.Ar) (hl : ts.length ≤ 16000000) : W (run (n + 1 + 1) i_numbered [.tup (ts.map T.toD)] h) (fun d h' => d = .tup ((nums ts).map T.toD) ∧ ∃ g, h' = h ++ g) := by
  rw [r_numbered]
  unfold B_numbered
  simp -implicitDefEqProofs only [EVB]
  have q0 := sp_variables_of vs okv hv n ts h fun t ht => ⟨(g t ht).1, (g t ht).2.1⟩
  refine W_mono q0 ?_
  intro a1 a2 q
  obtain ⟨e1, g1, e2⟩ := q
  rw [e1, e2]
  clear e1 e2 a1 a2 q0
  have nd : NdIn vs (noteVs ts []) := nd_vs (fun t ht => (g t ht).1) nd_0
  have hn := nd_len nd
  generalize ho : noteVs ts [] = o at nd hn
  simp -implicitDefEqProofs only [EVB, List.length_map]
  repeat (refine And.intro (by first | omega | decide | (split <;> omega) | (simp only [List.length_map, List.length_append, List.length_cons, List.length_nil]; omega)) ?_)
  refine And.intro (by rw [range_len]; omega) ?_
  refine W_mono (loopC_r (fun i : Nat => D.int (0 + (i : Int))) (fun i : Nat => match o[i]? with | some x => D.tup [.int x, .int (i : Int)] | none => .non) (List.range ((o.length : Int)).toNat) _ trivial fun i hi => ?_) fun ys h' q => ?_
  · rw [List.mem_range] at hi
    have hi : i < o.length := by omega
    have e : atI (o.map D.int) (i : Int) = some (.int o[i]) := by rw [atI_n, List.getElem?_map, List.getElem?_eq_getElem hi]; rfl
    simp -implicitDefEqProofs only [EVB, Int.zero_add, e, List.getElem?_eq_getElem hi]
    try exact ⟨rfl, rfl⟩
  obtain ⟨rfl, rfl⟩ := q
  have et : foldP [] ((List.range ((o.length : Int)).toNat).map fun i : Nat => match o[i]? with | some x => D.tup [.int x, .int (i : Int)] | none => .non) = tD (numL 0 o) := by
    rw [range_map (l := numL 0 o) (f := fun p => .tup [.int p.1, p.2.toD]) (by rw [numL_len]; omega) (fun i p e => ?_)]
    · exact foldP_tab (numL 0 o) [] (by rw [List.nil_append, numL_keys]; exact nd.1)
    · rw [numL_at] at e
      cases q : o[i]? with
      | none => rw [q] at e; cases e
      | some x =>
        rw [q] at e
        cases e
        simp only [toD_v, Nat.zero_add]
  simp -implicitDefEqProofs only [EVB, et]
  refine And.intro (by rw [List.length_map]; omega) ?_
  refine W_mono (loopC_m T.toD (fun t => (rep (numL 0 o) t).toD) ts _ rfl fun t ht => ?_) fun ys h' q => ?_
  · simp -implicitDefEqProofs only [EVB]
    refine W_mono (sp_replaced (h ++ g1).length (numL 0 o) _ app_end t (n + 1) (g t ht).2.2 (by have := (g t ht).2.1; omega)) fun d h' q => ?_
    obtain ⟨rfl, rfl⟩ := q
    simp -implicitDefEqProofs only [EVB]
  · obtain ⟨rfl, rfl⟩ := q
    simp -implicitDefEqProofs only [EVB]
    refine ⟨?_, _, List.append_assoc _ _ _⟩
    unfold nums
    rw [ho, List.map_map]
    rfl
end Q

set_option Elab.async false
set_option linter.all false
set_option maxRecDepth 100000
set_option maxHeartbeats 4000000
namespace Q
open PySem PySem.Spec PyProof.Rows L2 DL
theorem sp_root_of (b : Tab) (r : Int → Nat) (ac : Acy b r) (B n : Nat) (t : T) (h : DHeap) (e : h[B]? = some (.dic (tD b))) : W (run (n + 1) i_root_of [t.toD, .ref B] h) (fun d h' => h' = h ∧ ∃ u : T, d = u.toD ∧ Rto b t u) := by
  rw [r_root_of]
  unfold B_root_of
  simp -implicitDefEqProofs only [EVB]
  refine while_i (fun m σ h' => h' = h ∧ ∃ t' : T, σ = [some t'.toD, some (.ref B)] ∧ (∀ u, Rto b t' u → Rto b t u) ∧ m = (match t' with | .v x => r x + 1 | .a _ _ => 0)) (match t with | .v x => r x + 1 | .a _ _ => 0) ⟨rfl, t, rfl, fun _ h => h, rfl⟩ (fun m σ h' p => ?_)
  obtain ⟨rfl, t', rfl, hr, hm⟩ := p
  cases t' with
  | a f as =>
    rw [toD_a]
    simp -implicitDefEqProofs only [EVB, k_WhF]
    exact ⟨_, (toD_a f as).symm, hr _ .app⟩
  | v x =>
    rw [toD_v]
    simp -implicitDefEqProofs only [EVB, e, lookD_t]
    cases el : lookT b x with
    | none =>
      simp -implicitDefEqProofs only [EVB, Option.map_none, Option.getD_none, k_WhF]
      exact ⟨.v x, (toD_v x).symm, hr _ (.un el)⟩
    | some s =>
      cases s with
      | a f as =>
        simp -implicitDefEqProofs only [EVB, Option.map_some, Option.getD_some, toD_a, k_WhF]
        exact ⟨.v x, (toD_v x).symm, hr _ (.nv el)⟩
      | v y =>
        simp -implicitDefEqProofs only [EVB, Option.map_some, Option.getD_some, toD_v, k_WhT, e, lookD_t, el]
        refine ⟨r y + 1, ?_, .v y, by rw [toD_v], fun u hu => hr _ (.st el hu), rfl⟩
        have := ac x _ el y .v
        simp only at hm
        omega
theorem sp_occurs (vs : List Int) (okv : OkI vs) (hv : vs.length ≤ 100000) (D0 : Nat) (b : Tab) (bd : Bd vs D0 b) (x : Int) (hx0 : 0 ≤ x ∧ x < 4294967296) (σ0 : Sb) (r : Int → Nat) (ac : Acy b r) (fx : Fx (DL.del b x) σ0) (B S : Nat) (hBS : S ≠ B) : ∀ n t s h, Lv b n t → t.In vs → t.G → NdIn vs s → (∀ y, y ∈ s → ¬ Oc x (σ0 y) ∨ ∀ z, Oc z t → r z < r y) → h[B]? = some (.dic (tD b)) → h[S]? = some (.dic (vDic s)) →
    W (run n i_occurs [.int x, t.toD, .ref B, .ref S] h) (fun d h' => ∃ s' ok, d = .bl ok ∧ h' = h.set S (.dic (vDic s')) ∧ NdIn vs s' ∧ (ok = true ↔ Oc x (sub σ0 t)) ∧ (ok = false → ∀ y, y ∈ s' → y ∈ s ∨ ¬ Oc x (σ0 y))) := by
  intro n
  induction n with
  | zero => intro t s h l; exact absurd l.pos (by omega)
  | succ n ih =>
    intro t s h l hi g nd hs eB eS
    rw [r_occurs]
    unfold B_occurs
    cases t with
    | v y =>
      rw [toD_v]
      have gy : 0 ≤ y ∧ y < 4294967296 := by cases g with | v h0 h1 => exact ⟨h0, h1⟩
      simp -implicitDefEqProofs only [EVB]
      refine if_d (fun c => ?_) (fun c => ?_)
      · subst c
        simp -implicitDefEqProofs only [EVB]
        refine ⟨s, true, rfl, (set_same eS).symm, nd, ⟨fun _ => ?_, fun _ => rfl⟩, fun z => by cases z⟩
        rw [sub_v, fx.un y (by rw [lookT_del, if_pos rfl])]
        exact .v
      · have ld : lookT (DL.del b x) y = lookT b y := by rw [lookT_del, if_neg c]
        simp -implicitDefEqProofs only [EVB, eS, look_vDic]
        refine or_i (fun c2 => ?_) (fun c2 => ?_)
        · have c2 := of_decide_eq_true c2
          simp -implicitDefEqProofs only [EVB, Z2v]
          refine ⟨s, false, rfl, (set_same eS).symm, nd, ⟨(fun z => by cases z), fun z => ?_⟩, fun _ y hy => .inl hy⟩
          rcases hs y c2 with q | q
          · rw [sub_v] at z; exact (q z).elim
          · exact absurd (q y .v) (Nat.lt_irrefl _)
        · have c2 := of_decide_eq_false c2
          simp -implicitDefEqProofs only [EVB, eB, lookD_t]
          cases el : lookT b y with
          | none =>
            simp -implicitDefEqProofs only [EVB, Option.map_none, Option.isSome_none, Z2v]
            refine ⟨s, false, rfl, (set_same eS).symm, nd, ⟨(fun z => by cases z), fun z => ?_⟩, fun _ y hy => .inl hy⟩
            rw [sub_v, fx.un y (by rw [ld]; exact el)] at z
            exact (c (oc_v.mp z).symm).elim
          | some u =>
            have hyv : y ∈ vs := by cases hi with | v h => exact h
            have nd1 : NdIn vs (insI y s) := insI_nd hyv nd
            have hlen := nd_len nd
            have lu : Lv b n u := by
              cases l with
              | u e => rw [el] at e; cases e
              | b e l => rw [el] at e; cases e; exact l
            have eu := bd.look el
            simp -implicitDefEqProofs only [EVB, Option.map_some, Option.isSome_some, Z2w, eS, vDic_len, vDic_put]
            refine And.intro (by omega) ?_
            have eB1 : (h.set S (.dic (vDic (insI y s))))[B]? = some (.dic (tD b)) := by rw [set_no hBS]; exact eB
            simp -implicitDefEqProofs only [EVB, eB1, lookD_t, el, Option.map_some]
            refine W_mono (ih u (insI y s) _ lu eu.1 eu.2.1 nd1 (fun z hz => ?_) eB1 (set_at eS)) fun d h' q => ?_
            · rw [insI, if_neg c2] at hz
              rcases List.mem_append.mp hz with hz | hz
              · rcases hs z hz with q | q
                · exact .inl q
                · exact .inr fun w hw => Nat.lt_trans (ac y u el w hw) (q y .v)
              · rw [List.mem_singleton.mp hz]
                exact .inr fun w hw => ac y u el w hw
            · obtain ⟨s', ok, e1, e2, nd', q1, q2⟩ := q
              rw [e1, e2]
              have eo : Oc x (sub σ0 (.v y)) ↔ Oc x (sub σ0 u) := by rw [sub_v, fx.bd y u (by rw [ld]; exact el)]
              refine ⟨s', ok, rfl, set_set, nd', q1.trans eo.symm, fun ho z hz => ?_⟩
              rcases q2 ho z hz with q | q
              · rw [insI, if_neg c2] at q
                rcases List.mem_append.mp q with q | q
                · exact .inl q
                · rw [List.mem_singleton.mp q]
                  refine .inr fun w => ?_
                  rw [← sub_v σ0 y] at w
                  rw [q1.mpr (eo.mp w)] at ho
                  cases ho
              · exact .inr q
    | a f as =>
      rw [toD_a]
      have lp : ∀ t, t ∈ as → Lv b n t := by cases l with | a h => exact h
      simp -implicitDefEqProofs only [EVB, cutL_1]
      refine loopS_i (fun k σ h' => ∃ s' x4, h' = h.set S (.dic (vDic s')) ∧ NdIn vs s' ∧ σ = [some (D.int x), some (D.tup (D.str f :: as.map T.toD)), some (D.ref B), some (D.ref S), x4] ∧ (∀ t, t ∈ as.take k → ¬ Oc x (sub σ0 t)) ∧ ∀ y, y ∈ s' → y ∈ s ∨ ¬ Oc x (σ0 y)) ⟨s, none, (set_same eS).symm, nd, rfl, fun t ht => absurd ht (by simp), fun y hy => .inl hy⟩ (fun _ _ _ _ => by trivial) (fun k σ h' z ez p => ?_) fun σ h' p => ?_
      · obtain ⟨s', x4, rfl, nd', rfl, q1, q2⟩ := p
        obtain ⟨t, et, rfl, ht⟩ := map_at ez
        have eB1 : (h.set S (.dic (vDic s')))[B]? = some (.dic (tD b)) := by rw [set_no hBS]; exact eB
        simp -implicitDefEqProofs only [EVB]
        refine W_mono (ih t s' _ (lp t ht) (hi.parts t ht) (g.parts t ht) nd' (fun y hy => ?_) eB1 (set_at eS)) fun d h' q => ?_
        · rcases q2 y hy with q | q
          · rcases hs y q with q | q
            · exact .inl q
            · exact .inr fun z hz => q z (.a ht hz)
          · exact .inl q
        · obtain ⟨s2, ok, e1, e2, nd2, r1, r2⟩ := q
          rw [e1, e2]
          simp -implicitDefEqProofs only [EVB]
          cases ok with
          | true =>
            simp -implicitDefEqProofs only [EVB, Z2v]
            refine ⟨s2, true, rfl, set_set, nd2, ⟨fun _ => ?_, fun _ => rfl⟩, fun z => by cases z⟩
            rw [sub_a]
            exact .a (List.mem_map.mpr ⟨t, ht, rfl⟩) (r1.mp rfl)
          | false =>
            simp -implicitDefEqProofs only [EVB, Z2w]
            refine ⟨s2, _, set_set, nd2, rfl, fun u hu => ?_, fun y hy => ?_⟩
            · rw [List.take_add_one, et] at hu
              rcases List.mem_append.mp hu with hu | hu
              · exact q1 u hu
              · rw [List.mem_singleton.mp hu]
                exact fun w => by have := r1.mpr w; cases this
            · rcases r2 rfl y hy with q | q
              · exact q2 y q
              · exact .inr q
      · obtain ⟨s', x4, rfl, nd', rfl, q1, q2⟩ := p
        rw [List.length_map, List.take_length] at q1
        simp -implicitDefEqProofs only [EVB]
        refine ⟨s', false, rfl, rfl, nd', ⟨(fun z => by cases z), fun w => ?_⟩, fun _ => q2⟩
        rw [sub_a] at w
        obtain ⟨u, hu, ho⟩ := oc_a.mp w
        obtain ⟨t, ht, rfl⟩ := List.mem_map.mp hu
        exact (q1 t ht ho).elim
end Q

set_option Elab.async false
set_option linter.all false
set_option maxRecDepth 100000
set_option maxHeartbeats 4000000
namespace Q
open PySem PySem.Spec PyProof.Rows L2 DL
theorem sp_bind (vs : List Int) (okv : OkI vs) (hv : vs.length ≤ 100000) (D0 : Nat) (hD : D0 ≤ 60) (b : Tab) (bd : Bd vs D0 b) (x : Int) (hxv : x ∈ vs) (σ0 : Sb) (r : Int → Nat) (ac : Acy b r) (fx : Fx (DL.del b x) σ0) (B C : Nat) (hBC : B ≠ C) (n : Nat) (u : T) (gu : u.In vs ∧ u.G ∧ u.dep ≤ D0 ∧ u.Ar) (w : List Pr) (hw : w.length ≤ 16000000) (h : DHeap)
    (eB : h[B]? = some (.dic (tD b))) (eC : h[C]? = some (.lst (w.map pqD))) (hn : D0 + vs.length * (D0 + 1) ≤ n) :
    W (run (n + 1) i_bind [.int x, u.toD, .ref B, .ref C] h) (fun d h' => ∃ ok b' push, d = .bl ok ∧ (ok = true → h'[B]? = some (.dic (tD b')) ∧ h'[C]? = some (.lst ((w ++ push).map pqD))) ∧ Kp2 B C h h' ∧ BindR b x σ0 u b' push ok) := by
  have hx0 := okv x hxv
  have lB : B < h.length := (List.getElem?_eq_some_iff.mp eB).1
  have lC : C < h.length := (List.getElem?_eq_some_iff.mp eC).1
  have okx : okP (T.v x).toD = true := okP_T (.v hx0.1 hx0.2) (by rw [dep_v]; decide)
  have oku : okP u.toD = true := okP_T gu.2.1 (by have := gu.2.2.1; omega)
  have q0 : ∀ {Q : QD} {h : DHeap}, W (eqD (.int x) u.toD h) Q = Q (.bl (decide (T.v x = u))) h := fun {Q h} => by
    rw [← toD_v x, o_eqT okx oku, eqB_dec]
  have lvu : Lv b n u := (bd.lv u).mono (by have := gu.2.2.1; omega)
  have qo := sp_occurs vs okv hv D0 b bd x hx0 σ0 r ac fx B h.length (by omega) n u [] (h ++ [.dic []]) lvu gu.1 gu.2.1 nd_0 (fun y hy => absurd hy List.not_mem_nil) (app_at eB) app_end
  rw [r_bind]
  unfold B_bind
  simp -implicitDefEqProofs only [EVB, q0]
  refine if_d (fun c => ?_) (fun c => ?_)
  · simp -implicitDefEqProofs only [EVB]
    exact ⟨true, b, [], rfl, fun _ => ⟨eB, by rw [List.append_nil]; exact eC⟩, Kp2.refl, .inl ⟨c.symm, rfl, rfl, rfl⟩⟩
  have c : u ≠ .v x := fun z => c z.symm
  have keyI : ∀ (f : Str) (as : List T), u = .a f as → isA u = true := fun f as e => by rw [e]; rfl
  -- what follows the test
  have rest : (isA u = false ∨ lookT b x = none) → W (sSeq (sIf (tst (callF (run n i_occurs) (aCons (vr 0) (aCons (vr 1) (aCons (vr 2) (aCons (newDic) (aNil))))))) (sRet (cst (.bl false))) (sNil)) (sSeq (sIf (tst (bin2 inD (vr 0) (vr 2))) (sExpr (appM (vr 3) (tupM (aCons (bin2 ixD (vr 2) (vr 0)) (aCons (vr 1) (aNil)))))) (sNil)) (sSeq (sAsg (vr 1) (gSb (vr 2) (vr 0))) (sRet (cst (.bl true))))) [some (D.int x), some u.toD, some (D.ref B), some (D.ref C)] h) (kRt fun d h' => ∃ ok b' push, d = .bl ok ∧ (ok = true → h'[B]? = some (.dic (tD b')) ∧ h'[C]? = some (.lst ((w ++ push).map pqD))) ∧ Kp2 B C h h' ∧ BindR b x σ0 u b' push ok) := by
    intro hc
    simp -implicitDefEqProofs only [EVB]
    refine W_mono qo fun d h' q => ?_
    obtain ⟨s', ok, e1, e2, _, q1, _⟩ := q
    rw [e1, e2, set_end]
    cases ok with
    | true =>
      simp -implicitDefEqProofs only [EVB, Z2v]
      exact ⟨false, b, [], rfl, fun z => (by cases z), Kp2.refl.app, .inr (.inr (.inl ⟨c, q1.mp rfl, rfl⟩))⟩
    | false =>
      have no : ¬ Oc x (sub σ0 u) := fun z => by have := q1.mpr z; cases this
      have eB1 : (h ++ [Cell.dic (vDic s')])[B]? = some (.dic (tD b)) := app_at eB
      have eC1 : (h ++ [Cell.dic (vDic s')])[C]? = some (.lst (w.map pqD)) := app_at eC
      simp -implicitDefEqProofs only [EVB, Z2w, eB1, lookD_t]
      have hlb := bd.len
      cases el : lookT b x with
      | none =>
        simp -implicitDefEqProofs only [EVB, Option.map_none, Option.isSome_none, Z2w, eB1, tD_len, tD_putT]
        refine ⟨by omega, true, _, [], rfl, fun _ => ⟨set_at eB1, by rw [set_no hBC, List.append_nil]; exact eC1⟩, Kp2.refl.app.setB, .inr (.inr (.inr ⟨c, no, rfl, rfl, .inl ⟨el, rfl⟩⟩))⟩
      | some s =>
        simp -implicitDefEqProofs only [EVB, Option.map_some, Option.isSome_some, Z2v, eB1, eC1, lookD_t, el]
        refine ⟨by decide, by rw [List.length_map]; omega, ?_⟩
        have eB2 : ((h ++ [Cell.dic (vDic s')]).set C (.lst (w.map pqD ++ [.tup [s.toD, u.toD]])))[B]? = some (.dic (tD b)) := by rw [set_no (Ne.symm hBC)]; exact eB1
        simp -implicitDefEqProofs only [EVB, eB2, tD_len, tD_putT]
        refine ⟨by omega, true, _, [(s, u)], rfl, fun _ => ⟨set_at eB2, ?_⟩, Kp2.refl.app.setC.setB, .inr (.inr (.inr ⟨c, no, rfl, rfl, .inr ⟨s, el, ?_, rfl⟩⟩))⟩
        · rw [set_no hBC, set_at eC1, List.map_append]; rfl
        · rcases hc with q | q
          · exact q
          · rw [el] at q; cases q
  cases u with
  | v y =>
    rw [toD_v] at rest ⊢
    simp -implicitDefEqProofs only [EVB, eB, lookD_t]
    cases el : lookT b x with
    | none =>
      simp -implicitDefEqProofs only [EVB, Option.map_none, Option.isSome_none, Z2w]
      have := rest (.inl rfl)
      simp -implicitDefEqProofs only [EVB, Z2w] at this
      exact this
    | some s =>
      simp -implicitDefEqProofs only [EVB, Option.map_some, Option.isSome_some, Z2w]
      have := rest (.inl rfl)
      simp -implicitDefEqProofs only [EVB, Z2w] at this
      exact this
  | a f as =>
    rw [toD_a] at rest ⊢
    simp -implicitDefEqProofs only [EVB, eB, lookD_t]
    cases el : lookT b x with
    | none =>
      simp -implicitDefEqProofs only [EVB, Option.map_none, Option.isSome_none, Z2w]
      have := rest (.inr el)
      simp -implicitDefEqProofs only [EVB, Z2w] at this
      exact this
    | some s =>
      simp -implicitDefEqProofs only [EVB, Option.map_some, Option.isSome_some, Z2v, eB, eC, lookD_t, el]
      refine ⟨by decide, by rw [List.length_map]; omega, true, b, [(s, .a f as)], rfl, fun _ => ⟨by rw [set_no (Ne.symm hBC)]; exact eB, ?_⟩, Kp2.refl.setC, .inr (.inl ⟨s, el, rfl, rfl, rfl, rfl⟩)⟩
      rw [set_at eC, List.map_append, ← toD_a]; rfl
end Q

set_option Elab.async false
set_option linter.all false
set_option maxRecDepth 100000
set_option maxHeartbeats 4000000
namespace Q
open PySem PySem.Spec PyProof.Rows L2 DL
def mB (v D0 : Nat) : Nat := 100 * (3 * v * (4 * (D0 + v * (D0 + 1)) + 2) + (4 * (D0 + v * (D0 + 1)) + 2) + 1)
theorem sp_unifier (vs : List Int) (okv : OkI vs) (hv : vs.length ≤ 100000) (D0 : Nat) (hD : D0 ≤ 60) (hm : mB vs.length D0 ≤ 16000000) (n : Nat) (l r : T) (gl : l.In vs ∧ l.G ∧ l.dep ≤ D0 ∧ l.Ar) (gr : r.In vs ∧ r.G ∧ r.dep ≤ D0 ∧ r.Ar) (h : DHeap) (L : Nat) (eL : h[L]? = some (.lst [pqD (l, r)])) (hn : D0 + vs.length * (D0 + 1) + 1 ≤ n) :
    W (run (n + 1) i_unifier [.ref L] h) (fun d h' => Old h h' ∧ ((d = .non ∧ ∀ θ, sub θ l ≠ sub θ r) ∨ ∃ b B, d = .ref B ∧ h'[B]? = some (.dic (tD b)) ∧ Bd vs D0 b ∧ ∀ θ, Sat θ b ↔ sub θ l = sub θ r)) := by
  rw [r_unifier]
  unfold B_unifier
  simp -implicitDefEqProofs only [EVB, app_at eL]
  obtain ⟨m, rfl⟩ : ∃ m, n = m + 1 := ⟨n - 1, by omega⟩
  have lC : (h ++ [Cell.dic []]).length = h.length + 1 := by simp
  obtain ⟨B, hB⟩ : ∃ B, h.length = B := ⟨_, rfl⟩
  obtain ⟨C, hC⟩ : ∃ C, (h ++ [Cell.dic []]).length = C := ⟨_, rfl⟩
  have hBC : B ≠ C := by omega
  have hlB : h.length ≤ B := by omega
  have hlC : h.length ≤ C := by omega
  rw [hC, hB]
  refine Wh_while (run_stack (vs := vs) (D := D0) (S := fun b stk σ h' => ∃ x3 x4 x5, σ = [some (D.ref L), some (D.ref B), some (D.ref C), x3, x4, x5] ∧ h'[B]? = some (.dic (tD b)) ∧ h'[C]? = some (.lst (stk.map pqD)) ∧ Old h h') (Fh := Old h) (fun b stk p σ h' hS bd gd hlen => ?_) (4 * (D0 + vs.length * (D0 + 1)) + 2) (by omega) _ [] (l, r) T.v ⟨fun _ _ => rfl, fun _ _ e => by cases e⟩ (Nat.lt_succ_self _) .nil ⟨gl, gr⟩ [] _ _ ?_ ?_ (fun b' σ' h' af hS => ?_) fun no h' fh => ?_)
  · obtain ⟨x3, x4, x5, rfl, eB, eC, old⟩ := hS
    obtain ⟨rk, ac⟩ := bd.ac
    have eB1 : (h'.set C (.lst (stk.map pqD)))[B]? = some (.dic (tD b)) := by rw [set_no (Ne.symm hBC)]; exact eB
    have eC1 : (h'.set C (.lst (stk.map pqD)))[C]? = some (.lst (stk.map pqD)) := set_at eC
    have old1 : Old h (h'.set C (.lst (stk.map pqD))) := old.new hlC
    generalize hh : h'.set C (.lst (stk.map pqD)) = h1 at eB1 eC1 old1
    simp -implicitDefEqProofs only [EVB, eC, pq_ne, pq_last, pq_init, k_WhT, hh]
    rw [show pqD p = .tup [p.1.toD, p.2.toD] from rfl]
    simp -implicitDefEqProofs only [EVB]
    refine W_mono (sp_root_of b rk ac B m p.1 h1 eB1) fun d h2 q => ?_
    obtain ⟨e2, u1, e1, ru1⟩ := q
    rw [e1, e2]
    clear e1 e2 d h2
    simp -implicitDefEqProofs only [EVB]
    refine W_mono (sp_root_of b rk ac B m p.2 h1 eB1) fun d h2 q => ?_
    obtain ⟨e2, u2, e1, ru2⟩ := q
    rw [e1, e2]
    clear e1 e2 d h2
    have g1 := ru1.gd bd gd.l
    have g2 := ru2.gd bd gd.r
    have old2 : ∀ h2, Kp2 B C h1 h2 → Old h h2 := fun h2 k i c e => by
      have := (List.getElem?_eq_some_iff.mp e).1
      exact k.1 i c (by omega) (by omega) (old1 i c e)
    -- a variable is bound
    have bnd : ∀ (x : Int) (u : T) (y3 y4 : Option D), x ∈ vs → (u.In vs ∧ u.G ∧ u.dep ≤ D0 ∧ u.Ar) → (∀ θ, Sat θ b → (Eqs θ p ↔ θ x = sub θ u)) → (isA p.1 && isA p.2) = false → (∀ σ, Sat σ b → (sub σ p.1).dep + (sub σ p.2).dep = (σ x).dep + (sub σ u).dep) → (∀ y, lookT b x ≠ some (.v y)) → (∀ y z, u = .v y → lookT b y ≠ some (.v z)) →
        W (run (m + 1) i_bind [.int x, u.toD, .ref B, .ref C] h1) (fun d h2 => ∃ ok, d = .bl ok ∧ (ok = false → NoU b p ∧ Old h h2) ∧ (ok = true → ∃ b' push, Nxt vs D0 b p b' push ∧ h2[B]? = some (.dic (tD b')) ∧ h2[C]? = some (.lst ((stk ++ push).map pqD)) ∧ Old h h2)) := fun x u y3 y4 hx gu eqp pv hdp xe ue => by
      obtain ⟨σ0, fx⟩ := fx_of (ac.del x)
      refine W_mono (sp_bind vs okv hv D0 hD b bd x hx σ0 rk ac fx B C hBC m u gu stk (by omega) h1 eB1 eC1 (by omega)) fun d h2 q => ?_
      obtain ⟨ok, b', push, e1, e2, kp, R⟩ := q
      refine ⟨ok, e1, fun z => ?_, fun z => ?_⟩
      · subst z; exact ⟨no_bind ac fx eqp ue R, old2 h2 kp⟩
      · subst z; exact ⟨b', push, nxt_bind bd ac fx hx gu eqp pv hdp xe R, (e2 rfl).1, (e2 rfl).2, old2 h2 kp⟩
    have inv : ∀ {y : Int}, (T.v y).In vs → y ∈ vs := fun h => by cases h; assumption
    cases u2 with
    | v y =>
      rw [toD_v]
      simp -implicitDefEqProofs only [EVB]
      refine W_mono (bnd y u1 none none (inv g2.1) g1 (fun θ s => by unfold Eqs; rw [ru1.sat s, ru2.sat s, sub_v]; exact eq_comm) (by rw [ru2.var, Bool.and_false]) (fun σ s => by rw [ru1.sat s, ru2.sat s, sub_v]; omega) ru2.end_ (fun y z e => by subst e; exact ru1.end_ z)) fun d h2 q => ?_
      obtain ⟨ok, e1, q1, q2⟩ := q
      rw [e1]
      simp -implicitDefEqProofs only [EVB]
      cases ok with
      | false =>
        simp -implicitDefEqProofs only [EVB, Z2v]
        exact q1 rfl
      | true =>
        simp -implicitDefEqProofs only [EVB, Z2w]
        obtain ⟨b', push, nx, z1, z2, z3⟩ := q2 rfl
        exact ⟨b', push, nx, _, _, _, rfl, z1, z2, z3⟩
    | a g bs =>
      rw [toD_a]
      cases u1 with
      | v x =>
        rw [toD_v]
        simp -implicitDefEqProofs only [EVB]
        have q0 := bnd x (.a g bs) none none (inv g1.1) g2 (fun θ s => by unfold Eqs; rw [ru1.sat s, ru2.sat s, sub_v]) (by rw [ru1.var, Bool.false_and]) (fun σ s => by rw [ru1.sat s, ru2.sat s, sub_v]) ru1.end_ (fun y z e => by cases e)
        rw [toD_a] at q0
        refine W_mono q0 fun d h2 q => ?_
        obtain ⟨ok, e1, q1, q2⟩ := q
        rw [e1]
        simp -implicitDefEqProofs only [EVB]
        cases ok with
        | false =>
          simp -implicitDefEqProofs only [EVB, Z2v]
          exact q1 rfl
        | true =>
          simp -implicitDefEqProofs only [EVB, Z2w]
          obtain ⟨b', push, nx, z1, z2, z3⟩ := q2 rfl
          exact ⟨b', push, nx, _, _, _, rfl, z1, z2, z3⟩
      | a f as =>
        rw [toD_a]
        simp -implicitDefEqProofs only [EVB]
        refine or_i (fun c => ?_) (fun c => ?_)
        · have c : ¬ f = g := by simpa using c
          simp -implicitDefEqProofs only [EVB, Z2v]
          exact ⟨no_dec ru1 ru2 fun q => c q.1, old1⟩
        have c : f = g := by simpa using c
        subst c
        simp -implicitDefEqProofs only [EVB]
        refine if_i (fun c2 => ?_) (fun c2 => ?_)
        · have c2 := ite_len c2
          simp -implicitDefEqProofs only [EVB]
          exact ⟨no_dec ru1 ru2 fun q => c2 q.2, old1⟩
        have c2 := ite_len' c2
        have hlA := g1.2.2.2.len
        simp -implicitDefEqProofs only [EVB, List.length_map]
        repeat (refine And.intro (by first | omega | decide | (split <;> omega) | (simp only [List.length_map, List.length_append, List.length_cons, List.length_nil]; omega)) ?_)
        have hnn : ((as.length + 1 : Nat) - (1 : Int)).toNat = as.length := by omega
        rw [hnn]
        refine loopS_i (fun k σ h2 => ∃ x5, σ = [some (D.ref L), some (D.ref B), some (D.ref C), some (D.tup (D.str f :: as.map T.toD)), some (D.tup (D.str f :: bs.map T.toD)), x5] ∧ h2 = h1.set C (.lst ((stk ++ (as.zip bs).take k).map pqD))) ⟨_, rfl, by rw [List.take_zero, List.append_nil, set_same eC1]⟩ (fun _ _ _ _ => by trivial) (fun k σ h2 z ez q => ?_) fun σ h2 q => ?_
        · obtain ⟨x5, rfl, rfl⟩ := q
          obtain ⟨hk, rfl⟩ := rangeA_at ez
          obtain ⟨pa, ea, ma⟩ := get_at hk
          obtain ⟨pb, eb, mb⟩ := get_at (l := bs) (k := k) (by omega)
          have e1 : (List.map T.toD as)[k]? = some pa.toD := by rw [List.getElem?_map, ea]; rfl
          have e2 : (List.map T.toD bs)[k]? = some pb.toD := by rw [List.getElem?_map, eb]; rfl
          have e3 : (as.zip bs)[k]? = some (pa, pb) := by rw [List.getElem?_zip_eq_some]; exact ⟨ea, eb⟩
          simp -implicitDefEqProofs only [EVB, atI_s, e1, e2, set_at eC1, set_set]
          refine ⟨by decide, by rw [List.length_map, List.length_append, List.length_take]; omega, _, rfl, ?_⟩
          rw [List.take_add_one, e3, Option.toList_some, ← List.append_assoc, List.map_append (l₁ := stk ++ _)]
          rfl
        · obtain ⟨x5, rfl, rfl⟩ := q
          have hz : (as.zip bs).take (rangeL 1 as.length).length = as.zip bs := by
            rw [rangeA_len, List.take_of_length_le]
            rw [List.length_zip]; omega
          rw [hz]
          simp -implicitDefEqProofs only [EVB]
          refine ⟨b, as.zip bs, nxt_dec bd ru1 ru2 g1 g2 c2, _, _, _, rfl, by rw [set_no (Ne.symm hBC)]; exact eB1, set_at eC1, old1.new hlC⟩
  · unfold mB at hm
    have e1 : en vs [] = 2 * vs.length := by unfold en nvb; simp
    have e2 : dpt T.v (l, r) ≤ 4 * D0 + 1 := by
      unfold dpt
      rw [sub_id, sub_id]
      have := gl.2.2.1
      have := gr.2.2.1
      split <;> (simp only; omega)
    rw [e1, List.length_nil]
    have e4 : 4 * D0 + 1 ≤ 4 * (D0 + vs.length * (D0 + 1)) + 2 := by omega
    generalize 4 * (D0 + vs.length * (D0 + 1)) + 2 = K at hm e4 ⊢
    have h3 : 2 * vs.length * K ≤ 3 * vs.length * K := Nat.mul_le_mul_right _ (by omega)
    generalize 2 * vs.length * K = X1 at h3 ⊢
    generalize 3 * vs.length * K = X2 at h3 hm
    generalize dpt T.v (l, r) = X3 at e2 ⊢
    omega
  · refine ⟨_, _, _, rfl, ?_, ?_, Old.refl.app.app⟩
    · rw [← hB]; exact app_at app_end
    · rw [← hC]; exact app_end
  · obtain ⟨x3, x4, x5, rfl, eB, eC, old⟩ := hS
    refine Wh_step ?_
    simp -implicitDefEqProofs only [EVB, eC, k_WhF]
    refine ⟨old, .inr ⟨b', B, rfl, eB, af.bd, fun θ => ?_⟩⟩
    rw [← af.eq θ]
    exact ⟨fun z => z.2, fun z => ⟨(fun x t e => by cases e), z⟩⟩
  · simp -implicitDefEqProofs only [EVB]
    exact ⟨fh, .inl fun θ e => no θ (fun x t z => by cases z) e⟩
end Q

set_option Elab.async false
set_option linter.all false
set_option maxRecDepth 100000
set_option maxHeartbeats 4000000
namespace Q
open PySem PySem.Spec PyProof.Rows L2 DL
theorem sp_measured (vs : List Int) (hv : vs.length ≤ 100000) (D0 : Nat) (b : Tab) (bd : Bd vs D0 b) (σ : Sb) (fx : Fx b σ) (B Kn : Nat) (hBK : B ≠ Kn) : ∀ n t k h, Lv b n t → t.In vs → NdIn vs k → h[B]? = some (.dic (tD b)) → h[Kn]? = some (.dic (gDic (fun x => .tup [.int (σ x).size, .int (σ x).dep]) k)) →
    W (run n i_measured [t.toD, .ref B, .ref Kn] h) (fun d h' => d = .tup [.int (sub σ t).size, .int (sub σ t).dep] ∧ ∃ k', h' = h.set Kn (.dic (gDic (fun x => .tup [.int (σ x).size, .int (σ x).dep]) k')) ∧ NdIn vs k') := by
  intro n
  induction n with
  | zero => intro t k h l; exact absurd l.pos (by omega)
  | succ n ih =>
    intro t k h l hi nd eB eK
    rw [r_measured]
    unfold B_measured
    cases t with
    | v x =>
      rw [toD_v, sub_v]
      simp -implicitDefEqProofs only [EVB, eB, lookD_t]
      cases el : lookT b x with
      | none =>
        simp -implicitDefEqProofs only [EVB, Option.map_none, Option.isSome_none, Z2v]
        rw [fx.un x el, size_v, dep_v]
        exact ⟨by decide, rfl, k, (set_same eK).symm, nd⟩
      | some s =>
        have ls : Lv b n s := by
          cases l with
          | u e => rw [el] at e; cases e
          | b e l => rw [el] at e; cases e; exact l
        have xv : x ∈ vs := by cases hi; assumption
        simp -implicitDefEqProofs only [EVB, Option.map_some, Option.isSome_some, Z2w, eK, look_gDic]
        by_cases hk : x ∈ k
        · simp -implicitDefEqProofs only [EVB, if_pos hk, Option.isSome_some, Z2w, eK, look_gDic]
          exact ⟨k, (set_same eK).symm, nd⟩
        · simp -implicitDefEqProofs only [EVB, if_neg hk, Option.isSome_none, Z2v, eB, lookD_t, el, Option.map_some]
          refine W_mono (ih s k h ls (bd.look el).1 nd eB eK) fun d h' q => ?_
          obtain ⟨e1, k', e2, nd'⟩ := q
          rw [e1, e2]
          have eg : D.tup [.int (sub σ s).size, .int (sub σ s).dep] = (fun x => D.tup [.int (σ x).size, .int (σ x).dep]) x := by simp only [fx.bd x s el]
          have nd2 := insI_nd xv nd'
          have hl2 := nd_len nd'
          simp -implicitDefEqProofs only [EVB, set_at eK, set_set, gDic_len]
          rw [eg]
          rw [put_gDic2]
          refine And.intro (by omega) ?_
          simp -implicitDefEqProofs only [EVB, set_at eK, look_gDic]
          rw [if_pos (by unfold insI; split; · assumption
                         · simp)]
          exact ⟨rfl, _, rfl, nd2⟩
    | a f as =>
      rw [toD_a, sub_a, size_a, dep_a]
      have lp : ∀ t, t ∈ as → Lv b n t := by cases l with | a h => exact h
      simp -implicitDefEqProofs only [EVB, cutL_1]
      refine loopS_i (fun j σ' h' => ∃ k' x5 x6, h' = h.set Kn (.dic (gDic (fun x => .tup [.int (σ x).size, .int (σ x).dep]) k')) ∧ NdIn vs k' ∧ σ' = [some (D.tup (D.str f :: as.map T.toD)), some (D.ref B), some (D.ref Kn), some (D.int (1 + T.sizes ((as.take j).map (sub σ)) : Nat)), some (D.int (T.deps ((as.take j).map (sub σ)) : Nat)), x5, x6]) ⟨k, none, none, (set_same eK).symm, nd, by rw [List.take_zero, List.map_nil, T.sizes, T.deps]; rfl⟩ (fun _ _ _ _ => by trivial) (fun j σ' h' z ez p => ?_) fun σ' h' p => ?_
      · obtain ⟨k', x5, x6, rfl, nd', rfl⟩ := p
        obtain ⟨t, et, rfl, ht⟩ := map_at ez
        simp -implicitDefEqProofs only [EVB]
        refine W_mono (ih t k' _ (lp t ht) (hi.parts t ht) nd' (by rw [set_no (Ne.symm hBK)]; exact eB) (set_at eK)) fun d h' q => ?_
        obtain ⟨e1, k2, e2, nd2⟩ := q
        rw [e1, e2]
        simp -implicitDefEqProofs only [EVB, set_set]
        refine ⟨k2, some t.toD, some (D.tup [D.int (sub σ t).size, D.int (sub σ t).dep]), rfl, nd2, ?_⟩
        rw [List.take_add_one, et, Option.toList_some, List.map_append, sizes_app, deps_app, List.map_cons, List.map_nil, sizes_one, deps_one]
        have h1 : (if ((sub σ t).dep : Int) > (T.deps ((as.take j).map (sub σ)) : Nat) then ((sub σ t).dep : Int) else ((T.deps ((as.take j).map (sub σ)) : Nat) : Int)) = ((max (T.deps ((as.take j).map (sub σ))) (sub σ t).dep : Nat) : Int) := by
          split <;> omega
        rw [h1]
        have h2 : (((1 + T.sizes ((as.take j).map (sub σ)) : Nat) : Int) + ((sub σ t).size : Int)) = ((1 + (T.sizes ((as.take j).map (sub σ)) + (sub σ t).size) : Nat) : Int) := by omega
        rw [h2]
      · obtain ⟨k', x5, x6, rfl, nd', rfl⟩ := p
        rw [List.length_map, List.take_length]
        simp -implicitDefEqProofs only [EVB]
        refine ⟨by decide, ?_, k', rfl, nd'⟩
        rw [show ((T.deps (as.map (sub σ)) : Nat) : Int) + 1 = ((1 + T.deps (as.map (sub σ)) : Nat) : Int) by omega]
theorem sp_written_out (D0 : Nat) (vs : List Int) (b : Tab) (bd : Bd vs D0 b) (σ : Sb) (fx : Fx b σ) (B : Nat) (h : DHeap) (eB : h[B]? = some (.dic (tD b))) : ∀ n t, Lv b n t → t.Ar → W (run n i_written_out [t.toD, .ref B] h) (fun d h' => d = (sub σ t).toD ∧ h' = h) := by
  intro n
  induction n with
  | zero => intro t l; exact absurd l.pos (by omega)
  | succ n ih =>
    intro t l ha
    rw [r_written_out]
    unfold B_written_out
    cases t with
    | v x =>
      rw [toD_v, sub_v]
      simp -implicitDefEqProofs only [EVB, eB, lookD_t]
      cases el : lookT b x with
      | none =>
        simp -implicitDefEqProofs only [EVB, Option.map_none, Option.isSome_none, Z2w]
        rw [fx.un x el, toD_v]
      | some s =>
        have ls : Lv b n s := by
          cases l with
          | u e => rw [el] at e; cases e
          | b e l => rw [el] at e; cases e; exact l
        simp -implicitDefEqProofs only [EVB, Option.map_some, Option.isSome_some, Z2v, eB, lookD_t, el]
        refine W_mono (ih s ls (bd.look el).2.2.2) fun d h' q => ?_
        obtain ⟨e1, e2⟩ := q
        rw [e1, e2, fx.bd x s el]
        exact ⟨rfl, rfl⟩
    | a f as =>
      have hln := ha.len
      have lp : ∀ t, t ∈ as → Lv b n t := by cases l with | a h => exact h
      rw [toD_a, sub_a, toD_a]
      simp -implicitDefEqProofs only [EVB, cutL_1]
      refine ⟨by omega, by rw [List.length_map]; omega, W_mono (loopC_m T.toD (fun t => (sub σ t).toD) as h rfl fun t ht => ?_) fun ys h' q => ?_⟩
      · simp -implicitDefEqProofs only [EVB]
        refine W_mono (ih t (lp t ht) (ha.parts t ht)) fun d h' q => ?_
        obtain ⟨e1, e2⟩ := q
        rw [e1, e2]
        simp -implicitDefEqProofs only [EVB]
      · obtain ⟨e1, e2⟩ := q
        rw [e1, e2]
        simp -implicitDefEqProofs only [EVB]
        rw [List.map_map]
        exact ⟨by rw [List.length_map]; omega, rfl⟩
theorem sp_resolved (vs : List Int) (hv : vs.length ≤ 100000) (D0 : Nat) (b : Tab) (bd : Bd vs D0 b) (σ : Sb) (fx : Fx b σ) (B : Nat) (h : DHeap) (eB : h[B]? = some (.dic (tD b))) (n : Nat) (t : T) (l : Lv b n t) (hi : t.In vs) (ha : t.Ar) (ms md : Int) :
    W (run (n + 1) i_resolved [t.toD, .ref B, .int ms, .int md] h) (fun d h' => Old h h' ∧ d = if ms < ((sub σ t).size : Int) ∨ md < ((sub σ t).dep : Int) then .non else (sub σ t).toD) := by
  have lB := (List.getElem?_eq_some_iff.mp eB).1
  have q1 := sp_measured vs hv D0 b bd σ fx B h.length (by omega) n t [] (h ++ [.dic []]) l hi nd_0 (app_at eB) app_end
  rw [r_resolved]
  unfold B_resolved
  simp -implicitDefEqProofs only [EVB]
  refine W_mono q1 fun d h' q => ?_
  obtain ⟨e1, k', e2, nd'⟩ := q
  rw [e1, e2, set_end]
  simp -implicitDefEqProofs only [EVB]
  refine or_i (fun c => ?_) (fun c => ?_)
  · have c := of_decide_eq_true c
    simp -implicitDefEqProofs only [EVB, Z2v]
    exact ⟨Old.refl.app, by rw [if_pos (.inl c)]⟩
  · have c := of_decide_eq_false c
    refine if_d (fun c2 => ?_) (fun c2 => ?_)
    · simp -implicitDefEqProofs only [EVB]
      exact ⟨Old.refl.app, by rw [if_pos (.inr c2)]⟩
    · simp -implicitDefEqProofs only [EVB]
      refine W_mono (sp_written_out D0 vs b bd σ fx B _ (app_at eB) n t l ha) fun d h' q => ?_
      obtain ⟨e1, e2⟩ := q
      rw [e1, e2]
      exact ⟨Old.refl.app, by rw [if_neg (fun z => z.elim c c2)]⟩
end Q

set_option Elab.async false
set_option linter.all false
set_option maxRecDepth 100000
set_option maxHeartbeats 4000000
namespace Q
open PySem PySem.Spec PyProof.Rows L2 DL
theorem sp_unify (vs : List Int) (okv : OkI vs) (hv : vs.length ≤ 100000) (D0 : Nat) (hD : D0 ≤ 60) (hm : mB vs.length D0 ≤ 16000000) (n : Nat) (l r : T) (gl : l.In vs ∧ l.G ∧ l.dep ≤ D0 ∧ l.Ar) (gr : r.In vs ∧ r.G ∧ r.dep ≤ D0 ∧ r.Ar) (h : DHeap) (hn : D0 + vs.length * (D0 + 1) + 2 ≤ n) :
    (W (run (n + 1) i_unify [l.toD, r.toD] h) (fun d h' => d = .non ∧ Old h h') ∧ ∀ θ, sub θ l ≠ sub θ r) ∨
    ∃ σ, Mg σ l r ∧ ((sub σ l).In vs ∧ (sub σ l).G ∧ (sub σ l).Ar ∧ (sub σ l).dep ≤ D0 + vs.length * (D0 + 1)) ∧
      ((400 < (sub σ l).size ∨ 40 < (sub σ l).dep) → R (run (n + 1) i_unify [l.toD, r.toD] h) (fun x _ h' => x = ⟨"TooLarge", []⟩ ∧ Old h h')) ∧
      (¬ (400 < (sub σ l).size ∨ 40 < (sub σ l).dep) → W (run (n + 1) i_unify [l.toD, r.toD] h) (fun d h' => d = (num (sub σ l)).toD ∧ Old h h')) := by
  obtain ⟨m, rfl⟩ : ∃ m, n = m + 1 := ⟨n - 1, by omega⟩
  obtain ⟨d1, h1, e1, old1, q⟩ := W_get (sp_unifier vs okv hv D0 hD hm m l r gl gr (h ++ [.lst [pqD (l, r)]]) h.length app_end (by omega))
  have old2 : Old h h1 := Old.refl.app.trans old1
  rcases q with ⟨rfl, no⟩ | ⟨b, B, rfl, eB, bd, sat⟩
  · refine .inl ⟨?_, no⟩
    rw [r_unify]
    unfold B_unify
    simp -implicitDefEqProofs only [EVB]
    repeat (refine And.intro (by first | omega | decide | (split <;> omega) | (simp only [List.length_map, List.length_append, List.length_cons, List.length_nil]; omega)) ?_)
    rw [show D.tup [l.toD, r.toD] = pqD (l, r) from rfl, e1, Z4R]
    simp -implicitDefEqProofs only [EVB]
    exact old2
  · refine .inr ?_
    obtain ⟨σ, fx⟩ := bd.fx
    obtain ⟨rk, ac⟩ := bd.ac
    have lvl := (bd.lv l).mono (show l.dep + vs.length * (D0 + 1) ≤ m by have := gl.2.2.1; omega)
    have gar := lvl.gar bd fx gl.2.1 gl.2.2.2
    have inn := lvl.inn bd fx gl.1
    have hdep : (sub σ l).dep ≤ D0 + vs.length * (D0 + 1) := by
      have h1 := bd.dep fx l
      have h2 := gl.2.2.1
      omega
    refine ⟨σ, ⟨(sat σ).mp fx.sat, fun θ e t => fx.mgu ac ((sat θ).mpr e) t⟩, ⟨inn, gar.1, gar.2, hdep⟩, ?_⟩
    have qr := sp_resolved vs hv D0 b bd σ fx B h1 eB m l lvl gl.1 gl.2.2.2 400 40
    obtain ⟨d2, h2, e2, old3, hd2⟩ := W_get qr
    have old4 : Old h h2 := old2.trans old3
    constructor
    · intro big
      have big' : (400 : Int) < ((sub σ l).size : Int) ∨ (40 : Int) < ((sub σ l).dep : Int) := by omega
      rw [if_pos big'] at hd2
      rw [hd2] at e2
      rw [r_unify]
      refine r_run rfl ?_
      unfold B_unify
      refine r_seqN ?_
      simp -implicitDefEqProofs only [EVB]
      repeat (refine And.intro (by first | omega | decide | (split <;> omega) | (simp only [List.length_map, List.length_append, List.length_cons, List.length_nil]; omega)) ?_)
      rw [show D.tup [l.toD, r.toD] = pqD (l, r) from rfl, e1, Z4R]
      simp -implicitDefEqProofs only [EVB]
      refine r_seqN ?_
      simp -implicitDefEqProofs only [EVB, Z2w]
      refine r_seqN ?_
      simp -implicitDefEqProofs only [EVB]
      rw [e2, Z4R]
      simp -implicitDefEqProofs only [EVB]
      refine r_seqE (r_if ?_)
      simp -implicitDefEqProofs only [EVB]
      exact old4
    · intro small
      have small' : ¬ ((400 : Int) < ((sub σ l).size : Int) ∨ (40 : Int) < ((sub σ l).dep : Int)) := by omega
      rw [if_neg small'] at hd2
      rw [hd2] at e2
      rw [r_unify]
      unfold B_unify
      simp -implicitDefEqProofs only [EVB]
      repeat (refine And.intro (by first | omega | decide | (split <;> omega) | (simp only [List.length_map, List.length_append, List.length_cons, List.length_nil]; omega)) ?_)
      rw [show D.tup [l.toD, r.toD] = pqD (l, r) from rfl, e1, Z4R]
      simp -implicitDefEqProofs only [EVB, Z2w]
      rw [e2, Z4R]
      have nn : isNon (sub σ l).toD = false := by
        cases sub σ l with
        | v i => rw [toD_v]; rfl
        | a f as => rw [toD_a]; rfl
      simp -implicitDefEqProofs only [EVB, nn, Z2w]
      repeat (refine And.intro (by first | omega | decide | (split <;> omega) | (simp only [List.length_map, List.length_append, List.length_cons, List.length_nil]; omega)) ?_)
      obtain ⟨k, hk⟩ : ∃ k, m = k + 1 := ⟨m - 1, by omega⟩
      subst hk
      have q1 := sp_numbered vs okv hv k [sub σ l] h2 (fun t ht => by rw [List.mem_singleton.mp ht]; exact ⟨inn, by omega, gar.2⟩) (by simp)
      refine W_mono q1 fun d h' q => ?_
      obtain ⟨e3, g, e4⟩ := q
      rw [e3, e4, nums_one]
      simp -implicitDefEqProofs only [EVB]
      exact old4.app
end Q

set_option Elab.async false
set_option linter.all false
set_option maxRecDepth 100000
set_option maxHeartbeats 4000000
namespace Q
open PySem PySem.Spec PyProof.Rows L2 DL
theorem sp__law_collect (vs : List Int) (okv : OkI vs) (hv : vs.length ≤ 100000) (f : Nat) (t : T) : ∀ n l h, t.dep ≤ n → t.In vs → NdIn vs l → h[f]? = some (.lst (l.map D.int)) → W (run n i__law_collect [t.toD, .ref f] h) (fun d h' => d = .non ∧ h' = h.set f (.lst ((noteV t l).map D.int))) := by
  refine T.ind (P := fun t => ∀ n l h, t.dep ≤ n → t.In vs → NdIn vs l → h[f]? = some (.lst (l.map D.int)) → W (run n i__law_collect [t.toD, .ref f] h) (fun d h' => d = .non ∧ h' = h.set f (.lst ((noteV t l).map D.int)))) (fun i n l h hd g ol e => ?_) (fun nm as ih n l h hd g ol e => ?_) t
  · rw [dep_v] at hd
    obtain ⟨m, rfl⟩ : ∃ m, n = m + 1 := ⟨n - 1, by omega⟩
    rw [r__law_collect, toD_v]
    unfold B__law_collect
    have hi : i ∈ vs := by cases g; assumption
    have gi := okv i hi
    have := nd_len ol
    simp -implicitDefEqProofs only [EVB, e, any_nums]
    refine ⟨⟨okP_int gi.1 gi.2, okP_ints (nd_i okv ol)⟩, ?_⟩
    rw [← decide_not]
    refine if_d (fun c => ?_) (fun c => ?_)
    · simp -implicitDefEqProofs only [EVB, e]
      repeat (refine And.intro (by first | omega | decide | (split <;> omega) | (simp only [List.length_map, List.length_append, List.length_cons, List.length_nil]; omega)) ?_)
      rw [noteV_v, insI, if_neg c, List.map_append]
      rfl
    · simp -implicitDefEqProofs only [EVB]
      rw [noteV_v, insI, if_pos (Decidable.of_not_not c), set_same e]
  · rw [dep_a] at hd
    obtain ⟨m, rfl⟩ : ∃ m, n = m + 1 := ⟨n - 1, by omega⟩
    rw [r__law_collect, toD_a]
    unfold B__law_collect
    simp -implicitDefEqProofs only [EVB, cutL_1]
    refine loopS_i (fun k σ h' => h' = h.set f (.lst ((noteVs (as.take k) l).map D.int)) ∧ ∃ x2, σ = [some (D.tup (D.str nm :: as.map T.toD)), some (.ref f), x2]) ⟨by rw [List.take_zero, noteVs_0, set_same e], none, rfl⟩ (fun _ _ _ _ => by trivial) (fun k σ h' y ey p => ?_) fun σ h' p => ?_
    · obtain ⟨rfl, x2, rfl⟩ := p
      obtain ⟨t, et, rfl, ht⟩ := map_at ey
      simp -implicitDefEqProofs only [EVB]
      refine W_mono (ih t ht m (noteVs (as.take k) l) _ (Nat.le_trans (deps_le ht) (by omega)) (g.parts t ht) (nd_vs (fun u hu => g.parts u (List.mem_of_mem_take hu)) ol) (set_at e)) fun d h' q => ?_
      obtain ⟨rfl, rfl⟩ := q
      simp -implicitDefEqProofs only [EVB, noteVs_take et, set_set]
      exact ⟨_, rfl⟩
    · obtain ⟨rfl, x2, rfl⟩ := p
      rw [List.length_map, List.take_length]
      simp -implicitDefEqProofs only [EVB, noteV_a]
theorem sp__law_variables (vs : List Int) (okv : OkI vs) (hv : vs.length ≤ 100000) (n r : Nat) (ts : List T) (h : DHeap) (g : ∀ t, t ∈ ts → t.In vs ∧ t.dep ≤ n) (hr : h[r]? = some (.lst (ts.map T.toD))) : W (run (n + 1) i__law_variables [.ref r] h) (fun d h' => d = .ref h.length ∧ h' = h ++ [.lst ((noteVs ts []).map D.int)]) := by
  rw [r__law_variables]
  unfold B__law_variables
  simp -implicitDefEqProofs only [EVB, app_at hr]
  repeat (refine And.intro (by first | omega | decide | (split <;> omega) | (simp only [List.length_map, List.length_append, List.length_cons, List.length_nil]; omega)) ?_)
  refine loopS_i (fun k σ h' => h' = h ++ [.lst ((noteVs (ts.take k) []).map D.int)] ∧ ∃ x2, σ = [some (.ref r), some (.ref h.length), x2]) ⟨by rw [List.take_zero, noteVs_0]; rfl, none, rfl⟩ (fun _ _ _ p => by rw [p.1]; exact app_at hr) (fun k σ h' y ey p => ?_) fun σ h' p => ?_
  · obtain ⟨rfl, x2, rfl⟩ := p
    obtain ⟨t, et, rfl, ht⟩ := map_at ey
    simp -implicitDefEqProofs only [EVB]
    refine W_mono (sp__law_collect vs okv hv h.length t n (noteVs (ts.take k) []) _ (g t ht).2 (g t ht).1 (nd_vs (fun u hu => (g u (List.mem_of_mem_take hu)).1) nd_0) app_end) fun d h' q => ?_
    obtain ⟨rfl, rfl⟩ := q
    simp -implicitDefEqProofs only [EVB, noteVs_take et, set_end]
    exact ⟨_, rfl⟩
  · obtain ⟨rfl, x2, rfl⟩ := p
    rw [List.length_map, List.take_length]
    simp -implicitDefEqProofs only [EVB]
theorem sp__law_replaced (f : Nat) (l : Tab) (h : DHeap) (e : h[f]? = some (.dic (tD l))) (t : T) : ∀ n, t.Ar → t.dep ≤ n → W (run n i__law_replaced [t.toD, .ref f] h) (fun d h' => d = (rep l t).toD ∧ h' = h) := by
  refine T.ind (P := fun t => ∀ n, t.Ar → t.dep ≤ n → W (run n i__law_replaced [t.toD, .ref f] h) (fun d h' => d = (rep l t).toD ∧ h' = h)) (fun i n hs hd => ?_) (fun nm as ih n hs hd => ?_) t
  · rw [dep_v] at hd
    obtain ⟨m, rfl⟩ : ∃ m, n = m + 1 := ⟨n - 1, by omega⟩
    rw [r__law_replaced, toD_v, rep_v]
    unfold B__law_replaced
    simp -implicitDefEqProofs only [EVB, e, lookD_t]
    cases el : lookT l i with
    | some u =>
      simp -implicitDefEqProofs only [EVB, Option.map_some, Option.isSome_some, Z2v, e, lookD_t, el]
      rfl
    | none =>
      simp -implicitDefEqProofs only [EVB, Option.map_none, Option.isSome_none, Z2w]
      exact (toD_v i).symm
  · rw [dep_a] at hd
    have hln := hs.len
    obtain ⟨m, rfl⟩ : ∃ m, n = m + 1 := ⟨n - 1, by omega⟩
    rw [r__law_replaced, toD_a, rep_a]
    unfold B__law_replaced
    simp -implicitDefEqProofs only [EVB, cutL_1]
    refine ⟨by omega, by rw [List.length_map]; omega, W_mono (loopC_m T.toD (fun t => (rep l t).toD) as h rfl fun t ht => ?_) fun ys h' q => ?_⟩
    · simp -implicitDefEqProofs only [EVB]
      refine W_mono (ih t ht m (hs.parts t ht) (Nat.le_trans (deps_le ht) (by omega))) fun d h' q => ?_
      obtain ⟨rfl, rfl⟩ := q
      simp -implicitDefEqProofs only [EVB]
    · obtain ⟨rfl, rfl⟩ := q
      simp -implicitDefEqProofs only [EVB]
      rw [toD_a, List.map_map]
      exact ⟨by rw [List.length_map]; omega, rfl⟩
theorem sp__law_numbered (vs : List Int) (okv : OkI vs) (hv : vs.length ≤ 100000) (n r : Nat) (ts : List T) (h : DHeap) (g : ∀ t, t ∈ ts → t.In vs ∧ t.dep ≤ n ∧ t.Ar) (hl : ts.length ≤ 16000000) (hr : h[r]? = some (.lst (ts.map T.toD))) : W (run (n + 1 + 1) i__law_numbered [.ref r] h) (fun d h' => ∃ R, d = .ref R ∧ h'[R]? = some (.lst ((nums ts).map T.toD)) ∧ Old h h') := by
  rw [r__law_numbered]
  unfold B__law_numbered
  simp -implicitDefEqProofs only [EVB]
  refine W_mono (sp__law_variables vs okv hv n r ts h (fun t ht => ⟨(g t ht).1, (g t ht).2.1⟩) hr) fun a1 a2 q => ?_
  obtain ⟨e1, e2⟩ := q
  rw [e1, e2]
  clear e1 e2 a1 a2
  have nd : NdIn vs (noteVs ts []) := nd_vs (fun t ht => (g t ht).1) nd_0
  have hn := nd_len nd
  generalize ho : noteVs ts [] = o at nd hn
  simp -implicitDefEqProofs only [EVB, app_at (app_end (h := h) (c := Cell.lst (o.map D.int))), List.length_map]
  repeat (refine And.intro (by first | omega | decide | (split <;> omega) | (simp only [List.length_map, List.length_append, List.length_cons, List.length_nil]; omega)) ?_)
  refine loopS_i (fun k σ h' => h' = h ++ [Cell.lst (o.map D.int)] ++ [.dic (tD (numL 0 (o.take k)))] ∧ ∃ x3, σ = [some (.ref r), some (.ref h.length), some (.ref (h ++ [Cell.lst (o.map D.int)]).length), x3, none]) ⟨by rw [List.take_zero]; rfl, none, rfl⟩ (fun _ _ _ _ => by trivial) (fun k σ h' y ey p => ?_) fun σ h' p => ?_
  · obtain ⟨rfl, x3, rfl⟩ := p
    obtain ⟨hk, rfl⟩ := range_at ey
    have hk : k < o.length := by omega
    have e : atI (o.map D.int) (k : Int) = some (.int o[k]) := by rw [atI_n, List.getElem?_map, List.getElem?_eq_getElem hk]; rfl
    have hnk : lookT (numL 0 (o.take k)) o[k] = none := by
      cases q : lookT (numL 0 (o.take k)) o[k] with
      | none => rfl
      | some u =>
        have h1 := look_key q
        rw [numL_keys] at h1
        have h2 := nd.1
        rw [← List.take_append_drop k o, List.nodup_append] at h2
        exact absurd rfl (h2.2.2 _ h1 _ (by rw [List.drop_eq_getElem_cons hk]; exact List.mem_cons_self))
    have eh : (h ++ [Cell.lst (o.map D.int)] ++ [Cell.dic (tD (numL 0 (o.take k)))])[(h ++ [Cell.lst (o.map D.int)]).length]? = some (.dic (tD (numL 0 (o.take k)))) := app_end
    have eo : (h ++ [Cell.lst (o.map D.int)] ++ [Cell.dic (tD (numL 0 (o.take k)))])[h.length]? = some (.lst (o.map D.int)) := app_at app_end
    simp -implicitDefEqProofs only [EVB, eo, eh, e, tD_len, numL_len, List.length_take]
    have en : putD (tD (numL 0 (o.take k))) (.inl o[k]) (.int (k : Int)) = tD (numL 0 (o.take (k + 1))) := by
      have e1 : D.int (k : Int) = (T.v (k : Int)).toD := (toD_v _).symm
      rw [e1, tD_putT, putT_new hnk]
      congr 1
      apply List.ext_getElem?
      intro i
      rw [numL_at]
      by_cases hi : i < k
      · rw [List.getElem?_append_left (by rw [numL_len, List.length_take]; omega), numL_at, List.getElem?_take_of_lt hi, List.getElem?_take_of_lt (by omega)]
      · by_cases hi2 : i = k
        · subst hi2
          rw [List.getElem?_append_right (by rw [numL_len, List.length_take]; omega), numL_len, List.length_take, List.getElem?_take_of_lt (by omega), List.getElem?_eq_getElem hk, show i - min i o.length = 0 by omega, Nat.zero_add]
          rfl
        · rw [List.getElem?_eq_none (by rw [List.length_append, numL_len, List.length_take]; simp; omega), List.getElem?_eq_none (by rw [List.length_take]; omega)]
          rfl
    refine ⟨by omega, ?_⟩
    rw [en, set_end]
    exact ⟨rfl, _, rfl⟩
  · obtain ⟨rfl, x3, rfl⟩ := p
    rw [range_len, List.take_of_length_le (by omega)]
    have eh : (h ++ [Cell.lst (o.map D.int)] ++ [Cell.dic (tD (numL 0 o))])[(h ++ [Cell.lst (o.map D.int)]).length]? = some (.dic (tD (numL 0 o))) := app_end
    have er : (h ++ [Cell.lst (o.map D.int)] ++ [Cell.dic (tD (numL 0 o))])[r]? = some (.lst (ts.map T.toD)) := app_at (app_at hr)
    simp -implicitDefEqProofs only [EVB, er]
    refine And.intro (by rw [List.length_map]; omega) ?_
    refine W_mono (loopC_r T.toD (fun t => (rep (numL 0 o) t).toD) ts _ er fun t ht => ?_) fun ys h' q => ?_
    · simp -implicitDefEqProofs only [EVB]
      refine W_mono (sp__law_replaced _ (numL 0 o) _ eh t (n + 1) (g t ht).2.2 (by have := (g t ht).2.1; omega)) fun d h' q => ?_
      obtain ⟨e1, e2⟩ := q
      rw [e1, e2]
      simp -implicitDefEqProofs only [EVB]
    · obtain ⟨e1, e2⟩ := q
      rw [e1, e2]
      simp -implicitDefEqProofs only [EVB]
      refine ⟨_, rfl, ?_, Old.refl.app.app.app⟩
      unfold nums
      rw [ho, List.map_map]
      exact app_end
end Q

set_option Elab.async false
set_option linter.all false
set_option maxRecDepth 100000
set_option maxHeartbeats 4000000
namespace Q
open PySem PySem.Spec PyProof.Rows L2 DL
theorem sp__law_resolved (vs : List Int) (hv : vs.length ≤ 100000) (D0 : Nat) (b : Tab) (bd : Bd vs D0 b) (B n : Nat) (t : T) (h : DHeap) (e : h[B]? = some (.dic (tD b))) : W (run (n + 1) i__law_resolved [t.toD, .ref B] h) (fun d h' => h' = h ∧ ∃ u : T, d = u.toD ∧ Rte b t u) := by
  obtain ⟨r, ac⟩ := bd.ac
  have hlb := bd.len
  have hkl : (keysT b).length = b.length := by unfold keysT; rw [List.length_map]
  rw [r__law_resolved]
  unfold B__law_resolved
  simp -implicitDefEqProofs only [EVB, e, tD_len]
  repeat (refine And.intro (by first | omega | decide | (split <;> omega) | (simp only [List.length_map, List.length_append, List.length_cons, List.length_nil]; omega)) ?_)
  refine loopS_i (fun k σ h' => h' = h ∧ ∃ (t' : T) (x2 : Option D), σ = [some t'.toD, some (.ref B), x2] ∧ (∀ u, Rte b t' u → Rte b t u) ∧ k + cnt r (keysT b) (rkT r t') ≤ b.length) ⟨rfl, t, none, rfl, fun _ h => h, by rw [Nat.zero_add, ← hkl]; exact cnt_le _ _ _⟩ (fun _ _ _ _ => by trivial) (fun k σ h' y ey p => ?_) fun σ h' p => ?_
  · obtain ⟨rfl, t', x2, rfl, hr, hk⟩ := p
    cases t' with
    | a f as =>
      rw [toD_a]
      simp -implicitDefEqProofs only [EVB, Z2v]
      exact ⟨_, (toD_a f as).symm, hr _ .app⟩
    | v x =>
      rw [toD_v]
      simp -implicitDefEqProofs only [EVB, Z2w, e, lookD_t]
      cases el : lookT b x with
      | none =>
        simp -implicitDefEqProofs only [EVB, Option.map_none, Option.isSome_none, Z2v]
        exact ⟨.v x, (toD_v x).symm, hr _ (.un el)⟩
      | some s =>
        simp -implicitDefEqProofs only [EVB, Option.map_some, Option.isSome_some, Z2w, e, lookD_t, el]
        refine ⟨s, _, rfl, fun u hu => hr _ (.st el hu), ?_⟩
        have := cnt_next ac el
        simp only [rkT] at hk
        omega
  · obtain ⟨rfl, t', x2, rfl, hr, hk⟩ := p
    rw [range_len] at hk
    omega
theorem sp__law_occurs (vs : List Int) (okv : OkI vs) (hv : vs.length ≤ 100000) (D0 : Nat) (b : Tab) (bd : Bd vs D0 b) (σ0 : Sb) (fx : Fx b σ0) (x : Int) (B : Nat) (h : DHeap) (eB : h[B]? = some (.dic (tD b))) : ∀ n t, Lv b n t → W (run (n + 1) i__law_occurs [.int x, t.toD, .ref B] h) (fun d h' => h' = h ∧ ∃ ok, d = .bl ok ∧ (ok = true ↔ Oc x (sub σ0 t))) := by
  intro n
  induction n with
  | zero => intro t l; exact absurd l.pos (by omega)
  | succ n ih =>
    intro t l
    rw [r__law_occurs]
    unfold B__law_occurs
    simp -implicitDefEqProofs only [EVB]
    refine W_mono (sp__law_resolved vs hv D0 b bd B n t h eB) fun d h' q => ?_
    obtain ⟨e2, u, e1, ru⟩ := q
    rw [e1, e2]
    clear e1 e2 d h'
    have lu := ru.lv l
    rw [ru.sat fx.sat]
    cases u with
    | v y =>
      rw [toD_v]
      simp -implicitDefEqProofs only [EVB]
      refine ⟨decide (y = x), rfl, ?_⟩
      rw [sub_v, fx.un y ru.end_, oc_v, decide_eq_true_eq]
      exact eq_comm
    | a f as =>
      rw [toD_a]
      have lp : ∀ t, t ∈ as → Lv b n t := by cases lu with | a h => exact h
      simp -implicitDefEqProofs only [EVB, cutL_1]
      refine loopS_i (fun k σ h' => h' = h ∧ ∃ x3, σ = [some (D.int x), some (D.tup (D.str f :: as.map T.toD)), some (D.ref B), x3] ∧ ∀ t, t ∈ as.take k → ¬ Oc x (sub σ0 t)) ⟨rfl, none, rfl, fun t ht => absurd ht (by simp)⟩ (fun _ _ _ _ => by trivial) (fun k σ h' z ez p => ?_) fun σ h' p => ?_
      · obtain ⟨rfl, x3, rfl, q1⟩ := p
        obtain ⟨t, et, rfl, ht⟩ := map_at ez
        simp -implicitDefEqProofs only [EVB]
        refine W_mono (ih t (lp t ht)) fun d h2 q => ?_
        obtain ⟨e2, ok, e1, r1⟩ := q
        rw [e1, e2]
        simp -implicitDefEqProofs only [EVB]
        cases ok with
        | true =>
          simp -implicitDefEqProofs only [EVB, Z2v]
          refine ⟨true, rfl, ⟨fun _ => ?_, fun _ => rfl⟩⟩
          rw [sub_a]
          exact .a (List.mem_map.mpr ⟨t, ht, rfl⟩) (r1.mp rfl)
        | false =>
          simp -implicitDefEqProofs only [EVB, Z2w]
          refine ⟨_, rfl, fun u hu => ?_⟩
          rw [List.take_add_one, et] at hu
          rcases List.mem_append.mp hu with hu | hu
          · exact q1 u hu
          · rw [List.mem_singleton.mp hu]
            exact fun w => by have := r1.mpr w; cases this
      · obtain ⟨rfl, x3, rfl, q1⟩ := p
        rw [List.length_map, List.take_length] at q1
        simp -implicitDefEqProofs only [EVB]
        refine ⟨false, rfl, ⟨(fun z => by cases z), fun w => ?_⟩⟩
        rw [sub_a] at w
        obtain ⟨u, hu, ho⟩ := oc_a.mp w
        obtain ⟨t, ht, rfl⟩ := List.mem_map.mp hu
        exact (q1 t ht ho).elim
theorem sp__law_unified__xv (vs : List Int) (okv : OkI vs) (hv : vs.length ≤ 100000) (D0 : Nat) (hD : D0 ≤ 60) (b : Tab) (bd : Bd vs D0 b) (B : Nat) (n : Nat) (hn : D0 + vs.length * (D0 + 1) + 1 ≤ n) (x : Int) (hx : x ∈ vs) (el : lookT b x = none) (r : T) (gr : r.In vs ∧ r.G ∧ r.dep ≤ D0 ∧ r.Ar) (h : DHeap) (eB : h[B]? = some (.dic (tD b))) :
    W (run (n + 1) i__law_unified [.int x, r.toD, .ref B] h) (fun d h' => ∃ ok b', d = .bl ok ∧ h' = h.set B (.dic (tD b')) ∧ Bd vs D0 b' ∧ Ex b b' ∧ (ok = true → ∀ θ, Sat θ b' ↔ Sat θ b ∧ θ x = sub θ r) ∧ (ok = false → NoU b (.v x, r))) := by
  obtain ⟨m, rfl⟩ : ∃ m, n = m + 1 := ⟨n - 1, by omega⟩
  have hlb := bd.len
  have hx0 := okv x hx
  obtain ⟨σ0, fx⟩ := bd.fx
  obtain ⟨rk, ac⟩ := bd.ac
  rw [r__law_unified]
  unfold B__law_unified
  simp -implicitDefEqProofs only [EVB]
  have qr := sp__law_resolved vs hv D0 b bd B m (.v x) h eB
  rw [toD_v] at qr
  refine W_mono qr fun d h' q => ?_
  obtain ⟨e2, u, e1, ru⟩ := q
  have hu : u = .v x := by
    cases ru with
    | un _ => rfl
    | st e _ => rw [el] at e; cases e
  rw [e1, e2, hu, toD_v]
  clear e1 e2 d h' hu ru u qr
  simp -implicitDefEqProofs only [EVB]
  refine W_mono (sp__law_resolved vs hv D0 b bd B m r h eB) fun d h' q => ?_
  obtain ⟨e2, u, e1, ru⟩ := q
  rw [e1, e2]
  clear e1 e2 d h'
  have gu := ru.gd bd gr
  have okx : okP (T.v x).toD = true := okP_T (.v hx0.1 hx0.2) (by rw [dep_v]; decide)
  have oku : okP u.toD = true := okP_T gu.2.1 (by have := gu.2.2.1; omega)
  have q0 : ∀ {Q : QD} {h : DHeap}, W (eqD (.int x) u.toD h) Q = Q (.bl (decide (T.v x = u))) h := fun {Q h} => by
    rw [← toD_v x, o_eqT okx oku, eqB_dec]
  simp -implicitDefEqProofs only [EVB, q0]
  refine if_d (fun c => ?_) (fun c => ?_)
  · simp -implicitDefEqProofs only [EVB]
    refine ⟨true, b, rfl, (set_same eB).symm, bd, Ex.refl, fun _ θ => ⟨fun s => ⟨s, ?_⟩, fun z => z.1⟩, fun z => by cases z⟩
    rw [ru.sat s, ← c, sub_v]
  · have lu := (bd.lv u).mono (show u.dep + vs.length * (D0 + 1) ≤ m by have := gu.2.2.1; omega)
    simp -implicitDefEqProofs only [EVB]
    refine W_mono (sp__law_occurs vs okv hv D0 b bd σ0 fx x B h eB m u lu) fun d h' q => ?_
    obtain ⟨e2, ok, e1, ho⟩ := q
    rw [e1, e2]
    clear e1 e2 d h'
    cases ok with
    | true =>
      simp -implicitDefEqProofs only [EVB, Z2v]
      refine ⟨false, b, rfl, (set_same eB).symm, bd, Ex.refl, (fun z => by cases z), fun _ θ s e => ?_⟩
      refine occ_no' ac el fx s (ho.mp rfl) ?_ (by unfold Eqs at e; rw [sub_v, ru.sat s] at e; exact e)
      intro z
      cases u with
      | a f as => rw [sub_a] at z; cases z
      | v y =>
        rw [sub_v, fx.un y ru.end_] at z
        exact c z.symm
    | false =>
      have no : ¬ Oc x (sub σ0 u) := fun w => by have := ho.mpr w; cases this
      simp -implicitDefEqProofs only [EVB, Z2w, eB, tD_len, tD_putT]
      refine ⟨by omega, true, _, rfl, rfl, bd.bind' hx gu el fx no, Ex.put el u, fun _ θ => ?_, fun z => by cases z⟩
      rw [Sat.put el]
      exact and_congr_right fun s => by rw [ru.sat s]
theorem sp__law_unified (vs : List Int) (okv : OkI vs) (hv : vs.length ≤ 100000) (D0 : Nat) (hD : D0 ≤ 60) (B : Nat) : ∀ (n : Nat) (l r : T) (b : Tab) (h : DHeap), Bd vs D0 b → (l.In vs ∧ l.G ∧ l.dep ≤ D0 ∧ l.Ar) → (r.In vs ∧ r.G ∧ r.dep ≤ D0 ∧ r.Ar) → (∀ b' σ', Bd vs D0 b' → Ex b b' → Fx b' σ' → (sub σ' l).dep + (D0 + vs.length * (D0 + 1)) + 2 ≤ n) → h[B]? = some (.dic (tD b)) →
    W (run (n + 1) i__law_unified [l.toD, r.toD, .ref B] h) (fun d h' => ∃ ok b', d = .bl ok ∧ h' = h.set B (.dic (tD b')) ∧ Bd vs D0 b' ∧ Ex b b' ∧ (ok = true → ∀ θ, Sat θ b' ↔ Sat θ b ∧ sub θ l = sub θ r) ∧ (ok = false → NoU b (l, r))) := by
  intro n
  induction n with
  | zero =>
    intro l r b h bd gl gr hH
    obtain ⟨σ, fx⟩ := bd.fx
    have := hH b σ bd Ex.refl fx
    omega
  | succ n ih =>
    intro l r b h bd gl gr hH eB
    obtain ⟨σ0, fx⟩ := bd.fx
    obtain ⟨rk, ac⟩ := bd.ac
    have hn0 := hH b σ0 bd Ex.refl fx
    have hlb := bd.len
    have inv : ∀ {y : Int}, (T.v y).In vs → y ∈ vs := fun h => by cases h; assumption
    -- the left one is a variable: told before
    rw [r__law_unified]
    unfold B__law_unified
    simp -implicitDefEqProofs only [EVB]
    refine W_mono (sp__law_resolved vs hv D0 b bd B n l h eB) fun d h' q => ?_
    obtain ⟨e2, u1, e1, ru1⟩ := q
    rw [e1, e2]
    clear e1 e2 d h'
    simp -implicitDefEqProofs only [EVB]
    refine W_mono (sp__law_resolved vs hv D0 b bd B n r h eB) fun d h' q => ?_
    obtain ⟨e2, u2, e1, ru2⟩ := q
    rw [e1, e2]
    clear e1 e2 d h'
    have g1 := ru1.gd bd gl
    have g2 := ru2.gd bd gr
    have ok1 : okP u1.toD = true := okP_T g1.2.1 (by have := g1.2.2.1; omega)
    have ok2 : okP u2.toD = true := okP_T g2.2.1 (by have := g2.2.2.1; omega)
    simp -implicitDefEqProofs only [EVB, o_eqT ok1 ok2, eqB_dec]
    refine if_d (fun c => ?_) (fun c => ?_)
    · simp -implicitDefEqProofs only [EVB]
      refine ⟨true, b, rfl, (set_same eB).symm, bd, Ex.refl, fun _ θ => ⟨fun s => ⟨s, ?_⟩, fun z => z.1⟩, fun z => by cases z⟩
      rw [ru1.sat s, ru2.sat s, c]
    cases u1 with
    | v x =>
      have el := ru1.end_
      have lu := (bd.lv u2).mono (show u2.dep + vs.length * (D0 + 1) ≤ n by have := g2.2.2.1; have := dep_pos (sub σ0 l); omega)
      rw [toD_v]
      simp -implicitDefEqProofs only [EVB]
      refine W_mono (sp__law_occurs vs okv hv D0 b bd σ0 fx x B h eB n u2 lu) fun d h' q => ?_
      obtain ⟨e2, ok, e1, ho⟩ := q
      rw [e1, e2]
      clear e1 e2 d h'
      cases ok with
      | true =>
        simp -implicitDefEqProofs only [EVB, Z2v]
        refine ⟨false, b, rfl, (set_same eB).symm, bd, Ex.refl, (fun z => by cases z), fun _ θ s e => ?_⟩
        refine occ_no' ac el fx s (ho.mp rfl) ?_ (by unfold Eqs at e; rw [ru1.sat s, sub_v, ru2.sat s] at e; exact e)
        intro z
        cases u2 with
        | a f as => rw [sub_a] at z; cases z
        | v y =>
          rw [sub_v, fx.un y ru2.end_] at z
          exact c z.symm
      | false =>
        have no : ¬ Oc x (sub σ0 u2) := fun w => by have := ho.mpr w; cases this
        simp -implicitDefEqProofs only [EVB, Z2w, eB, tD_len, tD_putT]
        refine ⟨by omega, true, _, rfl, rfl, bd.bind' (inv g1.1) g2 el fx no, Ex.put el u2, fun _ θ => ?_, fun z => by cases z⟩
        rw [Sat.put el]
        exact and_congr_right fun s => by rw [ru1.sat s, ru2.sat s, sub_v]
    | a f as =>
      rw [toD_a]
      cases u2 with
      | v x =>
        rw [toD_v]
        simp -implicitDefEqProofs only [EVB, Z2w]
        rw [← toD_a]
        refine W_mono (sp__law_unified__xv vs okv hv D0 hD b bd B n (by have := dep_pos (sub σ0 l); omega) x (inv g2.1) ru2.end_ (.a f as) g1 h eB) fun d h' q => ?_
        obtain ⟨ok, b', e1, e2, bd', ex, q1, q2⟩ := q
        rw [e1, e2]
        refine ⟨ok, b', rfl, rfl, bd', ex, fun z θ => ?_, fun z θ s e => ?_⟩
        · rw [q1 z θ]
          refine and_congr_right fun s => ?_
          rw [ru1.sat s, ru2.sat s, sub_v]
          exact eq_comm
        · refine q2 z θ s ?_
          unfold Eqs at e ⊢
          rw [ru1.sat s, ru2.sat s] at e
          exact e.symm
      | a g bs =>
        rw [toD_a]
        simp -implicitDefEqProofs only [EVB, Z2w]
        refine or_i (fun c1 => ?_) (fun c1 => ?_)
        · have c1 : ¬ f = g := by simpa using c1
          simp -implicitDefEqProofs only [EVB, Z2v]
          refine ⟨false, b, rfl, (set_same eB).symm, bd, Ex.refl, (fun z => by cases z), fun _ θ s e => ?_⟩
          unfold Eqs at e
          rw [ru1.sat s, ru2.sat s, sub_a, sub_a] at e
          exact c1 (T.a_inj e).1
        have c1 : f = g := by simpa using c1
        subst c1
        simp -implicitDefEqProofs only [EVB]
        refine if_i (fun c2 => ?_) (fun c2 => ?_)
        · have c2 := ite_len c2
          simp -implicitDefEqProofs only [EVB]
          refine ⟨false, b, rfl, (set_same eB).symm, bd, Ex.refl, (fun z => by cases z), fun _ θ s e => ?_⟩
          unfold Eqs at e
          rw [ru1.sat s, ru2.sat s, sub_a, sub_a] at e
          exact c2 (by have := congrArg List.length (T.a_inj e).2; simpa using this)
        have c2 := ite_len' c2
        have hlA := g1.2.2.2.len
        simp -implicitDefEqProofs only [EVB, List.length_map]
        repeat (refine And.intro (by first | omega | decide | (split <;> omega) | (simp only [List.length_map, List.length_append, List.length_cons, List.length_nil]; omega)) ?_)
        have hnn : ((as.length + 1 : Nat) - (1 : Int)).toNat = as.length := by omega
        rw [hnn]
        have part : ∀ {f : Str} {as : List T}, ((T.a f as).In vs ∧ (T.a f as).G ∧ (T.a f as).dep ≤ D0 ∧ (T.a f as).Ar) → ∀ t, t ∈ as → t.In vs ∧ t.G ∧ t.dep ≤ D0 ∧ t.Ar := fun {f as} g t ht => by
          have := deps_le ht
          have h := g.2.2.1
          rw [dep_a] at h
          exact ⟨g.1.parts t ht, g.2.1.parts t ht, by omega, g.2.2.2.parts t ht⟩
        refine loopS_i (fun k σ h2 => ∃ b' x3, σ = [some (D.tup (D.str f :: as.map T.toD)), some (D.tup (D.str f :: bs.map T.toD)), some (D.ref B), x3] ∧ h2 = h.set B (.dic (tD b')) ∧ Bd vs D0 b' ∧ Ex b b' ∧ ∀ θ, Sat θ b' ↔ Sat θ b ∧ ∀ q, q ∈ (as.zip bs).take k → Eqs θ q) ⟨b, _, rfl, (set_same eB).symm, bd, Ex.refl, fun θ => ⟨fun s => ⟨s, fun q hq => absurd hq (by simp)⟩, fun z => z.1⟩⟩ (fun _ _ _ _ => by trivial) (fun k σ h2 z ez q => ?_) fun σ h2 q => ?_
        · obtain ⟨b', x3, rfl, rfl, bd', ex', sat'⟩ := q
          obtain ⟨hk, rfl⟩ := rangeA_at ez
          obtain ⟨pa, ea, ma⟩ := get_at hk
          obtain ⟨pb, eb, mb⟩ := get_at (l := bs) (k := k) (by omega)
          have e1 : (List.map T.toD as)[k]? = some pa.toD := by rw [List.getElem?_map, ea]; rfl
          have e2 : (List.map T.toD bs)[k]? = some pb.toD := by rw [List.getElem?_map, eb]; rfl
          simp -implicitDefEqProofs only [EVB, atI_s, e1, e2]
          have hH2 : ∀ b'' σ'', Bd vs D0 b'' → Ex b' b'' → Fx b'' σ'' → (sub σ'' pa).dep + (D0 + vs.length * (D0 + 1)) + 2 ≤ n := fun b'' σ'' bd'' ex'' fx'' => by
            have h1 := hH b'' σ'' bd'' (ex'.trans ex'') fx''
            rw [ru1.sat ((ex'.trans ex'').sat fx''.sat), sub_a, dep_a] at h1
            have h2 := deps_le (List.mem_map.mpr ⟨pa, ma, rfl⟩ : sub σ'' pa ∈ as.map (sub σ''))
            omega
          refine W_mono (ih pa pb b' _ bd' (part g1 pa ma) (part g2 pb mb) (fun b'' σ'' h1 h2 h3 => by have := hH2 b'' σ'' h1 h2 h3; omega) (set_at eB)) fun d h' q => ?_
          obtain ⟨ok, b2, e3, e4, bd2, ex2, q1, q2⟩ := q
          rw [e3, e4, set_set]
          simp -implicitDefEqProofs only [EVB]
          cases ok with
          | true =>
            simp -implicitDefEqProofs only [EVB, Z2w]
            refine ⟨b2, _, rfl, rfl, bd2, ex'.trans ex2, fun θ => ?_⟩
            rw [q1 rfl θ, sat' θ, eq_take c2 ea eb, and_assoc]
          | false =>
            simp -implicitDefEqProofs only [EVB, Z2v]
            refine ⟨false, b2, rfl, rfl, bd2, ex'.trans ex2, (fun z => by cases z), fun _ θ s e => ?_⟩
            have hall : ∀ q, q ∈ as.zip bs → Eqs θ q := by
              unfold Eqs at e
              rw [ru1.sat s, ru2.sat s, sub_a, sub_a] at e
              exact (map_zip c2).mp (T.a_inj e).2
            refine q2 rfl θ ((sat' θ).mpr ⟨s, fun q hq => hall q (List.mem_of_mem_take hq)⟩) (hall (pa, pb) ?_)
            have e5 : (as.zip bs)[k]? = some (pa, pb) := by rw [List.getElem?_zip_eq_some]; exact ⟨ea, eb⟩
            exact List.mem_of_getElem? e5
        · obtain ⟨b', x3, rfl, rfl, bd', ex', sat'⟩ := q
          have hz : (as.zip bs).take (rangeL 1 as.length).length = as.zip bs := by
            rw [rangeA_len, List.take_of_length_le]
            rw [List.length_zip]; omega
          rw [hz] at sat'
          simp -implicitDefEqProofs only [EVB]
          refine ⟨true, b', rfl, rfl, bd', ex', fun _ θ => ?_, fun z => by cases z⟩
          rw [sat' θ]
          refine and_congr_right fun s => ?_
          rw [ru1.sat s, ru2.sat s, sub_a, sub_a, ← map_zip c2]
          exact ⟨fun e => by rw [e], fun e => (T.a_inj e).2⟩
theorem sp__law_full (vs : List Int) (hv : vs.length ≤ 100000) (D0 : Nat) (b : Tab) (bd : Bd vs D0 b) (σ0 : Sb) (fx : Fx b σ0) (B : Nat) (h : DHeap) (eB : h[B]? = some (.dic (tD b))) : ∀ n t, Lv b n t → t.Ar → W (run (n + 1) i__law_full [t.toD, .ref B] h) (fun d h' => d = (sub σ0 t).toD ∧ h' = h) := by
  intro n
  induction n with
  | zero => intro t l; exact absurd l.pos (by omega)
  | succ n ih =>
    intro t l ha
    rw [r__law_full]
    unfold B__law_full
    simp -implicitDefEqProofs only [EVB]
    refine W_mono (sp__law_resolved vs hv D0 b bd B n t h eB) fun d h' q => ?_
    obtain ⟨e2, u, e1, ru⟩ := q
    rw [e1, e2]
    clear e1 e2 d h'
    have lu := ru.lv l
    have au : u.Ar := by
      clear lu
      induction ru with
      | app => exact ha
      | un _ => exact ha
      | st e _ ih =>
        refine ih ?_ (bd.look e).2.2.2
        cases l with
        | u e2 => rw [e] at e2; cases e2
        | b e2 l => rw [e] at e2; cases e2; exact l.mono (Nat.le_succ _)
    rw [ru.sat fx.sat]
    cases u with
    | v y =>
      rw [toD_v, sub_v, fx.un y ru.end_, toD_v]
      simp -implicitDefEqProofs only [EVB]
    | a f as =>
      have lp : ∀ t, t ∈ as → Lv b n t := by cases lu with | a h => exact h
      have hln := au.len
      rw [toD_a, sub_a, toD_a]
      simp -implicitDefEqProofs only [EVB, cutL_1]
      refine ⟨by omega, by rw [List.length_map]; omega, W_mono (loopC_m T.toD (fun t => (sub σ0 t).toD) as h rfl fun t ht => ?_) fun ys h' q => ?_⟩
      · simp -implicitDefEqProofs only [EVB]
        refine W_mono (ih t (lp t ht) (au.parts t ht)) fun d h' q => ?_
        obtain ⟨e1, e2⟩ := q
        rw [e1, e2]
        simp -implicitDefEqProofs only [EVB]
      · obtain ⟨e1, e2⟩ := q
        rw [e1, e2]
        simp -implicitDefEqProofs only [EVB]
        rw [List.map_map]
        exact ⟨by rw [List.length_map]; omega, rfl⟩
theorem sp__law_common (vs : List Int) (okv : OkI vs) (hv : vs.length ≤ 100000) (D0 : Nat) (hD : D0 ≤ 60) (n : Nat) (l r : T) (gl : l.In vs ∧ l.G ∧ l.dep ≤ D0 ∧ l.Ar) (gr : r.In vs ∧ r.G ∧ r.dep ≤ D0 ∧ r.Ar) (h : DHeap) (hn : 2 * (D0 + vs.length * (D0 + 1)) + 4 ≤ n) :
    W (run (n + 1) i__law_common [l.toD, r.toD] h) (fun d h' => Old h h' ∧ ((d = .non ∧ ∀ θ, sub θ l ≠ sub θ r) ∨ ∃ σ, Mg σ l r ∧ d = (num (sub σ l)).toD ∧ (sub σ l).Ar ∧ (sub σ l).G ∧ (sub σ l).In vs)) := by
  obtain ⟨m, rfl⟩ : ∃ m, n = m + 1 := ⟨n - 1, by omega⟩
  rw [r__law_common]
  unfold B__law_common
  simp -implicitDefEqProofs only [EVB]
  have qu := sp__law_unified vs okv hv D0 hD h.length m l r [] (h ++ [.dic []]) .nil gl gr (fun b' σ' bd' _ fx' => by
    have h1 := bd'.dep fx' l
    have h2 := gl.2.2.1
    omega) app_end
  refine W_mono qu fun d h' q => ?_
  obtain ⟨ok, b', e1, e2, bd', _, q1, q2⟩ := q
  rw [e1, e2, set_end]
  clear e1 e2 d h'
  have sat0 : ∀ θ, Sat θ ([] : Tab) := fun θ x t e => by cases e
  cases ok with
  | false =>
    simp -implicitDefEqProofs only [EVB, Z2v]
    exact ⟨Old.refl.app, .inl fun θ e => q2 rfl θ (sat0 θ) e⟩
  | true =>
    obtain ⟨σ, fx⟩ := bd'.fx
    obtain ⟨rk, ac⟩ := bd'.ac
    have lvl := (bd'.lv l).mono (show l.dep + vs.length * (D0 + 1) ≤ m by have := gl.2.2.1; omega)
    have gar := lvl.gar bd' fx gl.2.1 gl.2.2.2
    have inn := lvl.inn bd' fx gl.1
    have hdep : (sub σ l).dep ≤ D0 + vs.length * (D0 + 1) := by
      have h1 := bd'.dep fx l
      have h2 := gl.2.2.1
      omega
    simp -implicitDefEqProofs only [EVB, Z2w]
    refine W_mono (sp__law_full vs hv D0 b' bd' σ fx h.length _ app_end m l lvl gl.2.2.2) fun d h' q => ?_
    obtain ⟨e1, e2⟩ := q
    rw [e1, e2]
    clear e1 e2 d h'
    simp -implicitDefEqProofs only [EVB]
    repeat (refine And.intro (by first | omega | decide | (split <;> omega) | (simp only [List.length_map, List.length_append, List.length_cons, List.length_nil]; omega)) ?_)
    obtain ⟨k, hk⟩ : ∃ k, m = k + 1 := ⟨m - 1, by omega⟩
    subst hk
    refine W_mono (sp__law_numbered vs okv hv k _ [sub σ l] _ (fun t ht => by rw [List.mem_singleton.mp ht]; exact ⟨inn, by omega, gar.2⟩) (by simp) app_end) fun d h' q => ?_
    obtain ⟨R, e1, e2, old⟩ := q
    rw [e1]
    rw [nums_one] at e2
    simp -implicitDefEqProofs only [EVB, e2]
    refine ⟨Old.refl.app.app.trans old, .inr ⟨σ, ⟨?_, fun θ e t => fx.mgu ac (((q1 rfl θ).mpr ⟨sat0 θ, e⟩)) t⟩, rfl, gar.2, gar.1, inn⟩⟩
    exact ((q1 rfl σ).mp fx.sat).2
end Q

set_option Elab.async false
set_option linter.all false
set_option maxRecDepth 100000
set_option maxHeartbeats 4000000
namespace Q
open PySem PySem.Spec PyProof.Rows L2 DL
theorem pad_dep {m s d : Nat} (h : (8 ≤ m - s → 8 * d ≤ s + 7) ∧ (m - s < 8 → 8 * (d + (m - s) / 4 + (m - s) % 4) ≤ m + 40)) (hm : m ≤ 63) (hs : s ≤ m) : d ≤ 12 := by
  rcases Nat.lt_or_ge (m - s) 8 with c | c
  · have := h.2 c; omega
  · have := h.1 c; omega
theorem al_t {f : Str} (h : NmG f) : (T.a f []).G ∧ (T.a f []).Ar ∧ (T.a f []).In [] := ⟨.a h fun _ h => absurd h List.not_mem_nil, .a (by decide) fun _ h => absurd h List.not_mem_nil, .a fun _ h => absurd h List.not_mem_nil⟩
theorem sp__law_pad__xz (n m : Nat) (F : List D → DHeap → Res D) (hF : run (n + 1) i__law_pad = F) (h : DHeap) (hm : m ≤ 63) (h1 : 1 ≤ m) : W (F [.int (m : Int)] h) (fun d h' => h' = h ∧ ∃ t : T, d = t.toD ∧ t.G ∧ t.Ar ∧ t.In [] ∧ t.dep ≤ 12 ∧ t.size = m) := by
  subst hF
  rw [r__law_pad]
  unfold B__law_pad
  have gp : NmG (Str.ofString "pad") := ⟨by decide +kernel, by decide +kernel⟩
  have ga : NmG (Str.ofString "a") := ⟨by decide +kernel, by decide +kernel⟩
  have ka := al_t ga
  have da : (T.a (Str.ofString "a") []).dep = 1 := by rw [dep_a, T.deps]
  have sa : (T.a (Str.ofString "a") []).size = 1 := by rw [size_a, T.sizes]
  have ea : D.tup [.str (Str.ofString "a")] = (T.a (Str.ofString "a") []).toD := by rw [toD_a]; rfl
  have e0 : D.tup [.str (Str.ofString "pad")] = (T.a (Str.ofString "pad") []).toD := by rw [toD_a]; rfl
  have mk : ∀ (t : T) (r : List T), t.G ∧ t.Ar ∧ t.In [] → (∀ u, u ∈ r → u = T.a (Str.ofString "a") []) → r.length ≤ 7 → (T.a (Str.ofString "pad") (t :: r)).G ∧ (T.a (Str.ofString "pad") (t :: r)).Ar ∧ (T.a (Str.ofString "pad") (t :: r)).In [] := fun t r k hr hl => by
    have all : ∀ u, u ∈ t :: r → u.G ∧ u.Ar ∧ u.In [] := fun u hu => by
      rcases List.mem_cons.mp hu with rfl | hu
      · exact k
      · rw [hr u hu]; exact ka
    exact ⟨.a gp fun u hu => (all u hu).1, .a (by rw [List.length_cons]; omega) fun u hu => (all u hu).2.1, .a fun u hu => (all u hu).2.2⟩
  have dpos : ∀ t : T, 1 ≤ t.dep := fun t => by
    cases t with
    | v i => rw [dep_v]; exact Nat.le_refl _
    | a f as => rw [dep_a]; omega
  simp -implicitDefEqProofs only [EVB]
  repeat (refine And.intro (by first | omega | decide | (split <;> omega) | (simp only [List.length_map, List.length_append, List.length_cons, List.length_nil]; omega)) ?_)
  refine loopS_i (fun k σ h' => ∃ (t : T) (s : Nat) (x3 : Option D), σ = [some (.int (m : Int)), some t.toD, some (.int (s : Int)), x3] ∧ h' = h ∧ (t.G ∧ t.Ar ∧ t.In []) ∧ t.size = s ∧ 1 ≤ s ∧ s ≤ m ∧ (k + 1 ≤ s ∨ s = m) ∧ ((8 ≤ m - s → 8 * t.dep ≤ s + 7) ∧ (m - s < 8 → 8 * (t.dep + (m - s) / 4 + (m - s) % 4) ≤ m + 40))) ⟨.a (Str.ofString "pad") [], 1, none, by rw [← e0]; rfl, rfl, al_t gp, by rw [size_a, T.sizes], Nat.le_refl _, h1, .inl (Nat.le_refl _), by rw [dep_a, T.deps]; omega⟩ (fun _ _ _ _ => by trivial) (fun k σ h' y ey p => ?_) fun σ h' p => ?_
  · obtain ⟨t, s, x3, rfl, rfl, kt, hs, s1, sm, kk, inv⟩ := p
    have dt := dpos t
    simp -implicitDefEqProofs only [EVB]
    have pa : ∀ (t : T) (r : List T), D.tup (.str (Str.ofString "pad") :: t.toD :: r.map T.toD) = (T.a (Str.ofString "pad") (t :: r)).toD := fun t r => by rw [toD_a]; rfl
    have dsz : ∀ (t : T) (j : Nat), (T.a (Str.ofString "pad") (t :: List.replicate j (T.a (Str.ofString "a") []))).size = t.size + j + 1 ∧ (T.a (Str.ofString "pad") (t :: List.replicate j (T.a (Str.ofString "a") []))).dep = (1 + max t.dep (T.deps (List.replicate j (T.a (Str.ofString "a") [])))) := fun t j => by
      have hz : ∀ j, T.sizes (List.replicate j (T.a (Str.ofString "a") [])) = j := fun j => by
        induction j with
        | zero => rfl
        | succ j ih => rw [List.replicate_succ, T.sizes, ih, sa]; omega
      refine ⟨by rw [size_a, T.sizes, hz]; omega, by rw [dep_a, T.deps]⟩
    have dj : ∀ j, T.deps (List.replicate j (T.a (Str.ofString "a") [])) ≤ 1 := fun j => deps_of fun u hu => by rw [(List.mem_replicate.mp hu).2, da]; exact Nat.le_refl _
    have step : ∀ (j : Nat), j ≤ 7 → (T.a (Str.ofString "pad") (t :: List.replicate j (T.a (Str.ofString "a") []))).G ∧ (T.a (Str.ofString "pad") (t :: List.replicate j (T.a (Str.ofString "a") []))).Ar ∧ (T.a (Str.ofString "pad") (t :: List.replicate j (T.a (Str.ofString "a") []))).In [] := fun j hj => mk t _ kt (fun u hu => (List.mem_replicate.mp hu).2) (by rw [List.length_replicate]; exact hj)
    have d7 := dsz t 7
    have d3 := dsz t 3
    have d0 := dsz t 0
    have dj7 := dj 7
    have dj3 := dj 3
    have dj0 := dj 0
    have e7 : D.tup [.str (Str.ofString "pad"), t.toD, (T.a (Str.ofString "a") []).toD, (T.a (Str.ofString "a") []).toD, (T.a (Str.ofString "a") []).toD, (T.a (Str.ofString "a") []).toD, (T.a (Str.ofString "a") []).toD, (T.a (Str.ofString "a") []).toD, (T.a (Str.ofString "a") []).toD] = _ := pa t (List.replicate 7 (T.a (Str.ofString "a") []))
    have e3 : D.tup [.str (Str.ofString "pad"), t.toD, (T.a (Str.ofString "a") []).toD, (T.a (Str.ofString "a") []).toD, (T.a (Str.ofString "a") []).toD] = _ := pa t (List.replicate 3 (T.a (Str.ofString "a") []))
    have e1 : D.tup [.str (Str.ofString "pad"), t.toD] = _ := pa t (List.replicate 0 (T.a (Str.ofString "a") []))
    refine if_d (fun c1 => ?_) (fun c1 => ?_)
    · simp -implicitDefEqProofs only [EVB]
      repeat (refine And.intro (by first | omega | decide | (split <;> omega) | (simp only [List.length_map, List.length_append, List.length_cons, List.length_nil]; omega)) ?_)
      rw [ea, e7]
      exact ⟨_, s + 8, _, by rw [show (s : Int) + 8 = ((s + 8 : Nat) : Int) by omega], step 7 (by decide), by omega, by omega, by omega, by omega, by omega⟩
    · simp -implicitDefEqProofs only [EVB]
      refine if_d (fun c2 => ?_) (fun c2 => ?_)
      · simp -implicitDefEqProofs only [EVB]
        repeat (refine And.intro (by first | omega | decide | (split <;> omega) | (simp only [List.length_map, List.length_append, List.length_cons, List.length_nil]; omega)) ?_)
        rw [ea, e3]
        exact ⟨_, s + 4, _, by rw [show (s : Int) + 4 = ((s + 4 : Nat) : Int) by omega], step 3 (by decide), by omega, by omega, by omega, by omega, by omega⟩
      · simp -implicitDefEqProofs only [EVB]
        refine if_d (fun c3 => ?_) (fun c3 => ?_)
        · simp -implicitDefEqProofs only [EVB]
          repeat (refine And.intro (by first | omega | decide | (split <;> omega) | (simp only [List.length_map, List.length_append, List.length_cons, List.length_nil]; omega)) ?_)
          rw [e1]
          exact ⟨_, s + 1, _, by rw [show (s : Int) + 1 = ((s + 1 : Nat) : Int) by omega], step 0 (by decide), by omega, by omega, by omega, by omega, by omega⟩
        · simp -implicitDefEqProofs only [EVB]
          exact ⟨t, s, _, rfl, kt, hs, s1, sm, by omega, inv⟩
  · obtain ⟨t, s, x3, rfl, rfl, kt, hs, s1, sm, kk, inv⟩ := p
    rw [rangeA_len] at kk
    simp -implicitDefEqProofs only [EVB]
    exact ⟨t, rfl, kt.1, kt.2.1, kt.2.2, pad_dep inv hm sm, by omega⟩
end Q

set_option Elab.async false
set_option linter.all false
set_option maxRecDepth 100000
set_option maxHeartbeats 4000000
namespace Q
open PySem PySem.Spec PyProof.Rows L2 DL
def twT (t : T) : T := .a (Str.ofString "twice") [t, t]
def nx (k : Nat) : T := .v ((k : Int) + 1)
def cdT : T := .a (Str.ofString "c") [.a (Str.ofString "d") []]
def allT (ts : List T) : T := .a (Str.ofString "all") ts
def up6 : List T := [.v 0, .v 1, .v 2, .v 3, .v 4, .v 5]
theorem tw_D (t : T) : (twT t).toD = .tup [.str (Str.ofString "twice"), t.toD, t.toD] := by unfold twT; rw [toD_a, List.map_cons, List.map_cons, List.map_nil]
theorem nx_D (k : Nat) : (nx k).toD = .int ((k : Int) + 1) := by unfold nx; rw [toD_v]
theorem cd_D : cdT.toD = .tup [.str (Str.ofString "c"), .tup [.str (Str.ofString "d")]] := by unfold cdT; rw [toD_a, List.map_cons, List.map_nil, toD_a]; rfl
theorem all_D (ts : List T) : (allT ts).toD = .tup (.str (Str.ofString "all") :: ts.map T.toD) := by unfold allT; rw [toD_a]
theorem up6_D : up6.map T.toD = [.int 0, .int 1, .int 2, .int 3, .int 4, .int 5] := by unfold up6; simp only [List.map_cons, List.map_nil, toD_v]
def fillR : List T := ((List.range 5).map fun k => twT (nx k)) ++ [twT cdT]
theorem sp__law_filled (N i : Nat) (h : DHeap) (ht : Tape h i) (Pd : List D → DHeap → Res D) (hP : run (N + 1) i__law_pad = Pd) :
    W (run (N + 1 + 1) i__law_filled [.ref i] h) (fun d h' => ∃ (L m : Nat) (t : T), d = .ref L ∧ L ≠ i ∧ 24 ≤ m ∧ m ≤ 31 ∧ t.G ∧ t.Ar ∧ t.In [] ∧ t.dep ≤ 12 ∧ t.size = m ∧ h'[L]? = some (.lst [(allT (up6 ++ [t])).toD, (allT (fillR ++ [t])).toD, .bl (decide (400 < 373 + m))]) ∧ Tape h' i ∧ Ev i h h') := by
  rw [r__law_filled]
  unfold B__law_filled
  rw [hP]
  simp -implicitDefEqProofs only [EVB]
  obtain ⟨_, h1, er, r, rfl, a1, b1, t1, v1⟩ := W_get (draw_ok N i 8 h ht (by decide))
  rw [er, Z4R]
  clear er
  obtain ⟨m, hm⟩ : ∃ m : Nat, 24 + r = m := ⟨(24 + r).toNat, by omega⟩
  simp -implicitDefEqProofs only [EVB, hm]
  have L0 := app_end (h := h1) (c := Cell.lst [])
  have z1 := t1.lt
  repeat (refine And.intro (by first | omega | decide | (split <;> omega) | (simp only [List.length_map, List.length_append, List.length_cons, List.length_nil]; omega)) ?_)
  refine loopS_i (fun k σ h' => ∃ (x3 : Option D), σ = [some (.ref i), some (.int (m : Int)), some (.ref h1.length), x3, none] ∧ h'[h1.length]? = some (.lst (((List.range k).map fun k => twT (nx k)).map T.toD)) ∧ Old h1 h') ⟨none, rfl, L0, Old.refl.app⟩ (fun _ _ _ _ => by trivial) (fun k σ h' y ey p => ?_) fun σ h' p => ?_
  · obtain ⟨x3, rfl, eL, o⟩ := p
    obtain ⟨hk, rfl⟩ := range_at ey
    simp -implicitDefEqProofs only [EVB, eL]
    have hk5 : k < 5 := by omega
    refine ⟨by decide, by rw [List.length_map, List.length_map, List.length_range]; omega, _, rfl, ?_, o.setH (Nat.le_refl _)⟩
    rw [List.range_succ, List.map_append, List.map_append, List.map_cons, List.map_nil, List.map_cons, List.map_nil, tw_D, nx_D]
    exact set_at eL
  · obtain ⟨x3, rfl, eL, o⟩ := p
    have e5 : (rangeL 0 (5 : Int).toNat).length = 5 := rfl
    rw [e5] at eL
    simp -implicitDefEqProofs only [EVB, eL]
    repeat (refine And.intro (by first | omega | decide | (split <;> omega) | (simp only [List.length_map, List.length_append, List.length_cons, List.length_nil]; omega)) ?_)
    have eR : List.map T.toD (List.map (fun k => twT (nx k)) (List.range 5)) ++ [D.tup [D.str (Str.ofString "twice"), D.tup [D.str (Str.ofString "c"), D.tup [D.str (Str.ofString "d")]], D.tup [D.str (Str.ofString "c"), D.tup [D.str (Str.ofString "d")]]]] = fillR.map T.toD := by
      unfold fillR
      rw [List.map_append, List.map_cons, List.map_nil, tw_D, cd_D]
    rw [eR]
    have S2 := set_at (d := Cell.lst (fillR.map T.toD)) eL
    have o2 : Old h1 (h'.set h1.length (.lst (fillR.map T.toD))) := o.setH (Nat.le_refl _)
    generalize h'.set h1.length (.lst (fillR.map T.toD)) = h2 at S2 o2 ⊢
    obtain ⟨_, h3, er, rfl, t, rfl, g1, g2, g3, g4, g5⟩ := W_get (sp__law_pad__xz N m Pd hP h2 (by omega) (by omega))
    have l6 : (fillR.map T.toD).length = 6 := rfl
    rw [er, Z4R]
    simp -implicitDefEqProofs only [EVB, S2, l6]
    repeat (refine And.intro (by first | omega | decide | (split <;> omega) | (simp only [List.length_map, List.length_append, List.length_cons, List.length_nil]; omega)) ?_)
    rw [er, Z4R]
    simp -implicitDefEqProofs only [EVB, l6]
    repeat (refine And.intro (by first | omega | decide | (split <;> omega) | (simp only [List.length_map, List.length_append, List.length_cons, List.length_nil]; omega)) ?_)
    have ll := o2.lenH
    refine ⟨_, m, t, rfl, by omega, by omega, by omega, g1, g2, g3, g4, g5, ?_, tapeH t1 o2.app, v1.oldH o2.app⟩
    rw [all_D, all_D, List.map_append, List.map_append, up6_D, List.map_cons, List.map_nil, show decide ((400 : Int) < 373 + (m : Int)) = decide (400 < 373 + m) from by rw [decide_eq_decide]; omega]
    exact app_end
end Q

set_option Elab.async false
set_option linter.all false
set_option maxRecDepth 100000
set_option maxHeartbeats 4000000
namespace Q
open PySem PySem.Spec PyProof.Rows L2 DL
def cT : T := .a (Str.ofString "c") []
def sN : Nat → T → T
  | 0, t => t
  | n + 1, t => .a (Str.ofString "s") [sN n t]
def dpc (m k : Nat) : Nat := m / 6 + (if k < m % 6 then 1 else 0)
def inx (k : Nat) : T := if k = 5 then cT else nx k
def deepR (m : Nat) : List T := (List.range 6).map fun k => sN (dpc m k) (inx k)
theorem c_D : cT.toD = .tup [.str (Str.ofString "c")] := by unfold cT; rw [toD_a]; rfl
theorem sN_D (n : Nat) (t : T) : (sN (n + 1) t).toD = .tup [.str (Str.ofString "s"), (sN n t).toD] := by rw [sN, toD_a]; rfl
theorem sp__law_deep (N i : Nat) (h : DHeap) (ht : Tape h i) :
    W (run (N + 1 + 1) i__law_deep [.ref i] h) (fun d h' => ∃ (L m : Nat), d = .ref L ∧ L ≠ i ∧ 34 ≤ m ∧ m ≤ 43 ∧ h'[L]? = some (.lst [(allT up6).toD, (allT (deepR m)).toD, .bl (decide (40 < m + 2))]) ∧ Tape h' i ∧ Ev i h h') := by
  rw [r__law_deep]
  unfold B__law_deep
  simp -implicitDefEqProofs only [EVB]
  obtain ⟨_, h1, er, r, rfl, a1, b1, t1, v1⟩ := W_get (draw_ok N i 10 h ht (by decide))
  rw [er, Z4R]
  clear er
  obtain ⟨m, hm⟩ : ∃ m : Nat, 34 + r = m := ⟨(34 + r).toNat, by omega⟩
  simp -implicitDefEqProofs only [EVB, hm]
  have L0 := app_end (h := h1) (c := Cell.lst [])
  have z1 := t1.lt
  repeat (refine And.intro (by first | omega | decide | (split <;> omega) | (simp only [List.length_map, List.length_append, List.length_cons, List.length_nil]; omega)) ?_)
  refine loopS_i (fun k σ h' => ∃ (x3 x4 x5 : Option D), σ = [some (.ref i), some (.int (m : Int)), some (.ref h1.length), x3, x4, x5] ∧ h'[h1.length]? = some (.lst (((List.range k).map fun k => sN (dpc m k) (inx k)).map T.toD)) ∧ Old h1 h') ⟨none, none, none, rfl, L0, Old.refl.app⟩ (fun _ _ _ _ => by trivial) (fun k σ h' y ey p => ?_) fun σ h' p => ?_
  · obtain ⟨x3, x4, x5, rfl, eL, o⟩ := p
    obtain ⟨hk, rfl⟩ := range_at ey
    have hk6 : k < 6 := by omega
    simp -implicitDefEqProofs only [EVB]
    refine if_cut (fun σ h2 => h2 = h' ∧ σ = [some (.ref i), some (.int (m : Int)), some (.ref h1.length), some (.int (k : Int)), some (inx k).toD, x5]) (fun c => ?_) (fun c => ?_) fun σ h2 q => ?_
    · have c := of_decide_eq_true c
      simp -implicitDefEqProofs only [EVB]
      repeat (refine And.intro (by first | omega | decide | (split <;> omega) | (simp only [List.length_map, List.length_append, List.length_cons, List.length_nil]; omega)) ?_)
      rw [show inx k = cT from by unfold inx; rw [if_pos (by omega)], c_D]
    · have c := of_decide_eq_false c
      simp -implicitDefEqProofs only [EVB]
      rw [show inx k = nx k from by unfold inx; rw [if_neg (by omega)], nx_D]
    · obtain ⟨rfl, rfl⟩ := q
      have en : ((m : Int) / 6 + (if (k : Int) < (m : Int) % 6 then 1 else 0)).toNat = dpc m k := by
        unfold dpc
        split <;> split <;> omega
      simp -implicitDefEqProofs only [EVB]
      repeat (refine And.intro (by first | omega | decide | (split <;> omega) | (simp only [List.length_map, List.length_append, List.length_cons, List.length_nil]; omega)) ?_)
      refine loopS_i (fun j σ h3 => ∃ x5 : Option D, h3 = h2 ∧ σ = [some (.ref i), some (.int (m : Int)), some (.ref h1.length), some (.int (k : Int)), some (sN j (inx k)).toD, x5]) ⟨x5, rfl, rfl⟩ (fun _ _ _ _ => by trivial) (fun j σ h3 y2 ey2 p => ?_) fun σ h3 p => ?_
      · obtain ⟨x5, rfl, rfl⟩ := p
        obtain ⟨_, rfl⟩ := range_at ey2
        simp -implicitDefEqProofs only [EVB]
        repeat (refine And.intro (by first | omega | decide | (split <;> omega) | (simp only [List.length_map, List.length_append, List.length_cons, List.length_nil]; omega)) ?_)
        exact ⟨_, by rw [sN_D]⟩
      · obtain ⟨x5, rfl, rfl⟩ := p
        rw [rangeA_len, en]
        simp -implicitDefEqProofs only [EVB, eL]
        refine ⟨by rw [List.length_map, List.length_map, List.length_range]; omega, _, _, _, rfl, ?_, o.setH (Nat.le_refl _)⟩
        rw [List.range_succ, List.map_append, List.map_append, List.map_cons, List.map_nil, List.map_cons, List.map_nil]
        exact set_at eL
  · obtain ⟨x3, x4, x5, rfl, eL, o⟩ := p
    have e5 : (rangeL 0 (6 : Int).toNat).length = 6 := rfl
    rw [e5] at eL
    have l6 : (List.map T.toD (List.map (fun k => sN (dpc m k) (inx k)) (List.range 6))).length = 6 := rfl
    simp -implicitDefEqProofs only [EVB, eL, l6]
    repeat (refine And.intro (by first | omega | decide | (split <;> omega) | (simp only [List.length_map, List.length_append, List.length_cons, List.length_nil]; omega)) ?_)
    have ll := o.lenH
    refine ⟨_, m, rfl, by omega, by omega, by omega, ?_, tapeH t1 o.app, v1.oldH o.app⟩
    rw [all_D, all_D, up6_D, show decide ((40 : Int) < (m : Int) + 2) = decide (40 < m + 2) from by rw [decide_eq_decide]; omega]
    exact app_end
end Q

set_option Elab.async false
set_option linter.all false
set_option maxRecDepth 100000
set_option maxHeartbeats 4000000
namespace Q
open PySem PySem.Spec PyProof.Rows L2 DL
def dnx (m k : Nat) : T := if k + 1 = m then cT else nx k
def grp (m g : Nat) : List Nat := (List.range (min 6 (m - 6 * g))).map (6 * g + ·)
def gpT (ts : List T) : T := .a (Str.ofString "group") ts
def grpL (m g : Nat) : T := gpT ((grp m g).map fun (k : Nat) => T.v (k : Int))
def grpR (m g : Nat) : T := gpT ((grp m g).map fun k => twT (dnx m k))
def dbSz : Nat → Nat
  | 0 => 1
  | j + 1 => 1 + 2 * dbSz j
def dbTot : Nat → Nat
  | 0 => 1
  | j + 1 => dbTot j + dbSz (j + 1)
def nG (m : Nat) : Nat := (m + 5) / 6
theorem gp_D (ts : List T) : (gpT ts).toD = .tup (.str (Str.ofString "group") :: ts.map T.toD) := by unfold gpT; rw [toD_a]
theorem grp_len (m g : Nat) : (grp m g).length ≤ 6 := by unfold grp; rw [List.length_map, List.length_range]; omega
theorem rs6 (m : Nat) (h : 1 ≤ m ∧ m ≤ 18) : RgC 0 (m : Int) 6 (Builtin.Range.rangeSize 0 (m : Int) 6).toNat ∧ (Builtin.Range.rangeSize 0 (m : Int) 6).toNat = nG m := by
  rcases (show m = 1 ∨ m = 2 ∨ m = 3 ∨ m = 4 ∨ m = 5 ∨ m = 6 ∨ m = 7 ∨ m = 8 ∨ m = 9 ∨ m = 10 ∨ m = 11 ∨ m = 12 ∨ m = 13 ∨ m = 14 ∨ m = 15 ∨ m = 16 ∨ m = 17 ∨ m = 18 by omega) with rfl | rfl | rfl | rfl | rfl | rfl | rfl | rfl | rfl | rfl | rfl | rfl | rfl | rfl | rfl | rfl | rfl | rfl <;> refine ⟨?_, ?_⟩ <;> first | decide | (unfold RgC; decide)
theorem sp__law_doubled (N i m : Nat) (h : DHeap) (hm : 1 ≤ m ∧ m ≤ 18) (F : List D → DHeap → Res D) (hF : run (N + 1) i__law_doubled = F) :
    W (F [.ref i, .int (m : Int)] h) (fun d h' => ∃ L : Nat, d = .ref L ∧ h.length ≤ L ∧ h'[L]? = some (.lst [(allT ((List.range (nG m)).map (grpL m))).toD, (allT ((List.range (nG m)).map (grpR m))).toD, .bl (decide (400 < dbTot m + nG m))]) ∧ Old h h') := by
  subst hF
  rw [r__law_doubled]
  unfold B__law_doubled
  simp -implicitDefEqProofs only [EVB]
  have L0 := app_at (g := [Cell.lst []]) (app_end (h := h) (c := Cell.lst []))
  have R0 := app_end (h := h ++ [Cell.lst []]) (c := Cell.lst [])
  have o0 : Old h (h ++ [Cell.lst []] ++ [Cell.lst []]) := Old.refl.app.app
  have e1 : (h ++ [Cell.lst []]).length = h.length + 1 := by simp
  rw [e1] at R0
  try rw [e1]
  generalize h ++ [Cell.lst []] ++ [Cell.lst []] = h0 at L0 R0 o0 ⊢
  repeat (refine And.intro (by first | omega | decide | (split <;> omega) | (simp only [List.length_map, List.length_append, List.length_cons, List.length_nil]; omega)) ?_)
  refine loopS_i (fun k σ h' => ∃ (x6 : Option D), h' = h0 ∧ σ = [some (.ref i), some (.int (m : Int)), some (.ref h.length), some (.ref (h.length + 1)), some (.int (dbTot k : Int)), some (.int (dbSz k : Int)), x6, none, none, none, none]) ⟨none, rfl, rfl⟩ (fun _ _ _ _ => by trivial) (fun k σ h' y ey p => ?_) fun σ h' p => ?_
  · obtain ⟨x6, rfl, rfl⟩ := p
    simp -implicitDefEqProofs only [EVB]
    rw [dbTot, show dbSz (k + 1) = 1 + 2 * dbSz k from rfl]
    rw [show ((dbTot k + (1 + 2 * dbSz k) : Nat) : Int) = (dbTot k : Int) + (1 + 2 * (dbSz k : Int)) from by omega, show ((1 + 2 * dbSz k : Nat) : Int) = 1 + 2 * (dbSz k : Int) from by omega]
    exact ⟨.inl (by omega), _, rfl⟩
  · obtain ⟨x6, rfl, rfl⟩ := p
    rw [rangeA_len, show ((m : Int)).toNat = m from by omega]
    simp -implicitDefEqProofs only [EVB]
    obtain ⟨rc, rn⟩ := rs6 m hm
    refine ⟨rc, ?_⟩
    rw [rn]
    refine loopS_i (fun g σ h' => ∃ (x6 x7 x8 x9 x10 : Option D), σ = [some (.ref i), some (.int (m : Int)), some (.ref h.length), some (.ref (h.length + 1)), some (.int ((dbTot m + g : Nat) : Int)), some (.int (dbSz m : Int)), x6, x7, x8, x9, x10] ∧ h'[h.length]? = some (.lst (((List.range g).map (grpL m)).map T.toD)) ∧ h'[h.length + 1]? = some (.lst (((List.range g).map (grpR m)).map T.toD)) ∧ Old h h') ⟨_, _, _, _, _, rfl, L0, R0, o0⟩ (fun _ _ _ _ => by trivial) (fun g σ h1 y ey p => ?_) fun σ h1 p => ?_
    · obtain ⟨x6, x7, x8, x9, x10, rfl, eL, eR, o⟩ := p
      obtain ⟨hg, rfl⟩ : g < nG m ∧ y = .int ((6 * g : Nat) : Int) := by
        unfold rngL at ey
        rw [List.getElem?_map] at ey
        obtain ⟨j, hj, ej⟩ := Option.map_eq_some_iff.mp ey
        obtain ⟨a, b⟩ := List.getElem?_eq_some_iff.mp hj
        rw [List.length_range] at a
        rw [List.getElem_range] at b
        subst b
        exact ⟨a, by rw [← ej]; congr 1; omega⟩
      have mg : m < 18446744073709551616 := by omega
      have eg : rangeL ((6 * g : Nat) : Int) ((if (m : Int) < ((6 * g : Nat) : Int) + 6 then (m : Int) else ((6 * g : Nat) : Int) + 6) - ((6 * g : Nat) : Int)).toNat = (grp m g).map fun (k : Nat) => D.int (k : Int) := by
        unfold rangeL grp
        rw [show ((if (m : Int) < ((6 * g : Nat) : Int) + 6 then (m : Int) else ((6 * g : Nat) : Int) + 6) - ((6 * g : Nat) : Int)).toNat = min 6 (m - 6 * g) from by split <;> omega, List.map_map]
        refine List.map_congr_left fun k _ => ?_
        rw [Function.comp]
        congr 1
      have g3 : g ≤ 2 := by unfold nG at hg; omega
      have lg := grp_len m g
      have l1 := (List.getElem?_eq_some_iff.mp eR).1
      simp -implicitDefEqProofs only [EVB]
      rw [eg]
      refine ⟨⟨by omega, by omega, by split <;> omega, by split <;> omega⟩, by rw [List.length_map]; omega, ?_⟩
      refine W_mono (loopC_m (fun (k : Nat) => D.int (k : Int)) (fun (k : Nat) => D.int (k : Int)) (grp m g) h1 rfl fun k _ => ?_) fun ys h' p => ?_
      · simp -implicitDefEqProofs only [EVB]
      · obtain ⟨rfl, rfl⟩ := p
        have A0 := app_at (g := [Cell.lst ((grp m g).map fun (k : Nat) => D.int (k : Int))]) eL
        have A1 := app_at (g := [Cell.lst ((grp m g).map fun (k : Nat) => D.int (k : Int))]) eR
        have A2 := app_end (h := h') (c := Cell.lst ((grp m g).map fun (k : Nat) => D.int (k : Int)))
        have o1 := o.app (g := [Cell.lst ((grp m g).map fun (k : Nat) => D.int (k : Int))])
        have l2 : (h' ++ [Cell.lst ((grp m g).map fun (k : Nat) => D.int (k : Int))]).length = h'.length + 1 := by simp
        have lA : h.length + 1 < h'.length := l1
        simp -implicitDefEqProofs only [EVB]
        generalize h' ++ [Cell.lst ((grp m g).map fun (k : Nat) => D.int (k : Int))] = h2 at A0 A1 A2 o1 l2 ⊢
        generalize h'.length = A at A2 l2 lA ⊢
        have s1 : (List.map T.toD (List.map (grpL m) (List.range g))).length = g := by rw [List.length_map, List.length_map, List.length_range]
        have s2 : ((grp m g).map fun (k : Nat) => D.int (k : Int)).length = (grp m g).length := by rw [List.length_map]
        simp -implicitDefEqProofs only [EVB, A0, A2, s1, s2]
        have eD : D.tup (D.str (Str.ofString "group") :: (grp m g).map fun (k : Nat) => D.int (k : Int)) = (grpL m g).toD := by
          unfold grpL
          rw [gp_D, List.map_map]
          congr 2
        repeat (refine And.intro (by first | omega | decide | (split <;> omega) | (simp only [List.length_map, List.length_append, List.length_cons, List.length_nil]; omega)) ?_)
        rw [eD]
        have eS : ∀ (f : Nat → T) (g : Nat), List.map T.toD (List.map f (List.range g)) ++ [(f g).toD] = List.map T.toD (List.map f (List.range (g + 1))) := fun f g => by
          rw [List.range_succ, List.map_append, List.map_append, List.map_cons, List.map_nil, List.map_cons, List.map_nil]
        rw [eS]
        have B0 := set_at (d := Cell.lst (List.map T.toD (List.map (grpL m) (List.range (g + 1))))) A0
        have B1 : (h2.set h.length (Cell.lst (List.map T.toD (List.map (grpL m) (List.range (g + 1))))))[h.length + 1]? = some (.lst (List.map T.toD (List.map (grpR m) (List.range g)))) := by rw [List.getElem?_set_ne (by omega)]; exact A1
        have B2 : (h2.set h.length (Cell.lst (List.map T.toD (List.map (grpL m) (List.range (g + 1))))))[A]? = some (.lst ((grp m g).map fun (k : Nat) => D.int (k : Int))) := by rw [List.getElem?_set_ne (by omega)]; exact A2
        have o2 := o1.setH (i := h.length) (c := Cell.lst (List.map T.toD (List.map (grpL m) (List.range (g + 1))))) (Nat.le_refl _)
        have l3 : (h2.set h.length (Cell.lst (List.map T.toD (List.map (grpL m) (List.range (g + 1)))))).length = A + 1 := by rw [List.length_set]; exact l2
        generalize h2.set h.length (Cell.lst (List.map T.toD (List.map (grpL m) (List.range (g + 1))))) = h3 at B0 B1 B2 o2 l3 ⊢
        rw [l3]
        have C0 := app_at (g := [Cell.lst []]) B0
        have C1 := app_at (g := [Cell.lst []]) B1
        have C2 := app_at (g := [Cell.lst []]) B2
        have C3 : (h3 ++ [Cell.lst []])[A + 1]? = some (.lst []) := by rw [← l3]; exact app_end
        have o3 := o2.app (g := [Cell.lst []])
        generalize h3 ++ [Cell.lst []] = h4 at C0 C1 C2 C3 o3 ⊢
        clear A0 A1 A2 B0 B1 B2 o1 o2
        simp -implicitDefEqProofs only [EVB, C2]
        refine loopS_i (fun j σ h' => ∃ (x6 x10 : Option D), σ = [some (.ref i), some (.int (m : Int)), some (.ref h.length), some (.ref (h.length + 1)), some (.int ((dbTot m + g : Nat) : Int)), some (.int (dbSz m : Int)), x6, some (.int ((6 * g : Nat) : Int)), some (.ref A), some (.ref (A + 1)), x10] ∧ h'[h.length]? = some (.lst (((List.range (g + 1)).map (grpL m)).map T.toD)) ∧ h'[h.length + 1]? = some (.lst (((List.range g).map (grpR m)).map T.toD)) ∧ h'[A]? = some (.lst ((grp m g).map fun (k : Nat) => D.int (k : Int))) ∧ h'[A + 1]? = some (.lst ((((grp m g).take j).map fun k => twT (dnx m k)).map T.toD)) ∧ Old h h') ⟨_, _, rfl, C0, C1, C2, C3, o3⟩ (fun _ _ _ p => ?_) (fun j σ h5 y ey p => ?_) fun σ h5 p => ?_
        · obtain ⟨x6, x10, rfl, _, _, e2, _⟩ := p
          exact e2
        · obtain ⟨x6, x10, rfl, c0, c1, c2, c3, oo⟩ := p
          rw [List.getElem?_map] at ey
          obtain ⟨k, ek, rfl⟩ := Option.map_eq_some_iff.mp ey
          simp -implicitDefEqProofs only [EVB]
          refine if_cut (fun σ h2 => h2 = h5 ∧ σ = [some (.ref i), some (.int (m : Int)), some (.ref h.length), some (.ref (h.length + 1)), some (.int ((dbTot m + g : Nat) : Int)), some (.int (dbSz m : Int)), some (.int (k : Int)), some (.int ((6 * g : Nat) : Int)), some (.ref A), some (.ref (A + 1)), some (dnx m k).toD]) (fun c => ?_) (fun c => ?_) fun σ h6 q => ?_
          · have c := of_decide_eq_true c
            simp -implicitDefEqProofs only [EVB]
            repeat (refine And.intro (by first | omega | decide | (split <;> omega) | (simp only [List.length_map, List.length_append, List.length_cons, List.length_nil]; omega)) ?_)
            rw [show dnx m k = cT from by unfold dnx; rw [if_pos (by omega)], c_D]
          · have c := of_decide_eq_false c
            simp -implicitDefEqProofs only [EVB]
            rw [show dnx m k = nx k from by unfold dnx; rw [if_neg (by omega)], nx_D]
          · obtain ⟨rfl, rfl⟩ := q
            have sl : ((((grp m g).take j).map fun k => twT (dnx m k)).map T.toD).length ≤ 6 := by
              rw [List.length_map, List.length_map, List.length_take]; omega
            simp -implicitDefEqProofs only [EVB, c3]
            have et : ((grp m g).take (j + 1)).map (fun k => twT (dnx m k)) = ((grp m g).take j).map (fun k => twT (dnx m k)) ++ [twT (dnx m k)] := by
              rw [List.take_succ, ek, Option.toList_some, List.map_append, List.map_cons, List.map_nil]
            refine ⟨by decide, by omega, _, _, rfl, by rw [List.getElem?_set_ne (by omega)]; exact c0, by rw [List.getElem?_set_ne (by omega)]; exact c1, by rw [List.getElem?_set_ne (by omega)]; exact c2, ?_, oo.setH (by omega)⟩
            rw [et, List.map_append, List.map_cons, List.map_nil, tw_D]
            exact set_at c3
        · obtain ⟨x6, x10, rfl, c0, c1, c2, c3, oo⟩ := p
          rw [List.length_map, List.take_length] at c3
          have sr : (List.map T.toD (List.map (grpR m) (List.range g))).length = g := by rw [List.length_map, List.length_map, List.length_range]
          have sl : (((grp m g).map fun k => twT (dnx m k)).map T.toD).length ≤ 6 := by
            rw [List.length_map, List.length_map]; exact lg
          simp -implicitDefEqProofs only [EVB, c1, c3, sr]
          have eR2 : D.tup (D.str (Str.ofString "group") :: ((grp m g).map fun k => twT (dnx m k)).map T.toD) = (grpR m g).toD := by
            unfold grpR
            rw [gp_D]
          rw [eR2, eS]
          rw [show ((dbTot m + g : Nat) : Int) + 1 = ((dbTot m + (g + 1) : Nat) : Int) from by omega]
          repeat (refine And.intro (by first | omega | decide | (split <;> omega) | (simp only [List.length_map, List.length_append, List.length_cons, List.length_nil]; omega)) ?_)
          exact ⟨_, _, _, _, _, rfl, by rw [List.getElem?_set_ne (by omega)]; exact c0, set_at c1, oo.setH (by omega)⟩
    · obtain ⟨x6, x7, x8, x9, x10, rfl, eL, eR, o⟩ := p
      have en : (rngL 0 6 (nG m)).length = nG m := by unfold rngL; rw [List.length_map, List.length_range]
      rw [en] at eL eR
      rw [en]
      have hn : nG m ≤ 3 := by unfold nG; omega
      have sl : (List.map T.toD (List.map (grpL m) (List.range (nG m)))).length = nG m := by rw [List.length_map, List.length_map, List.length_range]
      have sr : (List.map T.toD (List.map (grpR m) (List.range (nG m)))).length = nG m := by rw [List.length_map, List.length_map, List.length_range]
      simp -implicitDefEqProofs only [EVB, eL, eR, sl, sr]
      repeat (refine And.intro (by first | omega | decide | (split <;> omega) | (simp only [List.length_map, List.length_append, List.length_cons, List.length_nil]; omega)) ?_)
      have l1 := (List.getElem?_eq_some_iff.mp eR).1
      refine ⟨_, rfl, by omega, ?_, o.app⟩
      rw [all_D, all_D, show decide ((400 : Int) < ((dbTot m + nG m : Nat) : Int)) = decide (400 < dbTot m + nG m) from by rw [decide_eq_decide]; omega]
      exact app_end
end Q

set_option Elab.async false
set_option linter.all false
set_option maxRecDepth 100000
set_option maxHeartbeats 4000000
namespace Q
open PySem PySem.Spec PyProof.Rows L2 DL
def vlD (F : Nat → T → T) (b : T) (m : Nat) : Nat → T
  | 0 => b
  | j + 1 => F (m - 1 - j) (vlD F b m j)
def nxt (b : T) (m k : Nat) : T := if k + 1 = m then b else nx k
theorem ch_uniq {F : Nat → T → T} {b : T} {m : Nat} {σ : Sb} (hF : ∀ k t, sub σ (F k t) = F k (sub σ t)) (hb : sub σ b = b) (h : ∀ k, k < m → σ (k : Int) = sub σ (F k (nxt b m k))) : ∀ j, j ≤ m → 1 ≤ j → σ ((m - j : Nat) : Int) = vlD F b m j := by
  intro j
  induction j with
  | zero => intro _ h; omega
  | succ j ih =>
    intro hj _
    rw [h (m - (j + 1)) (by omega), hF, vlD, show m - (j + 1) = m - 1 - j from by omega]
    congr 1
    unfold nxt
    by_cases e : j = 0
    · subst e; rw [if_pos (by omega), hb, vlD]
    · unfold nx
      rw [if_neg (by omega), sub_v, show ((m - 1 - j : Nat) : Int) + 1 = ((m - j : Nat) : Int) from by omega]
      exact ih (by omega) (by omega)
def chS (F : Nat → T → T) (b : T) (m : Nat) : Sb := fun i => vlD F b m (m - i.toNat)
theorem ch_ex {F : Nat → T → T} {b : T} {m : Nat} (hF : ∀ (σ : Sb) k t, sub σ (F k t) = F k (sub σ t)) (hb : ∀ σ : Sb, sub σ b = b) : ∀ k, k < m → chS F b m (k : Int) = sub (chS F b m) (F k (nxt b m k)) := by
  intro k hk
  rw [hF]
  show vlD F b m (m - (k : Int).toNat) = _
  rw [Int.toNat_natCast, show m - k = (m - k - 1) + 1 from by omega, vlD, show m - 1 - (m - k - 1) = k from by omega]
  congr 1
  unfold nxt
  split
  · rw [hb, show m - k - 1 = 0 from by omega, vlD]
  · unfold nx
    rw [sub_v]
    show _ = vlD F b m (m - ((k : Int) + 1).toNat)
    rw [show ((k : Int) + 1).toNat = k + 1 from by omega, show m - (k + 1) = m - k - 1 from by omega]
theorem sub_cl (σ : Sb) (t : T) : t.In [] → sub σ t = t := by
  refine T.ind (P := fun t => t.In [] → sub σ t = t) (fun i h => ?_) (fun f as ih h => ?_) t
  · cases h with | v hi => exact absurd hi List.not_mem_nil
  · rw [sub_a]
    congr 1
    conv => rhs; rw [← List.map_id as]
    exact List.map_congr_left fun u hu => ih u hu (h.parts u hu)
theorem sub_tw (σ : Sb) (t : T) : sub σ (twT t) = twT (sub σ t) := by unfold twT; rw [sub_a, List.map_cons, List.map_cons, List.map_nil]
theorem sub_sN (σ : Sb) (t : T) : ∀ n, sub σ (sN n t) = sN n (sub σ t)
  | 0 => rfl
  | n + 1 => by rw [sN, sub_a, List.map_cons, List.map_nil, sub_sN σ t n, sN]
theorem sub_cT (σ : Sb) : sub σ cT = cT := by unfold cT; rw [sub_a, List.map_nil]
theorem sub_cd (σ : Sb) : sub σ cdT = cdT := by unfold cdT; rw [sub_a, List.map_cons, List.map_nil, sub_a, List.map_nil]
theorem tw_sz (t : T) : (twT t).size = 1 + 2 * t.size := by unfold twT; rw [size_a, T.sizes, T.sizes, T.sizes]; omega
theorem tw_dp (t : T) : (twT t).dep = 1 + t.dep := by unfold twT; rw [dep_a, T.deps, T.deps, T.deps]; omega
theorem sN_sz (t : T) : ∀ n, (sN n t).size = n + t.size
  | 0 => by rw [sN]; omega
  | n + 1 => by rw [sN, size_a, T.sizes, T.sizes, sN_sz t n]; omega
theorem sN_dp (t : T) : ∀ n, (sN n t).dep = n + t.dep
  | 0 => by rw [sN]; omega
  | n + 1 => by rw [sN, dep_a, T.deps, T.deps, sN_dp t n]; omega
theorem c_sz : cT.size = 1 ∧ cT.dep = 1 := by unfold cT; rw [size_a, dep_a, T.sizes, T.deps]; exact ⟨rfl, rfl⟩
theorem cd_sz : cdT.size = 2 ∧ cdT.dep = 2 := by unfold cdT; rw [size_a, dep_a, T.sizes, T.sizes, T.deps, T.deps, size_a, dep_a, T.sizes, T.deps]; exact ⟨rfl, rfl⟩
def V13 (m : Nat) : List Int := ((List.range m).map fun (k : Nat) => (k : Int)) ++ [90]
theorem v13 {m k : Nat} (h : k < m) : (k : Int) ∈ V13 m := List.mem_append_left _ (List.mem_map.mpr ⟨k, List.mem_range.mpr h, rfl⟩)
theorem v13_ok {m : Nat} (h : m ≤ 18) : OkI (V13 m) := fun x hx => by
  rcases List.mem_append.mp hx with hx | hx
  · obtain ⟨k, hk, rfl⟩ := List.mem_map.mp hx
    have := List.mem_range.mp hk
    omega
  · rw [List.mem_singleton.mp hx]; omega
theorem v13_len (m : Nat) : (V13 m).length = m + 1 := by unfold V13; simp
/-- a part of a side -/
def Pt13 (m D0 : Nat) (t : T) : Prop := t.In (V13 m) ∧ t.G ∧ t.Ar ∧ t.dep + 1 ≤ D0
structure Kd (m D0 : Nat) (ls rs : List T) (big : Bool) : Prop where
  m18 : m ≤ 18
  l : ∀ t, t ∈ ls → Pt13 m D0 t
  r : ∀ t, t ∈ rs → Pt13 m D0 t
  ll : ls.length ≤ 7
  lr : rs.length = ls.length
  ex : ∃ σ, ls.map (sub σ) = rs.map (sub σ)
  due : ∀ σ, ls.map (sub σ) = rs.map (sub σ) → ((400 < (sub σ (allT ls)).size ∨ 40 < (sub σ (allT ls)).dep) ↔ big = true)
  d3 : 3 ≤ D0
  d60 : D0 ≤ 60
  fu : 2 * (D0 + (m + 1) * (D0 + 1)) + 4 ≤ 229
  mb : mB (m + 1) D0 ≤ 16000000
theorem sub_all (σ : Sb) (ts : List T) : sub σ (allT ts) = allT (ts.map (sub σ)) := by unfold allT; rw [sub_a]
theorem all_sz (ts : List T) : (allT ts).size = 1 + T.sizes ts ∧ (allT ts).dep = 1 + T.deps ts := by unfold allT; rw [size_a, dep_a]; exact ⟨rfl, rfl⟩
theorem gC : NmG (Str.ofString "c") := ⟨by decide +kernel, by decide +kernel⟩
theorem gD13 : NmG (Str.ofString "d") := ⟨by decide +kernel, by decide +kernel⟩
theorem gS13 : NmG (Str.ofString "s") := ⟨by decide +kernel, by decide +kernel⟩
theorem gTw : NmG (Str.ofString "twice") := ⟨by decide +kernel, by decide +kernel⟩
theorem gGp : NmG (Str.ofString "group") := ⟨by decide +kernel, by decide +kernel⟩
theorem gAll : NmG (Str.ofString "all") := ⟨by decide +kernel, by decide +kernel⟩
def Gd13 (V : List Int) (t : T) : Prop := t.In V ∧ t.G ∧ t.Ar
theorem gd_a {V : List Int} {f : Str} {as : List T} (g : NmG f) (l : as.length ≤ 100) (h : ∀ t, t ∈ as → Gd13 V t) : Gd13 V (.a f as) :=
  ⟨.a fun t ht => (h t ht).1, .a g fun t ht => (h t ht).2.1, .a l fun t ht => (h t ht).2.2⟩
theorem gd_v {m k : Nat} (hm : m ≤ 18) (h : k < m) : Gd13 (V13 m) (.v (k : Int)) := ⟨.v (v13 h), .v (by omega) (by omega), .v⟩
theorem gd_c {V : List Int} : Gd13 V cT := gd_a gC (by decide) fun _ h => absurd h List.not_mem_nil
theorem gd_cd {V : List Int} : Gd13 V cdT := gd_a gC (by decide) fun t h => by
  rw [List.mem_singleton.mp h]
  exact gd_a gD13 (by decide) fun _ h => absurd h List.not_mem_nil
theorem gd_tw {V : List Int} {t : T} (h : Gd13 V t) : Gd13 V (twT t) := gd_a gTw (by simp) fun u hu => by
  simp only [List.mem_cons, List.not_mem_nil, or_false] at hu
  rcases hu with rfl | rfl <;> exact h
theorem gd_sN {V : List Int} {t : T} (h : Gd13 V t) : ∀ n, Gd13 V (sN n t)
  | 0 => h
  | n + 1 => gd_a gS13 (by simp) fun u hu => by
    rw [List.mem_singleton.mp hu]
    exact gd_sN h n
theorem gd_nxt {b : T} {m k : Nat} (hm : m ≤ 18) (hb : Gd13 (V13 m) b) (h : k < m) : Gd13 (V13 m) (nxt b m k) := by
  unfold nxt nx
  split
  · exact hb
  · rw [show (k : Int) + 1 = ((k + 1 : Nat) : Int) from by omega]
    exact gd_v hm (by omega)
theorem nxt_dp {b : T} {m k : Nat} : (nxt b m k).dep ≤ max 1 b.dep := by
  unfold nxt nx
  split
  · omega
  · rw [dep_v]; omega
theorem nx_nxt {b : T} {k : Nat} (h : k < 5) : nxt b 6 k = nx k := by unfold nxt; rw [if_neg (by omega)]
theorem filled_eq : fillR = (List.range 6).map fun k => twT (nxt cdT 6 k) := by
  unfold fillR
  rw [List.range_succ (n := 5), List.map_append, List.map_cons, List.map_nil]
  congr 1
theorem deep_eq (m : Nat) : deepR m = (List.range 6).map fun k => sN (dpc m k) (nxt cT 6 k) := by
  unfold deepR
  refine List.map_congr_left fun k hk => ?_
  congr 1
  unfold inx nxt
  by_cases e : k = 5
  · rw [if_pos e, if_pos (by omega)]
  · rw [if_neg e, if_neg (by omega)]
theorem up_eq : up6 = (List.range 6).map fun (k : Nat) => T.v (k : Int) := rfl
theorem maps_eq {σ : Sb} {m : Nat} {R : Nat → T} (x : List T) : (((List.range m).map fun (k : Nat) => T.v (k : Int)) ++ x).map (sub σ) = ((List.range m).map R ++ x).map (sub σ) ↔ ∀ k : Nat, k < m → σ (k : Int) = sub σ (R k) := by
  rw [List.map_append, List.map_append, List.append_left_inj, List.map_map, List.map_map, List.map_inj_left]
  constructor
  · intro h k hk
    have := h k (List.mem_range.mpr hk)
    rw [Function.comp, Function.comp, sub_v] at this
    exact this
  · intro h k hk
    rw [Function.comp, Function.comp, sub_v]
    exact h k (List.mem_range.mp hk)
theorem vals6 {σ : Sb} {F : Nat → T → T} {b : T} (u : ∀ j, j ≤ 6 → 1 ≤ j → σ ((6 - j : Nat) : Int) = vlD F b 6 j) : up6.map (sub σ) = [vlD F b 6 6, vlD F b 6 5, vlD F b 6 4, vlD F b 6 3, vlD F b 6 2, vlD F b 6 1] := by
  have e0 : σ 0 = vlD F b 6 6 := u 6 (by decide) (by decide)
  have e1 : σ 1 = vlD F b 6 5 := u 5 (by decide) (by decide)
  have e2 : σ 2 = vlD F b 6 4 := u 4 (by decide) (by decide)
  have e3 : σ 3 = vlD F b 6 3 := u 3 (by decide) (by decide)
  have e4 : σ 4 = vlD F b 6 2 := u 2 (by decide) (by decide)
  have e5 : σ 5 = vlD F b 6 1 := u 1 (by decide) (by decide)
  unfold up6
  simp only [List.map_cons, List.map_nil, sub_v, e0, e1, e2, e3, e4, e5]
theorem kd_filled {m : Nat} {t : T} (h24 : 24 ≤ m) (h31 : m ≤ 31) (g : t.G) (ar : t.Ar) (inn : t.In []) (dp : t.dep ≤ 12) (sz : t.size = m) : Kd 6 13 (up6 ++ [t]) (fillR ++ [t]) (decide (400 < 373 + m)) := by
  have hF : ∀ (σ : Sb) (k : Nat) (u : T), sub σ ((fun _ u => twT u : Nat → T → T) k u) = (fun _ u => twT u : Nat → T → T) k (sub σ u) := fun σ k u => sub_tw σ u
  have gt : Pt13 6 13 t := ⟨inn.mono fun _ h => absurd h List.not_mem_nil, g, ar, by omega⟩
  have ge : ∀ σ : Sb, (up6 ++ [t]).map (sub σ) = (fillR ++ [t]).map (sub σ) ↔ ∀ k : Nat, k < 6 → σ (k : Int) = sub σ (twT (nxt cdT 6 k)) := fun σ => by
    rw [up_eq, filled_eq]; exact maps_eq [t]
  refine ⟨by decide, fun u hu => ?_, fun u hu => ?_, by simp [up6], by simp [up6, fillR], ⟨chS (fun _ u => twT u) cdT 6, (ge _).mpr (ch_ex hF sub_cd)⟩, fun σ e => ?_, by decide, by decide, by decide, by decide⟩
  · rcases List.mem_append.mp hu with hu | hu
    · rw [up_eq] at hu
      obtain ⟨k, hk, rfl⟩ := List.mem_map.mp hu
      have q := gd_v (m := 6) (by decide) (List.mem_range.mp hk)
      exact ⟨q.1, q.2.1, q.2.2, by rw [dep_v]; decide⟩
    · rw [List.mem_singleton.mp hu]; exact gt
  · rcases List.mem_append.mp hu with hu | hu
    · rw [filled_eq] at hu
      obtain ⟨k, hk, rfl⟩ := List.mem_map.mp hu
      have q := gd_tw (gd_nxt (m := 6) (by decide) gd_cd (List.mem_range.mp hk))
      have d := nxt_dp (b := cdT) (m := 6) (k := k)
      rw [cd_sz.2] at d
      exact ⟨q.1, q.2.1, q.2.2, by rw [tw_dp]; omega⟩
    · rw [List.mem_singleton.mp hu]; exact gt
  · have u := ch_uniq (F := fun _ u => twT u) (hF σ) (sub_cd σ) ((ge σ).mp e)
    rw [sub_all, List.map_append, vals6 u, List.map_cons, List.map_nil, sub_cl σ t inn, (all_sz _).1, (all_sz _).2]
    simp only [vlD, List.cons_append, List.nil_append, T.sizes, T.deps, tw_sz, tw_dp, cd_sz.1, cd_sz.2, sz, decide_eq_true_eq]
    omega
theorem kd_deep {m : Nat} (h34 : 34 ≤ m) (h43 : m ≤ 43) : Kd 6 10 up6 (deepR m) (decide (40 < m + 2)) := by
  have hF : ∀ (σ : Sb) (k : Nat) (u : T), sub σ ((fun k u => sN (dpc m k) u : Nat → T → T) k u) = (fun k u => sN (dpc m k) u : Nat → T → T) k (sub σ u) := fun σ k u => sub_sN σ u _
  have ge : ∀ σ : Sb, up6.map (sub σ) = (deepR m).map (sub σ) ↔ ∀ k : Nat, k < 6 → σ (k : Int) = sub σ (sN (dpc m k) (nxt cT 6 k)) := fun σ => by
    rw [up_eq, deep_eq]
    have := maps_eq (σ := σ) (m := 6) (R := fun k => sN (dpc m k) (nxt cT 6 k)) []
    rw [List.append_nil, List.append_nil] at this
    exact this
  refine ⟨by decide, fun u hu => ?_, fun u hu => ?_, by simp [up6], by simp [up6, deepR], ⟨chS (fun k u => sN (dpc m k) u) cT 6, (ge _).mpr (ch_ex hF sub_cT)⟩, fun σ e => ?_, by decide, by decide, by decide, by decide⟩
  · rw [up_eq] at hu
    obtain ⟨k, hk, rfl⟩ := List.mem_map.mp hu
    have q := gd_v (m := 6) (by decide) (List.mem_range.mp hk)
    exact ⟨q.1, q.2.1, q.2.2, by rw [dep_v]; decide⟩
  · rw [deep_eq] at hu
    obtain ⟨k, hk, rfl⟩ := List.mem_map.mp hu
    have q := gd_sN (gd_nxt (m := 6) (by decide) gd_c (List.mem_range.mp hk)) (dpc m k)
    have d := nxt_dp (b := cT) (m := 6) (k := k)
    rw [c_sz.2] at d
    have d2 : dpc m k ≤ 8 := by unfold dpc; split <;> omega
    exact ⟨q.1, q.2.1, q.2.2, by rw [sN_dp]; omega⟩
  · have u := ch_uniq (F := fun k u => sN (dpc m k) u) (hF σ) (sub_cT σ) ((ge σ).mp e)
    rw [sub_all, vals6 u, (all_sz _).1, (all_sz _).2]
    have s : dpc m 0 + dpc m 1 + dpc m 2 + dpc m 3 + dpc m 4 + dpc m 5 = m := by
      rcases (show m = 34 ∨ m = 35 ∨ m = 36 ∨ m = 37 ∨ m = 38 ∨ m = 39 ∨ m = 40 ∨ m = 41 ∨ m = 42 ∨ m = 43 by omega) with rfl | rfl | rfl | rfl | rfl | rfl | rfl | rfl | rfl | rfl <;> rfl
    simp only [vlD, T.sizes, T.deps, sN_sz, sN_dp, c_sz.1, c_sz.2, decide_eq_true_eq, Nat.sub_zero, Nat.reduceSub]
    generalize dpc m 0 = d0 at s ⊢
    generalize dpc m 1 = d1 at s ⊢
    generalize dpc m 2 = d2 at s ⊢
    generalize dpc m 3 = d3 at s ⊢
    generalize dpc m 4 = d4 at s ⊢
    generalize dpc m 5 = d5 at s ⊢
    omega
end Q

set_option Elab.async false
set_option linter.all false
set_option maxRecDepth 100000
set_option maxHeartbeats 4000000
namespace Q
open PySem PySem.Spec PyProof.Rows L2 DL
theorem sub_gp (σ : Sb) (ts : List T) : sub σ (gpT ts) = gpT (ts.map (sub σ)) := by unfold gpT; rw [sub_a]
theorem gp_inj {a b : List T} (e : gpT a = gpT b) : a = b := by unfold gpT at e; exact (T.a.inj e).2
theorem gp_sz (ts : List T) : (gpT ts).size = 1 + T.sizes ts ∧ (gpT ts).dep = 1 + T.deps ts := by unfold gpT; rw [size_a, dep_a]; exact ⟨rfl, rfl⟩
theorem mem_grp {m g k : Nat} (h : k ∈ grp m g) : k < m := by
  unfold grp at h
  obtain ⟨j, hj, rfl⟩ := List.mem_map.mp h
  have := List.mem_range.mp hj
  omega
theorem in_grp {m k : Nat} (h : k < m) : k ∈ grp m (k / 6) := by
  unfold grp
  exact List.mem_map.mpr ⟨k % 6, List.mem_range.mpr (by omega), by omega⟩
theorem sizes_sum : ∀ l : List T, T.sizes l = (l.map T.size).sum
  | [] => by rw [T.sizes, List.map_nil, List.sum_nil]
  | t :: l => by rw [T.sizes, List.map_cons, List.sum_cons, sizes_sum l]
theorem vl_db (m : Nat) : ∀ j, (vlD (fun _ u => twT u) cT m j).size = dbSz j ∧ (vlD (fun _ u => twT u) cT m j).dep = j + 1
  | 0 => ⟨c_sz.1, c_sz.2⟩
  | j + 1 => by
    have ih := vl_db m j
    rw [vlD, tw_sz, tw_dp, ih.1, ih.2]
    exact ⟨rfl, by omega⟩
def dbl (m : Nat) : Nat := 1 + ((List.range (nG m)).map fun g => 1 + ((grp m g).map fun k => dbSz (m - k)).sum).sum
theorem dbl_eq : ∀ m, m < 19 → 1 ≤ m → dbl m = dbTot m + nG m := by decide +kernel
theorem mb_ok : ∀ m, m < 19 → mB (m + 1) 4 ≤ 16000000 := by decide +kernel
theorem db_eq {σ : Sb} {m : Nat} : ((List.range (nG m)).map (grpL m)).map (sub σ) = ((List.range (nG m)).map (grpR m)).map (sub σ) ↔ ∀ k : Nat, k < m → σ (k : Int) = sub σ (twT (nxt cT m k)) := by
  rw [List.map_map, List.map_map, List.map_inj_left]
  constructor
  · intro h k hk
    have q := h (k / 6) (List.mem_range.mpr (by unfold nG; omega))
    rw [Function.comp, Function.comp] at q
    unfold grpL grpR at q
    rw [sub_gp, sub_gp] at q
    have q := gp_inj q
    rw [List.map_map, List.map_map, List.map_inj_left] at q
    have q := q k (in_grp hk)
    rw [Function.comp, Function.comp, sub_v] at q
    exact q
  · intro h g _
    rw [Function.comp, Function.comp]
    unfold grpL grpR
    rw [sub_gp, sub_gp, List.map_map, List.map_map]
    congr 1
    refine List.map_congr_left fun k hk => ?_
    rw [Function.comp, Function.comp, sub_v]
    exact h k (mem_grp hk)
theorem kd_doubled {m : Nat} (h1 : 1 ≤ m) (h18 : m ≤ 18) : Kd m 4 ((List.range (nG m)).map (grpL m)) ((List.range (nG m)).map (grpR m)) (decide (400 < dbTot m + nG m)) := by
  have hF : ∀ (σ : Sb) (k : Nat) (u : T), sub σ ((fun _ u => twT u : Nat → T → T) k u) = (fun _ u => twT u : Nat → T → T) k (sub σ u) := fun σ k u => sub_tw σ u
  have hn : nG m ≤ 3 := by unfold nG; omega
  refine ⟨h18, fun u hu => ?_, fun u hu => ?_, by rw [List.length_map, List.length_range]; omega, by rw [List.length_map, List.length_map], ⟨chS (fun _ u => twT u) cT m, db_eq.mpr (ch_ex hF sub_cT)⟩, fun σ e => ?_, by decide, by decide, by omega, mb_ok m (by omega)⟩
  · obtain ⟨g, _, rfl⟩ := List.mem_map.mp hu
    have q : Gd13 (V13 m) (grpL m g) := gd_a gGp (by rw [List.length_map]; have := grp_len m g; omega) fun t ht => by
      obtain ⟨k, hk, rfl⟩ := List.mem_map.mp ht
      exact gd_v h18 (mem_grp hk)
    refine ⟨q.1, q.2.1, q.2.2, ?_⟩
    unfold grpL
    rw [(gp_sz _).2]
    have := deps_of (n := 1) (l := (grp m g).map fun (k : Nat) => T.v (k : Int)) fun t ht => by
      obtain ⟨k, hk, rfl⟩ := List.mem_map.mp ht
      rw [dep_v]; exact Nat.le_refl _
    omega
  · obtain ⟨g, _, rfl⟩ := List.mem_map.mp hu
    have q : Gd13 (V13 m) (grpR m g) := gd_a gGp (by rw [List.length_map]; have := grp_len m g; omega) fun t ht => by
      obtain ⟨k, hk, rfl⟩ := List.mem_map.mp ht
      exact gd_tw (gd_nxt h18 gd_c (mem_grp hk))
    refine ⟨q.1, q.2.1, q.2.2, ?_⟩
    unfold grpR
    rw [(gp_sz _).2]
    have := deps_of (n := 2) (l := (grp m g).map fun k => twT (dnx m k)) fun t ht => by
      obtain ⟨k, hk, rfl⟩ := List.mem_map.mp ht
      have d := nxt_dp (b := cT) (m := m) (k := k)
      rw [c_sz.2] at d
      rw [tw_dp]
      show 1 + (nxt cT m k).dep ≤ 2
      omega
    omega
  · have u := ch_uniq (F := fun _ u => twT u) (hF σ) (sub_cT σ) (db_eq.mp e)
    have vk : ∀ k, k < m → σ (k : Int) = vlD (fun _ u => twT u) cT m (m - k) := fun k hk => by
      have := u (m - k) (by omega) (by omega)
      rw [show m - (m - k) = k from by omega] at this
      exact this
    have gs : ∀ g, (sub σ (grpL m g)).size = 1 + ((grp m g).map fun k => dbSz (m - k)).sum ∧ (sub σ (grpL m g)).dep ≤ 20 := fun g => by
      unfold grpL
      rw [sub_gp, (gp_sz _).1, (gp_sz _).2, sizes_sum, List.map_map, List.map_map]
      refine ⟨?_, ?_⟩
      · congr 2
        refine List.map_congr_left fun k hk => ?_
        rw [Function.comp, Function.comp, sub_v, vk k (mem_grp hk), (vl_db m _).1]
      · rw [List.map_map]
        have := deps_of (n := 19) (l := (grp m g).map (sub σ ∘ fun (k : Nat) => T.v (k : Int))) fun t ht => by
          obtain ⟨k, hk, rfl⟩ := List.mem_map.mp ht
          rw [Function.comp, sub_v, vk k (mem_grp hk), (vl_db m _).2]
          omega
        omega
    have sz : (sub σ (allT ((List.range (nG m)).map (grpL m)))).size = dbTot m + nG m := by
      rw [← dbl_eq m (by omega) h1, sub_all, (all_sz _).1, sizes_sum, List.map_map, List.map_map]
      unfold dbl
      congr 2
      refine List.map_congr_left fun g _ => ?_
      rw [Function.comp, Function.comp, (gs g).1]
    have dp : (sub σ (allT ((List.range (nG m)).map (grpL m)))).dep ≤ 40 := by
      rw [sub_all, (all_sz _).2, List.map_map]
      have := deps_of (n := 20) (l := (List.range (nG m)).map (sub σ ∘ grpL m)) fun t ht => by
        obtain ⟨g, _, rfl⟩ := List.mem_map.mp ht
        rw [Function.comp]
        exact (gs g).2
      omega
    rw [sz, decide_eq_true_eq]
    omega
/-- two sides that were spoilt -/
structure Sp13 (m D0 : Nat) (lt rt : T) : Prop where
  l : lt.In (V13 m) ∧ lt.G ∧ lt.dep ≤ D0 ∧ lt.Ar
  r : rt.In (V13 m) ∧ rt.G ∧ rt.dep ≤ D0 ∧ rt.Ar
  no : ∀ σ, sub σ lt ≠ sub σ rt
  m18 : m ≤ 18
  d60 : D0 ≤ 60
  fu : 2 * (D0 + (m + 1) * (D0 + 1)) + 4 ≤ 229
  mb : mB (m + 1) D0 ≤ 16000000
theorem pt_all {m D0 : Nat} {ts : List T} (h : ∀ t, t ∈ ts → Pt13 m D0 t) (l : ts.length ≤ 100) (d : 1 ≤ D0) : (allT ts).In (V13 m) ∧ (allT ts).G ∧ (allT ts).dep ≤ D0 ∧ (allT ts).Ar := by
  have q : Gd13 (V13 m) (allT ts) := gd_a gAll l fun t ht => ⟨(h t ht).1, (h t ht).2.1, (h t ht).2.2.1⟩
  refine ⟨q.1, q.2.1, ?_, q.2.2⟩
  rw [(all_sz _).2]
  have := deps_of (n := D0 - 1) (l := ts) fun t ht => by have := (h t ht).2.2.2; omega
  omega
def aT13 : T := .a (Str.ofString "a") []
def bT13 : T := .a (Str.ofString "b") []
def sT90 : T := .a (Str.ofString "s") [.v 90]
theorem sp13 {m D0 : Nat} {ls rs : List T} {big : Bool} (K : Kd m D0 ls rs big) {x y : T} (h : (x = aT13 ∧ y = bT13) ∨ (x = .v 90 ∧ y = sT90)) {ls' rs' : List T} (hs : (ls' = x :: ls ∧ rs' = y :: rs) ∨ (ls' = ls ++ [x] ∧ rs' = rs ++ [y])) : Sp13 m D0 (allT ls') (allT rs') := by
  have d3 := K.d3
  have ll := K.ll
  have lr := K.lr
  have gv : Gd13 (V13 m) (.v 90) := ⟨.v (List.mem_append_right _ List.mem_cons_self), .v (by decide) (by decide), .v⟩
  have px : Pt13 m D0 x ∧ Pt13 m D0 y ∧ ∀ σ, sub σ x ≠ sub σ y := by
    rcases h with ⟨rfl, rfl⟩ | ⟨rfl, rfl⟩
    · have qa : Gd13 (V13 m) aT13 := gd_a ⟨by decide +kernel, by decide +kernel⟩ (by decide) fun _ h => absurd h List.not_mem_nil
      have qb : Gd13 (V13 m) bT13 := gd_a ⟨by decide +kernel, by decide +kernel⟩ (by decide) fun _ h => absurd h List.not_mem_nil
      refine ⟨⟨qa.1, qa.2.1, qa.2.2, ?_⟩, ⟨qb.1, qb.2.1, qb.2.2, ?_⟩, fun σ e => ?_⟩
      · unfold aT13; rw [dep_a, T.deps]; omega
      · unfold bT13; rw [dep_a, T.deps]; omega
      · unfold aT13 bT13 at e
        rw [sub_a, sub_a] at e
        exact absurd (T.a.inj e).1 (by decide +kernel)
    · have qs : Gd13 (V13 m) sT90 := gd_a gS13 (by decide) fun t ht => by rw [List.mem_singleton.mp ht]; exact gv
      refine ⟨⟨gv.1, gv.2.1, gv.2.2, ?_⟩, ⟨qs.1, qs.2.1, qs.2.2, ?_⟩, fun σ e => ?_⟩
      · rw [dep_v]; omega
      · unfold sT90; rw [dep_a, T.deps, T.deps, dep_v]; omega
      · have e2 := congrArg T.size e
        unfold sT90 at e2
        rw [sub_a, List.map_cons, List.map_nil, size_a, T.sizes, T.sizes] at e2
        omega
  obtain ⟨p, q, no⟩ := px
  have inj : ∀ {a b : List T}, allT a = allT b → a = b := fun e => by unfold allT at e; exact (T.a.inj e).2
  rcases hs with ⟨rfl, rfl⟩ | ⟨rfl, rfl⟩
  · refine ⟨pt_all (fun t ht => ?_) (by rw [List.length_cons]; omega) (by omega), pt_all (fun t ht => ?_) (by rw [List.length_cons]; omega) (by omega), fun σ e => ?_, K.m18, K.d60, K.fu, K.mb⟩
    · rcases List.mem_cons.mp ht with rfl | ht
      · exact p
      · exact K.l t ht
    · rcases List.mem_cons.mp ht with rfl | ht
      · exact q
      · exact K.r t ht
    · rw [sub_all, sub_all] at e
      have e := inj e
      rw [List.map_cons, List.map_cons] at e
      exact no σ (List.cons.inj e).1
  · refine ⟨pt_all (fun t ht => ?_) (by rw [List.length_append, List.length_singleton]; omega) (by omega), pt_all (fun t ht => ?_) (by rw [List.length_append, List.length_singleton]; omega) (by omega), fun σ e => ?_, K.m18, K.d60, K.fu, K.mb⟩
    · rcases List.mem_append.mp ht with ht | ht
      · exact K.l t ht
      · rw [List.mem_singleton.mp ht]; exact p
    · rcases List.mem_append.mp ht with ht | ht
      · exact K.r t ht
      · rw [List.mem_singleton.mp ht]; exact q
    · rw [sub_all, sub_all] at e
      have e := inj e
      rw [List.map_append, List.map_append] at e
      have e := (List.append_inj e (by rw [List.length_map, List.length_map, lr])).2
      rw [List.map_cons, List.map_cons] at e
      exact no σ (List.cons.inj e).1
end Q

set_option Elab.async false
set_option linter.all false
set_option maxRecDepth 100000
set_option maxHeartbeats 4000000
namespace Q
open PySem PySem.Spec PyProof.Rows L2 DL
theorem sp__law_alike (n : Nat) (t : T) (h : DHeap) (g : t.G) (hd : t.dep ≤ 60) (hs : t.size ≤ 90000) : W (run (n + 1) i__law_alike [t.toD, t.toD] h) (fun d h' => d = .bl true ∧ h' = h) := by
  have h1 : gdD t.toD = true := gd_T g
  have h2 : hD t.toD ≤ 64 := Nat.le_trans (hD_T t) (by omega)
  have h3 : wD t.toD ≤ 16777216 := by have := wD_T g; omega
  rw [r__law_alike]
  unfold B__law_alike
  cases t with
  | v i =>
    rw [toD_v] at *
    simp -implicitDefEqProofs only [EVB]
    simp -implicitDefEqProofs only [EVB, o_repr (x := .int i) (d := .int i) rfl (okR_of h1 h2 h3), Z3y]
  | a f as =>
    rw [toD_a] at *
    simp -implicitDefEqProofs only [EVB]
    simp -implicitDefEqProofs only [EVB, o_eqSame (x := .tup (D.str f :: as.map T.toD)) (y := .tup (D.str f :: as.map T.toD)) (d := .tup (D.str f :: as.map T.toD)) rfl rfl rfl (okP_of h1 h2), o_repr (x := .tup (D.str f :: as.map T.toD)) (d := .tup (D.str f :: as.map T.toD)) rfl (okR_of h1 h2 h3), Z3y]
end Q

set_option Elab.async false
set_option linter.all false
set_option maxRecDepth 100000
set_option maxHeartbeats 4000000
namespace Q
open PySem PySem.Spec PyProof.Rows L2 DL
def Fin13 (L : Nat) (h : DHeap) : Prop := ∃ (m D0 : Nat) (lt rt : T) (o : D), h[L]? = some (.lst [lt.toD, rt.toD, o]) ∧ ((Sp13 m D0 lt rt ∧ o = .non) ∨ ∃ (ls rs : List T) (big : Bool), Kd m D0 ls rs big ∧ lt = allT ls ∧ rt = allT rs ∧ o = .bl big)
theorem kd_un {m D0 : Nat} {ls rs : List T} {big : Bool} (K : Kd m D0 ls rs big) (σ : Sb) : sub σ (allT ls) = sub σ (allT rs) ↔ ls.map (sub σ) = rs.map (sub σ) := by
  rw [sub_all, sub_all]
  constructor
  · intro e; unfold allT at e; exact (T.a.inj e).2
  · intro e; rw [e]
theorem tk13 {α : Type} (l : List α) (n : Nat) (h : n ≤ l.length) : cutL l none (some (n : Int)) = l.take n ∧ cutL l (some (n : Int)) none = l.drop n := by
  exact ⟨cutL_to l n, cutL_from l n⟩
theorem end13 (x0 x2 x4 x5 : Option D) (L : Nat) (h : DHeap) (ht : Tape h 1) (hL : L ≠ 1) (q : Fin13 L h) :
    W (Z_law_6 (run 230) [x0, some (.ref 1), x2, some (.ref L), x4, x5, none, none, none, none] h) (kRt fun d _ => d = .bl true) := by
  obtain ⟨m, D0, lt, rt, o, eL, q⟩ := q
  unfold Z_law_6 Z_law_7 Z_law_8 Z_law_9
  simp -implicitDefEqProofs only [EVB]
  refine W_mono (draw_ok 229 1 2 _ ht (by decide)) fun _ h1 p => ?_
  obtain ⟨r, rfl, a1, b1, t1, v1⟩ := p
  have e1 := v1 L _ hL eL
  clear eL ht v1 h
  simp -implicitDefEqProofs only [EVB]
  have hx : ∀ {σ : DEnv} {h : DHeap} {Q : QD}, W (isxM [("TooLarge", true)] ⟨"TooLarge", []⟩ σ h) Q = Q (.bl true) h := w_isx rfl rfl
  have hy : ∀ {σ : DEnv} {h : DHeap} {Q : QD}, W (isxM [("TooLarge", false)] ⟨"TooLarge", []⟩ σ h) Q = Q (.bl false) h := w_isx rfl rfl
  rcases q with ⟨S, rfl⟩ | ⟨ls, rs, big, K, rfl, rfl, rfl⟩
  · have hv := v13_len m
    have okv := v13_ok S.m18
    have fu := S.fu
    have m18 := S.m18
    have mb := S.mb
    have go : ∀ (a b : T), (a = lt ∧ b = rt) ∨ (a = rt ∧ b = lt) → W (run 230 i_unify [a.toD, b.toD] h1) (fun d h' => d = .non ∧ Old h1 h') := fun a b c => by
      rcases c with ⟨rfl, rfl⟩ | ⟨rfl, rfl⟩
      · rcases sp_unify (V13 m) okv (by omega) D0 S.d60 (by rw [hv]; exact mb) 229 a b S.l S.r h1 (by rw [hv]; omega) with ⟨w, _⟩ | ⟨σ, mg, _⟩
        · exact w
        · exact absurd mg.e (S.no σ)
      · rcases sp_unify (V13 m) okv (by omega) D0 S.d60 (by rw [hv]; exact mb) 229 a b S.r S.l h1 (by rw [hv]; omega) with ⟨w, _⟩ | ⟨σ, mg, _⟩
        · exact w
        · exact absurd mg.e.symm (S.no σ)
    refine w_tryAN ?_
    rcases (show r = 0 ∨ r = 1 by omega) with rfl | rfl
    · simp -implicitDefEqProofs only [EVB, e1]
      refine W_mono (go lt rt (.inl ⟨rfl, rfl⟩)) fun d h2 p => ?_
      obtain ⟨rfl, old⟩ := p
      have e2 := old _ _ e1
      unfold Z_law_10
      simp -implicitDefEqProofs only [EVB, e2]
    · simp -implicitDefEqProofs only [EVB, e1]
      refine W_mono (go rt lt (.inr ⟨rfl, rfl⟩)) fun d h2 p => ?_
      obtain ⟨rfl, old⟩ := p
      have e2 := old _ _ e1
      unfold Z_law_10
      simp -implicitDefEqProofs only [EVB, e2]
  · have hv := v13_len m
    have okv := v13_ok K.m18
    have fu := K.fu
    have m18 := K.m18
    have mb := K.mb
    have ll := K.ll
    have lr := K.lr
    have d3 := K.d3
    have gl := pt_all K.l (by omega) (by omega)
    have gr := pt_all K.r (by omega) (by omega)
    have inl : ∀ σ, sub σ (allT ls) = sub σ (allT rs) → ((400 < (sub σ (allT ls)).size ∨ 40 < (sub σ (allT ls)).dep) ↔ big = true) := fun σ e => K.due σ ((kd_un K σ).mp e)
    obtain ⟨σ0, ex⟩ := K.ex
    have ex := (kd_un K σ0).mpr ex
    have go : ∀ (a b : T), (a = allT ls ∧ b = allT rs) ∨ (a = allT rs ∧ b = allT ls) → (big = true → R (run 230 i_unify [a.toD, b.toD] h1) (fun x _ h' => x = ⟨"TooLarge", []⟩ ∧ Old h1 h')) ∧ (big = false → ∃ σ, Mg σ (allT ls) (allT rs) ∧ W (run 230 i_unify [a.toD, b.toD] h1) (fun d h' => d = (num (sub σ (allT ls))).toD ∧ Old h1 h')) := fun a b c => by
      rcases c with ⟨rfl, rfl⟩ | ⟨rfl, rfl⟩
      · rcases sp_unify (V13 m) okv (by omega) D0 K.d60 (by rw [hv]; exact mb) 229 _ _ gl gr h1 (by rw [hv]; omega) with ⟨_, no⟩ | ⟨σ, mg, _, bg, sm⟩
        · exact absurd ex (no σ0)
        · have du := inl σ mg.e
          exact ⟨fun hb => bg (du.mpr hb), fun hb => ⟨σ, mg, sm fun c => by rw [du.mp c] at hb; cases hb⟩⟩
      · rcases sp_unify (V13 m) okv (by omega) D0 K.d60 (by rw [hv]; exact mb) 229 _ _ gr gl h1 (by rw [hv]; omega) with ⟨_, no⟩ | ⟨σ, mg, _, bg, sm⟩
        · exact absurd ex.symm (no σ0)
        · have du := inl σ mg.e.symm
          rw [← mg.e] at du
          exact ⟨fun hb => bg (du.mpr hb), fun hb => ⟨σ, mg.swap, by rw [← mg.e]; exact sm fun c => by rw [du.mp c] at hb; cases hb⟩⟩
    have fin : big = false → ∀ (h2 : DHeap) (σ : Sb), Mg σ (allT ls) (allT rs) → W (run 230 i__law_common [(allT ls).toD, (allT rs).toD] h2) (fun d h3 => W (run 230 i__law_alike [(num (sub σ (allT ls))).toD, d] h3) (fun d _ => d = .bl true)) := fun hb h2 σ mg => by
      refine W_mono (sp__law_common (V13 m) okv (by omega) D0 K.d60 229 _ _ gl gr h2 (by rw [hv]; omega)) fun d h3 p => ?_
      obtain ⟨_, p⟩ := p
      rcases p with ⟨_, no⟩ | ⟨σ', mg', rfl, ar', g', in'⟩
      · exact absurd mg.e (no σ)
      · rw [mg.num mg']
        have du := inl σ' mg'.e
        rw [hb] at du
        have ns1 := num_size (sub σ' (allT ls))
        have nok := num_ok (V := V13 m) (by omega) in' g' ar'
        have sz : (sub σ' (allT ls)).size ≤ 400 ∧ (sub σ' (allT ls)).dep ≤ 40 := by
          refine ⟨Nat.le_of_not_lt fun c => ?_, Nat.le_of_not_lt fun c => ?_⟩
          · exact absurd (du.mp (.inl c)) (by decide)
          · exact absurd (du.mp (.inr c)) (by decide)
        refine W_mono (sp__law_alike 229 (num (sub σ' (allT ls))) h3 nok.1 (by omega) (by omega)) fun d h4 p => ?_
        exact p.1
    cases big with
    | true =>
      rcases (show r = 0 ∨ r = 1 by omega) with rfl | rfl
      · refine w_tryAE (r_set (r_call ?_))
        simp -implicitDefEqProofs only [EVB, e1]
        refine R_mono ((go (allT ls) (allT rs) (.inl ⟨rfl, rfl⟩)).1 rfl) fun x s h2 p => ?_
        obtain ⟨rfl, old⟩ := p
        have e2 := old _ _ e1
        refine ⟨rfl, by simp, ?_⟩
        simp -implicitDefEqProofs only [EVB, hx, hy]
        unfold Z_law_10
        simp -implicitDefEqProofs only [EVB, e2]
        unfold Z_law_11
        simp -implicitDefEqProofs only [EVB, e2]
      · refine w_tryAE (r_set (r_call ?_))
        simp -implicitDefEqProofs only [EVB, e1]
        refine R_mono ((go (allT rs) (allT ls) (.inr ⟨rfl, rfl⟩)).1 rfl) fun x s h2 p => ?_
        obtain ⟨rfl, old⟩ := p
        have e2 := old _ _ e1
        refine ⟨rfl, by simp, ?_⟩
        simp -implicitDefEqProofs only [EVB, hx, hy]
        unfold Z_law_10
        simp -implicitDefEqProofs only [EVB, e2]
        unfold Z_law_11
        simp -implicitDefEqProofs only [EVB, e2]
    | false =>
      rcases (show r = 0 ∨ r = 1 by omega) with rfl | rfl
      · obtain ⟨σ, mg, w⟩ := (go (allT ls) (allT rs) (.inl ⟨rfl, rfl⟩)).2 rfl
        refine w_tryAN ?_
        simp -implicitDefEqProofs only [EVB, e1]
        refine W_mono w fun d h2 p => ?_
        obtain ⟨rfl, old⟩ := p
        have e2 := old _ _ e1
        unfold Z_law_10
        simp -implicitDefEqProofs only [EVB, e2]
        unfold Z_law_11
        simp -implicitDefEqProofs only [EVB, e2]
        unfold Z_law_12
        simp -implicitDefEqProofs only [EVB, e2]
        refine W_mono (fin rfl h2 σ mg) fun d h3 p => ?_
        simp -implicitDefEqProofs only [EVB]
        refine W_mono p fun d h4 p => ?_
        rw [p]
        simp -implicitDefEqProofs only [EVB]
      · obtain ⟨σ, mg, w⟩ := (go (allT rs) (allT ls) (.inr ⟨rfl, rfl⟩)).2 rfl
        refine w_tryAN ?_
        simp -implicitDefEqProofs only [EVB, e1]
        refine W_mono w fun d h2 p => ?_
        obtain ⟨rfl, old⟩ := p
        have e2 := old _ _ e1
        unfold Z_law_10
        simp -implicitDefEqProofs only [EVB, e2]
        unfold Z_law_11
        simp -implicitDefEqProofs only [EVB, e2]
        unfold Z_law_12
        simp -implicitDefEqProofs only [EVB, e2]
        refine W_mono (fin rfl h2 σ mg) fun d h3 p => ?_
        simp -implicitDefEqProofs only [EVB]
        refine W_mono p fun d h4 p => ?_
        rw [p]
        simp -implicitDefEqProofs only [EVB]
theorem law_true (ns : List Int) (hl : ns.length ≤ 63) : ∃ h', run 231 i_law [.fl (ns.map .int)] [] = .ok (.bl true) h' := by
  refine W_end (Q := fun d _ => d = .bl true) ?_ fun d h e => e
  rw [r_law]
  rw [show B_law = Z_law_0 from rfl]
  unfold Z_law_0 Z_law_1 Z_law_2
  simp -implicitDefEqProofs only [EVB]
  refine W_mono (tape_ok 229 ns [] hl) fun _ h1 q => ?_
  obtain ⟨rfl, t1, _⟩ := q
  simp -implicitDefEqProofs only [EVB]
  have i1 : ([] : DHeap).length + 1 = 1 := rfl
  rw [i1] at t1
  refine W_mono (draw_ok 229 1 3 _ t1 (by decide)) fun _ h2 q => ?_
  obtain ⟨c, rfl, a1, b1, t2, v2⟩ := q
  simp -implicitDefEqProofs only [EVB]
  generalize hFp : run 229 i__law_pad = Fp
  refine W_mono (sp__law_filled 228 1 h2 t2 Fp hFp) fun _ h3 q => ?_
  obtain ⟨L, m, t, rfl, hL, h24, h31, g, ar, inn, dp, sz, eL, t3, v3⟩ := q
  have K := kd_filled h24 h31 g ar inn dp sz
  have S : ∃ (m D0 : Nat) (ls rs : List T) (big : Bool), Kd m D0 ls rs big ∧ h3[L]? = some (.lst [(allT ls).toD, (allT rs).toD, .bl big]) := ⟨_, _, _, _, _, K, eL⟩
  clear K eL h24 h31 g ar inn dp sz
  unfold Z_law_3
  simp -implicitDefEqProofs only [EVB]
  generalize hFd : run 230 i__law_doubled = Fd
  refine if_cut (fun σ h => ∃ L : Nat, σ = [some (D.fl (List.map D.int ns)), some (D.ref 1), some (D.int c), some (D.ref L), none, none, none, none, none, none] ∧ L ≠ 1 ∧ Tape h 1 ∧ ∃ (m D0 : Nat) (ls rs : List T) (big : Bool), Kd m D0 ls rs big ∧ h[L]? = some (.lst [(allT ls).toD, (allT rs).toD, .bl big])) (fun cc => ?_) (fun cc => ?_) fun σ h4 q => ?_
  · simp -implicitDefEqProofs only [EVB]
    refine W_mono (draw_ok 229 1 18 _ t3 (by decide)) fun _ h4 q => ?_
    obtain ⟨r, rfl, a2, b2, t4, v4⟩ := q
    obtain ⟨m, hm⟩ : ∃ m : Nat, 1 + r = m := ⟨(1 + r).toNat, by omega⟩
    have l4 := t4.lt
    simp -implicitDefEqProofs only [EVB, hm]
    refine W_mono (sp__law_doubled 229 1 m h4 (by omega) Fd hFd) fun _ h5 q => ?_
    obtain ⟨L2, rfl, hL2, eL2, o5⟩ := q
    simp -implicitDefEqProofs only [EVB]
    exact ⟨L2, rfl, by omega, tapeH t4 o5, _, _, _, _, _, kd_doubled (m := m) (by omega) (by omega), eL2⟩
  · simp -implicitDefEqProofs only [EVB]
    exact ⟨L, rfl, hL, t3, S⟩
  clear hFd S t3 t2 t1 v2 v3
  obtain ⟨L, rfl, hL, t4, S4⟩ := q
  unfold Z_law_4
  simp -implicitDefEqProofs only [EVB]
  refine if_cut (fun σ h => ∃ L : Nat, σ = [some (D.fl (List.map D.int ns)), some (D.ref 1), some (D.int c), some (D.ref L), none, none, none, none, none, none] ∧ L ≠ 1 ∧ Tape h 1 ∧ ∃ (m D0 : Nat) (ls rs : List T) (big : Bool), Kd m D0 ls rs big ∧ h[L]? = some (.lst [(allT ls).toD, (allT rs).toD, .bl big])) (fun cc => ?_) (fun cc => ?_) fun σ h5 q => ?_
  · simp -implicitDefEqProofs only [EVB]
    refine W_mono (sp__law_deep 228 1 h4 t4) fun _ h5 q => ?_
    obtain ⟨L2, m, rfl, hL2, h34, h43, eL2, t5, _⟩ := q
    simp -implicitDefEqProofs only [EVB]
    exact ⟨L2, rfl, hL2, t5, _, _, _, _, _, kd_deep h34 h43, eL2⟩
  · simp -implicitDefEqProofs only [EVB]
    exact ⟨L, rfl, hL, t4, S4⟩
  clear S4 t4
  obtain ⟨L, rfl, hL, t5, m, D0, ls, rs, big, K, eL⟩ := q
  unfold Z_law_5
  simp -implicitDefEqProofs only [EVB]
  refine W_mono (draw_ok 229 1 4 _ t5 (by decide)) fun _ h6 q => ?_
  obtain ⟨r, rfl, a2, b2, t6, v6⟩ := q
  have e6 := v6 _ _ hL eL
  clear t5 v6 eL
  simp -implicitDefEqProofs only [EVB]
  refine if_cut (fun σ h => ∃ (L : Nat) (x4 x5 : Option D), σ = [some (D.fl (List.map D.int ns)), some (D.ref 1), some (D.int c), some (D.ref L), x4, x5, none, none, none, none] ∧ L ≠ 1 ∧ Tape h 1 ∧ Fin13 L h) (fun cc => ?_) (fun cc => ?_) fun σ h7 q => ?_
  · have ll := K.ll
    have lr := K.lr
    have l6 := t6.lt
    have n0 : (List.map T.toD ls).length = ls.length := List.length_map _
    have n1 : (List.map T.toD rs).length = ls.length := by rw [List.length_map, lr]
    simp -implicitDefEqProofs only [EVB, e6, all_D, n0]
    repeat (refine And.intro (by first | omega | decide | (split <;> omega) | (simp only [List.length_map, List.length_append, List.length_cons, List.length_nil]; omega)) ?_)
    refine W_mono (draw_ok 229 1 2 _ t6.app (by decide)) fun _ h7 q => ?_
    obtain ⟨p, rfl, a3, b3, t7, v7⟩ := q
    have e7 := v7 _ _ hL (app_at e6)
    have at7 := v7 h6.length _ (by omega) (app_end (h := h6) (c := Cell.lst [D.int 1, D.int ((ls.length + 1 : Nat) : Int)]))
    obtain ⟨at_, hat, hat2⟩ : ∃ at_ : Int, (at_ = 1 ∨ at_ = ((ls.length + 1 : Nat) : Int)) ∧ atI [D.int 1, D.int ((ls.length + 1 : Nat) : Int)] p = some (.int at_) := by
      rcases (show p = 0 ∨ p = 1 by omega) with rfl | rfl
      · exact ⟨_, .inl rfl, rfl⟩
      · exact ⟨_, .inr rfl, rfl⟩
    simp -implicitDefEqProofs only [EVB, at7, hat2]
    repeat (refine And.intro (by first | omega | decide | (split <;> omega) | (simp only [List.length_map, List.length_append, List.length_cons, List.length_nil]; omega)) ?_)
    have ca := app_end (h := h7) (c := Cell.lst [D.tup [D.str (Str.ofString "a")], D.tup [D.str (Str.ofString "b")]])
    have l7 : (h7 ++ [Cell.lst [D.tup [D.str (Str.ofString "a")], D.tup [D.str (Str.ofString "b")]]]).length = h7.length + 1 := by simp
    have ea := app_at (g := [Cell.lst [D.tup [D.str (Str.ofString "a")], D.tup [D.str (Str.ofString "b")]]]) e7
    have ta := t7.app (g := [Cell.lst [D.tup [D.str (Str.ofString "a")], D.tup [D.str (Str.ofString "b")]]])
    have lt7 := t7.lt
    rw [l7]
    generalize h7 ++ [Cell.lst [D.tup [D.str (Str.ofString "a")], D.tup [D.str (Str.ofString "b")]]] = g1 at ca l7 ea ta ⊢
    have cb := app_end (h := g1) (c := Cell.lst [D.int 90, D.tup [D.str (Str.ofString "s"), D.int 90]])
    have ca2 := app_at (g := [Cell.lst [D.int 90, D.tup [D.str (Str.ofString "s"), D.int 90]]]) ca
    have eb := app_at (g := [Cell.lst [D.int 90, D.tup [D.str (Str.ofString "s"), D.int 90]]]) ea
    have tb := ta.app (g := [Cell.lst [D.int 90, D.tup [D.str (Str.ofString "s"), D.int 90]]])
    have l8 : (g1 ++ [Cell.lst [D.int 90, D.tup [D.str (Str.ofString "s"), D.int 90]]]).length = h7.length + 2 := by simp [l7]
    rw [l7] at cb
    rw [l8]
    generalize g1 ++ [Cell.lst [D.int 90, D.tup [D.str (Str.ofString "s"), D.int 90]]] = g2 at ca2 cb eb tb l8 ⊢
    refine W_mono (draw_ok 229 1 2 _ tb.app (by decide)) fun _ h8 q => ?_
    obtain ⟨p2, rfl, a4, b4, t8, v8⟩ := q
    have e8 := v8 _ _ hL (app_at eb)
    have da := v8 h7.length _ (by omega) (app_at ca2)
    have db := v8 (h7.length + 1) _ (by omega) (app_at cb)
    have dc := v8 (h7.length + 2) _ (by omega) (by rw [← l8]; exact app_end)
    obtain ⟨M, x, y, hM, hxy, eM⟩ : ∃ (M : Nat) (x y : T), atI [D.ref h7.length, D.ref (h7.length + 1)] p2 = some (.ref M) ∧ ((x = aT13 ∧ y = bT13) ∨ (x = .v 90 ∧ y = sT90)) ∧ h8[M]? = some (.lst [x.toD, y.toD]) := by
      rcases (show p2 = 0 ∨ p2 = 1 by omega) with rfl | rfl
      · refine ⟨_, _, _, rfl, .inl ⟨rfl, rfl⟩, ?_⟩
        rw [da]
        unfold aT13 bT13
        rw [toD_a, toD_a]
        rfl
      · refine ⟨_, _, _, rfl, .inr ⟨rfl, rfl⟩, ?_⟩
        rw [db]
        unfold sT90
        rw [toD_a, toD_v, List.map_cons, List.map_nil, toD_v]
    have l8' := t8.lt
    simp -implicitDefEqProofs only [EVB, dc, hM, e8, eM, all_D, n0, n1]
    obtain ⟨k, rfl, hk⟩ : ∃ k : Nat, at_ = (k : Int) ∧ (k = 1 ∨ k = ls.length + 1) := by
      rcases hat with e | e
      · exact ⟨1, e, .inl rfl⟩
      · exact ⟨_, e, .inr rfl⟩
    have c1 := tk13 (D.str (Str.ofString "all") :: List.map T.toD ls) k (by rw [List.length_cons, n0]; omega)
    have c2 := tk13 (D.str (Str.ofString "all") :: List.map T.toD rs) k (by rw [List.length_cons, n1]; omega)
    obtain ⟨ls', rs', hs, r1, r2⟩ : ∃ ls' rs' : List T, ((ls' = x :: ls ∧ rs' = y :: rs) ∨ (ls' = ls ++ [x] ∧ rs' = rs ++ [y])) ∧ ((D.str (Str.ofString "all") :: List.map T.toD ls).take k ++ [x.toD]) ++ (D.str (Str.ofString "all") :: List.map T.toD ls).drop k = D.str (Str.ofString "all") :: ls'.map T.toD ∧ ((D.str (Str.ofString "all") :: List.map T.toD rs).take k ++ [y.toD]) ++ (D.str (Str.ofString "all") :: List.map T.toD rs).drop k = D.str (Str.ofString "all") :: rs'.map T.toD := by
      rcases hk with rfl | rfl
      · exact ⟨_, _, .inl ⟨rfl, rfl⟩, rfl, rfl⟩
      · refine ⟨_, _, .inr ⟨rfl, rfl⟩, ?_, ?_⟩
        · rw [List.take_of_length_le (by rw [List.length_cons, n0]; exact Nat.le_refl _), List.drop_of_length_le (by rw [List.length_cons, n0]; exact Nat.le_refl _), List.append_nil, List.map_append]
          rfl
        · rw [List.take_of_length_le (by rw [List.length_cons, n1]; exact Nat.le_refl _), List.drop_of_length_le (by rw [List.length_cons, n1]; exact Nat.le_refl _), List.append_nil, List.map_append]
          rfl
    have sp := sp13 K hxy hs
    have q1 : ((D.str (Str.ofString "all") :: List.map T.toD ls).take k).length ≤ 8 := by rw [List.length_take, List.length_cons, n0]; omega
    have q2 : ((D.str (Str.ofString "all") :: List.map T.toD rs).take k).length ≤ 8 := by rw [List.length_take, List.length_cons, n1]; omega
    have q3 : ((D.str (Str.ofString "all") :: List.map T.toD ls).drop k).length ≤ 8 := by rw [List.length_drop, List.length_cons, n0]; omega
    have q4 : ((D.str (Str.ofString "all") :: List.map T.toD rs).drop k).length ≤ 8 := by rw [List.length_drop, List.length_cons, n1]; omega
    rw [c1.1, c1.2, c2.1, c2.2, List.length_append, List.length_append, List.length_singleton, List.length_singleton, r1, r2]
    refine ⟨by decide, by omega, by omega, by decide, by omega, by omega, by decide, h8.length, _, _, rfl, by omega, t8.app, m, D0, allT ls', allT rs', .non, ?_, .inl ⟨sp, rfl⟩⟩
    rw [all_D, all_D]
    exact app_end
  · simp -implicitDefEqProofs only [EVB]
    exact ⟨L, _, _, rfl, hL, t6, m, D0, _, _, _, e6, .inr ⟨ls, rs, big, K, rfl, rfl, rfl⟩⟩
  obtain ⟨L, x4, x5, rfl, hL, t7, F⟩ := q
  exact end13 _ _ _ _ L h7 t7 hL F
end Q

namespace Q
open PySem PySem.Spec PyProof.Rows L2 DL
section
variable [TbC] {P : Program} {w : World} {K : PySem.W.Frag} {mg : Str → Option Value} {base : Heap}
structure All (P : Program) (w : World) (K : PySem.W.Frag) (mg : Str → Option Value) (base : Heap) (n : Nat) : Prop where
  d_note_variables : Defn P w K mg base n "note_variables" (run n i_note_variables)
  d_variables_of : Defn P w K mg base n "variables_of" (run n i_variables_of)
  d_replaced : Defn P w K mg base n "replaced" (run n i_replaced)
  d_numbered : Defn P w K mg base n "numbered" (run n i_numbered)
  d_root_of : Defn P w K mg base n "root_of" (run n i_root_of)
  d_occurs : Defn P w K mg base n "occurs" (run n i_occurs)
  d_bind : Defn P w K mg base n "bind" (run n i_bind)
  d_unifier : Defn P w K mg base n "unifier" (run n i_unifier)
  d_measured : Defn P w K mg base n "measured" (run n i_measured)
  d_written_out : Defn P w K mg base n "written_out" (run n i_written_out)
  d_resolved : Defn P w K mg base n "resolved" (run n i_resolved)
  d_unify : Defn P w K mg base n "unify" (run n i_unify)
  d__law_tape : Defn P w K mg base n "_law_tape" (run n i__law_tape)
  d__law_draw : Defn P w K mg base n "_law_draw" (run n i__law_draw)
  d__law_replaced : Defn P w K mg base n "_law_replaced" (run n i__law_replaced)
  d__law_collect : Defn P w K mg base n "_law_collect" (run n i__law_collect)
  d__law_variables : Defn P w K mg base n "_law_variables" (run n i__law_variables)
  d__law_numbered : Defn P w K mg base n "_law_numbered" (run n i__law_numbered)
  d__law_resolved : Defn P w K mg base n "_law_resolved" (run n i__law_resolved)
  d__law_occurs : Defn P w K mg base n "_law_occurs" (run n i__law_occurs)
  d__law_unified : Defn P w K mg base n "_law_unified" (run n i__law_unified)
  d__law_full : Defn P w K mg base n "_law_full" (run n i__law_full)
  d__law_common : Defn P w K mg base n "_law_common" (run n i__law_common)
  d__law_alike : Defn P w K mg base n "_law_alike" (run n i__law_alike)
  d__law_pad : Defn P w K mg base n "_law_pad" (run n i__law_pad)
  d__law_doubled : Defn P w K mg base n "_law_doubled" (run n i__law_doubled)
  d__law_filled : Defn P w K mg base n "_law_filled" (run n i__law_filled)
  d__law_deep : Defn P w K mg base n "_law_deep" (run n i__law_deep)
  d_law : Defn P w K mg base n "law" (run n i_law)
theorem all_defs {f_note_variables : Addr} {fd_note_variables : FuncData} {f_variables_of : Addr} {fd_variables_of : FuncData} {f_replaced : Addr} {fd_replaced : FuncData} {f_numbered : Addr} {fd_numbered : FuncData} {f_root_of : Addr} {fd_root_of : FuncData} {f_occurs : Addr} {fd_occurs : FuncData} {f_bind : Addr} {fd_bind : FuncData} {f_unifier : Addr} {fd_unifier : FuncData} {f_measured : Addr} {fd_measured : FuncData} {f_written_out : Addr} {fd_written_out : FuncData} {f_resolved : Addr} {fd_resolved : FuncData} {f_unify : Addr} {fd_unify : FuncData} {f__law_tape : Addr} {fd__law_tape : FuncData} {f__law_draw : Addr} {fd__law_draw : FuncData} {f__law_replaced : Addr} {fd__law_replaced : FuncData} {f__law_collect : Addr} {fd__law_collect : FuncData} {f__law_variables : Addr} {fd__law_variables : FuncData} {f__law_numbered : Addr} {fd__law_numbered : FuncData} {f__law_resolved : Addr} {fd__law_resolved : FuncData} {f__law_occurs : Addr} {fd__law_occurs : FuncData} {f__law_unified : Addr} {fd__law_unified : FuncData} {f__law_full : Addr} {fd__law_full : FuncData} {f__law_common : Addr} {fd__law_common : FuncData} {f__law_alike : Addr} {fd__law_alike : FuncData} {f__law_pad : Addr} {fd__law_pad : FuncData} {f__law_doubled : Addr} {fd__law_doubled : FuncData} {f__law_filled : Addr} {fd__law_filled : FuncData} {f__law_deep : Addr} {fd__law_deep : FuncData} {f_law : Addr} {fd_law : FuncData}
  (F_note_variables : Fun K "note_variables" "note_variables" s_note_variables f_note_variables fd_note_variables) (b_note_variables : Binds K fd_note_variables ["term", "found"] []) (g_note_variables : mg "note_variables" = some (.ref f_note_variables)) (F_variables_of : Fun K "variables_of" "variables_of" s_variables_of f_variables_of fd_variables_of) (b_variables_of : Binds K fd_variables_of ["terms"] []) (g_variables_of : mg "variables_of" = some (.ref f_variables_of)) (F_replaced : Fun K "replaced" "replaced" s_replaced f_replaced fd_replaced) (b_replaced : Binds K fd_replaced ["term", "table"] []) (g_replaced : mg "replaced" = some (.ref f_replaced)) (F_numbered : Fun K "numbered" "numbered" s_numbered f_numbered fd_numbered) (b_numbered : Binds K fd_numbered ["terms"] []) (g_numbered : mg "numbered" = some (.ref f_numbered)) (F_root_of : Fun K "root_of" "root_of" s_root_of f_root_of fd_root_of) (b_root_of : Binds K fd_root_of ["term", "bindings"] []) (g_root_of : mg "root_of" = some (.ref f_root_of)) (F_occurs : Fun K "occurs" "occurs" s_occurs f_occurs fd_occurs) (b_occurs : Binds K fd_occurs ["variable", "term", "bindings", "seen"] []) (g_occurs : mg "occurs" = some (.ref f_occurs)) (F_bind : Fun K "bind" "bind" s_bind f_bind fd_bind) (b_bind : Binds K fd_bind ["variable", "term", "bindings", "waiting"] []) (g_bind : mg "bind" = some (.ref f_bind)) (F_unifier : Fun K "unifier" "unifier" s_unifier f_unifier fd_unifier) (b_unifier : Binds K fd_unifier ["pairs"] []) (g_unifier : mg "unifier" = some (.ref f_unifier)) (F_measured : Fun K "measured" "measured" s_measured f_measured fd_measured) (b_measured : Binds K fd_measured ["term", "bindings", "known"] []) (g_measured : mg "measured" = some (.ref f_measured)) (F_written_out : Fun K "written_out" "written_out" s_written_out f_written_out fd_written_out) (b_written_out : Binds K fd_written_out ["term", "bindings"] []) (g_written_out : mg "written_out" = some (.ref f_written_out)) (F_resolved : Fun K "resolved" "resolved" s_resolved f_resolved fd_resolved) (b_resolved : Binds K fd_resolved ["term", "bindings", "most_size", "most_depth"] []) (g_resolved : mg "resolved" = some (.ref f_resolved)) (F_unify : Fun K "unify" "unify" s_unify f_unify fd_unify) (b_unify : Binds K fd_unify ["left", "right"] []) (g_unify : mg "unify" = some (.ref f_unify)) (F__law_tape : Fun K "_law_tape" "_law_tape" s__law_tape f__law_tape fd__law_tape) (b__law_tape : Binds K fd__law_tape ["_law_script"] []) (g__law_tape : mg "_law_tape" = some (.ref f__law_tape)) (F__law_draw : Fun K "_law_draw" "_law_draw" s__law_draw f__law_draw fd__law_draw) (b__law_draw : Binds K fd__law_draw ["_law_tape_here", "_law_many"] []) (g__law_draw : mg "_law_draw" = some (.ref f__law_draw)) (F__law_replaced : Fun K "_law_replaced" "_law_replaced" s__law_replaced f__law_replaced fd__law_replaced) (b__law_replaced : Binds K fd__law_replaced ["_law_term", "_law_table"] []) (g__law_replaced : mg "_law_replaced" = some (.ref f__law_replaced)) (F__law_collect : Fun K "_law_collect" "_law_collect" s__law_collect f__law_collect fd__law_collect) (b__law_collect : Binds K fd__law_collect ["_law_term", "_law_found"] []) (g__law_collect : mg "_law_collect" = some (.ref f__law_collect)) (F__law_variables : Fun K "_law_variables" "_law_variables" s__law_variables f__law_variables fd__law_variables) (b__law_variables : Binds K fd__law_variables ["_law_terms"] []) (g__law_variables : mg "_law_variables" = some (.ref f__law_variables)) (F__law_numbered : Fun K "_law_numbered" "_law_numbered" s__law_numbered f__law_numbered fd__law_numbered) (b__law_numbered : Binds K fd__law_numbered ["_law_terms"] []) (g__law_numbered : mg "_law_numbered" = some (.ref f__law_numbered)) (F__law_resolved : Fun K "_law_resolved" "_law_resolved" s__law_resolved f__law_resolved fd__law_resolved) (b__law_resolved : Binds K fd__law_resolved ["_law_term", "_law_bound"] []) (g__law_resolved : mg "_law_resolved" = some (.ref f__law_resolved)) (F__law_occurs : Fun K "_law_occurs" "_law_occurs" s__law_occurs f__law_occurs fd__law_occurs) (b__law_occurs : Binds K fd__law_occurs ["_law_variable", "_law_term", "_law_bound"] []) (g__law_occurs : mg "_law_occurs" = some (.ref f__law_occurs)) (F__law_unified : Fun K "_law_unified" "_law_unified" s__law_unified f__law_unified fd__law_unified) (b__law_unified : Binds K fd__law_unified ["_law_left", "_law_right", "_law_bound"] []) (g__law_unified : mg "_law_unified" = some (.ref f__law_unified)) (F__law_full : Fun K "_law_full" "_law_full" s__law_full f__law_full fd__law_full) (b__law_full : Binds K fd__law_full ["_law_term", "_law_bound"] []) (g__law_full : mg "_law_full" = some (.ref f__law_full)) (F__law_common : Fun K "_law_common" "_law_common" s__law_common f__law_common fd__law_common) (b__law_common : Binds K fd__law_common ["_law_left", "_law_right"] []) (g__law_common : mg "_law_common" = some (.ref f__law_common)) (F__law_alike : Fun K "_law_alike" "_law_alike" s__law_alike f__law_alike fd__law_alike) (b__law_alike : Binds K fd__law_alike ["_law_told", "_law_due"] []) (g__law_alike : mg "_law_alike" = some (.ref f__law_alike)) (F__law_pad : Fun K "_law_pad" "_law_pad" s__law_pad f__law_pad fd__law_pad) (b__law_pad : Binds K fd__law_pad ["_law_many"] []) (g__law_pad : mg "_law_pad" = some (.ref f__law_pad)) (F__law_doubled : Fun K "_law_doubled" "_law_doubled" s__law_doubled f__law_doubled fd__law_doubled) (b__law_doubled : Binds K fd__law_doubled ["_law_tape_here", "_law_many"] []) (g__law_doubled : mg "_law_doubled" = some (.ref f__law_doubled)) (F__law_filled : Fun K "_law_filled" "_law_filled" s__law_filled f__law_filled fd__law_filled) (b__law_filled : Binds K fd__law_filled ["_law_tape_here"] []) (g__law_filled : mg "_law_filled" = some (.ref f__law_filled)) (F__law_deep : Fun K "_law_deep" "_law_deep" s__law_deep f__law_deep fd__law_deep) (b__law_deep : Binds K fd__law_deep ["_law_tape_here"] []) (g__law_deep : mg "_law_deep" = some (.ref f__law_deep)) (F_law : Fun K "law" "law" s_law f_law fd_law) (b_law : Binds K fd_law ["_law_script"] []) (g_law : mg "law" = some (.ref f_law))
  (z_abs : mg "abs" = none) (z_int : mg "int" = none) (z_isinstance : mg "isinstance" = none) (z_len : mg "len" = none) (z_list : mg "list" = none) (z_max : mg "max" = none) (z_min : mg "min" = none) (z_range : mg "range" = none) (z_repr : mg "repr" = none) (z_tuple : mg "tuple" = none) {C_HasExistentials : Addr} {C_LinkProblems : Addr} {C_RuleError : Addr} {C_TacticFailed : Addr} {C_TooLarge : Addr} (K_MOST_SIZE : GC K mg "MOST_SIZE" (.int 400)) (K_MOST_DEPTH : GC K mg "MOST_DEPTH" (.int 40)) (X_TooLarge : XCls K mg "TooLarge" C_TooLarge) (M_TooLarge_TooLarge : PySem.W.exmOne K (.ref C_TooLarge) (.ref C_TooLarge) = some true) (V_TooLarge : ExcC K C_TooLarge) (I_TooLarge_RuleError : PySem.W.kitOne K (.ref C_TooLarge) (.ref C_RuleError) = some true) (X_RuleError : XCls K mg "RuleError" C_RuleError) (I_TooLarge_TacticFailed : PySem.W.kitOne K (.ref C_TooLarge) (.ref C_TacticFailed) = some false) (I_TooLarge_LinkProblems : PySem.W.kitOne K (.ref C_TooLarge) (.ref C_LinkProblems) = some false) (I_TooLarge_HasExistentials : PySem.W.kitOne K (.ref C_TooLarge) (.ref C_HasExistentials) = some false) (Y_TacticFailed : mg "TacticFailed" = some (.ref C_TacticFailed)) (Y_LinkProblems : mg "LinkProblems" = some (.ref C_LinkProblems)) (Y_HasExistentials : mg "HasExistentials" = some (.ref C_HasExistentials))  : ∀ n, All P w K mg base n
  | 0 => ⟨⟨_, _, _, badG, g_note_variables, F_note_variables.kp, b_note_variables⟩, ⟨_, _, _, badG, g_variables_of, F_variables_of.kp, b_variables_of⟩, ⟨_, _, _, badG, g_replaced, F_replaced.kp, b_replaced⟩, ⟨_, _, _, badG, g_numbered, F_numbered.kp, b_numbered⟩, ⟨_, _, _, badG, g_root_of, F_root_of.kp, b_root_of⟩, ⟨_, _, _, badG, g_occurs, F_occurs.kp, b_occurs⟩, ⟨_, _, _, badG, g_bind, F_bind.kp, b_bind⟩, ⟨_, _, _, badG, g_unifier, F_unifier.kp, b_unifier⟩, ⟨_, _, _, badG, g_measured, F_measured.kp, b_measured⟩, ⟨_, _, _, badG, g_written_out, F_written_out.kp, b_written_out⟩, ⟨_, _, _, badG, g_resolved, F_resolved.kp, b_resolved⟩, ⟨_, _, _, badG, g_unify, F_unify.kp, b_unify⟩, ⟨_, _, _, badG, g__law_tape, F__law_tape.kp, b__law_tape⟩, ⟨_, _, _, badG, g__law_draw, F__law_draw.kp, b__law_draw⟩, ⟨_, _, _, badG, g__law_replaced, F__law_replaced.kp, b__law_replaced⟩, ⟨_, _, _, badG, g__law_collect, F__law_collect.kp, b__law_collect⟩, ⟨_, _, _, badG, g__law_variables, F__law_variables.kp, b__law_variables⟩, ⟨_, _, _, badG, g__law_numbered, F__law_numbered.kp, b__law_numbered⟩, ⟨_, _, _, badG, g__law_resolved, F__law_resolved.kp, b__law_resolved⟩, ⟨_, _, _, badG, g__law_occurs, F__law_occurs.kp, b__law_occurs⟩, ⟨_, _, _, badG, g__law_unified, F__law_unified.kp, b__law_unified⟩, ⟨_, _, _, badG, g__law_full, F__law_full.kp, b__law_full⟩, ⟨_, _, _, badG, g__law_common, F__law_common.kp, b__law_common⟩, ⟨_, _, _, badG, g__law_alike, F__law_alike.kp, b__law_alike⟩, ⟨_, _, _, badG, g__law_pad, F__law_pad.kp, b__law_pad⟩, ⟨_, _, _, badG, g__law_doubled, F__law_doubled.kp, b__law_doubled⟩, ⟨_, _, _, badG, g__law_filled, F__law_filled.kp, b__law_filled⟩, ⟨_, _, _, badG, g__law_deep, F__law_deep.kp, b__law_deep⟩, ⟨_, _, _, badG, g_law, F_law.kp, b_law⟩⟩
  | n + 1 => have ih := all_defs F_note_variables b_note_variables g_note_variables F_variables_of b_variables_of g_variables_of F_replaced b_replaced g_replaced F_numbered b_numbered g_numbered F_root_of b_root_of g_root_of F_occurs b_occurs g_occurs F_bind b_bind g_bind F_unifier b_unifier g_unifier F_measured b_measured g_measured F_written_out b_written_out g_written_out F_resolved b_resolved g_resolved F_unify b_unify g_unify F__law_tape b__law_tape g__law_tape F__law_draw b__law_draw g__law_draw F__law_replaced b__law_replaced g__law_replaced F__law_collect b__law_collect g__law_collect F__law_variables b__law_variables g__law_variables F__law_numbered b__law_numbered g__law_numbered F__law_resolved b__law_resolved g__law_resolved F__law_occurs b__law_occurs g__law_occurs F__law_unified b__law_unified g__law_unified F__law_full b__law_full g__law_full F__law_common b__law_common g__law_common F__law_alike b__law_alike g__law_alike F__law_pad b__law_pad g__law_pad F__law_doubled b__law_doubled g__law_doubled F__law_filled b__law_filled g__law_filled F__law_deep b__law_deep g__law_deep F_law b_law g_law z_abs z_int z_isinstance z_len z_list z_max z_min z_range z_repr z_tuple K_MOST_SIZE K_MOST_DEPTH X_TooLarge M_TooLarge_TooLarge V_TooLarge I_TooLarge_RuleError X_RuleError I_TooLarge_TacticFailed I_TooLarge_LinkProblems I_TooLarge_HasExistentials Y_TacticFailed Y_LinkProblems Y_HasExistentials  n
    ⟨⟨_, _, _, ok_note_variables F_note_variables ih.d_note_variables z_int z_isinstance , g_note_variables, F_note_variables.kp, b_note_variables⟩, ⟨_, _, _, ok_variables_of F_variables_of ih.d_note_variables z_list z_tuple , g_variables_of, F_variables_of.kp, b_variables_of⟩, ⟨_, _, _, ok_replaced F_replaced ih.d_replaced z_int z_isinstance z_tuple , g_replaced, F_replaced.kp, b_replaced⟩, ⟨_, _, _, ok_numbered F_numbered ih.d_variables_of ih.d_replaced z_len z_range z_tuple , g_numbered, F_numbered.kp, b_numbered⟩, ⟨_, _, _, ok_root_of F_root_of  z_int z_isinstance , g_root_of, F_root_of.kp, b_root_of⟩, ⟨_, _, _, ok_occurs F_occurs ih.d_occurs z_int z_isinstance , g_occurs, F_occurs.kp, b_occurs⟩, ⟨_, _, _, ok_bind F_bind ih.d_occurs z_int z_isinstance , g_bind, F_bind.kp, b_bind⟩, ⟨_, _, _, ok_unifier F_unifier ih.d_root_of ih.d_bind z_int z_isinstance z_len z_list z_range , g_unifier, F_unifier.kp, b_unifier⟩, ⟨_, _, _, ok_measured F_measured ih.d_measured z_int z_isinstance z_max , g_measured, F_measured.kp, b_measured⟩, ⟨_, _, _, ok_written_out F_written_out ih.d_written_out z_int z_isinstance z_tuple , g_written_out, F_written_out.kp, b_written_out⟩, ⟨_, _, _, ok_resolved F_resolved ih.d_measured ih.d_written_out  , g_resolved, F_resolved.kp, b_resolved⟩, ⟨_, _, _, ok_unify F_unify ih.d_numbered ih.d_unifier ih.d_resolved  K_MOST_SIZE K_MOST_DEPTH X_TooLarge, g_unify, F_unify.kp, b_unify⟩, ⟨_, _, _, ok__law_tape F__law_tape  z_abs z_int z_list , g__law_tape, F__law_tape.kp, b__law_tape⟩, ⟨_, _, _, ok__law_draw F__law_draw  z_abs z_int z_len z_max , g__law_draw, F__law_draw.kp, b__law_draw⟩, ⟨_, _, _, ok__law_replaced F__law_replaced ih.d__law_replaced z_int z_isinstance z_tuple , g__law_replaced, F__law_replaced.kp, b__law_replaced⟩, ⟨_, _, _, ok__law_collect F__law_collect ih.d__law_collect z_int z_isinstance , g__law_collect, F__law_collect.kp, b__law_collect⟩, ⟨_, _, _, ok__law_variables F__law_variables ih.d__law_collect  , g__law_variables, F__law_variables.kp, b__law_variables⟩, ⟨_, _, _, ok__law_numbered F__law_numbered ih.d__law_replaced ih.d__law_variables z_len z_range , g__law_numbered, F__law_numbered.kp, b__law_numbered⟩, ⟨_, _, _, ok__law_resolved F__law_resolved  z_int z_isinstance z_len z_range , g__law_resolved, F__law_resolved.kp, b__law_resolved⟩, ⟨_, _, _, ok__law_occurs F__law_occurs ih.d__law_resolved ih.d__law_occurs z_int z_isinstance , g__law_occurs, F__law_occurs.kp, b__law_occurs⟩, ⟨_, _, _, ok__law_unified F__law_unified ih.d__law_resolved ih.d__law_occurs ih.d__law_unified z_int z_isinstance z_len z_range , g__law_unified, F__law_unified.kp, b__law_unified⟩, ⟨_, _, _, ok__law_full F__law_full ih.d__law_resolved ih.d__law_full z_int z_isinstance z_tuple , g__law_full, F__law_full.kp, b__law_full⟩, ⟨_, _, _, ok__law_common F__law_common ih.d__law_numbered ih.d__law_unified ih.d__law_full  , g__law_common, F__law_common.kp, b__law_common⟩, ⟨_, _, _, ok__law_alike F__law_alike  z_int z_isinstance z_repr z_tuple , g__law_alike, F__law_alike.kp, b__law_alike⟩, ⟨_, _, _, ok__law_pad F__law_pad  z_range , g__law_pad, F__law_pad.kp, b__law_pad⟩, ⟨_, _, _, ok__law_doubled F__law_doubled  z_min z_range z_tuple , g__law_doubled, F__law_doubled.kp, b__law_doubled⟩, ⟨_, _, _, ok__law_filled F__law_filled ih.d__law_draw ih.d__law_pad z_range z_tuple , g__law_filled, F__law_filled.kp, b__law_filled⟩, ⟨_, _, _, ok__law_deep F__law_deep ih.d__law_draw z_int z_range z_tuple , g__law_deep, F__law_deep.kp, b__law_deep⟩, ⟨_, _, _, ok_law F_law ih.d_unify ih.d__law_tape ih.d__law_draw ih.d__law_common ih.d__law_alike ih.d__law_doubled ih.d__law_filled ih.d__law_deep z_isinstance z_len X_TooLarge M_TooLarge_TooLarge V_TooLarge I_TooLarge_RuleError X_RuleError I_TooLarge_TacticFailed I_TooLarge_LinkProblems I_TooLarge_HasExistentials Y_TacticFailed Y_LinkProblems Y_HasExistentials, g_law, F_law.kp, b_law⟩⟩
end
theorem all_mk {l : PySem.W.OpenLaw} {w : World} {K : PySem.W.Frag} {h : Heap} {qq : Program} {mg : Str → Option Value} {fa f0 f1 f2 f3 f4 f5 f6 f7 f8 f9 f10 f11 f12 f13 f14 f15 f16 f17 f18 f19 f20 f21 f22 f23 f24 f25 f26 f27 f28 : Addr} (X : K.In h) (G : h.Ns mainGlobals mg) (hfa : mg "law" = some (.ref fa)) (TO : TabsOf qq mg h)
    {od0 an0 od1 an1 od2 an2 od3 an3 od4 an4 od5 an5 od6 an6 od7 an7 od8 an8 od9 an9 od10 an10 od11 an11 od12 an12 od13 an13 od14 an14 od15 an15 od16 an16 od17 an17 od18 an18 od19 an19 od20 an20 od21 an21 od22 an22 od23 an23 od24 an24 od25 an25 od26 an26 od27 an27 od28 an28 : Option Addr} {sl0 sl1 sl2 sl3 sl4 sl5 sl6 sl7 sl8 sl9 sl10 sl11 sl12 sl13 sl14 sl15 sl16 sl17 sl18 sl19 sl20 sl21 sl22 sl23 sl24 sl25 sl26 sl27 sl28 : Array (Option Value)}
    {oc0 kV0 dc0 pm0 cd0 ct0 oc1 kV1 dc1 pm1 cd1 ct1 oc2 kV2 dc2 pm2 cd2 ct2 oc3 kV3 dc3 pm3 cd3 ct3 oc4 kV4 dc4 pm4 cd4 ct4 oc5 kV5 dc5 pm5 cd5 ct5 oc6 kV6 dc6 pm6 cd6 ct6 oc7 kV7 dc7 pm7 cd7 ct7 oc8 kV8 dc8 pm8 cd8 ct8 oc9 kV9 dc9 pm9 cd9 ct9 oc10 kV10 dc10 pm10 cd10 ct10 oc11 kV11 dc11 pm11 cd11 ct11 oc12 kV12 dc12 pm12 cd12 ct12 oc13 kV13 dc13 pm13 cd13 ct13 oc14 kV14 dc14 pm14 cd14 ct14 oc15 kV15 dc15 pm15 cd15 ct15 oc16 kV16 dc16 pm16 cd16 ct16 oc17 kV17 dc17 pm17 cd17 ct17 oc18 kV18 dc18 pm18 cd18 ct18 oc19 kV19 dc19 pm19 cd19 ct19 oc20 kV20 dc20 pm20 cd20 ct20 oc21 kV21 dc21 pm21 cd21 ct21 oc22 kV22 dc22 pm22 cd22 ct22 oc23 kV23 dc23 pm23 cd23 ct23 oc24 kV24 dc24 pm24 cd24 ct24 oc25 kV25 dc25 pm25 cd25 ct25 oc26 kV26 dc26 pm26 cd26 ct26 oc27 kV27 dc27 pm27 cd27 ct27 oc28 kV28 dc28 pm28 cd28 ct28 : Value}
    (a0 : PySem.W.nsIn K mainGlobals "note_variables" = some (some (.ref f0))) (l0 : K.lookup f0 = some ⟨oc0, od0, .func (PySem.W.fnOf "note_variables" "note_variables" (defArgs s_note_variables) (defBody s_note_variables) (defScope s_note_variables) .none kV0 dc0 pm0 an0 cd0 ct0), sl0⟩) (c0 : PySem.W.codeIn K cd0 "note_variables" = true) (k0 : PySem.W.keepIn K (.ref f0) = true)
    (a1 : PySem.W.nsIn K mainGlobals "variables_of" = some (some (.ref f1))) (l1 : K.lookup f1 = some ⟨oc1, od1, .func (PySem.W.fnOf "variables_of" "variables_of" (defArgs s_variables_of) (defBody s_variables_of) (defScope s_variables_of) .none kV1 dc1 pm1 an1 cd1 ct1), sl1⟩) (c1 : PySem.W.codeIn K cd1 "variables_of" = true) (k1 : PySem.W.keepIn K (.ref f1) = true)
    (a2 : PySem.W.nsIn K mainGlobals "replaced" = some (some (.ref f2))) (l2 : K.lookup f2 = some ⟨oc2, od2, .func (PySem.W.fnOf "replaced" "replaced" (defArgs s_replaced) (defBody s_replaced) (defScope s_replaced) .none kV2 dc2 pm2 an2 cd2 ct2), sl2⟩) (c2 : PySem.W.codeIn K cd2 "replaced" = true) (k2 : PySem.W.keepIn K (.ref f2) = true)
    (a3 : PySem.W.nsIn K mainGlobals "numbered" = some (some (.ref f3))) (l3 : K.lookup f3 = some ⟨oc3, od3, .func (PySem.W.fnOf "numbered" "numbered" (defArgs s_numbered) (defBody s_numbered) (defScope s_numbered) .none kV3 dc3 pm3 an3 cd3 ct3), sl3⟩) (c3 : PySem.W.codeIn K cd3 "numbered" = true) (k3 : PySem.W.keepIn K (.ref f3) = true)
    (a4 : PySem.W.nsIn K mainGlobals "root_of" = some (some (.ref f4))) (l4 : K.lookup f4 = some ⟨oc4, od4, .func (PySem.W.fnOf "root_of" "root_of" (defArgs s_root_of) (defBody s_root_of) (defScope s_root_of) .none kV4 dc4 pm4 an4 cd4 ct4), sl4⟩) (c4 : PySem.W.codeIn K cd4 "root_of" = true) (k4 : PySem.W.keepIn K (.ref f4) = true)
    (a5 : PySem.W.nsIn K mainGlobals "occurs" = some (some (.ref f5))) (l5 : K.lookup f5 = some ⟨oc5, od5, .func (PySem.W.fnOf "occurs" "occurs" (defArgs s_occurs) (defBody s_occurs) (defScope s_occurs) .none kV5 dc5 pm5 an5 cd5 ct5), sl5⟩) (c5 : PySem.W.codeIn K cd5 "occurs" = true) (k5 : PySem.W.keepIn K (.ref f5) = true)
    (a6 : PySem.W.nsIn K mainGlobals "bind" = some (some (.ref f6))) (l6 : K.lookup f6 = some ⟨oc6, od6, .func (PySem.W.fnOf "bind" "bind" (defArgs s_bind) (defBody s_bind) (defScope s_bind) .none kV6 dc6 pm6 an6 cd6 ct6), sl6⟩) (c6 : PySem.W.codeIn K cd6 "bind" = true) (k6 : PySem.W.keepIn K (.ref f6) = true)
    (a7 : PySem.W.nsIn K mainGlobals "unifier" = some (some (.ref f7))) (l7 : K.lookup f7 = some ⟨oc7, od7, .func (PySem.W.fnOf "unifier" "unifier" (defArgs s_unifier) (defBody s_unifier) (defScope s_unifier) .none kV7 dc7 pm7 an7 cd7 ct7), sl7⟩) (c7 : PySem.W.codeIn K cd7 "unifier" = true) (k7 : PySem.W.keepIn K (.ref f7) = true)
    (a8 : PySem.W.nsIn K mainGlobals "measured" = some (some (.ref f8))) (l8 : K.lookup f8 = some ⟨oc8, od8, .func (PySem.W.fnOf "measured" "measured" (defArgs s_measured) (defBody s_measured) (defScope s_measured) .none kV8 dc8 pm8 an8 cd8 ct8), sl8⟩) (c8 : PySem.W.codeIn K cd8 "measured" = true) (k8 : PySem.W.keepIn K (.ref f8) = true)
    (a9 : PySem.W.nsIn K mainGlobals "written_out" = some (some (.ref f9))) (l9 : K.lookup f9 = some ⟨oc9, od9, .func (PySem.W.fnOf "written_out" "written_out" (defArgs s_written_out) (defBody s_written_out) (defScope s_written_out) .none kV9 dc9 pm9 an9 cd9 ct9), sl9⟩) (c9 : PySem.W.codeIn K cd9 "written_out" = true) (k9 : PySem.W.keepIn K (.ref f9) = true)
    (a10 : PySem.W.nsIn K mainGlobals "resolved" = some (some (.ref f10))) (l10 : K.lookup f10 = some ⟨oc10, od10, .func (PySem.W.fnOf "resolved" "resolved" (defArgs s_resolved) (defBody s_resolved) (defScope s_resolved) .none kV10 dc10 pm10 an10 cd10 ct10), sl10⟩) (c10 : PySem.W.codeIn K cd10 "resolved" = true) (k10 : PySem.W.keepIn K (.ref f10) = true)
    (a11 : PySem.W.nsIn K mainGlobals "unify" = some (some (.ref f11))) (l11 : K.lookup f11 = some ⟨oc11, od11, .func (PySem.W.fnOf "unify" "unify" (defArgs s_unify) (defBody s_unify) (defScope s_unify) .none kV11 dc11 pm11 an11 cd11 ct11), sl11⟩) (c11 : PySem.W.codeIn K cd11 "unify" = true) (k11 : PySem.W.keepIn K (.ref f11) = true)
    (a12 : PySem.W.nsIn K mainGlobals "_law_tape" = some (some (.ref f12))) (l12 : K.lookup f12 = some ⟨oc12, od12, .func (PySem.W.fnOf "_law_tape" "_law_tape" (defArgs s__law_tape) (defBody s__law_tape) (defScope s__law_tape) .none kV12 dc12 pm12 an12 cd12 ct12), sl12⟩) (c12 : PySem.W.codeIn K cd12 "_law_tape" = true) (k12 : PySem.W.keepIn K (.ref f12) = true)
    (a13 : PySem.W.nsIn K mainGlobals "_law_draw" = some (some (.ref f13))) (l13 : K.lookup f13 = some ⟨oc13, od13, .func (PySem.W.fnOf "_law_draw" "_law_draw" (defArgs s__law_draw) (defBody s__law_draw) (defScope s__law_draw) .none kV13 dc13 pm13 an13 cd13 ct13), sl13⟩) (c13 : PySem.W.codeIn K cd13 "_law_draw" = true) (k13 : PySem.W.keepIn K (.ref f13) = true)
    (a14 : PySem.W.nsIn K mainGlobals "_law_replaced" = some (some (.ref f14))) (l14 : K.lookup f14 = some ⟨oc14, od14, .func (PySem.W.fnOf "_law_replaced" "_law_replaced" (defArgs s__law_replaced) (defBody s__law_replaced) (defScope s__law_replaced) .none kV14 dc14 pm14 an14 cd14 ct14), sl14⟩) (c14 : PySem.W.codeIn K cd14 "_law_replaced" = true) (k14 : PySem.W.keepIn K (.ref f14) = true)
    (a15 : PySem.W.nsIn K mainGlobals "_law_collect" = some (some (.ref f15))) (l15 : K.lookup f15 = some ⟨oc15, od15, .func (PySem.W.fnOf "_law_collect" "_law_collect" (defArgs s__law_collect) (defBody s__law_collect) (defScope s__law_collect) .none kV15 dc15 pm15 an15 cd15 ct15), sl15⟩) (c15 : PySem.W.codeIn K cd15 "_law_collect" = true) (k15 : PySem.W.keepIn K (.ref f15) = true)
    (a16 : PySem.W.nsIn K mainGlobals "_law_variables" = some (some (.ref f16))) (l16 : K.lookup f16 = some ⟨oc16, od16, .func (PySem.W.fnOf "_law_variables" "_law_variables" (defArgs s__law_variables) (defBody s__law_variables) (defScope s__law_variables) .none kV16 dc16 pm16 an16 cd16 ct16), sl16⟩) (c16 : PySem.W.codeIn K cd16 "_law_variables" = true) (k16 : PySem.W.keepIn K (.ref f16) = true)
    (a17 : PySem.W.nsIn K mainGlobals "_law_numbered" = some (some (.ref f17))) (l17 : K.lookup f17 = some ⟨oc17, od17, .func (PySem.W.fnOf "_law_numbered" "_law_numbered" (defArgs s__law_numbered) (defBody s__law_numbered) (defScope s__law_numbered) .none kV17 dc17 pm17 an17 cd17 ct17), sl17⟩) (c17 : PySem.W.codeIn K cd17 "_law_numbered" = true) (k17 : PySem.W.keepIn K (.ref f17) = true)
    (a18 : PySem.W.nsIn K mainGlobals "_law_resolved" = some (some (.ref f18))) (l18 : K.lookup f18 = some ⟨oc18, od18, .func (PySem.W.fnOf "_law_resolved" "_law_resolved" (defArgs s__law_resolved) (defBody s__law_resolved) (defScope s__law_resolved) .none kV18 dc18 pm18 an18 cd18 ct18), sl18⟩) (c18 : PySem.W.codeIn K cd18 "_law_resolved" = true) (k18 : PySem.W.keepIn K (.ref f18) = true)
    (a19 : PySem.W.nsIn K mainGlobals "_law_occurs" = some (some (.ref f19))) (l19 : K.lookup f19 = some ⟨oc19, od19, .func (PySem.W.fnOf "_law_occurs" "_law_occurs" (defArgs s__law_occurs) (defBody s__law_occurs) (defScope s__law_occurs) .none kV19 dc19 pm19 an19 cd19 ct19), sl19⟩) (c19 : PySem.W.codeIn K cd19 "_law_occurs" = true) (k19 : PySem.W.keepIn K (.ref f19) = true)
    (a20 : PySem.W.nsIn K mainGlobals "_law_unified" = some (some (.ref f20))) (l20 : K.lookup f20 = some ⟨oc20, od20, .func (PySem.W.fnOf "_law_unified" "_law_unified" (defArgs s__law_unified) (defBody s__law_unified) (defScope s__law_unified) .none kV20 dc20 pm20 an20 cd20 ct20), sl20⟩) (c20 : PySem.W.codeIn K cd20 "_law_unified" = true) (k20 : PySem.W.keepIn K (.ref f20) = true)
    (a21 : PySem.W.nsIn K mainGlobals "_law_full" = some (some (.ref f21))) (l21 : K.lookup f21 = some ⟨oc21, od21, .func (PySem.W.fnOf "_law_full" "_law_full" (defArgs s__law_full) (defBody s__law_full) (defScope s__law_full) .none kV21 dc21 pm21 an21 cd21 ct21), sl21⟩) (c21 : PySem.W.codeIn K cd21 "_law_full" = true) (k21 : PySem.W.keepIn K (.ref f21) = true)
    (a22 : PySem.W.nsIn K mainGlobals "_law_common" = some (some (.ref f22))) (l22 : K.lookup f22 = some ⟨oc22, od22, .func (PySem.W.fnOf "_law_common" "_law_common" (defArgs s__law_common) (defBody s__law_common) (defScope s__law_common) .none kV22 dc22 pm22 an22 cd22 ct22), sl22⟩) (c22 : PySem.W.codeIn K cd22 "_law_common" = true) (k22 : PySem.W.keepIn K (.ref f22) = true)
    (a23 : PySem.W.nsIn K mainGlobals "_law_alike" = some (some (.ref f23))) (l23 : K.lookup f23 = some ⟨oc23, od23, .func (PySem.W.fnOf "_law_alike" "_law_alike" (defArgs s__law_alike) (defBody s__law_alike) (defScope s__law_alike) .none kV23 dc23 pm23 an23 cd23 ct23), sl23⟩) (c23 : PySem.W.codeIn K cd23 "_law_alike" = true) (k23 : PySem.W.keepIn K (.ref f23) = true)
    (a24 : PySem.W.nsIn K mainGlobals "_law_pad" = some (some (.ref f24))) (l24 : K.lookup f24 = some ⟨oc24, od24, .func (PySem.W.fnOf "_law_pad" "_law_pad" (defArgs s__law_pad) (defBody s__law_pad) (defScope s__law_pad) .none kV24 dc24 pm24 an24 cd24 ct24), sl24⟩) (c24 : PySem.W.codeIn K cd24 "_law_pad" = true) (k24 : PySem.W.keepIn K (.ref f24) = true)
    (a25 : PySem.W.nsIn K mainGlobals "_law_doubled" = some (some (.ref f25))) (l25 : K.lookup f25 = some ⟨oc25, od25, .func (PySem.W.fnOf "_law_doubled" "_law_doubled" (defArgs s__law_doubled) (defBody s__law_doubled) (defScope s__law_doubled) .none kV25 dc25 pm25 an25 cd25 ct25), sl25⟩) (c25 : PySem.W.codeIn K cd25 "_law_doubled" = true) (k25 : PySem.W.keepIn K (.ref f25) = true)
    (a26 : PySem.W.nsIn K mainGlobals "_law_filled" = some (some (.ref f26))) (l26 : K.lookup f26 = some ⟨oc26, od26, .func (PySem.W.fnOf "_law_filled" "_law_filled" (defArgs s__law_filled) (defBody s__law_filled) (defScope s__law_filled) .none kV26 dc26 pm26 an26 cd26 ct26), sl26⟩) (c26 : PySem.W.codeIn K cd26 "_law_filled" = true) (k26 : PySem.W.keepIn K (.ref f26) = true)
    (a27 : PySem.W.nsIn K mainGlobals "_law_deep" = some (some (.ref f27))) (l27 : K.lookup f27 = some ⟨oc27, od27, .func (PySem.W.fnOf "_law_deep" "_law_deep" (defArgs s__law_deep) (defBody s__law_deep) (defScope s__law_deep) .none kV27 dc27 pm27 an27 cd27 ct27), sl27⟩) (c27 : PySem.W.codeIn K cd27 "_law_deep" = true) (k27 : PySem.W.keepIn K (.ref f27) = true)
    (a28 : PySem.W.nsIn K mainGlobals "law" = some (some (.ref f28))) (l28 : K.lookup f28 = some ⟨oc28, od28, .func (PySem.W.fnOf "law" "law" (defArgs s_law) (defBody s_law) (defScope s_law) .none kV28 dc28 pm28 an28 cd28 ct28), sl28⟩) (c28 : PySem.W.codeIn K cd28 "law" = true) (k28 : PySem.W.keepIn K (.ref f28) = true)
    {C_HasExistentials : Addr} {C_LinkProblems : Addr} {C_RuleError : Addr} {C_TacticFailed : Addr} {C_TooLarge : Addr} {tk_MOST_SIZE_1 : Tok} {tk_MOST_DEPTH_1 : Tok}
    (aX_TooLarge : PySem.W.nsIn K mainGlobals "TooLarge" = some (some (.ref C_TooLarge))) (xX_TooLarge : PySem.W.excIn K C_TooLarge [.type "ValueError", .type "Exception", .type "BaseException", .type "object"] "ValueError.__new__" = true) (kX_TooLarge : PySem.W.keepIn K (.ref C_TooLarge) = true) (bX_TooLarge : PySem.W.subIn K (.ref C_TooLarge) (.type "BaseException") = some true) (tX_TooLarge : PySem.W.typeIn K (.ref C_TooLarge) = some (.type "type")) (aX_RuleError : PySem.W.nsIn K mainGlobals "RuleError" = some (some (.ref C_RuleError))) (xX_RuleError : PySem.W.excIn K C_RuleError [.type "ValueError", .type "Exception", .type "BaseException", .type "object"] "ValueError.__new__" = true) (kX_RuleError : PySem.W.keepIn K (.ref C_RuleError) = true) (bX_RuleError : PySem.W.subIn K (.ref C_RuleError) (.type "BaseException") = some true) (tX_RuleError : PySem.W.typeIn K (.ref C_RuleError) = some (.type "type")) (aX_TacticFailed : PySem.W.nsIn K mainGlobals "TacticFailed" = some (some (.ref C_TacticFailed))) (aX_LinkProblems : PySem.W.nsIn K mainGlobals "LinkProblems" = some (some (.ref C_LinkProblems))) (aX_HasExistentials : PySem.W.nsIn K mainGlobals "HasExistentials" = some (some (.ref C_HasExistentials))) (hX_TooLarge : PySem.W.hasDictIn K C_TooLarge = true) (aK_MOST_SIZE : PySem.W.nsIn K mainGlobals "MOST_SIZE" = some (some (.int (400) tk_MOST_SIZE_1))) (aK_MOST_DEPTH : PySem.W.nsIn K mainGlobals "MOST_DEPTH" = some (some (.int (40) tk_MOST_DEPTH_1))) (s_TooLarge_TooLarge : PySem.W.subIn K (.ref C_TooLarge) (.ref C_TooLarge) = some true) (v0X_TooLarge : PySem.W.findIn K (.ref C_TooLarge) "__getattribute__" = some (some (.builtin "BaseException.__getattribute__"))) (v1X_TooLarge : PySem.W.findIn K (.ref C_TooLarge) "__getattr__" = some none) (v2X_TooLarge : PySem.W.subIn K (.ref C_TooLarge) (.type "BaseException") = some true) (v3X_TooLarge : PySem.W.hasDictIn K C_TooLarge = true) (v4X_TooLarge : PySem.W.findIn K (.ref C_TooLarge) "__class__" = some (some (.builtin "object.__class__"))) (v5X_TooLarge : PySem.W.specialIn K (.builtin "object.__class__") "__get__" = some (some (.builtin "getset_descriptor.__get__"))) (v6X_TooLarge : PySem.W.takesIn K (.builtin "object.__class__") = some true) (v7X_TooLarge : PySem.W.mroIn K C_TooLarge (.type "object") = some true) (rI_TooLarge_RuleError : PySem.W.kitOne K (.ref C_TooLarge) (.ref C_RuleError) = some true) (rI_TooLarge_TacticFailed : PySem.W.kitOne K (.ref C_TooLarge) (.ref C_TacticFailed) = some false) (rI_TooLarge_LinkProblems : PySem.W.kitOne K (.ref C_TooLarge) (.ref C_LinkProblems) = some false) (rI_TooLarge_HasExistentials : PySem.W.kitOne K (.ref C_TooLarge) (.ref C_HasExistentials) = some false)
    (z0 : PySem.W.nsIn K mainGlobals "abs" = some none) (z1 : PySem.W.nsIn K mainGlobals "int" = some none) (z2 : PySem.W.nsIn K mainGlobals "isinstance" = some none) (z3 : PySem.W.nsIn K mainGlobals "len" = some none) (z4 : PySem.W.nsIn K mainGlobals "list" = some none) (z5 : PySem.W.nsIn K mainGlobals "max" = some none) (z6 : PySem.W.nsIn K mainGlobals "min" = some none) (z7 : PySem.W.nsIn K mainGlobals "range" = some none) (z8 : PySem.W.nsIn K mainGlobals "repr" = some none) (z9 : PySem.W.nsIn K mainGlobals "tuple" = some none) :
    ∃ (tc : TbC) (cs : List (Addr × Addr × Str)) (fd : FuncData), tc.tabs = cs.map (·.2) ∧ (∀ p ∈ cs, h.get? p.2.1 = some { cls := .none, data := .fields #[] }) ∧ (∀ p ∈ cs, K.lookup p.2.1 = none) ∧ (∀ p ∈ cs, PySem.W.CodeHd h p.1 p.2.1) ∧ (∀ (s : Shared) (v : Value), BindsTo s fd ⟨[v], []⟩ [("_law_script", v)]) ∧ ∀ base : Heap, K.In base → base.Ns mainGlobals mg → (∀ p ∈ cs, LamX.TabB base mg p.1 p.2.1) → @FnG tc l.prog w K mg base 231 fa fd ["_law_script"] (run 231 i_law) := by
  have e := hfa.symm.trans (PySem.W.mg_of X G a28)
  cases e
  have F0 := fun_mk (st := s_note_variables) l0 c0 k0
  have b0 := F0.binds (ps := ["term", "found"]) fun _ _ _ _ _ _ us hl => match us, hl with | [_, _], _ => rfl
  have F1 := fun_mk (st := s_variables_of) l1 c1 k1
  have b1 := F1.binds (ps := ["terms"]) fun _ _ _ _ _ _ us hl => match us, hl with | [_], _ => rfl
  have F2 := fun_mk (st := s_replaced) l2 c2 k2
  have b2 := F2.binds (ps := ["term", "table"]) fun _ _ _ _ _ _ us hl => match us, hl with | [_, _], _ => rfl
  have F3 := fun_mk (st := s_numbered) l3 c3 k3
  have b3 := F3.binds (ps := ["terms"]) fun _ _ _ _ _ _ us hl => match us, hl with | [_], _ => rfl
  have F4 := fun_mk (st := s_root_of) l4 c4 k4
  have b4 := F4.binds (ps := ["term", "bindings"]) fun _ _ _ _ _ _ us hl => match us, hl with | [_, _], _ => rfl
  have F5 := fun_mk (st := s_occurs) l5 c5 k5
  have b5 := F5.binds (ps := ["variable", "term", "bindings", "seen"]) fun _ _ _ _ _ _ us hl => match us, hl with | [_, _, _, _], _ => rfl
  have F6 := fun_mk (st := s_bind) l6 c6 k6
  have b6 := F6.binds (ps := ["variable", "term", "bindings", "waiting"]) fun _ _ _ _ _ _ us hl => match us, hl with | [_, _, _, _], _ => rfl
  have F7 := fun_mk (st := s_unifier) l7 c7 k7
  have b7 := F7.binds (ps := ["pairs"]) fun _ _ _ _ _ _ us hl => match us, hl with | [_], _ => rfl
  have F8 := fun_mk (st := s_measured) l8 c8 k8
  have b8 := F8.binds (ps := ["term", "bindings", "known"]) fun _ _ _ _ _ _ us hl => match us, hl with | [_, _, _], _ => rfl
  have F9 := fun_mk (st := s_written_out) l9 c9 k9
  have b9 := F9.binds (ps := ["term", "bindings"]) fun _ _ _ _ _ _ us hl => match us, hl with | [_, _], _ => rfl
  have F10 := fun_mk (st := s_resolved) l10 c10 k10
  have b10 := F10.binds (ps := ["term", "bindings", "most_size", "most_depth"]) fun _ _ _ _ _ _ us hl => match us, hl with | [_, _, _, _], _ => rfl
  have F11 := fun_mk (st := s_unify) l11 c11 k11
  have b11 := F11.binds (ps := ["left", "right"]) fun _ _ _ _ _ _ us hl => match us, hl with | [_, _], _ => rfl
  have F12 := fun_mk (st := s__law_tape) l12 c12 k12
  have b12 := F12.binds (ps := ["_law_script"]) fun _ _ _ _ _ _ us hl => match us, hl with | [_], _ => rfl
  have F13 := fun_mk (st := s__law_draw) l13 c13 k13
  have b13 := F13.binds (ps := ["_law_tape_here", "_law_many"]) fun _ _ _ _ _ _ us hl => match us, hl with | [_, _], _ => rfl
  have F14 := fun_mk (st := s__law_replaced) l14 c14 k14
  have b14 := F14.binds (ps := ["_law_term", "_law_table"]) fun _ _ _ _ _ _ us hl => match us, hl with | [_, _], _ => rfl
  have F15 := fun_mk (st := s__law_collect) l15 c15 k15
  have b15 := F15.binds (ps := ["_law_term", "_law_found"]) fun _ _ _ _ _ _ us hl => match us, hl with | [_, _], _ => rfl
  have F16 := fun_mk (st := s__law_variables) l16 c16 k16
  have b16 := F16.binds (ps := ["_law_terms"]) fun _ _ _ _ _ _ us hl => match us, hl with | [_], _ => rfl
  have F17 := fun_mk (st := s__law_numbered) l17 c17 k17
  have b17 := F17.binds (ps := ["_law_terms"]) fun _ _ _ _ _ _ us hl => match us, hl with | [_], _ => rfl
  have F18 := fun_mk (st := s__law_resolved) l18 c18 k18
  have b18 := F18.binds (ps := ["_law_term", "_law_bound"]) fun _ _ _ _ _ _ us hl => match us, hl with | [_, _], _ => rfl
  have F19 := fun_mk (st := s__law_occurs) l19 c19 k19
  have b19 := F19.binds (ps := ["_law_variable", "_law_term", "_law_bound"]) fun _ _ _ _ _ _ us hl => match us, hl with | [_, _, _], _ => rfl
  have F20 := fun_mk (st := s__law_unified) l20 c20 k20
  have b20 := F20.binds (ps := ["_law_left", "_law_right", "_law_bound"]) fun _ _ _ _ _ _ us hl => match us, hl with | [_, _, _], _ => rfl
  have F21 := fun_mk (st := s__law_full) l21 c21 k21
  have b21 := F21.binds (ps := ["_law_term", "_law_bound"]) fun _ _ _ _ _ _ us hl => match us, hl with | [_, _], _ => rfl
  have F22 := fun_mk (st := s__law_common) l22 c22 k22
  have b22 := F22.binds (ps := ["_law_left", "_law_right"]) fun _ _ _ _ _ _ us hl => match us, hl with | [_, _], _ => rfl
  have F23 := fun_mk (st := s__law_alike) l23 c23 k23
  have b23 := F23.binds (ps := ["_law_told", "_law_due"]) fun _ _ _ _ _ _ us hl => match us, hl with | [_, _], _ => rfl
  have F24 := fun_mk (st := s__law_pad) l24 c24 k24
  have b24 := F24.binds (ps := ["_law_many"]) fun _ _ _ _ _ _ us hl => match us, hl with | [_], _ => rfl
  have F25 := fun_mk (st := s__law_doubled) l25 c25 k25
  have b25 := F25.binds (ps := ["_law_tape_here", "_law_many"]) fun _ _ _ _ _ _ us hl => match us, hl with | [_, _], _ => rfl
  have F26 := fun_mk (st := s__law_filled) l26 c26 k26
  have b26 := F26.binds (ps := ["_law_tape_here"]) fun _ _ _ _ _ _ us hl => match us, hl with | [_], _ => rfl
  have F27 := fun_mk (st := s__law_deep) l27 c27 k27
  have b27 := F27.binds (ps := ["_law_tape_here"]) fun _ _ _ _ _ _ us hl => match us, hl with | [_], _ => rfl
  have F28 := fun_mk (st := s_law) l28 c28 k28
  have b28 := F28.binds (ps := ["_law_script"]) fun _ _ _ _ _ _ us hl => match us, hl with | [_], _ => rfl
  refine ⟨⟨[]⟩, [], PySem.W.fnOf "law" "law" (defArgs s_law) (defBody s_law) (defScope s_law) .none kV28 dc28 pm28 an28 cd28 ct28, rfl, (fun p hp => absurd hp List.not_mem_nil), (fun p hp => absurd hp List.not_mem_nil), (fun p hp => absurd hp List.not_mem_nil), fun s v => .of_eq rfl, fun base _ _ TB => ?_⟩
  letI tc : TbC := ⟨[]⟩
  have z_abs := PySem.W.mg_none_of X G z0
  have z_int := PySem.W.mg_none_of X G z1
  have z_isinstance := PySem.W.mg_none_of X G z2
  have z_len := PySem.W.mg_none_of X G z3
  have z_list := PySem.W.mg_none_of X G z4
  have z_max := PySem.W.mg_none_of X G z5
  have z_min := PySem.W.mg_none_of X G z6
  have z_range := PySem.W.mg_none_of X G z7
  have z_repr := PySem.W.mg_none_of X G z8
  have z_tuple := PySem.W.mg_none_of X G z9
  have K_MOST_SIZE : GC K mg "MOST_SIZE" (.int 400) := gc_of (PySem.W.mg_of X G aK_MOST_SIZE) kv_int
  have K_MOST_DEPTH : GC K mg "MOST_DEPTH" (.int 40) := gc_of (PySem.W.mg_of X G aK_MOST_DEPTH) kv_int
  have X_TooLarge : XCls K mg "TooLarge" C_TooLarge := ⟨PySem.W.mg_of X G aX_TooLarge, xX_TooLarge, kX_TooLarge, bX_TooLarge, tX_TooLarge⟩
  have M_TooLarge_TooLarge : PySem.W.exmOne K (.ref C_TooLarge) (.ref C_TooLarge) = some true := PySem.W.exm_ref bX_TooLarge hX_TooLarge tX_TooLarge s_TooLarge_TooLarge
  have V_TooLarge : ExcC K C_TooLarge := ⟨v0X_TooLarge, v1X_TooLarge, v2X_TooLarge, v3X_TooLarge, v4X_TooLarge, v5X_TooLarge, v6X_TooLarge, v7X_TooLarge⟩
  have I_TooLarge_RuleError : PySem.W.kitOne K (.ref C_TooLarge) (.ref C_RuleError) = some true := rI_TooLarge_RuleError
  have X_RuleError : XCls K mg "RuleError" C_RuleError := ⟨PySem.W.mg_of X G aX_RuleError, xX_RuleError, kX_RuleError, bX_RuleError, tX_RuleError⟩
  have I_TooLarge_TacticFailed : PySem.W.kitOne K (.ref C_TooLarge) (.ref C_TacticFailed) = some false := rI_TooLarge_TacticFailed
  have I_TooLarge_LinkProblems : PySem.W.kitOne K (.ref C_TooLarge) (.ref C_LinkProblems) = some false := rI_TooLarge_LinkProblems
  have I_TooLarge_HasExistentials : PySem.W.kitOne K (.ref C_TooLarge) (.ref C_HasExistentials) = some false := rI_TooLarge_HasExistentials
  have Y_TacticFailed : mg "TacticFailed" = some (.ref C_TacticFailed) := PySem.W.mg_of X G aX_TacticFailed
  have Y_LinkProblems : mg "LinkProblems" = some (.ref C_LinkProblems) := PySem.W.mg_of X G aX_LinkProblems
  have Y_HasExistentials : mg "HasExistentials" = some (.ref C_HasExistentials) := PySem.W.mg_of X G aX_HasExistentials
  have al : All l.prog w K mg base 230 := all_defs F0 b0 (PySem.W.mg_of X G a0) F1 b1 (PySem.W.mg_of X G a1) F2 b2 (PySem.W.mg_of X G a2) F3 b3 (PySem.W.mg_of X G a3) F4 b4 (PySem.W.mg_of X G a4) F5 b5 (PySem.W.mg_of X G a5) F6 b6 (PySem.W.mg_of X G a6) F7 b7 (PySem.W.mg_of X G a7) F8 b8 (PySem.W.mg_of X G a8) F9 b9 (PySem.W.mg_of X G a9) F10 b10 (PySem.W.mg_of X G a10) F11 b11 (PySem.W.mg_of X G a11) F12 b12 (PySem.W.mg_of X G a12) F13 b13 (PySem.W.mg_of X G a13) F14 b14 (PySem.W.mg_of X G a14) F15 b15 (PySem.W.mg_of X G a15) F16 b16 (PySem.W.mg_of X G a16) F17 b17 (PySem.W.mg_of X G a17) F18 b18 (PySem.W.mg_of X G a18) F19 b19 (PySem.W.mg_of X G a19) F20 b20 (PySem.W.mg_of X G a20) F21 b21 (PySem.W.mg_of X G a21) F22 b22 (PySem.W.mg_of X G a22) F23 b23 (PySem.W.mg_of X G a23) F24 b24 (PySem.W.mg_of X G a24) F25 b25 (PySem.W.mg_of X G a25) F26 b26 (PySem.W.mg_of X G a26) F27 b27 (PySem.W.mg_of X G a27) F28 b28 (PySem.W.mg_of X G a28) z_abs z_int z_isinstance z_len z_list z_max z_min z_range z_repr z_tuple K_MOST_SIZE K_MOST_DEPTH X_TooLarge M_TooLarge_TooLarge V_TooLarge I_TooLarge_RuleError X_RuleError I_TooLarge_TacticFailed I_TooLarge_LinkProblems I_TooLarge_HasExistentials Y_TacticFailed Y_LinkProblems Y_HasExistentials  230
  exact ok_law F28 al.d_unify al.d__law_tape al.d__law_draw al.d__law_common al.d__law_alike al.d__law_doubled al.d__law_filled al.d__law_deep z_isinstance z_len X_TooLarge M_TooLarge_TooLarge V_TooLarge I_TooLarge_RuleError X_RuleError I_TooLarge_TacticFailed I_TooLarge_LinkProblems I_TooLarge_HasExistentials Y_TacticFailed Y_LinkProblems Y_HasExistentials
end Q
open PySem PySem.W PyProof.Rows
set_option maxHeartbeats 0 in
theorem PySem.Challenge.cw_openrules_k13_great_common_instances_holds : PySem.Challenge.rw_openrules_k13_great_common_instances.Holds := by
  w_on; o_law; k_head; (case hw => w_witness2)
  k_fill
  refine DL.walkG (l := PySem.Challenge.rw_openrules_k13_great_common_instances) (n := 63) (k := 231) (x := "_law_script") (m := Q.run 231 Q.i_law) rfl (by decide) rfl ⟨rfl, by decide, by decide⟩ (fun w h Y => PySem.W.kIn_of Y) ?F Q.law_true
  case F =>
    intro w mg fa h KX G hmg TO
    refine' Q.all_mk KX G hmg TO ?a0 ?l0 ?c0 ?k0 ?a1 ?l1 ?c1 ?k1 ?a2 ?l2 ?c2 ?k2 ?a3 ?l3 ?c3 ?k3 ?a4 ?l4 ?c4 ?k4 ?a5 ?l5 ?c5 ?k5 ?a6 ?l6 ?c6 ?k6 ?a7 ?l7 ?c7 ?k7 ?a8 ?l8 ?c8 ?k8 ?a9 ?l9 ?c9 ?k9 ?a10 ?l10 ?c10 ?k10 ?a11 ?l11 ?c11 ?k11 ?a12 ?l12 ?c12 ?k12 ?a13 ?l13 ?c13 ?k13 ?a14 ?l14 ?c14 ?k14 ?a15 ?l15 ?c15 ?k15 ?a16 ?l16 ?c16 ?k16 ?a17 ?l17 ?c17 ?k17 ?a18 ?l18 ?c18 ?k18 ?a19 ?l19 ?c19 ?k19 ?a20 ?l20 ?c20 ?k20 ?a21 ?l21 ?c21 ?k21 ?a22 ?l22 ?c22 ?k22 ?a23 ?l23 ?c23 ?k23 ?a24 ?l24 ?c24 ?k24 ?a25 ?l25 ?c25 ?k25 ?a26 ?l26 ?c26 ?k26 ?a27 ?l27 ?c27 ?k27 ?a28 ?l28 ?c28 ?k28 ?aX_TooLarge ?xX_TooLarge ?kX_TooLarge ?bX_TooLarge ?tX_TooLarge ?aX_RuleError ?xX_RuleError ?kX_RuleError ?bX_RuleError ?tX_RuleError ?aX_TacticFailed ?aX_LinkProblems ?aX_HasExistentials ?hX_TooLarge ?aK_MOST_SIZE ?aK_MOST_DEPTH ?s_TooLarge_TooLarge ?v0X_TooLarge ?v1X_TooLarge ?v2X_TooLarge ?v3X_TooLarge ?v4X_TooLarge ?v5X_TooLarge ?v6X_TooLarge ?v7X_TooLarge ?rI_TooLarge_RuleError ?rI_TooLarge_TacticFailed ?rI_TooLarge_LinkProblems ?rI_TooLarge_HasExistentials ?z0 ?z1 ?z2 ?z3 ?z4 ?z5 ?z6 ?z7 ?z8 ?z9
    (case a0 => k_is); (case l0 => k_is); (case c0 => k_is); (case k0 => k_is); (case a1 => k_is); (case l1 => k_is); (case c1 => k_is); (case k1 => k_is); (case a2 => k_is); (case l2 => k_is); (case c2 => k_is); (case k2 => k_is); (case a3 => k_is); (case l3 => k_is); (case c3 => k_is); (case k3 => k_is); (case a4 => k_is); (case l4 => k_is); (case c4 => k_is); (case k4 => k_is); (case a5 => k_is); (case l5 => k_is); (case c5 => k_is); (case k5 => k_is); (case a6 => k_is); (case l6 => k_is); (case c6 => k_is); (case k6 => k_is); (case a7 => k_is); (case l7 => k_is); (case c7 => k_is); (case k7 => k_is); (case a8 => k_is); (case l8 => k_is); (case c8 => k_is); (case k8 => k_is); (case a9 => k_is); (case l9 => k_is); (case c9 => k_is); (case k9 => k_is); (case a10 => k_is); (case l10 => k_is); (case c10 => k_is); (case k10 => k_is); (case a11 => k_is); (case l11 => k_is); (case c11 => k_is); (case k11 => k_is); (case a12 => k_is); (case l12 => k_is); (case c12 => k_is); (case k12 => k_is); (case a13 => k_is); (case l13 => k_is); (case c13 => k_is); (case k13 => k_is); (case a14 => k_is); (case l14 => k_is); (case c14 => k_is); (case k14 => k_is); (case a15 => k_is); (case l15 => k_is); (case c15 => k_is); (case k15 => k_is); (case a16 => k_is); (case l16 => k_is); (case c16 => k_is); (case k16 => k_is); (case a17 => k_is); (case l17 => k_is); (case c17 => k_is); (case k17 => k_is); (case a18 => k_is); (case l18 => k_is); (case c18 => k_is); (case k18 => k_is); (case a19 => k_is); (case l19 => k_is); (case c19 => k_is); (case k19 => k_is); (case a20 => k_is); (case l20 => k_is); (case c20 => k_is); (case k20 => k_is); (case a21 => k_is); (case l21 => k_is); (case c21 => k_is); (case k21 => k_is); (case a22 => k_is); (case l22 => k_is); (case c22 => k_is); (case k22 => k_is); (case a23 => k_is); (case l23 => k_is); (case c23 => k_is); (case k23 => k_is); (case a24 => k_is); (case l24 => k_is); (case c24 => k_is); (case k24 => k_is); (case a25 => k_is); (case l25 => k_is); (case c25 => k_is); (case k25 => k_is); (case a26 => k_is); (case l26 => k_is); (case c26 => k_is); (case k26 => k_is); (case a27 => k_is); (case l27 => k_is); (case c27 => k_is); (case k27 => k_is); (case a28 => k_is); (case l28 => k_is); (case c28 => k_is); (case k28 => k_is); (case aX_TooLarge => k_is); (case xX_TooLarge => k_exc); (case kX_TooLarge => k_is); (case bX_TooLarge => k_is); (case tX_TooLarge => k_is); (case aX_RuleError => k_is); (case xX_RuleError => k_exc); (case kX_RuleError => k_is); (case bX_RuleError => k_is); (case tX_RuleError => k_is); (case aX_TacticFailed => k_is); (case aX_LinkProblems => k_is); (case aX_HasExistentials => k_is); (case hX_TooLarge => k_is); (case aK_MOST_SIZE => k_is); (case aK_MOST_DEPTH => k_is); (case s_TooLarge_TooLarge => (first | rfl | k_is)); (case v0X_TooLarge => k_is); (case v1X_TooLarge => k_is); (case v2X_TooLarge => k_is); (case v3X_TooLarge => k_is); (case v4X_TooLarge => k_is); (case v5X_TooLarge => k_is); (case v6X_TooLarge => k_is); (case v7X_TooLarge => k_is); (case rI_TooLarge_RuleError => (first | rfl | k_is)); (case rI_TooLarge_TacticFailed => (first | rfl | k_is)); (case rI_TooLarge_LinkProblems => (first | rfl | k_is)); (case rI_TooLarge_HasExistentials => (first | rfl | k_is)); (case z0 => k_is); (case z1 => k_is); (case z2 => k_is); (case z3 => k_is); (case z4 => k_is); (case z5 => k_is); (case z6 => k_is); (case z7 => k_is); (case z8 => k_is); (case z9 => k_is)
