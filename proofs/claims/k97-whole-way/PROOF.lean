import PyProof.Rows.All
import Wide.All
import OpenK.AllK
import Wide.FinOn
import HandS.ForMost
import HandS.Deep
import HandS.IsInst
import HandS.Walk
import HandS.Star
import HandS.TupAny
import HandS.TupMul
import HandS.Strs
import KE.KDictKeyed
import PyProof.P3In
import HandS.Codes
import KE.GoesMore
import HandS.SetFor
import HandS.Zip
import KE.SortData
import KE.KDictDisplayH
import HandS.DictComp
import HandS.TupLen
import HandS.Style
import KE.KDictPairs
import HandS.Text
import HandS.Property
import HandS.Wide
import HandS.EndTab
import PyProof.Rows.ReprR
import PyProof.ReprLen
import KE.DataCmp
import HandS.Lambda
import KE.KWithOwn
import KE.KNestM
import PySem.Challenge.RW_notewire_k97_whole_way_of_readers
set_option Elab.async false
set_option linter.all false
set_option maxRecDepth 100000
set_option maxHeartbeats 4000000
/-! Data over the abstract heap: a value stands for a datum (None, an int, a text, a tuple of data); what an expression's reading comes to when slots hold data. -/
namespace NW
open PySem PySem.Spec PyProof.Rows L2 StX

abbrev D := NestedKey
abbrev Fg := PySem.W.Frag
abbrev St := L2.St
/-- a tuple at a: tracked, or one of the module's own -/
def TupAt (K : Fg) (H : Hp) (a : Addr) (xs : List V) : Prop := H a = some (.tup xs) ∨ SqT K (fun _ => none) a xs
theorem TupAt.sq {K : Fg} {H : Hp} {a : Addr} {xs : List V} (h : TupAt K H a xs) : SqT K H a xs := by
  rcases h with h | (h | ⟨o, h⟩) | h
  · exact .of h
  · cases h
  · cases h
  · exact .inr h
mutual
inductive Rp (K : Fg) (H : Hp) : V → D → Prop
  | non : Rp K H .non .none
  | int (i : Int) : Rp K H (.int i) (.num i)
  | str (x : Str) : Rp K H (.str x) (.text x)
  | tup {a : Addr} {xs : List V} {ds : List D} : TupAt K H a xs → RpA K H xs ds → Rp K H (.ref a) (.tup ds)
inductive RpA (K : Fg) (H : Hp) : List V → List D → Prop
  | nil : RpA K H [] []
  | cons {x : V} {xs : List V} {d : D} {ds : List D} : Rp K H x d → RpA K H xs ds → RpA K H (x :: xs) (d :: ds)
end
/-- tuples stay -/
def Keep (H H' : Hp) : Prop := ∀ a xs, H a = some (.tup xs) → H' a = some (.tup xs)
theorem Keep.refl (H : Hp) : Keep H H := fun _ _ h => h
theorem Keep.trans {H H1 H2 : Hp} (a : Keep H H1) (b : Keep H1 H2) : Keep H H2 := fun p xs h => b p xs (a p xs h)
theorem Keep.of {H H' : Hp} (s : Same H H') : Keep H H' := fun a xs h => s a _ h
theorem Keep.put {H : Hp} {l : Addr} {o : HO} (h : ∀ xs, H l ≠ some (.tup xs)) : Keep H (upd H l o) := fun a xs e => by
  by_cases q : a = l
  · subst q
    exact absurd e (h xs)
  · rw [upd_ne q]
    exact e
theorem Same.new {H : Hp} {p : Addr} {o : HO} (h : H p = none) : Same H (upd H p o) := fun a u e => by
  rw [upd_ne (ne_of_none e h)]
  exact e
section
variable {K : Fg} {H H' : Hp}
mutual
theorem Rp.keep (k : Keep H H') : ∀ (d : D) (x : V), Rp K H x d → Rp K H' x d
  | .none, _, h => by cases h; exact .non
  | .num i, _, h => by cases h; exact .int i
  | .text z, _, h => by cases h; exact .str z
  | .tup ds, _, h => by
    cases h with
    | tup t r =>
      refine .tup ?_ (RpA.keep k ds _ r)
      rcases t with t | t
      · exact .inl (k _ _ t)
      · exact .inr t
theorem RpA.keep (k : Keep H H') : ∀ (ds : List D) (xs : List V), RpA K H xs ds → RpA K H' xs ds
  | [], _, h => by cases h; exact .nil
  | d :: ds, _, h => by
    cases h with
    | cons a b => exact .cons (Rp.keep k d _ a) (RpA.keep k ds _ b)
end
theorem RpA.length : ∀ {xs : List V} {ds : List D}, RpA K H xs ds → xs.length = ds.length
  | [], ds, h => by cases h; rfl
  | x :: xs, _, h => by
    cases h with
    | cons a b =>
      rw [List.length_cons, List.length_cons, RpA.length b]
theorem RpA.append : ∀ {xs ys : List V} {ds es : List D}, RpA K H xs ds → RpA K H ys es → RpA K H (xs ++ ys) (ds ++ es)
  | [], _, _, _, h, g => by cases h; exact g
  | x :: xs, _, _, _, h, g => by
    cases h with
    | cons a b => exact .cons a (RpA.append b g)
theorem RpA.get : ∀ {xs : List V} {ds : List D} {i : Nat} {d : D}, RpA K H xs ds → ds[i]? = some d → ∃ x, xs[i]? = some x ∧ Rp K H x d
  | [], _, _, _, h, e => by cases h; simp at e
  | x :: xs, _, i, d, h, e => by
    cases h with
    | cons a b =>
      cases i with
      | zero =>
        simp at e
        subst e
        exact ⟨x, rfl, a⟩
      | succ i =>
        obtain ⟨y, h1, h2⟩ := RpA.get (i := i) b (by simpa using e)
        exact ⟨y, by simpa using h1, h2⟩
theorem RpA.take : ∀ {xs : List V} {ds : List D} (n : Nat), RpA K H xs ds → RpA K H (xs.take n) (ds.take n)
  | _, _, 0, _ => by simp; exact .nil
  | [], _, n + 1, h => by cases h; simp; exact .nil
  | x :: xs, _, n + 1, h => by
    cases h with
    | cons a b => exact .cons a (RpA.take n b)
theorem RpA.drop : ∀ {xs : List V} {ds : List D} (n : Nat), RpA K H xs ds → RpA K H (xs.drop n) (ds.drop n)
  | _, _, 0, h => by simpa using h
  | [], _, n + 1, h => by cases h; simp; exact .nil
  | x :: xs, _, n + 1, h => by
    cases h with
    | cons a b => exact RpA.drop n b
theorem Rp.tup_inv {x : V} {ds : List D} (h : Rp K H x (.tup ds)) : ∃ a xs, x = .ref a ∧ TupAt K H a xs ∧ RpA K H xs ds := by
  cases h with
  | tup t r => exact ⟨_, _, rfl, t, r⟩
theorem Rp.int_inv {x : V} {i : Int} (h : Rp K H x (.num i)) : x = .int i := by cases h; rfl
theorem Rp.str_inv {x : V} {z : Str} (h : Rp K H x (.text z)) : x = .str z := by cases h; rfl
theorem Rp.non_inv {x : V} (h : Rp K H x .none) : x = .non := by cases h; rfl
theorem Rp.is_non {x : V} {d : D} (h : Rp K H x d) : decide (x = .non) = decide (d = .none) := by
  cases h with
  | non => rw [decide_eq_true rfl, decide_eq_true rfl]
  | int i => rw [decide_eq_false (fun z => nomatch z), decide_eq_false (fun z => nomatch z)]
  | str i => rw [decide_eq_false (fun z => nomatch z), decide_eq_false (fun z => nomatch z)]
  | tup t r => rw [decide_eq_false (fun z => nomatch z), decide_eq_false (fun z => nomatch z)]
mutual
theorem Rp.dp : ∀ (d : D) (x : V), Rp K H x d → Dp K H x d.data
  | .none, _, h => by cases h; exact .non
  | .num i, _, h => by cases h; exact .int i
  | .text z, _, h => by cases h; exact .str z
  | .tup ds, _, h => by
    cases h with
    | tup t r => exact .tup t.sq (RpA.dp ds _ r)
theorem RpA.dp : ∀ (ds : List D) (xs : List V), RpA K H xs ds → DpAll K H xs (NestedKey.datas ds)
  | [], _, h => by cases h; exact .nil
  | d :: ds, _, h => by
    cases h with
    | cons a b => exact .cons (Rp.dp d _ a) (RpA.dp ds _ b)
end
end

/-- what a slot, an expression is known to be: a datum, a truth value, a list of data, of truth values, the value itself -/
inductive W where
  | d (k : D) | b (c : Bool) | l (ks : List D) | lb (bs : List Bool) | v (x : V) | dl (k : D) (ks : List D) | ll (av : Addr) (ks : List D) | p (φ : V → Hp → Prop)
def Rw (K : Fg) (H : Hp) (x : V) : W → Prop
  | .p φ => ∀ H', Same H H' → φ x H'
  | .d k => Rp K H x k
  | .b c => x = .bl c
  | .l ks => ∃ a xs, x = .ref a ∧ H a = some (.lst xs) ∧ RpA K H xs ks
  | .lb bs => ∃ a, x = .ref a ∧ H a = some (.lst (bs.map V.bl))
  | .v y => x = y
  | .ll av ks => ∃ a xs, x = .ref a ∧ a ≠ av ∧ H a = some (.lst xs) ∧ RpA K H xs ks
  | .dl k ks => ∃ a y l xs, x = .ref a ∧ H a = some (.tup [y, .ref l]) ∧ Rp K H y k ∧ H l = some (.lst xs) ∧ RpA K H xs ks
theorem Rw.same {K : Fg} {H H' : Hp} (s : Same H H') {x : V} : ∀ {w : W}, Rw K H x w → Rw K H' x w
  | .p φ, h => fun H2 s2 => h H2 (s.trans s2)
  | .d k, h => Rp.keep (Keep.of s) k x h
  | .b _, h => h
  | .l ks, ⟨a, xs, e, h, r⟩ => ⟨a, xs, e, s _ _ h, RpA.keep (Keep.of s) ks xs r⟩
  | .lb bs, ⟨a, e, h⟩ => ⟨a, e, s _ _ h⟩
  | .v _, h => h
  | .ll av ks, ⟨a, xs, e, n, h, r⟩ => ⟨a, xs, e, n, s _ _ h, RpA.keep (Keep.of s) ks xs r⟩
  | .dl k ks, ⟨a, y, l, xs, e, h1, h2, h3, h4⟩ => ⟨a, y, l, xs, e, s _ _ h1, Rp.keep (Keep.of s) k y h2, s _ _ h3, RpA.keep (Keep.of s) ks xs h4⟩
abbrev RwA (K : Fg) (H : Hp) : List V → List W → Prop := Paired (Rw K H)
theorem RwA.same {K : Fg} {H H' : Hp} (s : Same H H') {xs : List V} {ws : List W} (h : RwA K H xs ws) : RwA K H' xs ws := Paired.mapP h fun _ _ r => r.same s
theorem RwA.of_d {K : Fg} {H : Hp} : ∀ {ds : List D} {xs : List V}, RwA K H xs (ds.map W.d) → RpA K H xs ds
  | [], xs, h => by
    rw [List.map_nil] at h
    cases h
    exact .nil
  | d :: ds, xs, h => by
    rw [List.map_cons] at h
    cases h with
    | cons a b => exact .cons a (RwA.of_d b)
theorem RwA.to_d {K : Fg} {H : Hp} : ∀ {ds : List D} {xs : List V}, RpA K H xs ds → RwA K H xs (ds.map W.d)
  | [], xs, h => by cases h; exact .nil
  | d :: ds, xs, h => by
    cases h with
    | cons a b => exact .cons a (RwA.to_d b)
theorem RwA.app {K : Fg} {H : Hp} : ∀ {xs ys : List V} {ws us : List W}, RwA K H xs ws → RwA K H ys us → RwA K H (xs ++ ys) (ws ++ us)
  | _, _, _, _, .nil, g => g
  | _, _, _, _, .cons a b, g => .cons a (RwA.app b g)
theorem RwA.of_b {K : Fg} {H : Hp} : ∀ {bs : List Bool} {xs : List V}, RwA K H xs (bs.map W.b) → xs = bs.map V.bl
  | [], xs, h => by
    rw [List.map_nil] at h
    cases h
    rfl
  | b :: bs, xs, h => by
    rw [List.map_cons] at h
    cases h with
    | cons r t =>
      have r' : _ = V.bl b := r
      rw [r', RwA.of_b t]
      rfl

abbrev Sl := List (Option W)
structure EnvOk (K : Fg) (r : Sl) (σ : St) (H : Hp) : Prop where
  len : r.length = σ.length
  at_ : ∀ (i : Nat) (w : W), r[i]? = some (some w) → ∃ x, σ[i]? = some (some x) ∧ Rw K H x w
section
variable {K : Fg} {r r' : Sl} {σ : St} {H H' : Hp}
theorem EnvOk.same (s : Same H H') (e : EnvOk K r σ H) : EnvOk K r σ H' := ⟨e.len, fun i w h => let ⟨x, h1, h2⟩ := e.at_ i w h; ⟨x, h1, h2.same s⟩⟩
theorem EnvOk.set {i : Nat} {x : V} {w : W} (e : EnvOk K r σ H) (h : Rw K H x w) : EnvOk K (r.set i (some w)) (σ.set i (some x)) H := by
  refine ⟨by rw [List.length_set, List.length_set]; exact e.len, fun j u q => ?_⟩
  by_cases z : i = j
  · subst z
    have hi : i < r.length := by
      by_cases q2 : i < r.length
      · exact q2
      · rw [List.getElem?_eq_none (by rw [List.length_set]; omega)] at q
        cases q
    rw [List.getElem?_set_self hi] at q
    cases q
    exact ⟨x, List.getElem?_set_self (by rw [← e.len]; exact hi), h⟩
  · rw [List.getElem?_set_ne z] at q
    obtain ⟨y, h1, h2⟩ := e.at_ j u q
    exact ⟨y, by rw [List.getElem?_set_ne z]; exact h1, h2⟩
/-- less is known -/
def Less (r' r : Sl) : Prop := r'.length = r.length ∧ ∀ (i : Nat) (w : W), r'[i]? = some (some w) → r[i]? = some (some w)
theorem EnvOk.less (l : Less r' r) (e : EnvOk K r σ H) : EnvOk K r' σ H := ⟨l.1.trans e.len, fun i w h => e.at_ i w (l.2 i w h)⟩
theorem Less.refl (r : Sl) : Less r r := ⟨rfl, fun _ _ h => h⟩
theorem Less.set_none (r : Sl) (i : Nat) : Less (r.set i none) r := ⟨by rw [List.length_set], fun j w h => by
  by_cases z : i = j
  · subst z
    by_cases q : i < r.length
    · rw [List.getElem?_set_self q] at h
      cases h
    · rw [List.getElem?_eq_none (by rw [List.length_set]; omega)] at h
      cases h
  · rw [List.getElem?_set_ne z] at h
    exact h⟩
theorem less_nil : Less [] [] := Less.refl _
theorem less_none {o : Option W} (h : Less r' r) : Less (none :: r') (o :: r) := ⟨by simp [h.1], fun i w e => by
  cases i with
  | zero => simp at e
  | succ i => exact h.2 i w (by simpa using e)⟩
theorem less_some {w : W} (h : Less r' r) : Less (some w :: r') (some w :: r) := ⟨by simp [h.1], fun i u e => by
  cases i with
  | zero => simpa using e
  | succ i => exact h.2 i u (by simpa using e)⟩
def wipeW (r : Sl) : List Nat → Sl
  | [] => r
  | v :: vs => (wipeW r vs).set v none
theorem wipeW_length (r : Sl) : ∀ vs : List Nat, (wipeW r vs).length = r.length
  | [] => rfl
  | v :: vs => by unfold wipeW; rw [List.length_set, wipeW_length r vs]
theorem wipeW_some : ∀ {vs : List Nat} {i : Nat} {w : W}, (wipeW r vs)[i]? = some (some w) → i ∉ vs ∧ r[i]? = some (some w)
  | [], _, _, h => ⟨by simp, h⟩
  | v :: vs, i, w, h => by
    unfold wipeW at h
    by_cases z : v = i
    · subst z
      by_cases q : v < (wipeW r vs).length
      · rw [List.getElem?_set_self q] at h
        cases h
      · rw [List.getElem?_eq_none (by rw [List.length_set]; omega)] at h
        cases h
    · rw [List.getElem?_set_ne z] at h
      obtain ⟨h1, h2⟩ := wipeW_some h
      refine ⟨?_, h2⟩
      rw [List.mem_cons, not_or]
      exact ⟨fun e => z e.symm, h1⟩
theorem EnvOk.wipe (e : EnvOk K r σ H) (vs : List Nat) : EnvOk K (wipeW r vs) (wipe σ vs) H := by
  refine ⟨by rw [wipeW_length, wipe_length]; exact e.len, fun i w h => ?_⟩
  obtain ⟨h1, h2⟩ := wipeW_some h
  obtain ⟨x, h3, h4⟩ := e.at_ i w h2
  exact ⟨x, by rw [wipe_out h1]; exact h3, h4⟩
end

/-! ### what readings come to -/
def Cm (K : Fg) (t : TE) (r : Sl) (w : W) : Prop := ∀ σ H Q, EnvOk K r σ H → (∀ x H', Same H H' → Rw K H' x w → Q x H') → t σ H Q
def CmT (K : Fg) (t : TT) (r : Sl) (c : Bool) : Prop := ∀ σ H Q, EnvOk K r σ H → (∀ H', Same H H' → Q c H') → t σ H Q
def CmA (K : Fg) (t : TA) (r : Sl) (ws : List W) : Prop := ∀ σ H Q, EnvOk K r σ H → (∀ xs H', Same H H' → RwA K H' xs ws → Q xs H') → t σ H Q
/-- two values' operation -/
def CmO (K : Fg) (f : R2) (a b w : W) : Prop := ∀ x y H Q, Rw K H x a → Rw K H y b → (∀ z H', Same H H' → Rw K H' z w → Q z H') → f x y H Q
/-- a call by values -/
def CmC (K : Fg) (f : List V → Hp → VK → Prop) (ws : List W) (w : W) : Prop := ∀ xs H Q, RwA K H xs ws → (∀ z H', Same H H' → Rw K H' z w → Q z H') → f xs H Q
section
variable {K : Fg} {r : Sl} {ta tb tc : TE} {t : TA} {a b c w : W} {ws : List W} {f g : R2}
theorem cm_var {i : Nat} (h : r[i]? = some (some w)) : Cm K (tVar i) r w := fun σ H Q e q =>
  let ⟨x, h1, h2⟩ := e.at_ i w h
  ⟨x, h1, q x H (Same.refl H) h2⟩
theorem cm_int {i : Int} : Cm K (tC (.int i)) r (.d (.num i)) := fun _ H _ _ q => q _ H (Same.refl H) (.int i)
theorem cm_str {z : Str} : Cm K (tC (.str z)) r (.d (.text z)) := fun _ H _ _ q => q _ H (Same.refl H) (.str z)
theorem cm_non : Cm K (tC .non) r (.d .none) := fun _ H _ _ q => q _ H (Same.refl H) .non
theorem cm_bl {c : Bool} : Cm K (tC (.bl c)) r (.b c) := fun _ H _ _ q => q _ H (Same.refl H) rfl
theorem cm_val {x : V} : Cm K (tC x) r (.v x) := fun _ H _ _ q => q _ H (Same.refl H) rfl
theorem cm_op (ha : Cm K ta r a) (hb : Cm K tb r b) (hf : CmO K f a b w) : Cm K (tOp f ta tb) r w := fun σ H Q e q =>
  ha σ H _ e fun x H1 s1 r1 => hb σ H1 _ (e.same s1) fun y H2 s2 r2 => hf x y H2 Q (r1.same s2) r2 fun z H3 s3 r3 => q z H3 ((s1.trans s2).trans s3) r3
theorem ca_nil : CmA K tNil r [] := fun _ H _ _ q => q [] H (Same.refl H) .nil
theorem ca_cons (ha : Cm K ta r w) (ht : CmA K t r ws) : CmA K (tCons ta t) r (w :: ws) := fun σ H Q e q =>
  ha σ H _ e fun x H1 s1 r1 => ht σ H1 _ (e.same s1) fun xs H2 s2 r2 => q _ H2 (s1.trans s2) (.cons (r1.same s2) r2)
theorem ca_star {ds : List D} (ha : Cm K ta r (.d (.tup ds))) (ht : CmA K t r ws) : CmA K (tStar K ta t) r (ds.map W.d ++ ws) := fun σ H Q e q =>
  ha σ H _ e fun x H1 s1 r1 => by
    obtain ⟨a, xs, rfl, ht1, hr1⟩ := r1.tup_inv
    refine ⟨a, xs, rfl, .inl ht1.sq, ht σ H1 _ (e.same s1) fun ys H2 s2 r2 => q _ H2 (s1.trans s2) ?_⟩
    exact RwA.app (RwA.to_d (RpA.keep (Keep.of s2) ds xs hr1)) r2
theorem cm_tup {ds : List D} (ht : CmA K t r (ds.map W.d)) (hl : ds.length ≤ 1000) : Cm K (tTup t) r (.d (.tup ds)) := fun σ H Q e q =>
  ht σ H _ e fun xs H1 s1 r1 => by
    have r2 := RwA.of_d r1
    refine ⟨by rw [r2.length]; exact Nat.le_trans hl (by decide), fun p hp => q _ _ (s1.trans (Same.new hp)) ?_⟩
    exact .tup (.inl upd_same) (RpA.keep (Keep.of (Same.new hp)) _ _ r2)
theorem cm_lst {ds : List D} (ht : CmA K t r (ds.map W.d)) (hl : ds.length ≤ 1000) : Cm K (tLst t) r (.l ds) := fun σ H Q e q =>
  ht σ H _ e fun xs H1 s1 r1 => by
    have r2 := RwA.of_d r1
    refine ⟨by rw [r2.length]; exact Nat.le_trans hl (by decide), fun p hp => q _ _ (s1.trans (Same.new hp)) ?_⟩
    exact ⟨p, xs, rfl, upd_same, RpA.keep (Keep.of (Same.new hp)) _ _ r2⟩
theorem cm_cb {k : List V → Hp → VK → Prop} (ht : CmA K t r ws) (hk : CmC K k ws w) : Cm K (tCB k t) r w := fun σ H Q e q =>
  ht σ H _ e fun xs H1 s1 r1 => hk xs H1 Q r1 fun z H2 s2 r2 => q z H2 (s1.trans s2) r2
/-! tests -/
variable {t1 t2 : TT} {c1 c2 : Bool}
theorem ct_B (h : Cm K ta r (.b c1)) : CmT K (tB ta) r c1 := fun σ H Q e q => h σ H _ e fun x H1 s1 r1 => ⟨c1, r1, q H1 s1⟩
theorem ct_test (h : Cm K ta r (.b c1)) : CmT K (tTest ta) r c1 := fun σ H Q e q => h σ H _ e fun x H1 s1 r1 => ⟨c1, r1, q H1 s1⟩
theorem ct_not (h : CmT K t1 r c1) : CmT K (tNot t1) r (!c1) := fun σ H Q e q => h σ H _ e fun H1 s1 => q H1 s1
theorem ct_and (h1 : CmT K t1 r c1) (h2 : c1 = true → CmT K t2 r c2) : CmT K (tAnd t1 t2) r (c1 && c2) := fun σ H Q e q => h1 σ H _ e fun H1 s1 => by
  cases c1 with
  | true => exact iteT (h2 rfl σ H1 Q (e.same s1) fun H2 s2 => q H2 (s1.trans s2))
  | false => exact iteF (q H1 s1)
theorem ct_or (h1 : CmT K t1 r c1) (h2 : c1 = false → CmT K t2 r c2) : CmT K (tOr t1 t2) r (c1 || c2) := fun σ H Q e q => h1 σ H _ e fun H1 s1 => by
  cases c1 with
  | true => exact iteT (q H1 s1)
  | false => exact iteF (h2 rfl σ H1 Q (e.same s1) fun H2 s2 => q H2 (s1.trans s2))
theorem cm_andV (h1 : Cm K ta r (.b c1)) (h2 : c1 = true → Cm K tb r (.b c2)) : Cm K (tAndV ta tb) r (.b (c1 && c2)) := fun σ H Q e q => h1 σ H _ e fun x H1 s1 r1 => ⟨c1, r1, by
  cases c1 with
  | true => exact iteT (h2 rfl σ H1 Q (e.same s1) fun y H2 s2 r2 => q y H2 (s1.trans s2) r2)
  | false => exact iteF (q _ H1 s1 rfl)⟩
theorem cm_orV (h1 : Cm K ta r (.b c1)) (h2 : c1 = false → Cm K tb r (.b c2)) : Cm K (tOrV ta tb) r (.b (c1 || c2)) := fun σ H Q e q => h1 σ H _ e fun x H1 s1 r1 => ⟨c1, r1, by
  cases c1 with
  | true => exact iteT (q _ H1 s1 rfl)
  | false => exact iteF (h2 rfl σ H1 Q (e.same s1) fun y H2 s2 r2 => q y H2 (s1.trans s2) r2)⟩
theorem cm_notV (h1 : Cm K ta r (.b c1)) : Cm K (tNotV ta) r (.b (!c1)) := fun σ H Q e q => h1 σ H _ e fun x H1 s1 r1 => ⟨c1, r1, q _ H1 s1 rfl⟩
theorem cm_if (h : CmT K t1 r c1) (h1 : c1 = true → Cm K ta r w) (h2 : c1 = false → Cm K tb r w) : Cm K (tIf t1 ta tb) r w := fun σ H Q e q => h σ H _ e fun H1 s1 => by
  cases c1 with
  | true => exact iteT (h1 rfl σ H1 Q (e.same s1) fun y H2 s2 r2 => q y H2 (s1.trans s2) r2)
  | false => exact iteF (h2 rfl σ H1 Q (e.same s1) fun y H2 s2 r2 => q y H2 (s1.trans s2) r2)
theorem cm_chain (ha : Cm K ta r a) (hb : Cm K tb r b) (hf : CmO K f a b (.b c1)) (hc : c1 = true → Cm K tc r c) (hg : CmO K g b c (.b c2)) : Cm K (tChain f g ta tb tc) r (.b (c1 && c2)) := fun σ H Q e q =>
  ha σ H _ e fun x H1 s1 r1 => hb σ H1 _ (e.same s1) fun y H2 s2 r2 => hf x y H2 _ (r1.same s2) r2 fun z H3 s3 r3 => ⟨c1, r3, by
    have s12 := s1.trans s2
    have s13 := s12.trans s3
    cases c1 with
    | true =>
      refine iteT (hc rfl σ H3 _ (e.same s13) fun u H4 s4 r4 => ?_)
      exact hg y u H4 Q ((r2.same s3).same s4) r4 fun v H5 s5 r5 => q v H5 ((s13.trans s4).trans s5) r5
    | false => exact iteF (q _ H3 s13 rfl)⟩
end
end NW
/-! What operations on data come to. -/
namespace NW
open PySem PySem.Spec PyProof.Rows L2 StX

/-! ### data that == can be asked of -/
mutual
theorem eqv_data : ∀ a b : D, PyData.eqv a.data b.data = decide (a = b)
  | .none, b => by cases b <;> simp [NestedKey.data, PyData.eqv]
  | .num i, b => by
    cases b <;> simp [NestedKey.data, PyData.eqv]
    rw [Bool.beq_eq_decide_eq]
  | .text x, b => by
    cases b <;> simp [NestedKey.data, PyData.eqv]
    rw [Bool.beq_eq_decide_eq]
  | .tup xs, b => by
    cases b with
    | tup ys =>
      simp only [NestedKey.data, PyData.eqv]
      rw [eqv_datas xs ys]
      simp
    | none => simp [NestedKey.data, PyData.eqv]
    | num i => simp [NestedKey.data, PyData.eqv]
    | text i => simp [NestedKey.data, PyData.eqv]
theorem eqv_datas : ∀ xs ys : List D, PyData.eqvAll (NestedKey.datas xs) (NestedKey.datas ys) = decide (xs = ys)
  | [], [] => by simp [NestedKey.datas, PyData.eqvAll]
  | [], y :: ys => by simp [NestedKey.datas, PyData.eqvAll]
  | x :: xs, [] => by simp [NestedKey.datas, PyData.eqvAll]
  | x :: xs, y :: ys => by
    simp only [NestedKey.datas, PyData.eqvAll]
    rw [eqv_data x y, eqv_datas xs ys]
    simp
end
/-- of such a depth, its texts in order -/
inductive Sh : Nat → D → Prop
  | non {n : Nat} : Sh n .none
  | num {n : Nat} {i : Int} : Sh n (.num i)
  | text {n : Nat} {x : Str} (h : PyData.strOk x = true) : Sh n (.text x)
  | tup {n : Nat} {ds : List D} (h : ∀ d, d ∈ ds → Sh n d) : Sh (n + 1) (.tup ds)
theorem Sh.up {n m : Nat} {d : D} (h : Sh n d) (e : n ≤ m) : Sh m d := by
  induction h generalizing m with
  | non => exact .non
  | num => exact .num
  | text h => exact .text h
  | tup h ih =>
    cases m with
    | zero => omega
    | succ m => exact .tup fun d hd => ih d hd (by omega)
theorem sh_nil {n : Nat} : Sh (n + 1) (.tup []) := .tup fun _ h => by cases h
theorem sh_cons {n : Nat} {d : D} {ds : List D} (h : Sh n d) (t : Sh (n + 1) (.tup ds)) : Sh (n + 1) (.tup (d :: ds)) := .tup fun e he => by
  cases he with
  | head => exact h
  | tail _ he =>
    cases t with
    | tup t => exact t e he
theorem Sh.items {n : Nat} {ds : List D} (h : Sh (n + 1) (.tup ds)) : ∀ d ∈ ds, Sh n d := by
  cases h with
  | tup h => exact h
mutual
theorem Sh.lay {n : Nat} : ∀ d : D, Sh n d → PyData.canLay0 d.data = true
  | .none, _ => rfl
  | .num i, _ => rfl
  | .text x, h => by
    cases h with
    | text h => simp only [NestedKey.data, PyData.canLay0]; exact h
  | .tup ds, h => by
    cases h with
    | tup h => simp only [NestedKey.data, PyData.canLay0]; exact lays _ ds h
theorem lays (n : Nat) : ∀ ds : List D, (∀ d ∈ ds, Sh n d) → PyData.canLayAll0 (NestedKey.datas ds) = true
  | [], _ => by simp [NestedKey.datas, PyData.canLayAll0]
  | d :: ds, h => by
    simp only [NestedKey.datas, PyData.canLayAll0, Bool.and_eq_true]
    exact ⟨Sh.lay d (h d List.mem_cons_self), lays n ds fun e he => h e (List.mem_cons_of_mem _ he)⟩
end
mutual
theorem Sh.dep {n : Nat} : ∀ d : D, Sh n d → PyData.depth d.data ≤ n
  | .none, _ => by simp [NestedKey.data, PyData.depth]
  | .num i, _ => by simp [NestedKey.data, PyData.depth]
  | .text x, h => by simp [NestedKey.data, PyData.depth]
  | .tup ds, h => by
    cases h with
    | tup h =>
      simp only [NestedKey.data, PyData.depth]
      have := deps _ ds h
      omega
theorem deps (n : Nat) : ∀ ds : List D, (∀ d ∈ ds, Sh n d) → PyData.depthAll (NestedKey.datas ds) ≤ n
  | [], _ => by simp [NestedKey.datas, PyData.depthAll]
  | d :: ds, h => by
    simp only [NestedKey.datas, PyData.depthAll]
    have h1 := Sh.dep d (h d List.mem_cons_self)
    have h2 := deps n ds fun e he => h e (List.mem_cons_of_mem _ he)
    omega
end
mutual
theorem Sh.kdep {n : Nat} : ∀ d : D, Sh n d → d.depth ≤ n
  | .none, _ => by simp [NestedKey.depth]
  | .num i, _ => by simp [NestedKey.depth]
  | .text x, h => by simp [NestedKey.depth]
  | .tup ds, h => by
    cases h with
    | tup h =>
      simp only [NestedKey.depth]
      have := kdeps _ ds h
      omega
theorem kdeps (n : Nat) : ∀ ds : List D, (∀ d ∈ ds, Sh n d) → NestedKey.depthAll ds ≤ n
  | [], _ => by simp [NestedKey.depthAll]
  | d :: ds, h => by
    simp only [NestedKey.depthAll]
    have h1 := Sh.kdep d (h d List.mem_cons_self)
    have h2 := kdeps n ds fun e he => h e (List.mem_cons_of_mem _ he)
    omega
end
theorem Sh.shaped {d : D} (h : Sh 8 d) : SeqAt.shaped d.data = true := by
  unfold SeqAt.shaped
  rw [Bool.and_eq_true]
  exact ⟨Sh.lay d h, decide_eq_true (Nat.le_trans (Sh.dep d h) (by decide))⟩
theorem shaped_list {ds : List D} (h : ∀ d ∈ ds, Sh 8 d) : SeqAt.shaped (.list (NestedKey.datas ds)) = true := by
  unfold SeqAt.shaped
  rw [Bool.and_eq_true]
  refine ⟨?_, decide_eq_true ?_⟩
  · simp only [PyData.canLay0]
    exact lays _ ds h
  · simp only [PyData.depth]
    have := deps _ ds h
    omega
theorem any_eqv (d : D) : ∀ ds : List D, ((NestedKey.datas ds).any fun z => PyData.eqv z d.data) = decide (d ∈ ds)
  | [] => by simp [NestedKey.datas]
  | e :: ds => by
    simp only [NestedKey.datas, List.any_cons]
    rw [any_eqv d ds, eqv_data]
    by_cases h : e = d
    · simp [h]
    · have h' : ¬ d = e := fun q => h q.symm
      simp [h, h']

theorem shs_nil {n : Nat} : ∀ d ∈ ([] : List D), Sh n d := fun _ h => by cases h
theorem shs_cons {n : Nat} {d : D} {ds : List D} (h : Sh n d) (t : ∀ e ∈ ds, Sh n e) : ∀ e ∈ d :: ds, Sh n e := fun e he => by
  cases he with
  | head => exact h
  | tail _ he => exact t e he
section
variable {K : Fg} {r : Sl} {ta : TE} {t : TA} {ds es : List D} {d : D}
/-- arguments that are data -/
def CaD (K : Fg) (t : TA) (r : Sl) (ds : List D) : Prop := CmA K t r (ds.map W.d)
theorem cad_nil : CaD K tNil r [] := ca_nil
theorem cad_cons (h : Cm K ta r (.d d)) (ht : CaD K t r ds) : CaD K (tCons ta t) r (d :: ds) := ca_cons h ht
theorem cad_star (h : Cm K ta r (.d (.tup es))) (ht : CaD K t r ds) : CaD K (tStar K ta t) r (es ++ ds) := by
  unfold CaD
  rw [List.map_append]
  exact ca_star h ht
theorem cad_starE {a : D} (h : Cm K ta r (.d a)) (e : a = .tup es) (ht : CaD K t r ds) : CaD K (tStar K ta t) r (es ++ ds) := by
  subst e
  exact cad_star h ht
theorem cm_tupD (h : CaD K t r ds) (hl : ds.length ≤ 1000) : Cm K (tTup t) r (.d (.tup ds)) := cm_tup h hl
theorem cm_lstD (h : CaD K t r ds) (hl : ds.length ≤ 1000) : Cm K (tLst t) r (.l ds) := cm_lst h hl
end
section
variable {K : Fg}
/-! ### == != -/
theorem co_eq {a b : D} (ha : Sh 8 a) (hb : Sh 8 b) : CmO K (rEqD K) (.d a) (.d b) (.b (decide (a = b))) := fun x y H Q rx ry q =>
  ⟨a.data, b.data, Rp.dp a x rx, Rp.dp b y ry, ha.shaped, hb.shaped, q _ H (Same.refl H) (by rw [eqv_data]; rfl)⟩
theorem co_ne {a b : D} (ha : Sh 8 a) (hb : Sh 8 b) : CmO K (rNeD K) (.d a) (.d b) (.b (!decide (a = b))) := fun x y H Q rx ry q =>
  ⟨a.data, b.data, Rp.dp a x rx, Rp.dp b y ry, ha.shaped, hb.shaped, q _ H (Same.refl H) (by rw [eqv_data]; rfl)⟩
theorem dp_list {H : Hp} {x : V} {ks : List D} (h : Rw K H x (.l ks)) : Dp K H x (.list (NestedKey.datas ks)) := by
  obtain ⟨a, xs, rfl, e, r⟩ := h
  exact .lst (.of e) (RpA.dp ks xs r)
theorem co_eqL {as bs : List D} (ha : ∀ d ∈ as, Sh 8 d) (hb : ∀ d ∈ bs, Sh 8 d) : CmO K (rEqD K) (.l as) (.l bs) (.b (decide (as = bs))) := fun x y H Q rx ry q =>
  ⟨_, _, dp_list rx, dp_list ry, shaped_list ha, shaped_list hb, q _ H (Same.refl H) (by simp only [PyData.eqv]; rw [eqv_datas]; rfl)⟩
theorem co_neL {as bs : List D} (ha : ∀ d ∈ as, Sh 8 d) (hb : ∀ d ∈ bs, Sh 8 d) : CmO K (rNeD K) (.l as) (.l bs) (.b (!decide (as = bs))) := fun x y H Q rx ry q =>
  ⟨_, _, dp_list rx, dp_list ry, shaped_list ha, shaped_list hb, q _ H (Same.refl H) (by simp only [PyData.eqv]; rw [eqv_datas]; rfl)⟩
/-- bools compared -/
theorem dp_bl {H : Hp} {x : V} {c : Bool} (h : Rw K H x (.b c)) : Dp K H x (.bool c) := by
  have h' : x = .bl c := h
  subst h'
  exact .bl c
theorem co_neB {a b : Bool} : CmO K (rNeD K) (.b a) (.b b) (.b (a != b)) := fun x y H Q rx ry q =>
  ⟨_, _, dp_bl rx, dp_bl ry, rfl, rfl, q _ H (Same.refl H) rfl⟩
/-! ### order of ints -/
theorem co_i {f : Int → Int → V} {i j : Int} {w : W} (h : ∀ H, Rw K H (f i j) w) : CmO K (rI0 f) (.d (.num i)) (.d (.num j)) w := fun x y H Q rx ry q => by
  have e1 := Rp.int_inv rx
  have e2 := Rp.int_inv ry
  exact ⟨i, j, e1, e2, q _ H (Same.refl H) (h H)⟩
theorem co_iC {C : Int → Int → Prop} {f : Int → Int → V} {i j : Int} {w : W} (hc : C i j) (h : ∀ H, Rw K H (f i j) w) : CmO K (rI C f) (.d (.num i)) (.d (.num j)) w := fun x y H Q rx ry q => by
  have e1 := Rp.int_inv rx
  have e2 := Rp.int_inv ry
  exact ⟨i, j, e1, e2, hc, q _ H (Same.refl H) (h H)⟩
abbrev rLt : R2 := rI0 fun i j => .bl (decide (i < j))
abbrev rLe : R2 := rI0 fun i j => .bl (decide (i ≤ j))
abbrev rGt : R2 := rI0 fun i j => .bl (decide (j < i))
abbrev rGe : R2 := rI0 fun i j => .bl (decide (j ≤ i))
theorem co_lt {i j : Int} : CmO K rLt (.d (.num i)) (.d (.num j)) (.b (decide (i < j))) := co_i fun _ => rfl
theorem co_le {i j : Int} : CmO K rLe (.d (.num i)) (.d (.num j)) (.b (decide (i ≤ j))) := co_i fun _ => rfl
theorem co_gt {i j : Int} : CmO K rGt (.d (.num i)) (.d (.num j)) (.b (decide (j < i))) := co_i fun _ => rfl
theorem co_ge {i j : Int} : CmO K rGe (.d (.num i)) (.d (.num j)) (.b (decide (j ≤ i))) := co_i fun _ => rfl
theorem co_sub {i j : Int} : CmO K (rI0 fun i j => .int (i - j)) (.d (.num i)) (.d (.num j)) (.d (.num (i - j))) := co_i fun _ => .int _
theorem co_mul {i j : Int} (h : CMul i j) : CmO K (rI CMul fun i j => .int (i * j)) (.d (.num i)) (.d (.num j)) (.d (.num (i * j))) := co_iC h fun _ => .int _
theorem co_mod {i j : Int} (h : j ≠ 0) : CmO K (rI (fun _ j => j ≠ 0) fun i j => .int (i.fmod j)) (.d (.num i)) (.d (.num j)) (.d (.num (i.fmod j))) := co_iC h fun _ => .int _
/-! ### + -/
abbrev rAddS : R2 := fun x y H Q => ∃ i j, x = .str i ∧ y = .str j ∧ i.length + j.length ≤ sizeLine ∧ Q (.str (i ++ j)) H
def rAddU (K : Fg) : R2 := fun x y H Q => ((rI0 (fun i j => .int (i + j)) x y H Q ∨ rAddS x y H Q) ∨ rCat x y H Q) ∨ rCatA K x y H Q
theorem op_addU {X : Cx} : OpR X (binaryOp .Add) (rAddU X.K) := ((op_add.or op_add_str).or op_cat).or op_catA
theorem co_add {i j : Int} : CmO K (rAddU K) (.d (.num i)) (.d (.num j)) (.d (.num (i + j))) := fun x y H Q rx ry q => .inl (.inl (.inl (co_i (w := .d (.num (i + j))) (f := fun i j => .int (i + j)) (fun H => (Rp.int (i + j) : Rp K H _ _)) x y H Q rx ry q)))
theorem co_addS {i j : Str} (h : i.length + j.length ≤ 1000000) : CmO K (rAddU K) (.d (.text i)) (.d (.text j)) (.d (.text (i ++ j))) := fun x y H Q rx ry q => .inl (.inl (.inr
  ⟨i, j, Rp.str_inv rx, Rp.str_inv ry, Nat.le_trans h (by decide), q _ H (Same.refl H) (.str _)⟩))
theorem co_addL {as bs : List D} (h : as.length + bs.length ≤ 1000000) : CmO K (rAddU K) (.l as) (.l bs) (.l (as ++ bs)) := fun x y H Q rx ry q => .inl (.inr (by
  obtain ⟨a, xs, rfl, ea, ra⟩ := rx
  obtain ⟨b, ys, rfl, eb, rb⟩ := ry
  refine ⟨a, b, xs, ys, rfl, rfl, ea, eb, by rw [ra.length, rb.length]; exact Nat.le_trans h (by decide), fun p hp => q _ _ (Same.new hp) ?_⟩
  exact ⟨p, _, rfl, upd_same, RpA.keep (Keep.of (Same.new hp)) _ _ (ra.append rb)⟩))
theorem co_addT {as bs : List D} (h : as.length + bs.length ≤ 1000000) : CmO K (rAddU K) (.d (.tup as)) (.d (.tup bs)) (.d (.tup (as ++ bs))) := fun x y H Q rx ry q => .inr (by
  obtain ⟨a, xs, rfl, ea, ra⟩ := Rp.tup_inv rx
  obtain ⟨b, ys, rfl, eb, rb⟩ := Rp.tup_inv ry
  refine ⟨a, b, xs, ys, rfl, rfl, ea.sq, eb.sq, by rw [ra.length, rb.length]; exact Nat.le_trans h (by decide), fun hx => ?_, fun hx hy => ?_, fun hx hy p hp => q _ _ (Same.new hp) ?_⟩
  · subst hx
    cases ra
    exact q _ H (Same.refl H) ry
  · subst hy
    cases rb
    rw [List.append_nil] at q
    exact q _ H (Same.refl H) rx
  · exact .tup (.inl upd_same) (RpA.keep (Keep.of (Same.new hp)) _ _ (ra.append rb)))
/-! ### is None -/
abbrev rIsN : R2 := fun x y H Q => y = .non ∧ Q (.bl (decide (x = .non))) H
abbrev rIsNotN : R2 := fun x y H Q => y = .non ∧ Q (.bl (!decide (x = .non))) H
theorem co_isN {a : D} : CmO K rIsN (.d a) (.d .none) (.b (decide (a = .none))) := fun x y H Q rx ry q => ⟨Rp.non_inv ry, q _ H (Same.refl H) (by rw [Rp.is_non rx]; rfl)⟩
theorem co_isNotN {a : D} : CmO K rIsNotN (.d a) (.d .none) (.b (!decide (a = .none))) := fun x y H Q rx ry q => ⟨Rp.non_inv ry, q _ H (Same.refl H) (by rw [Rp.is_non rx]; rfl)⟩
/-! ### in -/
def rInT (K : Fg) : R2 := fun x y H Q => ∃ d ds, Dp K H x d ∧ Dp K H y (.tuple ds) ∧ SeqAt.shaped d = true ∧ SeqAt.shaped (.list ds) = true ∧ Q (.bl (ds.any fun z => PyData.eqv z d)) H
theorem op_inT {X : Cx} (hu : X.A.units + 65 < cLine) : OpR X (compareOp .In) (rInT X.K) := by
  rintro pins s σ H x y v u Q I rx ry ⟨d, ds, hd, he, sd, se, q⟩
  obtain ⟨as, r1⟩ := Dp.reads I d x v hd rx
  obtain ⟨bs, r2⟩ := Dp.reads I (.tuple ds) y u he ry
  have se' : PyData.canLayAll0 ds = true := SeqAt.canLay_of_shaped se
  exact SeqAt.in_tuple_reads r2 r1 se' (SeqAt.canLay_of_shaped sd) (room_in_shaped sd hu) ⟨.bl _, H, I, rfl, q⟩
abbrev rInS : R2 := fun x y H Q => ∃ (c : Nat) (z : Str), x = .str ⟨#[c]⟩ ∧ y = .str z ∧ Q (.bl (decide (c ∈ z.cps.toList))) H
def rInU (K : Fg) : R2 := fun x y H Q => (rInD K x y H Q ∨ rInT K x y H Q) ∨ rInS x y H Q
theorem op_inU {X : Cx} (hu : X.A.units + 65 < cLine) : OpR X (compareOp .In) (rInU X.K) := ((op_inD hu).or (op_inT hu)).or op_in_sign
theorem co_inL {a : D} {ds : List D} (ha : Sh 8 a) (hd : ∀ d ∈ ds, Sh 8 d) : CmO K (rInU K) (.d a) (.l ds) (.b (decide (a ∈ ds))) := fun x y H Q rx ry q => .inl (.inl
  ⟨_, _, Rp.dp a x rx, dp_list ry, ha.shaped, shaped_list hd, q _ H (Same.refl H) (by rw [any_eqv]; rfl)⟩)
theorem co_inT {a : D} {ds : List D} (ha : Sh 8 a) (hd : ∀ d ∈ ds, Sh 8 d) : CmO K (rInU K) (.d a) (.d (.tup ds)) (.b (decide (a ∈ ds))) := fun x y H Q rx ry q => .inl (.inr
  ⟨_, _, Rp.dp a x rx, Rp.dp _ y ry, ha.shaped, shaped_list hd, q _ H (Same.refl H) (by rw [any_eqv]; rfl)⟩)
theorem co_inS {c : Nat} {z : Str} : CmO K (rInU K) (.d (.text ⟨#[c]⟩)) (.d (.text z)) (.b (decide (c ∈ z.cps.toList))) := fun x y H Q rx ry q => .inr
  ⟨c, z, Rp.str_inv rx, Rp.str_inv ry, q _ H (Same.refl H) rfl⟩
/-! ### a[i] -/
theorem atI_rp {H : Hp} {xs : List V} {ds : List D} {i : Int} {d : D} (r : RpA K H xs ds) (h : atI ds i = some d) : ∃ x, atI xs i = some x ∧ Rp K H x d := by
  unfold atI at h ⊢
  rw [r.length]
  cases e : ixN ds.length i with
  | none => rw [e] at h; cases h
  | some j =>
    rw [e] at h
    exact r.get h
theorem co_ixT {ds : List D} {i : Int} {d : D} (h : atI ds i = some d) : CmO K (rIx K) (.d (.tup ds)) (.d (.num i)) (.d d) := fun x y H Q rx ry q => by
  obtain ⟨a, xs, rfl, ea, ra⟩ := Rp.tup_inv rx
  obtain ⟨v, h1, h2⟩ := atI_rp ra h
  exact .inr (.inl ⟨a, xs, i, v, rfl, Rp.int_inv ry, ea.sq, h1, q _ H (Same.refl H) h2⟩)
theorem co_ixL {ds : List D} {i : Int} {d : D} (h : atI ds i = some d) : CmO K (rIx K) (.l ds) (.d (.num i)) (.d d) := fun x y H Q rx ry q => by
  obtain ⟨a, xs, rfl, ea, ra⟩ := rx
  obtain ⟨v, h1, h2⟩ := atI_rp ra h
  exact .inl ⟨a, xs, i, v, rfl, Rp.int_inv ry, .of ea, h1, q _ H (Same.refl H) h2⟩
theorem co_ixDl {k : D} {ks : List D} : CmO K (rIx K) (.dl k ks) (.d (.num 0)) (.d k) := fun x y H Q rx ry q => by
  obtain ⟨a, z, l, xs, rfl, h1, h2, h3, h4⟩ := rx
  exact .inr (.inl ⟨a, _, 0, z, rfl, Rp.int_inv ry, .of h1, rfl, q _ H (Same.refl H) h2⟩)
theorem cm_neg {t : TE} {r : Sl} {i : Int} (h : Cm K t r (.d (.num i))) : Cm K (tUn (rU fun i => .int (-i)) t) r (.d (.num (-i))) := fun σ H Q e q =>
  h σ H _ e fun x H1 s1 r1 => ⟨i, Rp.int_inv r1, q _ H1 s1 (.int _)⟩
theorem co_ixTe {a : D} {ds : List D} {i : Int} {d : D} (e : a = .tup ds) (h : atI ds i = some d) : CmO K (rIx K) (.d a) (.d (.num i)) (.d d) := by
  subst e
  exact co_ixT h
theorem co_inTe {a b : D} {ds : List D} (e : b = .tup ds) (ha : Sh 8 a) (hd : ∀ d ∈ ds, Sh 8 d) : CmO K (rInU K) (.d a) (.d b) (.b (decide (a ∈ ds))) := by
  subst e
  exact co_inT ha hd
theorem co_addTe {a b : D} {as bs : List D} (ea : a = .tup as) (eb : b = .tup bs) (h : as.length + bs.length ≤ 1000000) : CmO K (rAddU K) (.d a) (.d b) (.d (.tup (as ++ bs))) := by
  subst ea
  subst eb
  exact co_addT h
/-! ### a[lo:hi] -/
def CmP (K : Fg) (t : TO) (r : Sl) (o : Option Int) : Prop := ∀ σ H Q, EnvOk K r σ H → (∀ H', Same H H' → Q o H') → t σ H Q
theorem cp_no {r : Sl} : CmP K tNoPart r none := fun _ H _ _ q => q H (Same.refl H)
theorem cp_int {t : TE} {r : Sl} {i : Int} (h : Cm K t r (.d (.num i))) : CmP K (tPart t) r (some i) := fun σ H Q e q => h σ H _ e fun x H' s rx => ⟨i, Rp.int_inv rx, q H' s⟩
def cutD (xs : List D) (lo hi : Option Int) : List D := (xs.drop (HT.sIx xs.length 0 lo)).take (HT.sIx xs.length xs.length hi - HT.sIx xs.length 0 lo)
theorem cutD_rp {H : Hp} {xs : List V} {ds : List D} {lo hi : Option Int} (r : RpA K H xs ds) : RpA K H (cutV xs lo hi) (cutD ds lo hi) := by
  unfold cutV cutD
  rw [r.length]
  exact (r.drop _).take _
theorem cm_slT {t : TE} {l u : TO} {r : Sl} {ds : List D} {lo hi : Option Int} (h : Cm K t r (.d (.tup ds))) (hl : CmP K l r lo) (hu : CmP K u r hi) : Cm K (tSl (rSlA K) t l u) r (.d (.tup (cutD ds lo hi))) := fun σ H Q e q =>
  h σ H _ e fun x H1 s1 r1 => hl σ H1 _ (e.same s1) fun H2 s2 => hu σ H2 _ (e.same (s1.trans s2)) fun H3 s3 => by
    obtain ⟨a, xs, rfl, ea, ra⟩ := Rp.tup_inv (Rw.same (w := .d (.tup ds)) (s2.trans s3) r1)
    refine ⟨a, xs, rfl, ea.sq, fun hw => q _ _ ((s1.trans s2).trans s3) ?_, fun _ p hp => q _ _ (((s1.trans s2).trans s3).trans (Same.new hp)) ?_⟩
    · have e1 : cutD ds lo hi = ds := by
        unfold cutD
        rw [ra.length] at hw
        rw [hw.1, hw.2]
        simp
      rw [e1]
      exact .tup ea ra
    · exact .tup (.inl upd_same) (RpA.keep (Keep.of (Same.new hp)) _ _ (cutD_rp ra))
theorem cm_slS {t : TE} {l u : TO} {r : Sl} {z : Str} {lo hi : Option Int} (h : Cm K t r (.d (.text z))) (hl : CmP K l r lo) (hu : CmP K u r hi) (hz : z.length ≤ 1000000) : Cm K (tSl rSlS t l u) r (.d (.text (cutS z lo hi))) := fun σ H Q e q =>
  h σ H _ e fun x H1 s1 r1 => hl σ H1 _ (e.same s1) fun H2 s2 => hu σ H2 _ (e.same (s1.trans s2)) fun H3 s3 =>
    ⟨z, Rp.str_inv r1, Nat.le_trans hz (by decide), q _ _ ((s1.trans s2).trans s3) (.str _)⟩
/-! ### built-ins -/
abbrev rLen (K : Fg) : List V → Hp → VK → Prop := fun xs H Q => ∃ x n, xs = [x] ∧ LenV K x H n ∧ Q (.int n) H
theorem one_inv {H : Hp} {xs : List V} {w : W} (h : RwA K H xs [w]) : ∃ x, xs = [x] ∧ Rw K H x w := by
  cases h with
  | cons a b => cases b; exact ⟨_, rfl, a⟩
theorem two_inv {H : Hp} {xs : List V} {w u : W} (h : RwA K H xs [w, u]) : ∃ x y, xs = [x, y] ∧ Rw K H x w ∧ Rw K H y u := by
  cases h with
  | cons a b =>
    obtain ⟨y, rfl, r⟩ := one_inv b
    exact ⟨_, _, rfl, a, r⟩
theorem cc_lenT {ds : List D} : CmC K (rLen K) [.d (.tup ds)] (.d (.num ds.length)) := fun xs H Q r q => by
  obtain ⟨x, rfl, rx⟩ := one_inv r
  obtain ⟨a, ys, rfl, ea, ra⟩ := Rp.tup_inv rx
  refine ⟨_, ys.length, rfl, .inr ⟨ys, ea.sq, rfl⟩, q _ H (Same.refl H) ?_⟩
  rw [ra.length]
  exact .int _
theorem cc_lenTe {a : D} {ds : List D} (e : a = .tup ds) : CmC K (rLen K) [.d a] (.d (.num ds.length)) := by
  subst e
  exact cc_lenT
theorem cc_lenL {ds : List D} : CmC K (rLen K) [.l ds] (.d (.num ds.length)) := fun xs H Q r q => by
  obtain ⟨x, rfl, a, ys, rfl, ea, ra⟩ := one_inv r
  refine ⟨_, ys.length, rfl, .inl ⟨ys, .of ea, rfl⟩, q _ H (Same.refl H) ?_⟩
  rw [ra.length]
  exact .int _
theorem cc_lenS {z : Str} (h : z.length ≤ 1000000) : CmC K (rLen K) [.d (.text z)] (.d (.num z.length)) := fun xs H Q r q => by
  obtain ⟨x, rfl, rx⟩ := one_inv r
  obtain rfl := Rp.str_inv rx
  exact ⟨_, z.length, rfl, ⟨Nat.le_trans h (by decide), rfl⟩, q _ H (Same.refl H) (.int _)⟩
abbrev rTupOf (K : Fg) : List V → Hp → VK → Prop := fun xs H Q => ∃ p ys, xs = [.ref p] ∧ ((SqL K H p ys ∧ ∀ l, H l = none → Q (.ref l) (upd H l (.tup ys))) ∨ (SqT K H p ys ∧ Q (.ref p) H))
theorem cc_tuple {ds : List D} : CmC K (rTupOf K) [.l ds] (.d (.tup ds)) := fun xs H Q r q => by
  obtain ⟨x, rfl, a, ys, rfl, ea, ra⟩ := one_inv r
  refine ⟨a, ys, rfl, .inl ⟨.of ea, fun l hl => q _ _ (Same.new hl) ?_⟩⟩
  exact .tup (.inl upd_same) (RpA.keep (Keep.of (Same.new hl)) _ _ ra)
abbrev rListOf (K : Fg) : List V → Hp → VK → Prop := fun xs H Q => ∃ p ys, xs = [.ref p] ∧ (SqL K H p ys ∨ SqT K H p ys) ∧ ∀ l, H l = none → Q (.ref l) (upd H l (.lst ys))
theorem cc_listT {ds : List D} : CmC K (rListOf K) [.d (.tup ds)] (.l ds) := fun xs H Q r q => by
  obtain ⟨x, rfl, rx⟩ := one_inv r
  obtain ⟨a, ys, rfl, ea, ra⟩ := Rp.tup_inv rx
  refine ⟨a, ys, rfl, .inr ea.sq, fun l hl => q _ _ (Same.new hl) ?_⟩
  exact ⟨l, ys, rfl, upd_same, RpA.keep (Keep.of (Same.new hl)) _ _ ra⟩
theorem cc_all {bs : List Bool} : CmC K (rAll K) [.lb bs] (.b (bs.all id)) := fun xs H Q r q => by
  obtain ⟨x, rfl, a, rfl, ea⟩ := one_inv r
  exact ⟨a, bs, rfl, .of ea, q _ H (Same.refl H) rfl⟩
theorem cc_any {bs : List Bool} : CmC K (rAny K) [.lb bs] (.b (bs.any id)) := fun xs H Q r q => by
  obtain ⟨x, rfl, a, rfl, ea⟩ := one_inv r
  exact ⟨a, bs, rfl, .of ea, q _ H (Same.refl H) rfl⟩
theorem rpA_ints {H : Hp} : ∀ {ns : List Int} {xs : List V}, RpA K H xs (ns.map .num) → xs = ns.map V.int
  | [], xs, h => by cases h; rfl
  | n :: ns, xs, h => by
    cases h with
    | cons a b => rw [Rp.int_inv a, rpA_ints b]; rfl
theorem rpA_strs {H : Hp} : ∀ {ns : List Str} {xs : List V}, RpA K H xs (ns.map .text) → xs = ns.map V.str
  | [], xs, h => by cases h; rfl
  | n :: ns, xs, h => by
    cases h with
    | cons a b => rw [Rp.str_inv a, rpA_strs b]; rfl
theorem rpA_ofStrs {H : Hp} : ∀ (ns : List Str), RpA K H (ns.map V.str) (ns.map .text)
  | [] => .nil
  | n :: ns => .cons (.str n) (rpA_ofStrs ns)
theorem rpA_ofInts {H : Hp} : ∀ (ns : List Int), RpA K H (ns.map V.int) (ns.map .num)
  | [] => .nil
  | n :: ns => .cons (.int n) (rpA_ofInts ns)
theorem cc_sum {ns : List Int} : CmC K (rSum K) [.l (ns.map .num)] (.d (.num ns.sum)) := fun xs H Q r q => by
  obtain ⟨x, rfl, a, ys, rfl, ea, ra⟩ := one_inv r
  rw [rpA_ints ra] at ea
  exact ⟨a, ns, rfl, .of ea, q _ H (Same.refl H) (.int _)⟩
abbrev rInt1 : List V → Hp → VK → Prop := fun xs H Q => (∃ i, xs = [.int i] ∧ Q (.int i) H) ∨ ∃ k, xs = [.bl k] ∧ Q (.int (if k then 1 else 0)) H
theorem cc_intI {i : Int} : CmC K rInt1 [.d (.num i)] (.d (.num i)) := fun xs H Q r q => by
  obtain ⟨x, rfl, rx⟩ := one_inv r
  obtain rfl := Rp.int_inv rx
  exact .inl ⟨i, rfl, q _ H (Same.refl H) (.int _)⟩
theorem cc_intB {c : Bool} : CmC K rInt1 [.b c] (.d (.num (if c then 1 else 0))) := fun xs H Q r q => by
  obtain ⟨x, rfl, rx⟩ := one_inv r
  have rx' : x = .bl c := rx
  subst rx'
  exact .inr ⟨c, rfl, q _ H (Same.refl H) (.int _)⟩
abbrev rMin2 : List V → Hp → VK → Prop := fun xs H Q => ∃ i j, xs = [.int i, .int j] ∧ Q (.int (if j < i then j else i)) H
theorem cc_min2 {i j : Int} : CmC K rMin2 [.d (.num i), .d (.num j)] (.d (.num (if j < i then j else i))) := fun xs H Q r q => by
  obtain ⟨x, y, rfl, rx, ry⟩ := two_inv r
  obtain rfl := Rp.int_inv rx
  obtain rfl := Rp.int_inv ry
  exact ⟨i, j, rfl, q _ H (Same.refl H) (.int _)⟩
abbrev rStrI : List V → Hp → VK → Prop := fun xs H Q => ∃ i, xs = [.int i] ∧ i.natAbs.log2 < 1920 ∧ Q (.str (toString i)) H
theorem cc_str {i : Int} (h : i.natAbs.log2 < 1920) : CmC K rStrI [.d (.num i)] (.d (.text (toString i))) := fun xs H Q r q => by
  obtain ⟨x, rfl, rx⟩ := one_inv r
  obtain rfl := Rp.int_inv rx
  exact ⟨i, rfl, h, q _ H (Same.refl H) (.str _)⟩
/-! isinstance -/
def tyD : D → String
  | .none => "NoneType"
  | .num _ => "int"
  | .text _ => "str"
  | .tup _ => "tuple"
theorem tyx {H : Hp} {x : V} {d : D} (r : Rp K H x d) : TyX K H x (.type (tyD d)) := by
  cases r with
  | non => exact .base .non
  | int i => exact .base (.int i)
  | str z => exact .base (.str z)
  | tup t _ =>
    rcases t with t | (t | ⟨o, t⟩) | ⟨o, its, n, h1, h2, _⟩
    · exact .base (.tup t)
    · cases t
    · cases t
    · exact .kTuple h1 h2
theorem cc_isi {d : D} {T : String} {b : Bool} (h : kitB (tyD d) T = some b) : CmC K (rIsi K) [.d d, .v (.ty T)] (.b b) := fun xs H Q r q => by
  obtain ⟨x, y, rfl, rx, ry⟩ := two_inv r
  have ry' : y = .ty T := ry
  subst ry'
  exact ⟨x, .ty T, _, _, b, rfl, .ty T, tyx rx, kit_ty h, q _ H (Same.refl H) rfl⟩
theorem isi_int {d : D} {b : Bool} (h : (match d with | .num _ => true | _ => false) = b) : kitB (tyD d) "int" = some b := by
  subst h
  cases d
  · exact (by decide +kernel : kitB "NoneType" "int" = some false)
  · exact (by decide +kernel : kitB "int" "int" = some true)
  · exact (by decide +kernel : kitB "str" "int" = some false)
  · exact (by decide +kernel : kitB "tuple" "int" = some false)
theorem isi_bool {d : D} : kitB (tyD d) "bool" = some false := by
  cases d
  · exact (by decide +kernel : kitB "NoneType" "bool" = some false)
  · exact (by decide +kernel : kitB "int" "bool" = some false)
  · exact (by decide +kernel : kitB "str" "bool" = some false)
  · exact (by decide +kernel : kitB "tuple" "bool" = some false)
theorem isi_tuple {d : D} {b : Bool} (h : (match d with | .tup _ => true | _ => false) = b) : kitB (tyD d) "tuple" = some b := by
  subst h
  cases d
  · exact (by decide +kernel : kitB "NoneType" "tuple" = some false)
  · exact (by decide +kernel : kitB "int" "tuple" = some false)
  · exact (by decide +kernel : kitB "str" "tuple" = some false)
  · exact (by decide +kernel : kitB "tuple" "tuple" = some true)
theorem isi_str {d : D} {b : Bool} (h : (match d with | .text _ => true | _ => false) = b) : kitB (tyD d) "str" = some b := by
  subst h
  cases d
  · exact (by decide +kernel : kitB "NoneType" "str" = some false)
  · exact (by decide +kernel : kitB "int" "str" = some false)
  · exact (by decide +kernel : kitB "str" "str" = some true)
  · exact (by decide +kernel : kitB "tuple" "str" = some false)
/-! methods of texts -/
abbrev rJoin (K : Fg) : V → List V → Hp → VK → Prop := fun x xs H Q => ∃ a p, ∃ ys : List Str, x = .str a ∧ xs = [.ref p] ∧ (SqL K H p (ys.map V.str) ∨ SqT K H p (ys.map V.str)) ∧ (ys.map (·.length)).sum + ys.length * a.length ≤ 16777216 ∧ Q (.str (Txt.join a ys)) H
theorem cm_join {to te : TE} {r : Sl} {z : Str} {ys : List Str} (ho : Cm K to r (.d (.text z))) (he : Cm K te r (.l (ys.map .text))) (hl : (ys.map (·.length)).sum + ys.length * z.length ≤ 16777216) :
    Cm K (tM1 (rJoin K) to te) r (.d (.text (Txt.join z ys))) := fun σ H Q e q =>
  ho σ H _ e fun x H1 s1 r1 => ⟨⟨z, Rp.str_inv r1⟩, he σ H1 _ (e.same s1) fun y H2 s2 r2 => by
    obtain ⟨a, xs, rfl, ea, ra⟩ := r2
    rw [rpA_strs ra] at ea
    exact ⟨z, a, ys, Rp.str_inv r1, rfl, .inl (.of ea), hl, q _ _ (s1.trans s2) (.str _)⟩⟩
theorem cm_split {to te : TE} {r : Sl} {z b : Str} (ho : Cm K to r (.d (.text z))) (he : Cm K te r (.d (.text b))) (hb : (b.length == 0) = false) (hz : z.length ≤ 1000000) :
    Cm K (tM1 (fun x xs H Q => ∃ a b, x = .str a ∧ xs = [.str b] ∧ (b.length == 0) = false ∧ a.length + 2 ≤ sizeLine ∧ rNewStrs (Txt.split a b) H Q) to te) r (.l ((Txt.split z b).map .text)) := fun σ H Q e q =>
  ho σ H _ e fun x H1 s1 r1 => ⟨⟨z, Rp.str_inv r1⟩, he σ H1 _ (e.same s1) fun y H2 s2 r2 => by
    refine ⟨z, b, Rp.str_inv r1, by rw [Rp.str_inv r2], hb, ?_, fun p hp => q _ _ ((s1.trans s2).trans (Same.new hp)) ⟨p, _, rfl, upd_same, rpA_ofStrs _⟩⟩
    have : (1000002 : Nat) ≤ sizeLine := by decide
    omega⟩
end
end NW
/-! Statements, walks, comprehensions, defs over data. -/
namespace NW
open PySem PySem.Spec PyProof.Rows L2 StX

/-! ### walks -/
/-- from H on the walk gives what ws says, in turn -/
def ItOk (K : Fg) (J : It) (H : Hp) (ws : List W) : Prop := ∀ H1, Same H H1 → (∀ i, i < ws.length → J.go i H1) ∧ J.stop ws.length H1 ∧
  ∀ i x H2, i < ws.length → J.yld i H1 x H2 → Same H1 H2 ∧ ∃ w, ws[i]? = some w ∧ Rw K H2 x w
def CmI (K : Fg) (wi : TI) (r : Sl) (ws : List W) : Prop := ∀ σ H R, EnvOk K r σ H → (∀ J H', Same H H' → ItOk K J H' ws → R J H') → wi σ H R
section
variable {K : Fg} {r : Sl}
theorem itOk_tup {a : Addr} {xs : List V} {ds : List D} {H : Hp} (t : TupAt K H a xs) (h : RpA K H xs ds) : ItOk K (Itt K a) H (ds.map W.d) := fun H1 s => by
  have t1 : TupAt K H1 a xs := t.elim (fun q => .inl (s _ _ q)) .inr
  have w := walk_tup (K := K) (a := a) (xs := xs)
  have hl := h.length
  refine ⟨fun i hi => w.goes i H1 (by simp at hi; omega) t1.sq, ?_, fun i x H2 hi y => ?_⟩
  · have := w.stops H1 t1.sq
    rw [hl] at this
    simpa using this
  · have hi' : i < ds.length := by simpa using hi
    obtain ⟨rfl, e⟩ := w.yields i H1 x H2 (by omega) t1.sq y
    obtain ⟨x', h1, h2⟩ := h.get (i := i) (d := ds[i]) (by simp [hi'])
    rw [e] at h1
    cases h1
    exact ⟨Same.refl _, .d ds[i], by simp [hi'], Rp.keep (Keep.of s) _ _ h2⟩
theorem itOk_lst {a : Addr} {xs : List V} {ds : List D} {H : Hp} (t : H a = some (.lst xs)) (h : RpA K H xs ds) : ItOk K (Itl K a) H (ds.map W.d) := fun H1 s => by
  have t1 : SqL K H1 a xs := .of (s _ _ t)
  have w := walk_list (K := K) (a := a) (xs := xs)
  have hl := h.length
  refine ⟨fun i hi => w.goes i H1 (by simp at hi; omega) t1, ?_, fun i x H2 hi y => ?_⟩
  · have := w.stops H1 t1
    rw [hl] at this
    simpa using this
  · have hi' : i < ds.length := by simpa using hi
    obtain ⟨rfl, e⟩ := w.yields i H1 x H2 (by omega) t1 y
    obtain ⟨x', h1, h2⟩ := h.get (i := i) (d := ds[i]) (by simp [hi'])
    rw [e] at h1
    cases h1
    exact ⟨Same.refl _, .d ds[i], by simp [hi'], Rp.keep (Keep.of s) _ _ h2⟩
theorem ci_tup {tl : TE} {ds : List D} (h : Cm K tl r (.d (.tup ds))) : CmI K (iTup K tl) r (ds.map W.d) := fun σ H R e q => h σ H _ e fun x H1 s1 r1 => by
  obtain ⟨a, xs, rfl, ea, ra⟩ := r1.tup_inv
  exact ⟨a, rfl, ⟨xs, ea.sq⟩, q _ H1 s1 (itOk_tup ea ra)⟩
theorem ci_tupE {tl : TE} {a : D} {ds : List D} (h : Cm K tl r (.d a)) (e : a = .tup ds) : CmI K (iTup K tl) r (ds.map W.d) := by
  subst e
  exact ci_tup h
theorem ci_tupM {α : Type} {tl : TE} {a : D} {as : List α} (g : α → D) (h : Cm K tl r (.d a)) (e : a = .tup (as.map g)) : CmI K (iTup K tl) r (as.map fun x => .d (g x)) := by
  have := ci_tupE h e
  rw [List.map_map] at this
  exact this
theorem ci_lst {tl : TE} {ds : List D} (h : Cm K tl r (.l ds)) : CmI K (iList K tl) r (ds.map W.d) := fun σ H R e q => h σ H _ e fun x H1 s1 r1 => by
  obtain ⟨a, xs, rfl, ea, ra⟩ := r1
  exact ⟨a, rfl, ⟨xs, .of ea⟩, q _ H1 s1 (itOk_lst ea ra)⟩
theorem ci_lstM {α : Type} {tl : TE} {as : List α} (g : α → D) (h : Cm K tl r (.l (as.map g))) : CmI K (iList K tl) r (as.map fun x => .d (g x)) := by
  have := ci_lst h
  rw [List.map_map] at this
  exact this
theorem ci_range {ta : TA} {n : Nat} (h : CmA K ta r [.d (.num n)]) (hn : n < 1000000) : CmI K (iRng1 ta) r ((List.range n).map fun i => .d (.num (i : Nat))) := fun σ H R e q => h σ H _ e fun xs H1 s1 r1 => by
  obtain ⟨x, rfl, rx⟩ := one_inv r1
  have rx' := Rp.int_inv rx
  subst rx'
  refine ⟨(n : Int), rfl, by omega, by omega, q _ H1 s1 fun H2 s2 => ⟨fun i hi => ?_, ?_, fun i x H3 hi y => ?_⟩⟩
  · show i < (n : Int).toNat
    simpa using hi
  · show (n : Int).toNat ≤ _
    simp
  · obtain ⟨rfl, rfl⟩ := y
    have hi' : i < n := by simpa using hi
    refine ⟨Same.refl _, .d (.num (i : Nat)), by simp [hi'], ?_⟩
    rw [Int.zero_add]
    exact .int _
theorem ci_str {ts : TE} {z : Str} (h : Cm K ts r (.d (.text z))) : CmI K (iStr ts) r (z.cps.toList.map fun c => .d (.text ⟨#[c]⟩)) := fun σ H R e q => h σ H _ e fun x H1 s1 r1 => by
  obtain rfl := Rp.str_inv r1
  refine ⟨z, rfl, q _ H1 s1 fun H2 _ => ?_⟩
  have w := walk_str (z := z)
  refine ⟨fun i hi => w.goes i H2 (by simpa using hi) trivial, ?_, fun i x H3 hi y => ?_⟩
  · have := w.stops H2 trivial
    simpa using this
  · obtain ⟨rfl, c, e1, rfl⟩ := w.yields i H2 x H3 (by simpa using hi) trivial y
    exact ⟨Same.refl _, .d (.text ⟨#[c]⟩), by simp [e1], (Rp.str _ : Rp K _ _ _)⟩
end

/-! ### targets -/
def CmG (K : Fg) (g : TG) (r : Sl) (w : W) (r' : Sl) (is : List Nat) : Prop := ∀ x σ H Q, EnvOk K r σ H → Rw K H x w →
  (∀ σ', EnvOk K r' σ' H → (∀ vs : List Nat, (∀ i, i ∈ is → i ∈ vs) → wipe σ' vs = wipe σ vs) → Q σ' H) → g x σ H Q
theorem wipe_set {σ : St} {i : Nat} {o : Option V} : ∀ {vs : List Nat}, i ∈ vs → wipe (σ.set i o) vs = wipe σ vs
  | [], h => by cases h
  | v :: vs, h => by
    show (wipe (σ.set i o) vs).set v none = (wipe σ vs).set v none
    by_cases e : i ∈ vs
    · rw [wipe_set e]
    · have e2 : i = v := by
        rcases List.mem_cons.mp h with q | q
        · exact q
        · exact absurd q e
      subst e2
      have e3 : ∀ us : List Nat, wipe (σ.set i o) us = (wipe σ us).set i (if i ∈ us then none else o) := by
        intro us
        induction us with
        | nil => simp [wipe]
        | cons u us ih =>
          show (wipe (σ.set i o) us).set u none = ((wipe σ us).set u none).set i _
          rw [ih]
          by_cases q : i = u
          · subst q
            simp
          · rw [List.set_comm _ _ q]
            congr 1
            simp [q]
      rw [e3 vs, List.set_set]
theorem wipe_wipe (σ : St) (vs : List Nat) : wipe (wipe σ vs) vs = wipe σ vs := by
  have idem : ∀ us : List Nat, (∀ i, i ∈ us → i ∈ vs) → wipe (wipe σ vs) us = wipe σ vs := by
    intro us
    induction us with
    | nil => intro _; rfl
    | cons u us ih =>
      intro hu
      show (wipe (wipe σ vs) us).set u none = wipe σ vs
      rw [ih fun i hi => hu i (List.mem_cons_of_mem _ hi)]
      have hm := hu u List.mem_cons_self
      have hn : ∀ x, (wipe σ vs)[u]? ≠ some (some x) := fun x q => (wipe_some q).2 hm
      apply List.ext_getElem?
      intro j
      by_cases z : u = j
      · subst z
        by_cases hlt : u < (wipe σ vs).length
        · rw [List.getElem?_set_self hlt, List.getElem?_eq_getElem hlt]
          congr 1
          cases e3 : (wipe σ vs)[u] with
          | none => rfl
          | some x => exact absurd (by rw [List.getElem?_eq_getElem hlt, e3]) (hn x)
        · rw [List.getElem?_eq_none (by rw [List.length_set]; omega), List.getElem?_eq_none (by omega)]
      · rw [List.getElem?_set_ne z]
  exact idem vs fun _ h => h
section
variable {K : Fg} {r r1 r2 : Sl} {w : W}
theorem cg_name {i : Nat} : CmG K (gName i) r w (r.set i (some w)) [i] := fun x σ H Q e rx q => q _ (e.set rx) fun vs h => wipe_set (h i (by simp))
def CmGs (K : Fg) (g : TGs) (r : Sl) (ws : List W) (r' : Sl) (is : List Nat) : Prop := ∀ xs σ H Q, EnvOk K r σ H → RwA K H xs ws →
  (∀ σ', EnvOk K r' σ' H → (∀ vs : List Nat, (∀ i, i ∈ is → i ∈ vs) → wipe σ' vs = wipe σ vs) → Q σ' H) → g xs σ H Q
theorem cgs_nil : CmGs K gNil r [] r [] := fun xs σ H Q e rx q => by
  cases rx
  exact ⟨rfl, q σ e fun _ _ => rfl⟩
theorem cgs_cons {g : TG} {gs : TGs} {ws : List W} {is js : List Nat} (h : CmG K g r w r1 is) (hs : CmGs K gs r1 ws r2 js) : CmGs K (gCons g gs) r (w :: ws) r2 (is ++ js) := fun xs σ H Q e rx q => by
  cases rx with
  | cons a b =>
    refine ⟨_, _, rfl, h _ σ H _ e a fun σ1 e1 w1 => hs _ σ1 H _ e1 b fun σ2 e2 w2 => q σ2 e2 fun vs hv => ?_⟩
    rw [w2 vs fun i hi => hv i (List.mem_append_right _ hi), w1 vs fun i hi => hv i (List.mem_append_left _ hi)]
theorem cg_tup {gs : TGs} {ds : List D} {n : Nat} {is : List Nat} (h : CmGs K gs r (ds.map W.d) r1 is) (hn : ds.length = n) : CmG K (gTup K n gs) r (.d (.tup ds)) r1 is := fun x σ H Q e rx q => by
  obtain ⟨a, xs, rfl, ea, ra⟩ := Rp.tup_inv rx
  exact ⟨a, xs, rfl, ea.sq, by rw [ra.length, hn], h xs σ H Q e (RwA.to_d ra) q⟩
theorem cg_tupE {gs : TGs} {a : D} {ds : List D} {n : Nat} {is : List Nat} (e : a = .tup ds) (h : CmGs K gs r (ds.map W.d) r1 is) (hn : ds.length = n) : CmG K (gTup K n gs) r (.d a) r1 is := by
  subst e
  exact cg_tup h hn
theorem cg_dl {gs : TGs} {k : D} {ks : List D} {is : List Nat} (h : CmGs K gs r [.d k, .l ks] r1 is) : CmG K (gTup K 2 gs) r (.dl k ks) r1 is := fun x σ H Q e rx q => by
  obtain ⟨a, y, l, xs, rfl, h1, h2, h3, h4⟩ := rx
  exact ⟨a, _, rfl, .of h1, rfl, h _ σ H Q e (.cons h2 (.cons ⟨l, xs, rfl, h3, h4⟩ .nil)) q⟩
end

/-! ### comprehensions -/
/-- a datum or a truth value: it stays while lists change -/
def FlatW : W → Prop
  | .d _ => True
  | .b _ => True
  | _ => False
theorem Rw.keepF {K : Fg} {H H' : Hp} (k : Keep H H') {x : V} {w : W} (f : FlatW w) (h : Rw K H x w) : Rw K H' x w := by
  cases w with
  | d d => exact Rp.keep k d x h
  | b c => exact h
  | l _ => exact f.elim
  | lb _ => exact f.elim
  | v _ => exact f.elim
  | dl _ _ => exact f.elim
  | ll _ _ => exact f.elim
  | p _ => exact f.elim
theorem RwA.keepF {K : Fg} {H H' : Hp} (k : Keep H H') {xs : List V} {ws : List W} (f : ∀ w ∈ ws, FlatW w) (h : RwA K H xs ws) : RwA K H' xs ws := by
  induction h with
  | nil => exact .nil
  | cons a b ih => exact .cons (a.keepF k (f _ List.mem_cons_self)) (ih fun w hw => f w (List.mem_cons_of_mem _ hw))
theorem RwA.length {K : Fg} {H : Hp} {xs : List V} {ws : List W} (h : RwA K H xs ws) : xs.length = ws.length := Paired.length h
section
variable {K : Fg} {r : Sl}
/-- one turn's item: None where the test leaves it out -/
theorem filterMap_take {α β : Type} (f : α → Option β) {ws : List α} {i : Nat} {w : α} (h : ws[i]? = some w) : (ws.take (i + 1)).filterMap f = (ws.take i).filterMap f ++ (f w).toList := by
  rw [List.take_succ, h]
  rw [List.filterMap_append]
  cases h2 : f w <;> simp [h2]
theorem cm_lcW {wi : TI} {g : TG} {tt : TT} {te : TE} {vs : List Nat} {ws : List W} (f : W → Option W) (hi : CmI K wi r ws) (hl : ws.length ≤ 1000000)
    (hs : ∀ w ∈ ws, ∃ r' is, (∀ i, i ∈ is → i ∈ vs) ∧ CmG K g (wipeW r vs) w r' is ∧ ∃ c, CmT K tt r' c ∧ (c = true → ∃ u, FlatW u ∧ f w = some u ∧ Cm K te r' u) ∧ (c = false → f w = none)) :
    ∀ σ H (Q : VK), EnvOk K r σ H → (∀ D H' xs, Same H H' → H D = none → H' D = some (.lst xs) → RwA K H' xs (ws.filterMap f) → Q (.ref D) H') → tLc wi g tt te vs σ H Q := fun σ H Q e q =>
  hi σ H _ e fun J H1 s1 it => fun D hD => by
    have sz : (1000000 : Nat) < sizeLine := by decide
    have flatF : ∀ n, ∀ u ∈ (ws.take n).filterMap f, FlatW u := fun n u hu => by
      obtain ⟨w, hw, e1⟩ := List.mem_filterMap.mp hu
      obtain ⟨r', is, _, _, c, _, h1, h2⟩ := hs w (List.mem_of_mem_take hw)
      cases c with
      | true =>
        obtain ⟨u', hf, e2, _⟩ := h1 rfl
        rw [e1] at e2
        cases e2
        exact hf
      | false =>
        rw [h2 rfl] at e1
        cases e1
    refine lc_it (n := ws.length) (G := fun H => Same H1 H) (Y := fun i H x H2 => Same H H2 ∧ ∃ w, ws[i]? = some w ∧ Rw K H2 x w)
      ⟨fun i H hi g => (it H g).1 i hi, fun H g => (it H g).2.1, fun i H x H' hi g y => (it H g).2.2 i x H' hi y⟩
      (fun i H => Same H1 H ∧ ∃ xs, H D = some (.lst xs) ∧ RwA K H xs ((ws.take i).filterMap f)) ⟨Same.new hD, [], upd_same, by simp; exact .nil⟩ (fun i H _ p => p.1) (fun i x H2 H3 hi' p y => ?_) (fun H p => ?_)
    · obtain ⟨s2, xs, hx, rx⟩ := p
      obtain ⟨s3, w, hw, rw'⟩ := y
      obtain ⟨r', is, his, hg, c, hc, h1, h2⟩ := hs w (List.mem_of_getElem? hw)
      refine hg x (wipe σ vs) H3 _ ((e.same (s1.trans (s2.trans s3))).wipe vs) rw' fun σ' e' wp => ⟨?_, ?_⟩
      · rw [wp vs his]
        exact wipe_wipe σ vs
      · refine hc σ' H3 _ e' fun H4 s4 => ?_
        have s24 := s3.trans s4
        have hxs : xs.length ≤ ws.length := by
          have := rx.length
          rw [this]
          exact Nat.le_trans (List.length_filterMap_le _ _) (by rw [List.length_take]; omega)
        cases c with
        | true =>
          obtain ⟨u, hu, hf, he⟩ := h1 rfl
          refine iteT (he σ' H4 _ (e'.same s4) fun v H5 s5 r5 => ?_)
          have s25 := s24.trans s5
          have hD5 : H5 D = some (.lst xs) := s25 _ _ hx
          have k5 : Keep H5 (upd H5 D (.lst (xs ++ [v]))) := Keep.put fun ys q => by rw [hD5] at q; cases q
          refine ⟨xs, hD5, by omega, fun a o ha => ?_, xs ++ [v], upd_same, ?_⟩
          · rw [upd_ne (ne_of_none ha hD)]
            exact s25 _ _ (s2 _ _ ha)
          · rw [filterMap_take f hw, hf]
            exact RwA.app ((rx.same s25).keepF k5 (flatF _)) (.cons (r5.keepF k5 hu) .nil)
        | false =>
          refine iteF ⟨s2.trans s24, xs, s24 _ _ hx, ?_⟩
          rw [filterMap_take f hw, h2 rfl]
          simp only [Option.toList, List.append_nil]
          exact rx.same s24
    · obtain ⟨s2, xs, hx, rx⟩ := p
      rw [List.take_length] at rx
      exact q D H xs (s1.trans s2) (s1.free hD) hx rx
/-- [e for x in .. if t], the items data -/
theorem cm_lc {wi : TI} {g : TG} {tt : TT} {te : TE} {vs : List Nat} {ws : List W} (f : W → Option D) (hi : CmI K wi r ws) (hl : ws.length ≤ 1000000)
    (hs : ∀ w ∈ ws, ∃ r' is, (∀ i, i ∈ is → i ∈ vs) ∧ CmG K g (wipeW r vs) w r' is ∧ ∃ c, CmT K tt r' c ∧ (c = true → ∃ u, f w = some u ∧ Cm K te r' (.d u)) ∧ (c = false → f w = none)) :
    Cm K (tLc wi g tt te vs) r (.l (ws.filterMap f)) := fun σ H Q e q => by
  refine cm_lcW (fun w => (f w).map W.d) hi hl (fun w hw => ?_) σ H Q e fun D H' xs s hD hx rx => q _ H' s ⟨D, xs, rfl, hx, ?_⟩
  · obtain ⟨r', is, h0, h1, c, h2, h3, h4⟩ := hs w hw
    refine ⟨r', is, h0, h1, c, h2, fun hc => ?_, fun hc => by rw [h4 hc]; rfl⟩
    obtain ⟨u, h5, h6⟩ := h3 hc
    exact ⟨.d u, trivial, by rw [h5]; rfl, h6⟩
  · have e2 : ws.filterMap (fun w => (f w).map W.d) = (ws.filterMap f).map W.d := by rw [List.map_filterMap]
    rw [e2] at rx
    exact RwA.of_d rx
/-- without a test -/
theorem cm_lcm {α : Type} {wi : TI} {g : TG} {te : TE} {vs : List Nat} {as : List α} (p : α → W) (f : α → D) (hi : CmI K wi r (as.map p)) (hl : as.length ≤ 1000000)
    (hs : ∀ a ∈ as, ∃ r' is, (∀ i, i ∈ is → i ∈ vs) ∧ CmG K g (wipeW r vs) (p a) r' is ∧ Cm K te r' (.d (f a))) :
    Cm K (tLc wi g tYes te vs) r (.l (as.map f)) := fun σ H Q e q => by
  have yes : ∀ r', CmT K tYes r' true := fun r' _ H _ _ q => q H (Same.refl H)
  -- by the items' places
  have key : ∀ w ∈ as.map p, ∃ u, (∃ a ∈ as, p a = w ∧ f a = u) ∧ ∃ r' is, (∀ i, i ∈ is → i ∈ vs) ∧ CmG K g (wipeW r vs) w r' is ∧ Cm K te r' (.d u) := fun w hw => by
    obtain ⟨a, ha, rfl⟩ := List.mem_map.mp hw
    exact ⟨f a, ⟨a, ha, rfl, rfl⟩, hs a ha⟩
  refine hi σ H _ e fun J H1 s1 it => fun D hD => ?_
  have sz : (1000000 : Nat) < sizeLine := by decide
  refine lc_it (n := as.length) (G := fun H => Same H1 H) (Y := fun i H x H2 => Same H H2 ∧ ∃ a, as[i]? = some a ∧ Rw K H2 x (p a))
    ⟨fun i H hi g => (it H g).1 i (by simpa using hi), fun H g => by have := (it H g).2.1; rwa [List.length_map] at this, fun i H x H' hi g y => by
      obtain ⟨h1, w, h2, h3⟩ := (it H g).2.2 i x H' (by simpa using hi) y
      refine ⟨h1, as[i], by simp [hi], ?_⟩
      simp [hi] at h2
      rw [h2]
      exact h3⟩
    (fun i H => Same H1 H ∧ ∃ xs, H D = some (.lst xs) ∧ RpA K H xs ((as.take i).map f)) ⟨Same.new hD, [], upd_same, by simp; exact .nil⟩ (fun i H _ p => p.1) (fun i x H2 H3 hi' p' y => ?_) (fun H p' => ?_)
  · obtain ⟨s2, xs, hx, rx⟩ := p'
    obtain ⟨s3, a, ha, rw'⟩ := y
    obtain ⟨r', is, his, hg, he⟩ := hs a (List.mem_of_getElem? ha)
    refine hg x (wipe σ vs) H3 _ ((e.same (s1.trans (s2.trans s3))).wipe vs) rw' fun σ' e' wp => ⟨?_, ?_⟩
    · rw [wp vs his]
      exact wipe_wipe σ vs
    · show te σ' H3 _
      refine he σ' H3 _ e' fun v H5 s5 r5 => ?_
      have s25 := s3.trans s5
      have hxs : xs.length ≤ as.length := by
        have := rx.length
        rw [this, List.length_map, List.length_take]
        omega
      have hD5 : H5 D = some (.lst xs) := s25 _ _ hx
      have k5 : Keep H5 (upd H5 D (.lst (xs ++ [v]))) := Keep.put fun ys q => by rw [hD5] at q; cases q
      refine ⟨xs, hD5, by omega, fun b o hb => ?_, xs ++ [v], upd_same, ?_⟩
      · rw [upd_ne (ne_of_none hb hD)]
        exact s25 _ _ (s2 _ _ hb)
      · rw [List.take_succ, ha, List.map_append]
        exact (RpA.keep (Keep.trans (Keep.of s25) k5) _ _ rx).append (.cons (Rp.keep k5 _ _ r5) .nil)
  · obtain ⟨s2, xs, hx, rx⟩ := p'
    rw [List.take_length] at rx
    exact q (.ref D) H (s1.trans s2) ⟨D, xs, rfl, hx, rx⟩
/-- with a test -/
theorem cm_lcf {α : Type} {wi : TI} {g : TG} {tt : TT} {te : TE} {vs : List Nat} {as : List α} (p : α → W) (b : α → Bool) (f : α → D) (hi : CmI K wi r (as.map p)) (hl : as.length ≤ 1000000)
    (hs : ∀ a ∈ as, ∃ r' is, (∀ i, i ∈ is → i ∈ vs) ∧ CmG K g (wipeW r vs) (p a) r' is ∧ CmT K tt r' (b a) ∧ (b a = true → Cm K te r' (.d (f a)))) :
    Cm K (tLc wi g tt te vs) r (.l ((as.filter b).map f)) := fun σ H Q e q => by
  refine hi σ H _ e fun J H1 s1 it => fun D hD => ?_
  have sz : (1000000 : Nat) < sizeLine := by decide
  refine lc_it (n := as.length) (G := fun H => Same H1 H) (Y := fun i H x H2 => Same H H2 ∧ ∃ a, as[i]? = some a ∧ Rw K H2 x (p a))
    ⟨fun i H hi g => (it H g).1 i (by simpa using hi), fun H g => by have := (it H g).2.1; rwa [List.length_map] at this, fun i H x H' hi g y => by
      obtain ⟨h1, w, h2, h3⟩ := (it H g).2.2 i x H' (by simpa using hi) y
      refine ⟨h1, as[i], by simp [hi], ?_⟩
      simp [hi] at h2
      rw [h2]
      exact h3⟩
    (fun i H => Same H1 H ∧ ∃ xs, H D = some (.lst xs) ∧ RpA K H xs (((as.take i).filter b).map f)) ⟨Same.new hD, [], upd_same, by simp; exact .nil⟩ (fun i H _ p => p.1) (fun i x H2 H3 hi' p' y => ?_) (fun H p' => ?_)
  · obtain ⟨s2, xs, hx, rx⟩ := p'
    obtain ⟨s3, a, ha, rw'⟩ := y
    obtain ⟨r', is, his, hg, ht, he⟩ := hs a (List.mem_of_getElem? ha)
    have tk : (as.take (i + 1)).filter b = (as.take i).filter b ++ [a].filter b := by rw [List.take_succ, ha, List.filter_append]; rfl
    refine hg x (wipe σ vs) H3 _ ((e.same (s1.trans (s2.trans s3))).wipe vs) rw' fun σ' e' wp => ⟨?_, ?_⟩
    · rw [wp vs his]
      exact wipe_wipe σ vs
    · refine ht σ' H3 _ e' fun H4 s4 => ?_
      have s24 := s3.trans s4
      cases hb : b a with
      | true =>
        refine iteT (he hb σ' H4 _ (e'.same s4) fun v H5 s5 r5 => ?_)
        have s25 := s24.trans s5
        have hxs : xs.length ≤ as.length := by
          have := rx.length
          rw [this, List.length_map]
          exact Nat.le_trans (List.length_filter_le _ _) (by rw [List.length_take]; omega)
        have hD5 : H5 D = some (.lst xs) := s25 _ _ hx
        have k5 : Keep H5 (upd H5 D (.lst (xs ++ [v]))) := Keep.put fun ys q => by rw [hD5] at q; cases q
        refine ⟨xs, hD5, by omega, fun b o hb => ?_, xs ++ [v], upd_same, ?_⟩
        · rw [upd_ne (ne_of_none hb hD)]
          exact s25 _ _ (s2 _ _ hb)
        · rw [tk, List.map_append]
          have e3 : [a].filter b = [a] := by simp [hb]
          rw [e3]
          exact (RpA.keep (Keep.trans (Keep.of s25) k5) _ _ rx).append (.cons (Rp.keep k5 _ _ r5) .nil)
      | false =>
        refine iteF ⟨s2.trans s24, xs, s24 _ _ hx, ?_⟩
        have e3 : [a].filter b = [] := by simp [hb]
        rw [tk, e3, List.append_nil]
        exact RpA.keep (Keep.of s24) _ _ rx
  · obtain ⟨s2, xs, hx, rx⟩ := p'
    rw [List.take_length] at rx
    exact q (.ref D) H (s1.trans s2) ⟨D, xs, rfl, hx, rx⟩
/-- the items truth values -/
theorem cm_lcb {α : Type} {wi : TI} {g : TG} {te : TE} {vs : List Nat} {as : List α} (p : α → W) (f : α → Bool) (hi : CmI K wi r (as.map p)) (hl : as.length ≤ 1000000)
    (hs : ∀ a ∈ as, ∃ r' is, (∀ i, i ∈ is → i ∈ vs) ∧ CmG K g (wipeW r vs) (p a) r' is ∧ Cm K te r' (.b (f a))) :
    Cm K (tLc wi g tYes te vs) r (.lb (as.map f)) := fun σ H Q e q => by
  refine hi σ H _ e fun J H1 s1 it => fun D hD => ?_
  have sz : (1000000 : Nat) < sizeLine := by decide
  refine lc_it (n := as.length) (G := fun H => Same H1 H) (Y := fun i H x H2 => Same H H2 ∧ ∃ a, as[i]? = some a ∧ Rw K H2 x (p a))
    ⟨fun i H hi g => (it H g).1 i (by simpa using hi), fun H g => by have := (it H g).2.1; rwa [List.length_map] at this, fun i H x H' hi g y => by
      obtain ⟨h1, w, h2, h3⟩ := (it H g).2.2 i x H' (by simpa using hi) y
      refine ⟨h1, as[i], by simp [hi], ?_⟩
      simp [hi] at h2
      rw [h2]
      exact h3⟩
    (fun i H => Same H1 H ∧ H D = some (.lst (((as.take i).map f).map V.bl))) ⟨Same.new hD, upd_same⟩ (fun i H _ p => p.1) (fun i x H2 H3 hi' p' y => ?_) (fun H p' => ?_)
  · obtain ⟨s2, hx⟩ := p'
    obtain ⟨s3, a, ha, rw'⟩ := y
    obtain ⟨r', is, his, hg, he⟩ := hs a (List.mem_of_getElem? ha)
    refine hg x (wipe σ vs) H3 _ ((e.same (s1.trans (s2.trans s3))).wipe vs) rw' fun σ' e' wp => ⟨?_, ?_⟩
    · rw [wp vs his]
      exact wipe_wipe σ vs
    · show te σ' H3 _
      refine he σ' H3 _ e' fun v H5 s5 r5 => ?_
      have s25 := s3.trans s5
      have r5' : v = .bl (f a) := r5
      subst r5'
      have hD5 := s25 _ _ hx
      refine ⟨_, hD5, by rw [List.length_map, List.length_map, List.length_take]; omega, fun b o hb => ?_, ?_⟩
      · rw [upd_ne (ne_of_none hb hD)]
        exact s25 _ _ (s2 _ _ hb)
      · rw [upd_same, List.take_succ, ha, List.map_append, List.map_append]
        rfl
  · obtain ⟨s2, hx⟩ := p'
    rw [List.take_length] at hx
    exact q (.ref D) H (s1.trans s2) ⟨D, rfl, hx⟩
end

/-! ### statements -/
inductive Out where
  | nx (r : Sl) | rt (w : W) | bk (r : Sl) | ct (r : Sl)
def Po (K : Fg) (o : Out) (D : Ends) (H : Hp) : Prop := match o with
  | .nx r => ∀ σ' H', Same H H' → EnvOk K r σ' H' → D.nx σ' H'
  | .rt w => ∀ x H', Same H H' → Rw K H' x w → D.rt x H'
  | .bk r => ∀ σ' H', Same H H' → EnvOk K r σ' H' → D.bk σ' H'
  | .ct r => ∀ σ' H', Same H H' → EnvOk K r σ' H' → D.ct σ' H'
theorem Po.same {K : Fg} {D : Ends} {H H' : Hp} (s : Same H H') : ∀ {o : Out}, Po K o D H → Po K o D H'
  | .nx _, h => fun σ' H2 s2 e => h σ' H2 (s.trans s2) e
  | .rt _, h => fun x H2 s2 e => h x H2 (s.trans s2) e
  | .bk _, h => fun σ' H2 s2 e => h σ' H2 (s.trans s2) e
  | .ct _, h => fun σ' H2 s2 e => h σ' H2 (s.trans s2) e
def Bs (K : Fg) (t : TS) (r : Sl) (o : Out) : Prop := ∀ D σ H, EnvOk K r σ H → Po K o D H → t D σ H
def Out.isNx : Out → Bool
  | .nx _ => true
  | _ => false
section
variable {K : Fg} {r r1 r2 : Sl} {t u : TS} {o : Out} {te : TE} {g : TG} {w : W} {c : Bool} {tt : TT}
theorem bs_seq (h : Bs K t r (.nx r1)) (h2 : Bs K u r1 o) : Bs K (tSeq t u) r o := fun D σ H e p => h _ σ H e fun σ' H' s e' => h2 D σ' H' e' (p.same s)
theorem bs_seqE (ho : o.isNx = false) (h : Bs K t r o) : Bs K (tSeq t u) r o := fun D σ H e p => h _ σ H e (by
  cases o with
  | nx _ => cases ho
  | rt _ => exact p
  | bk _ => exact p
  | ct _ => exact p)
theorem bs_seqR (h : Bs K t r (.rt w)) : Bs K (tSeq t u) r (.rt w) := bs_seqE rfl h
theorem cm_orVT {ta tb : TE} {c1 : Bool} (h1 : Cm K ta r (.b c1)) (hc : c1 = true) : Cm K (tOrV ta tb) r (.b true) := fun σ H Q e q => h1 σ H _ e fun x H1 s1 r1 => ⟨c1, r1, by
  subst hc
  exact iteT (q _ H1 s1 rfl)⟩
theorem cm_andVF {ta tb : TE} {c1 : Bool} (h1 : Cm K ta r (.b c1)) (hc : c1 = false) : Cm K (tAndV ta tb) r (.b false) := fun σ H Q e q => h1 σ H _ e fun x H1 s1 r1 => ⟨c1, r1, by
  subst hc
  exact iteF (q _ H1 s1 rfl)⟩
theorem ct_orT {t1 t2 : TT} {c1 : Bool} (h1 : CmT K t1 r c1) (hc : c1 = true) : CmT K (tOr t1 t2) r true := fun σ H Q e q => h1 σ H _ e fun H1 s1 => by
  subst hc
  exact iteT (q H1 s1)
theorem ct_andF {t1 t2 : TT} {c1 : Bool} (h1 : CmT K t1 r c1) (hc : c1 = false) : CmT K (tAnd t1 t2) r false := fun σ H Q e q => h1 σ H _ e fun H1 s1 => by
  subst hc
  exact iteF (q H1 s1)
theorem cm_ifT {t1 : TT} {ta tb : TE} {c1 : Bool} (h1 : CmT K t1 r c1) (hc : c1 = true) (h : Cm K ta r w) : Cm K (tIf t1 ta tb) r w := fun σ H Q e q => h1 σ H _ e fun H1 s1 => by
  subst hc
  exact iteT (h σ H1 Q (e.same s1) fun y H2 s2 r2 => q y H2 (s1.trans s2) r2)
theorem cm_ifF {t1 : TT} {ta tb : TE} {c1 : Bool} (h1 : CmT K t1 r c1) (hc : c1 = false) (h : Cm K tb r w) : Cm K (tIf t1 ta tb) r w := fun σ H Q e q => h1 σ H _ e fun H1 s1 => by
  subst hc
  exact iteF (h σ H1 Q (e.same s1) fun y H2 s2 r2 => q y H2 (s1.trans s2) r2)
theorem cm_is {w' : W} (h : Cm K te r w') (e : w' = w) : Cm K te r w := by
  rw [← e]
  exact h
theorem bs_next : Bs K tNext r (.nx r) := fun D σ H e p => p σ H (Same.refl H) e
theorem bs_asg {is : List Nat} (h : Cm K te r w) (hg : CmG K g r w r1 is) : Bs K (tAsg te g) r (.nx r1) := fun D σ H e p =>
  h σ H _ e fun x H1 s1 rx => hg x σ H1 _ (e.same s1) rx fun σ' e' _ => p σ' H1 s1 e'
theorem bs_set {i : Nat} (h : Cm K te r w) : Bs K (tAsg te (gName i)) r (.nx (r.set i (some w))) := bs_asg h cg_name
theorem bs_ret (h : Cm K te r w) : Bs K (tRet te) r (.rt w) := fun D σ H e p => h σ H _ e fun x H1 s1 rx => p x H1 s1 rx
theorem bs_retN : Bs K tRetN r (.rt (.d .none)) := fun D σ H e p => p _ H (Same.refl H) .non
theorem bs_drop (h : Cm K te r w) : Bs K (tDrop te) r (.nx r) := fun D σ H e p => h σ H _ e fun x H1 s1 rx => p σ H1 s1 (e.same s1)
theorem bs_if (h : CmT K tt r c) (h1 : c = true → Bs K t r o) (h2 : c = false → Bs K u r o) : Bs K (tIfS tt t u) r o := fun D σ H e p => h σ H _ e fun H1 s1 => by
  cases c with
  | true => exact iteT (h1 rfl D σ H1 (e.same s1) (p.same s1))
  | false => exact iteF (h2 rfl D σ H1 (e.same s1) (p.same s1))
theorem bs_ifT (h : CmT K tt r c) (hc : c = true) (h1 : Bs K t r o) : Bs K (tIfS tt t u) r o := bs_if h (fun _ => h1) fun e => by rw [hc] at e; cases e
theorem bs_ifF (h : CmT K tt r c) (hc : c = false) (h1 : Bs K u r o) : Bs K (tIfS tt t u) r o := bs_if h (fun e => by rw [hc] at e; cases e) fun _ => h1
theorem bs_setS {i : Nat} (h : Cm K te r w) (h2 : Bs K u (r.set i (some w)) o) : Bs K (tSeq (tAsg te (gName i)) u) r o := bs_seq (bs_set h) h2
theorem bs_asgS {is : List Nat} (h : Cm K te r w) (hg : CmG K g r w r1 is) (h2 : Bs K u r1 o) : Bs K (tSeq (tAsg te g) u) r o := bs_seq (bs_asg h hg) h2
theorem bs_dropS (h : Cm K te r w) (h2 : Bs K u r o) : Bs K (tSeq (tDrop te) u) r o := bs_seq (bs_drop h) h2
/-- if c: return ..; the rest -/
theorem bs_ifr (h : CmT K tt r c) (h1 : c = true → Bs K t r (.rt w)) (h2 : c = false → Bs K u r (.rt w)) : Bs K (tSeq (tIfS tt t tNext) u) r (.rt w) := by
  cases c with
  | true => exact bs_seqR (bs_ifT h rfl (h1 rfl))
  | false => exact bs_seq (bs_ifF h rfl bs_next) (h2 rfl)
/-- if c: raise ..; the rest, c false -/
theorem bs_skip (h : CmT K tt r c) (hc : c = false) (h2 : Bs K u r o) : Bs K (tSeq (tIfS tt t tNext) u) r o := bs_seq (bs_ifF h hc bs_next) h2
theorem bs_par {i j : Nat} {ta : TA} {a b : W} (h : CmA K ta r [a, b]) : Bs K (tPar i j ta) r (.nx ((r.set i (some a)).set j (some b))) := fun D σ H e p =>
  h σ H _ e fun xs H1 s1 rx => by
    obtain ⟨x, y, rfl, r1, r2⟩ := two_inv rx
    exact ⟨x, y, rfl, p _ H1 s1 (((e.same s1).set r1).set r2)⟩
theorem bs_less (l : Less r2 r1) (h : Bs K t r (.nx r1)) : Bs K t r (.nx r2) := fun D σ H e p => h D σ H e fun σ' H' s e' => p σ' H' s (e'.less l)
theorem bs_lessT (h : Bs K t r (.nx r1)) (l : Less r2 r1) : Bs K t r (.nx r2) := bs_less l h
theorem walk_of_it {J : It} {H : Hp} {ws : List W} (it : ItOk K J H ws) : Walk J ws.length (fun H1 => Same H H1) (fun i H1 x H2 => Same H1 H2 ∧ ∃ w, ws[i]? = some w ∧ Rw K H2 x w) :=
  ⟨fun i H1 hi g => (it H1 g).1 i hi, fun H1 g => (it H1 g).2.1, fun i H1 x H2 hi g y => (it H1 g).2.2 i x H2 hi y⟩
theorem bs_for {wi : TI} {tb : TS} {ws : List W} (R : Nat → Sl) (hi : CmI K wi (R 0) ws) (hs : ∀ i w, ws[i]? = some w → ∃ r1 is, CmG K g (R i) w r1 is ∧ (Bs K tb r1 (.nx (R (i + 1))) ∨ Bs K tb r1 (.ct (R (i + 1))))) :
    Bs K (tFor wi g tb) (R 0) (.nx (R ws.length)) := fun D σ H e p => hi σ H _ e fun J H1 s1 it =>
  for_it (walk_of_it it) (fun i σ H => Same H1 H ∧ EnvOk K (R i) σ H) ⟨Same.refl _, e.same s1⟩ (fun i σ H _ q => q.1) (fun i x σ2 H2 H3 hi q y => by
    obtain ⟨s2, e2⟩ := q
    obtain ⟨s3, w, hw, rw'⟩ := y
    obtain ⟨r1, is, hg, hb⟩ := hs i w hw
    refine hg x σ2 H3 _ (e2.same s3) rw' fun σ' e' _ => ?_
    rcases hb with hb | hb
    · exact hb _ σ' H3 e' fun σ4 H4 s4 e4 => ⟨(s2.trans s3).trans s4, e4⟩
    · exact hb _ σ' H3 e' fun σ4 H4 s4 e4 => ⟨(s2.trans s3).trans s4, e4⟩) fun σ2 H2 q => p σ2 H2 (s1.trans q.1) q.2
theorem bs_forR {wi : TI} {tb : TS} {ws : List W} (R : Nat → Sl) (j : Nat) (hj : j < ws.length) (hi : CmI K wi (R 0) ws) (hs : ∀ i w, i < j → ws[i]? = some w → ∃ r1 is, CmG K g (R i) w r1 is ∧ Bs K tb r1 (.nx (R (i + 1))))
    (ht : ∀ w', ws[j]? = some w' → ∃ r1 is, CmG K g (R j) w' r1 is ∧ Bs K tb r1 (.rt w)) : Bs K (tFor wi g tb) (R 0) (.rt w) := fun D σ H e p => hi σ H _ e fun J H1 s1 it =>
  for_it (walk_of_it it) (fun i σ H => i ≤ j ∧ Same H1 H ∧ EnvOk K (R i) σ H) ⟨Nat.zero_le _, Same.refl _, e.same s1⟩ (fun i σ H _ q => q.2.1) (fun i x σ2 H2 H3 hi q y => by
    obtain ⟨hij, s2, e2⟩ := q
    obtain ⟨s3, w', hw, rw'⟩ := y
    by_cases hlt : i < j
    · obtain ⟨r1, is, hg, hb⟩ := hs i w' hlt hw
      exact hg x σ2 H3 _ (e2.same s3) rw' fun σ' e' _ => hb _ σ' H3 e' fun σ4 H4 s4 e4 => ⟨hlt, (s2.trans s3).trans s4, e4⟩
    · have hj' : i = j := by omega
      subst hj'
      obtain ⟨r1, is, hg, hb⟩ := ht w' hw
      exact hg x σ2 H3 _ (e2.same s3) rw' fun σ' e' _ => hb _ σ' H3 e' fun x4 H4 s4 e4 => p x4 H4 (((s1.trans s2).trans s3).trans s4) e4) fun σ2 H2 q => by
    have := q.1
    omega
end

/-! ### defs -/
/-- a def that turns data into a datum: R says which -/
def spF (K : Fg) (R : List W → W → Prop) : Sp := fun vs H Q _ => ∃ ws w, RwA K H vs ws ∧ R ws w ∧ ∀ x H', Same H H' → Rw K H' x w → Q x H'
theorem cm_call {K : Fg} {R : List W → W → Prop} {ta : TA} {r : Sl} {ws : List W} {w : W} {E : XK} (h : CmA K ta r ws) (hr : R ws w) : Cm K (tCall (spF K R) [] E ta) r w := fun σ H Q e q =>
  h σ H _ e fun xs H1 s1 rx => ⟨ws, w, by rw [List.append_nil]; exact rx, hr, fun x H2 s2 r2 => q x H2 (s1.trans s2) r2⟩
def startW (N : List Str) (ws : List W) : Sl := ws.map some ++ List.replicate (N.length - ws.length) none
theorem env_start {K : Fg} {N : List Str} {vs : List V} {ws : List W} {H : Hp} (h : RwA K H vs ws) : EnvOk K (startW N ws) (start N vs) H := by
  have hl := h.length
  refine ⟨by simp [startW, L2.start, hl], fun i w e => ?_⟩
  unfold startW at e
  unfold L2.start
  by_cases hi : i < ws.length
  · rw [List.getElem?_append_left (by simpa using hi), List.getElem?_map] at e
    rw [List.getElem?_append_left (by simp; omega), List.getElem?_map]
    have e1 : ws[i]? = some w := by
      rw [List.getElem?_eq_getElem hi] at e ⊢
      simpa using e
    have get : ∀ {vs : List V} {ws : List W} {i : Nat}, RwA K H vs ws → ws[i]? = some w → ∃ x, vs[i]? = some x ∧ Rw K H x w := by
      intro vs ws i h
      induction h generalizing i with
      | nil => intro q; simp at q
      | cons a b ih =>
        intro q
        cases i with
        | zero =>
          simp at q
          subst q
          exact ⟨_, rfl, a⟩
        | succ i =>
          obtain ⟨x, h1, h2⟩ := ih (i := i) (by simpa using q)
          exact ⟨x, by simpa using h1, h2⟩
    obtain ⟨x, h1, h2⟩ := get h e1
    exact ⟨x, by rw [h1]; rfl, h2⟩
  · rw [List.getElem?_append_right (by simp; omega), List.getElem?_replicate] at e
    split at e <;> cases e
/-- what a body gives: by return, or None at its end -/
def Ret (K : Fg) (t : TS) (r : Sl) (w : W) : Prop := Bs K t r (.rt w) ∨ (w = .d .none ∧ ∃ r', Bs K t r (.nx r'))
section
variable {P : Program} {w : World} {K : Fg} {mg : Str → Option Value} {base : Heap} {x qual : Str} {st : Stmt} {f : Addr} {fd : FuncData} {N ps : List Str} {k : Nat}
theorem okF {R : List W → W → Prop} (F : Fun K x qual st f fd) (S : FnScope N ps (defScope st)) (hl : ∀ ws u, R ws u → ws.length = ps.length)
    (hb : ∀ (cdv : Value) (A : Around) (outer : List Env) (s : Shared) (H : Hp) (E : XK) (ws : List W) (u : W), Room k (A.deeper (envOfC qual (defScope st) s.heap.objs.size f cdv)) → R ws u →
      ∃ t, PSs (cxOf CX0 P w K mg base N qual (defScope st) f cdv A outer s H E).nox (defBody st) t ∧ Ret K t (startW N ws) u) : FnOk P w K mg base CX0 (k + 1) f fd ps (spF K R) := by
  refine F.ok S (fun vs H Q E h => ?_) (fun cdv A outer s H vs Q E hr h => ?_)
  · obtain ⟨ws, u, h1, h2, _⟩ := h
    rw [h1.length]
    exact hl ws u h2
  · obtain ⟨ws, u, h1, h2, q⟩ := h
    obtain ⟨t, h3, h4⟩ := hb cdv A outer s H E ws u hr h2
    refine ⟨t, h3, ?_⟩
    rcases h4 with h4 | ⟨e, r', h4⟩
    · exact h4 _ _ H (env_start h1) fun y H' s' ry => q y H' s' ry
    · subst e
      exact h4 _ _ H (env_start h1) fun σ' H' s' _ => q _ H' s' .non
end
end NW
/-! The text by places; what the top has left; the data of languages, signs, standings. -/
namespace NW
open PySem PySem.Spec PyProof.Rows L2 StX

def top (i : Nat) : Stmt := PySem.Challenge.pw_notewire_k97_whole_way_of_readers.main.body.getD i (.Pass ⟨0, 0, 0, 0⟩)
theorem u64 {k : Nat} {A : Around} (h : Room k A) : A.units + 64 < cLine := h.units
theorem u65 {k : Nat} {A : Around} (h : Room k A) : A.units + 65 < cLine := by have := h.un; omega
theorem bo_isinstance : bootBuiltins "isinstance" = some (.builtin "isinstance") := by decide +kernel
theorem bo_len : bootBuiltins "len" = some (.builtin "len") := by decide +kernel
theorem bo_all : bootBuiltins "all" = some (.builtin "all") := by decide +kernel
theorem bo_any : bootBuiltins "any" = some (.builtin "any") := by decide +kernel
theorem bo_sum : bootBuiltins "sum" = some (.builtin "sum") := by decide +kernel
theorem bo_min : bootBuiltins "min" = some (.builtin "min") := by decide +kernel
theorem bo_sorted : bootBuiltins "sorted" = some (.builtin "sorted") := by decide +kernel
theorem bo_repr : bootBuiltins "repr" = some (.builtin "repr") := by decide +kernel
theorem bo_int : bootBuiltins "int" = some (.type "int") := by decide +kernel
theorem bo_bool : bootBuiltins "bool" = some (.type "bool") := by decide +kernel
theorem bo_tuple : bootBuiltins "tuple" = some (.type "tuple") := by decide +kernel
theorem bo_str : bootBuiltins "str" = some (.type "str") := by decide +kernel
theorem bo_list : bootBuiltins "list" = some (.type "list") := by decide +kernel
theorem bo_dict : bootBuiltins "dict" = some (.type "dict") := by decide +kernel
theorem bo_set : bootBuiltins "set" = some (.type "set") := by decide +kernel

/-! the rules that name the written part, with it said -/
section
variable {X : Cx} (K : Fg)
theorem ixK (h : X.K = K) : IxR X (rIx K) := h ▸ ix_seq
theorem addK (h : X.K = K) : OpR X (binaryOp .Add) (rAddU K) := h ▸ op_addU
theorem eqK (h : X.K = K) {k : Nat} (hr : Room k X.A) : OpR X (compareOp .Eq) (rEqD K) := h ▸ op_eqD (u64 hr)
theorem neK (h : X.K = K) {k : Nat} (hr : Room k X.A) : OpR X (compareOp .NotEq) (rNeD K) := h ▸ op_neD (u64 hr)
theorem inK (h : X.K = K) {k : Nat} (hr : Room k X.A) : OpR X (compareOp .In) (rInU K) := h ▸ op_inU (u65 hr)
theorem notInK (h : X.K = K) {k : Nat} (hr : Room k X.A) : OpR X (compareOp .NotIn) (rNotInD K) := h ▸ op_notInD (u65 hr)
theorem lenK (h : X.K = K) : CallR X (.builtin "len") (rLen K) := h ▸ call_len
theorem isiK (h : X.K = K) : CallR X (.builtin "isinstance") (rIsi K) := h ▸ call_isi
theorem tupleK (h : X.K = K) : CallR X (.type "tuple") (rTupOf K) := h ▸ call_tuple_of
theorem listK (h : X.K = K) : CallR X (.type "list") (rListOf K) := h ▸ call_list_of
theorem allK (h : X.K = K) (hc : X.calm = true) : CallR X (.builtin "all") (rAll K) := h ▸ cr_all hc
theorem anyK (h : X.K = K) (hc : X.calm = true) : CallR X (.builtin "any") (rAny K) := h ▸ cr_any hc
theorem sumK (h : X.K = K) (hc : X.calm = true) : CallR X (.builtin "sum") (rSum K) := h ▸ cr_sum hc
theorem slTK (h : X.K = K) : SlR X (rSlA K) := h ▸ sl_tupA
theorem starK (h : X.K = K) {e : Expr} {es : List Expr} {te : TE} {t : TA} {p : Pos} (he : PE X e te) (hr : PA X es t) (hs : starEach (.Starred e p :: es) X.env = (true, eval e X.env) :: starEach es X.env := by rfl) : PA X (.Starred e p :: es) (tStar K te t) := h ▸ pa_star he hr hs
theorem piTK (h : X.K = K) {tg l : Expr} {tl : TE} (hl : PE X l tl) : PI X tg l (iTup K tl) := h ▸ pi_tup hl
theorem piLK (h : X.K = K) {tg l : Expr} {tl : TE} (hl : PE X l tl) : PI X tg l (iList K tl) := h ▸ pi_list hl
theorem pgTK (h : X.K = K) {es : List Expr} {k : Nat} {t : TGs} {p : Pos} {n : Nat} (hc : X.calm = true) (hg : PGs X es t) (hn : (assignEach es X.env).length = n := by rfl) (hs : (assignEach es X.env).findIdx? (·.1) = none := by rfl) :
    PG X (.Tuple es k p) (gTup K n t) := h ▸ pg_tup hc hg hn hs
theorem bmK (h : X.K = K) {e : Expr} {T : String} {rr : V → List V → Hp → VK → Prop} {to : TE} {t : TA} (p : PE X e (tBM X.K T rr to t)) : PE X e (tBM K T rr to t) := h ▸ p
theorem bm0K (h : X.K = K) {e : Expr} {T : String} {rr : V → List V → Hp → VK → Prop} {to : TE} (p : PE X e (tBM0 X.K T rr to)) : PE X e (tBM0 K T rr to) := h ▸ p
theorem joinK (h : X.K = K) {o e : Expr} {to te : TE} {apos pos : Pos} (ho : PE X o to) (he : PE X e te) (hs : starEach [e] X.env = [(false, eval e X.env)] := by rfl) (hb : attributeBase o "join" X.env (eval o X.env) = eval o X.env := by rfl)
    (hl : (apos.endLine == pos.line) = true := by rfl) : PE X (.Call (.Attribute o "join" apos) [e] [] pos) (tM1 (rJoin K) to te) := h ▸ pe_join ho he hs hb hl
end
def isStr (mg : Str → Option Value) (x z : Str) : Prop := ∃ u, mg x = some u ∧ RelV (.str z) u
def isInt (mg : Str → Option Value) (x : Str) (i : Int) : Prop := ∃ u, mg x = some u ∧ RelV (.int i) u
/-- what the top has left, but the defs -/
structure Txt (K : Fg) (mg : Str → Option Value) : Prop where
  b_isinstance : mg "isinstance" = none
  b_len : mg "len" = none
  b_all : mg "all" = none
  b_any : mg "any" = none
  b_sum : mg "sum" = none
  b_min : mg "min" = none
  b_sorted : mg "sorted" = none
  b_repr : mg "repr" = none
  b_int : mg "int" = none
  b_bool : mg "bool" = none
  b_tuple : mg "tuple" = none
  b_str : mg "str" = none
  b_list : mg "list" = none
  b_dict : mg "dict" = none
  b_set : mg "set" = none
  b_range : mg "range" = none
  b_enumerate : mg "enumerate" = none
  b_zip : mg "zip" = none
  g_ON : isStr mg "ON" "on"
  g_OFF : isStr mg "OFF" "off"
  g_QUIET : isStr mg "QUIET" "quiet"
  g_OTHER : isStr mg "OTHER" "other"
  g_HEAD : isStr mg "HEAD" "head"
  g_VALUE : isStr mg "VALUE" "value"
  g_MOMENT : isStr mg "MOMENT" "moment"
  g_MOST_HEADS : isInt mg "MOST_HEADS" 4
  g_MOST_LONG : isInt mg "MOST_LONG" 2
  g_MOST_NOTES : isInt mg "MOST_NOTES" 4
  g_MOST_MOMENTS : isInt mg "MOST_MOMENTS" 2
  g_MOST_SIGNS : isInt mg "MOST_SIGNS" 400
  g_MOST_HEARD_fits : isInt mg "MOST_HEARD_fits" 20
  g_MOST_SIZE : isInt mg "MOST_SIZE" 200
  g_LINE_END : isStr mg "LINE_END" "\n"
  g_BLANK : isStr mg "BLANK" " "
  g_DIGITS : isStr mg "DIGITS" "0123456789"
  g_MOST_FIGURES : isInt mg "MOST_FIGURES" 31
  g_MOST_HEARD_texts : isInt mg "MOST_HEARD_texts" 20

/-! ### a step of what readings come to -/
section
variable {K : Fg} {r : Sl}
theorem gb_len {ta : TE} {w : W} {u : W} (h : Cm K ta r w) (hk : CmC K (rLen K) [w] u) : Cm K (tCB (rLen K) (tCons ta tNil)) r u := cm_cb (ca_cons h ca_nil) hk
end
/-- texts that are decided -/
theorem d_text {a b : Str} : decide ((.text a : D) = .text b) = decide (a = b) := by
  by_cases h : a = b
  · subst h; simp
  · simp [h]
theorem d_num {a b : Int} : decide ((.num a : D) = .num b) = decide (a = b) := by
  by_cases h : a = b
  · subst h; simp
  · simp [h]
end NW
/-! Languages, signs, standings as plain data; what readers do. No program in sight. -/
namespace NM
inductive Role where
  | on | off | quiet | other
  deriving DecidableEq, Inhabited
structure Lang where
  heads : List (Role × Nat)
  notes : Nat
  moments : Nat
def Lang.long (L : Lang) (h : Nat) : Nat := (L.heads[h]?.map (·.2)).getD 0
def Lang.role (L : Lang) (h : Nat) : Role := (L.heads[h]?.map (·.1)).getD .other
structure Good (L : Lang) : Prop where
  h1 : 1 ≤ L.heads.length
  h4 : L.heads.length ≤ 4
  hd : ∀ p ∈ L.heads, p.2 ≤ 2 ∧ (p.1 = .on ∨ p.1 = .off → 1 ≤ p.2)
  n1 : 1 ≤ L.notes
  n4 : L.notes ≤ 4
  m2 : L.moments ≤ 2
inductive Sign where
  | head (n : Nat) | moment (n : Nat) | value (n : Nat)
  deriving DecidableEq
def Lang.ok (L : Lang) : Sign → Prop
  | .head n => n < L.heads.length
  | .moment n => n < L.moments
  | .value n => n < L.notes
abbrev Msg := Nat × List Nat
structure Std where
  hd : Option Nat
  got : List Nat
  on : List Nat
  deriving DecidableEq
def Std.first : Std := ⟨none, [], []⟩
def signs (L : Lang) : List Sign := (List.range L.heads.length).map .head ++ (List.range L.moments).map .moment ++ (List.range L.notes).map .value
theorem mem_signs {L : Lang} {s : Sign} : s ∈ signs L ↔ L.ok s := by
  unfold signs
  cases s <;> simp [Lang.ok]
theorem signs_length (L : Lang) : (signs L).length = L.heads.length + L.moments + L.notes := by simp [signs]; omega
def taken (L : Lang) (hd : Option Nat) (got : List Nat) : Sign → Option Nat × List Nat × Option Msg
  | .moment _ => (hd, got, none)
  | .head n => if L.long n = 0 then (none, [], some (n, [])) else (some n, [], none)
  | .value v => match hd with
    | none => (none, [], none)
    | some h => if got.length + 1 < L.long h then (some h, got ++ [v], none) else (some h, [], some (h, got ++ [v]))
/-- v put into an ascending list -/
def ins (v : Nat) (on : List Nat) : List Nat := on.filter (· < v) ++ v :: on.filter (v < ·)
def notesBehind (L : Lang) (on : List Nat) : Option Msg → List Nat
  | none => on
  | some (h, vs) => match L.role h with
    | .quiet => []
    | .on => ins (vs.headD 0) on
    | .off => on.filter (· ≠ vs.headD 0)
    | .other => on
def step (L : Lang) (s : Std) (x : Sign) : Std × Option Msg :=
  let t := taken L s.hd s.got x
  (⟨t.1, t.2.1, notesBehind L s.on t.2.2⟩, t.2.2)
def readSo (L : Lang) (s : Std) : List Sign → Std × List Msg
  | [] => (s, [])
  | x :: xs =>
    let t := step L s x
    let u := readSo L t.1 xs
    (u.1, t.2.toList ++ u.2)
/-! what stands is well-formed -/
structure Place (L : Lang) (hd : Option Nat) (got : List Nat) : Prop where
  no : hd = none → got = []
  hl : ∀ h, hd = some h → h < L.heads.length ∧ got.length < L.long h
  vs : ∀ v ∈ got, v < L.notes
structure GoodT (L : Lang) (s : Std) : Prop where
  pl : Place L s.hd s.got
  up : s.on.Pairwise (· < ·)
  on : ∀ v ∈ s.on, v < L.notes
structure GoodM (L : Lang) (m : Msg) : Prop where
  hl : m.1 < L.heads.length
  ln : m.2.length = L.long m.1
  vs : ∀ v ∈ m.2, v < L.notes
theorem good_first (L : Lang) : GoodT L .first := ⟨⟨fun _ => rfl, (fun _ h => by cases h), by simp [Std.first]⟩, by simp [Std.first], by simp [Std.first]⟩
theorem long_mem {L : Lang} {n : Nat} (h : n < L.heads.length) : L.long n = (L.heads[n]).2 := by simp [Lang.long, h]
theorem role_mem {L : Lang} {n : Nat} (h : n < L.heads.length) : L.role n = (L.heads[n]).1 := by simp [Lang.role, h]
theorem Good.long_le {L : Lang} (g : Good L) (n : Nat) : L.long n ≤ 2 := by
  by_cases h : n < L.heads.length
  · rw [long_mem h]
    exact (g.hd _ (List.getElem_mem h)).1
  · simp [Lang.long, List.getElem?_eq_none (by omega : L.heads.length ≤ n)]
theorem Good.long_on {L : Lang} (g : Good L) {n : Nat} (h : n < L.heads.length) (r : L.role n = .on ∨ L.role n = .off) : 1 ≤ L.long n := by
  rw [long_mem h]
  rw [role_mem h] at r
  exact (g.hd _ (List.getElem_mem h)).2 r
theorem place_taken {L : Lang} {hd : Option Nat} {got : List Nat} (p : Place L hd got) {x : Sign} (hx : L.ok x) :
    Place L (taken L hd got x).1 (taken L hd got x).2.1 ∧ ∀ m, (taken L hd got x).2.2 = some m → GoodM L m := by
  cases x with
  | moment n => exact ⟨p, fun m h => by cases h⟩
  | head n =>
    simp only [taken]
    split
    · rename_i h0
      refine ⟨⟨fun _ => rfl, (fun _ h => by cases h), by simp⟩, fun m h => ?_⟩
      cases h
      exact ⟨hx, by simp [h0], by simp⟩
    · rename_i h0
      refine ⟨⟨fun _ => rfl, (fun h e => ?_), by simp⟩, fun m h => by cases h⟩
      cases e
      exact ⟨hx, by simp; omega⟩
  | value v =>
    simp only [taken]
    cases hd with
    | none => exact ⟨⟨fun _ => rfl, (fun _ h => by cases h), by simp⟩, fun m h => by cases h⟩
    | some h =>
      have q := p.hl h rfl
      have vs : ∀ u ∈ got ++ [v], u < L.notes := fun u hu => by
        rcases List.mem_append.mp hu with hu | hu
        · exact p.vs u hu
        · simp at hu
          subst hu
          exact hx
      simp only
      split
      · rename_i h1
        exact ⟨⟨(fun e => by cases e), (fun h' e => by cases e; exact ⟨q.1, by simp; omega⟩), vs⟩, fun m e => by cases e⟩
      · rename_i h1
        refine ⟨⟨fun _ => rfl, (fun h' e => by cases e; exact ⟨q.1, by simp; omega⟩), by simp⟩, fun m e => ?_⟩
        cases e
        exact ⟨q.1, by simp; omega, vs⟩
theorem ins_up {v : Nat} {on : List Nat} (h : on.Pairwise (· < ·)) : (ins v on).Pairwise (· < ·) := by
  unfold ins
  rw [List.pairwise_append]
  refine ⟨h.filter _, ?_, ?_⟩
  · rw [List.pairwise_cons]
    exact ⟨fun a ha => by simpa using (List.mem_filter.mp ha).2, h.filter _⟩
  · intro a ha b hb
    have h1 : a < v := by simpa using (List.mem_filter.mp ha).2
    rcases List.mem_cons.mp hb with rfl | hb
    · exact h1
    · have h2 : v < b := by simpa using (List.mem_filter.mp hb).2
      omega
theorem mem_ins {v u : Nat} {on : List Nat} : u ∈ ins v on ↔ u = v ∨ u ∈ on := by
  unfold ins
  simp only [List.mem_append, List.mem_filter, List.mem_cons, decide_eq_true_eq]
  constructor
  · rintro (⟨h, _⟩ | h | ⟨h, _⟩)
    · exact .inr h
    · exact .inl h
    · exact .inr h
  · rintro (h | h)
    · exact .inr (.inl h)
    · rcases Nat.lt_trichotomy u v with q | q | q
      · exact .inl ⟨h, q⟩
      · exact .inr (.inl q)
      · exact .inr (.inr ⟨h, q⟩)
theorem notes_up {L : Lang} {on : List Nat} {m : Option Msg} (h : on.Pairwise (· < ·)) : (notesBehind L on m).Pairwise (· < ·) := by
  unfold notesBehind
  split
  · exact h
  · split
    · exact List.Pairwise.nil
    · exact ins_up h
    · exact h.filter _
    · exact h
theorem notes_lt {L : Lang} (g : Good L) {on : List Nat} {m : Option Msg} (h : ∀ v ∈ on, v < L.notes) (hm : ∀ q, m = some q → GoodM L q) : ∀ v ∈ notesBehind L on m, v < L.notes := by
  unfold notesBehind
  intro v hv
  split at hv
  · exact h v hv
  · rename_i hh vs
    split at hv
    · cases hv
    · rename_i hr
      rcases mem_ins.mp hv with rfl | hv
      · have gm := hm _ rfl
        have l1 := g.long_on gm.hl (.inl hr)
        cases vs with
        | nil =>
          have h2 : 0 = L.long hh := gm.ln
          have h3 : 1 ≤ L.long hh := l1
          rw [← h2] at h3
          exact absurd h3 (by decide)
        | cons a as => exact gm.vs a (by simp)
      · exact h v hv
    · exact h v (List.mem_filter.mp hv).1
    · exact h v hv
theorem good_step {L : Lang} (g : Good L) {s : Std} (t : GoodT L s) {x : Sign} (hx : L.ok x) : GoodT L (step L s x).1 ∧ ∀ m, (step L s x).2 = some m → GoodM L m := by
  obtain ⟨p1, p2⟩ := place_taken t.pl hx
  exact ⟨⟨p1, notes_up t.up, notes_lt g t.on p2⟩, p2⟩
theorem good_read {L : Lang} (g : Good L) : ∀ {xs : List Sign} {s : Std}, GoodT L s → (∀ x ∈ xs, L.ok x) → GoodT L (readSo L s xs).1 ∧ ∀ m ∈ (readSo L s xs).2, GoodM L m
  | [], s, t, _ => ⟨t, fun m h => by cases h⟩
  | x :: xs, s, t, h => by
    obtain ⟨t1, m1⟩ := good_step g t (h x (by simp))
    obtain ⟨t2, m2⟩ := good_read g (xs := xs) t1 fun y hy => h y (List.mem_cons_of_mem _ hy)
    refine ⟨t2, fun m hm => ?_⟩
    simp only [readSo, List.mem_append] at hm
    rcases hm with hm | hm
    · exact m1 m (by simpa using hm)
    · exact m2 m hm
theorem read_app (L : Lang) : ∀ (xs ys : List Sign) (s : Std), readSo L s (xs ++ ys) = ((readSo L (readSo L s xs).1 ys).1, (readSo L s xs).2 ++ (readSo L (readSo L s xs).1 ys).2)
  | [], ys, s => by simp [readSo]
  | x :: xs, ys, s => by
    simp only [List.cons_append, readSo]
    rw [read_app L xs ys]
    simp [List.append_assoc]
theorem read_take (L : Lang) {xs : List Sign} {i : Nat} {x : Sign} (h : xs[i]? = some x) (s : Std) : readSo L s (xs.take (i + 1)) = ((step L (readSo L s (xs.take i)).1 x).1, (readSo L s (xs.take i)).2 ++ (step L (readSo L s (xs.take i)).1 x).2.toList) := by
  rw [List.take_succ, h]
  show readSo L s (xs.take i ++ [x]) = _
  rw [read_app]
  simp [readSo]
theorem up_zip : ∀ {on : List Nat}, on.Pairwise (· < ·) → ∀ q ∈ on.zip (on.drop 1), q.1 < q.2
  | [], _, q, h => by simp at h
  | [a], _, q, h => by simp at h
  | a :: b :: on, h, q, hq => by
    rw [List.pairwise_cons] at h
    simp only [List.drop_succ_cons, List.drop_zero, List.zip_cons_cons, List.mem_cons] at hq
    rcases hq with rfl | hq
    · exact h.1 b (by simp)
    · exact up_zip h.2 q (by simpa using hq)
theorem heard_len (L : Lang) : ∀ (xs : List Sign) (s : Std), (readSo L s xs).2.length ≤ xs.length
  | [], s => by simp [readSo]
  | x :: xs, s => by
    simp only [readSo, List.length_append, List.length_cons]
    have h1 := heard_len L xs (step L s x).1
    have h2 : (step L s x).2.toList.length ≤ 1 := by cases (step L s x).2 <;> simp
    omega
/-! all standings -/
def rows (n : Nat) : Nat → List (List Nat)
  | 0 => [[]]
  | k + 1 => (rows n k).flatMap fun r => (List.range n).map fun v => r ++ [v]
theorem mem_rows {n : Nat} : ∀ {k : Nat} {r : List Nat}, r ∈ rows n k ↔ r.length = k ∧ ∀ v ∈ r, v < n
  | 0, r => by
    simp only [rows, List.mem_singleton]
    constructor
    · rintro rfl; simp
    · rintro ⟨h, _⟩; exact List.length_eq_zero_iff.mp h
  | k + 1, r => by
    simp only [rows, List.mem_flatMap, List.mem_map, List.mem_range]
    constructor
    · rintro ⟨q, hq, v, hv, rfl⟩
      obtain ⟨h1, h2⟩ := mem_rows.mp hq
      refine ⟨by simp [h1], fun u hu => ?_⟩
      rcases List.mem_append.mp hu with hu | hu
      · exact h2 u hu
      · simp at hu
        subst hu
        exact hv
    · rintro ⟨h1, h2⟩
      have hne : r ≠ [] := fun e => by subst e; simp at h1
      refine ⟨r.dropLast, mem_rows.mpr ⟨by simp [h1], fun v hv => h2 v ((List.dropLast_sublist r).subset hv)⟩, r.getLast hne, h2 _ (List.getLast_mem hne), List.dropLast_concat_getLast hne⟩
def placesH (L : Lang) (h : Nat) : List (Option Nat × List Nat) := (List.range (L.long h)).flatMap fun k => (rows L.notes k).map fun r => (some h, r)
def places (L : Lang) : List (Option Nat × List Nat) := (none, []) :: (List.range L.heads.length).flatMap (placesH L)
theorem mem_places {L : Lang} {p : Option Nat × List Nat} : p ∈ places L ↔ Place L p.1 p.2 := by
  obtain ⟨hd, got⟩ := p
  simp only [places, placesH, List.mem_cons, List.mem_flatMap, List.mem_map, List.mem_range]
  constructor
  · rintro (h | ⟨h, hh, k, hk, r, hr, e⟩)
    · cases h
      exact ⟨fun _ => rfl, (fun _ e => by cases e), by simp⟩
    · cases e
      obtain ⟨h1, h2⟩ := mem_rows.mp hr
      exact ⟨(fun e => by cases e), (fun h' e => by cases e; exact ⟨hh, by omega⟩), h2⟩
  · intro p
    cases hd with
    | none => exact .inl (by rw [p.no rfl])
    | some h =>
      obtain ⟨h1, h2⟩ := p.hl h rfl
      exact .inr ⟨h, h1, got.length, h2, got, mem_rows.mpr ⟨rfl, p.vs⟩, rfl⟩
def lots : Nat → List (List Nat)
  | 0 => [[]]
  | n + 1 => lots n ++ (lots n).map fun l => l ++ [n]
theorem mem_lots : ∀ {n : Nat} {l : List Nat}, l ∈ lots n ↔ l.Pairwise (· < ·) ∧ ∀ v ∈ l, v < n
  | 0, l => by
    simp only [lots, List.mem_singleton]
    constructor
    · rintro rfl; simp
    · rintro ⟨_, h⟩
      cases l with
      | nil => rfl
      | cons a as => exact absurd (h a (by simp)) (by omega)
  | n + 1, l => by
    simp only [lots, List.mem_append, List.mem_map]
    constructor
    · rintro (h | ⟨q, hq, rfl⟩)
      · obtain ⟨h1, h2⟩ := mem_lots.mp h
        exact ⟨h1, fun v hv => by have := h2 v hv; omega⟩
      · obtain ⟨h1, h2⟩ := mem_lots.mp hq
        refine ⟨?_, fun v hv => ?_⟩
        · rw [List.pairwise_append]
          exact ⟨h1, by simp, fun a ha b hb => by simp at hb; subst hb; exact h2 a ha⟩
        · rcases List.mem_append.mp hv with hv | hv
          · have := h2 v hv; omega
          · simp at hv; omega
    · rintro ⟨h1, h2⟩
      by_cases hn : n ∈ l
      · right
        have hne : l ≠ [] := fun e => by subst e; simp at hn
        have hsplit := List.dropLast_concat_getLast hne
        have hlast : l.getLast hne = n := by
          have h3 := h2 _ (List.getLast_mem hne)
          rw [← hsplit] at hn h1
          rw [List.pairwise_append] at h1
          rcases List.mem_append.mp hn with h4 | h4
          · have := h1.2.2 n h4 (l.getLast hne) (by simp)
            omega
          · simp at h4
            exact h4.symm
        refine ⟨l.dropLast, mem_lots.mpr ⟨?_, fun v hv => ?_⟩, ?_⟩
        · rw [← hsplit, List.pairwise_append] at h1
          exact h1.1
        · have h4 := h1
          rw [← hsplit, List.pairwise_append] at h4
          have := h4.2.2 v hv (l.getLast hne) (by simp)
          omega
        · rw [← hlast]
          exact hsplit
      · left
        refine mem_lots.mpr ⟨h1, fun v hv => ?_⟩
        have := h2 v hv
        have : v ≠ n := fun e => hn (e ▸ hv)
        omega
def raw (L : Lang) : List Std := (places L).flatMap fun p => (lots L.notes).map fun l => ⟨p.1, p.2, l⟩
theorem mem_raw {L : Lang} {s : Std} : s ∈ raw L ↔ GoodT L s := by
  simp only [raw, List.mem_flatMap, List.mem_map]
  constructor
  · rintro ⟨p, hp, l, hl, rfl⟩
    obtain ⟨h1, h2⟩ := mem_lots.mp hl
    exact ⟨mem_places.mp hp, h1, h2⟩
  · intro t
    exact ⟨(s.hd, s.got), mem_places.mpr t.pl, s.on, mem_lots.mpr ⟨t.up, t.on⟩, rfl⟩
end NM
/-! how data are written -/
namespace NW
open PySem PySem.Spec PyProof.Rows L2 StX NM
/-! ### how data are written -/
abbrev eN (n : Nat) : D := .num (n : Int)
def eNs (ns : List Nat) : D := .tup (ns.map eN)
def rN : Role → Str
  | .on => "on"
  | .off => "off"
  | .quiet => "quiet"
  | .other => "other"
def eHead (p : Role × Nat) : D := .tup [.text (rN p.1), eN p.2]
def eL (L : Lang) : D := .tup [.tup (L.heads.map eHead), eN L.notes, eN L.moments]
def eS : NM.Sign → D
  | .head n => .tup [.text "head", eN n]
  | .moment n => .tup [.text "moment", eN n]
  | .value n => .tup [.text "value", eN n]
def eSs (xs : List NM.Sign) : D := .tup (xs.map eS)
def eM (m : Msg) : D := .tup [eN m.1, eNs m.2]
def eMs (ms : List Msg) : D := .tup (ms.map eM)
def eO (o : Option Msg) : D := (o.map eM).getD .none
def eH : Option Nat → D
  | none => .num (-1)
  | some h => eN h
def eT (s : Std) : D := .tup [eH s.hd, eNs s.got, eNs s.on]
theorem sh_n {n k : Nat} : Sh k (eN n) := .num
theorem sh_ns {k : Nat} {ns : List Nat} : Sh (k + 1) (eNs ns) := .tup fun d hd => by
  obtain ⟨n, _, rfl⟩ := List.mem_map.mp hd
  exact sh_n
theorem sh_role {k : Nat} {r : Role} : Sh k (.text (rN r)) := .text (by cases r <;> decide +kernel)
theorem sh_head {k : Nat} {p : Role × Nat} : Sh (k + 1) (eHead p) := sh_cons sh_role (sh_cons sh_n sh_nil)
theorem sh_L {k : Nat} {L : Lang} : Sh (k + 3) (eL L) := sh_cons (.tup fun d hd => by
  obtain ⟨n, _, rfl⟩ := List.mem_map.mp hd
  exact sh_head) (sh_cons sh_n (sh_cons sh_n sh_nil))
theorem sh_s {k : Nat} {x : NM.Sign} : Sh (k + 1) (eS x) := by
  cases x <;> exact sh_cons (.text (by decide +kernel)) (sh_cons sh_n sh_nil)
theorem sh_ss {k : Nat} {xs : List NM.Sign} : Sh (k + 2) (eSs xs) := .tup fun d hd => by
  obtain ⟨n, _, rfl⟩ := List.mem_map.mp hd
  exact sh_s
theorem sh_m {k : Nat} {m : Msg} : Sh (k + 2) (eM m) := sh_cons sh_n (sh_cons sh_ns sh_nil)
theorem sh_ms {k : Nat} {ms : List Msg} : Sh (k + 3) (eMs ms) := .tup fun d hd => by
  obtain ⟨n, _, rfl⟩ := List.mem_map.mp hd
  exact sh_m
theorem sh_o {k : Nat} {o : Option Msg} : Sh (k + 2) (eO o) := by
  cases o with
  | none => exact .non
  | some m => exact sh_m
theorem sh_h {k : Nat} {o : Option Nat} : Sh k (eH o) := by
  cases o <;> exact .num
theorem sh_t {k : Nat} {s : Std} : Sh (k + 2) (eT s) := sh_cons sh_h (sh_cons sh_ns (sh_cons sh_ns sh_nil))
end NW
/-! languages.py -/
namespace NW
open PySem PySem.Spec PyProof.Rows L2 StX NM
local macro_rules | `(tactic| walk_at "my") => `(tactic| fail)
local macro_rules | `(tactic| walk_at "mycm") => `(tactic| fail)
local macro_rules | `(tactic| walk_at "myco") => `(tactic| fail)
local macro_rules | `(tactic| walk_at "mycc") => `(tactic| fail)
local macro_rules | `(tactic| walk_at "sh") => `(tactic| first | assumption | exact sh_n | exact Sh.num | exact Sh.non | exact sh_role | exact Sh.text (by decide +kernel) | exact sh_ns | exact sh_s | exact sh_m | exact sh_o | exact sh_h | exact sh_t | exact sh_ss | exact sh_ms | exact sh_head | exact sh_L | exact sh_nil | (apply sh_cons <;> walk_at "sh"))
local macro_rules | `(tactic| walk_at "shs") => `(tactic| first | assumption | exact shs_nil | (apply shs_cons; walk_at "sh"; walk_at "shs"))
local macro_rules | `(tactic| walk_at "co") => `(tactic| first
  | ((with_reducible apply co_ixTe); exact rfl; exact rfl)
  | ((with_reducible exact co_ixDl))
  | ((with_reducible apply co_ixL); exact rfl)
  | (with_reducible exact co_lt) | (with_reducible exact co_le) | (with_reducible exact co_gt) | (with_reducible exact co_ge) | (with_reducible exact co_sub)
  | (with_reducible exact co_isN) | (with_reducible exact co_isNotN)
  | ((with_reducible apply co_eq) <;> walk_at "sh") | ((with_reducible apply co_ne) <;> walk_at "sh")
  | (with_reducible exact co_add)
  | ((with_reducible apply co_inTe); exact rfl; walk_at "sh"; walk_at "shs")
  | walk_at "myco")
local macro_rules | `(tactic| walk_at "cc") => `(tactic| first
  | ((with_reducible apply cc_lenTe); exact rfl) | (with_reducible exact cc_lenL) | (with_reducible exact cc_all) | (with_reducible exact cc_any) | (with_reducible exact cc_tuple) | (with_reducible exact cc_intI)
  | (with_reducible exact cc_intB) | (with_reducible exact cc_min2) | (with_reducible exact cc_listT)
  | ((with_reducible apply cc_isi); first | exact isi_int rfl | exact isi_bool | exact isi_tuple rfl | exact isi_str rfl)
  | walk_at "mycc")
local macro_rules | `(tactic| walk_at "ca") => `(tactic| first
  | (with_reducible exact ca_nil)
  | ((with_reducible apply ca_cons); walk_at "cm"; walk_at "ca"))
local macro_rules | `(tactic| walk_at "cad") => `(tactic| first
  | (with_reducible exact cad_nil)
  | ((with_reducible apply cad_cons); walk_at "cm"; walk_at "cad")
  | ((with_reducible apply cad_starE); walk_at "cm"; exact rfl; walk_at "cad"))
local macro_rules | `(tactic| walk_at "cm") => `(tactic| first
  | ((with_reducible apply cm_var); exact rfl)
  | (with_reducible exact cm_int) | (with_reducible exact cm_str) | (with_reducible exact cm_non) | (with_reducible exact cm_bl)
  | ((with_reducible apply cm_op); walk_at "cm"; walk_at "cm"; walk_at "co")
  | ((with_reducible apply cm_tupD); walk_at "cad"; walk_at "size")
  | ((with_reducible apply cm_neg); walk_at "cm")
  | ((with_reducible apply cm_call); walk_at "ca"; walk_at "my")
  | walk_at "mycm"
  | ((with_reducible apply cm_cb); walk_at "ca"; walk_at "cc")
  | ((with_reducible apply cm_chain); walk_at "cm"; walk_at "cm"; walk_at "co"; (intro _; walk_at "cm"); walk_at "co")
  | ((with_reducible apply cm_andVF); walk_at "cm"; walk_at "dec0")
  | ((with_reducible apply cm_orVT); walk_at "cm"; walk_at "dec0")
  | ((with_reducible apply cm_ifT); walk_at "ct"; walk_at "dec"; walk_at "cm")
  | ((with_reducible apply cm_ifF); walk_at "ct"; walk_at "dec"; walk_at "cm")
  | ((with_reducible apply cm_andV); walk_at "cm"; (intro _; walk_at "cm"))
  | ((with_reducible apply cm_orV); walk_at "cm"; (intro _; walk_at "cm"))
  | ((with_reducible apply cm_notV); walk_at "cm")
  | (with_reducible exact cm_val))
local macro_rules | `(tactic| walk_at "ct") => `(tactic| first
  | ((with_reducible apply ct_test); walk_at "cm") | ((with_reducible apply ct_B); walk_at "cm") | ((with_reducible apply ct_not); walk_at "ct")
  | ((with_reducible apply ct_andF); walk_at "ct"; walk_at "dec0")
  | ((with_reducible apply ct_orT); walk_at "ct"; walk_at "dec0")
  | ((with_reducible apply ct_and); walk_at "ct"; (intro _; walk_at "ct"))
  | ((with_reducible apply ct_or); walk_at "ct"; (intro _; walk_at "ct")))
local macro_rules | `(tactic| walk_at "size") => `(tactic| focus first | assumption | (simp; done) | (simp; omega) | omega)
local macro_rules | `(tactic| walk_at "dec0") => `(tactic| focus first | rfl | (simp [eHead, eL, eSs, eMs, eS, eM, eT, eN, eNs, eH, eO, rN]; done))
local macro_rules | `(tactic| walk_at "dec") => `(tactic| focus first | rfl | (simp [eHead, eL, eSs, eMs, eS, eM, eT, eN, eNs, eH, eO, rN]; done) | (simp [eHead, eL, eSs, eMs, eS, eM, eT, eN, eNs, eH, eO, rN]; omega) | (simp [eHead, eL, eSs, eMs, eS, eM, eT, eN, eNs, eH, eO, rN, *]; done))
local macro_rules | `(tactic| walk_at "skip") => `(tactic| ((with_reducible apply bs_skip); walk_at "ct"; walk_at "dec"))
local macro_rules | `(tactic| walk_at "take") => `(tactic| (refine bs_seqR ?_; (with_reducible apply bs_ifT); walk_at "ct"; walk_at "dec"))
local macro_rules | `(tactic| walk_at "ret") => `(tactic| (refine bs_ret ?_; (with_reducible apply cm_is); walk_at "cm"))
local macro_rules | `(tactic| walk_at "set") => `(tactic| ((with_reducible apply bs_setS); walk_at "cm"))
local macro_rules | `(tactic| walk_at "drop") => `(tactic| ((with_reducible apply bs_dropS); walk_at "cm"))
local macro_rules | `(tactic| walk_at "norm") => `(tactic| skip)
local macro_rules | `(tactic| walk_at "less") => `(tactic| first | exact less_nil | (apply less_some; walk_at "less") | (apply less_none; walk_at "less"))
local macro_rules | `(tactic| walk_at "flat") => `(tactic| first | exact flat_nil | (refine flat_cons ?_ ?_; (first | exact trivial | exact rfl); walk_at "flat"))
section
variable {P : Program} {w : World} {K : Fg} {mg : Str → Option Value} {base : Heap}
abbrev CalF (P : Program) (w : World) (K : Fg) (mg : Str → Option Value) (base : Heap) (k : Nat) (x : Str) (R : List W → W → Prop) : Prop := C8.Cal P w K mg base k x (spF K R) []
/-- a def of the top: where it stands, how its arguments bind, its name -/
structure DefAt (K : Fg) (mg : Str → Option Value) (x gx : Str) (st : Stmt) (ps : List Str) : Prop where
  ex : ∃ f fd, Fun K x x st f fd ∧ Binds K fd ps [] ∧ mg gx = some (.ref f)
theorem calF {x gx : Str} {st : Stmt} {N ps : List Str} {k : Nat} {R : List W → W → Prop} (A : DefAt K mg x gx st ps) (S : FnScope N ps (defScope st)) (hl : ∀ ws u, R ws u → ws.length = ps.length)
    (hb : ∀ (f : Addr) (cdv : Value) (A : Around) (outer : List Env) (s : Shared) (H : Hp) (E : XK) (ws : List W) (u : W), Room k (A.deeper (envOfC x (defScope st) s.heap.objs.size f cdv)) → R ws u →
      ∃ t, PSs (cxOf CX0 P w K mg base N x (defScope st) f cdv A outer s H E).nox (defBody st) t ∧ Ret K t (startW N ws) u) : CalF P w K mg base (k + 1) gx R := by
  obtain ⟨f, fd, F, b, m⟩ := A.ex
  exact ⟨f, fd, ps, [], okF F S hl (hb f), m, F.kp, b, .nil⟩

/-! ### is_whole -/
abbrev s_is_whole : Stmt := top 20
abbrev N_is_whole : List Str := ["thing", "least", "most"]
theorem sc_is_whole : FnScope N_is_whole ["thing", "least", "most"] (defScope s_is_whole) := ⟨rfl, rfl, rfl, by decide +kernel, rfl, by decide +kernel, by decide +kernel⟩
def R_is_whole : List W → W → Prop := fun ws w => ∃ (i lo : Int), (ws = [.d (.num i), .d (.num lo), .d .none] ∧ w = .b (decide (lo ≤ i))) ∨ ∃ hi, ws = [.d (.num i), .d (.num lo), .d (.num hi)] ∧ w = .b (decide (lo ≤ i) && decide (i ≤ hi))
theorem r_is_whole {i lo hi : Int} : R_is_whole [.d (.num i), .d (.num lo), .d (.num hi)] (.b (decide (lo ≤ i) && decide (i ≤ hi))) := ⟨i, lo, .inr ⟨hi, rfl, rfl⟩⟩
theorem r_is_whole0 {i lo : Int} : R_is_whole [.d (.num i), .d (.num lo), .d .none] (.b (decide (lo ≤ i))) := ⟨i, lo, .inl ⟨rfl, rfl⟩⟩
theorem ok_is_whole (T : Txt K mg) (A : DefAt K mg "is_whole" "is_whole" s_is_whole ["thing", "least", "most"]) : CalF P w K mg base 1 "is_whole" R_is_whole := by
  refine calF A sc_is_whole (fun ws u h => ?_) (fun f cdv A outer s H E ws u hr h => ?_)
  · obtain ⟨i, lo, ⟨rfl, _⟩ | ⟨hi, rfl, _⟩⟩ := h <;> rfl
  · refine ⟨_, (pss_cons (ps_if (PW.pt (pw_or (pt_not (pt_val (pe_callB (isiK K rfl) rfl T.b_isinstance bo_isinstance (pa_cons (pv 0) (pa_cons (pe_bltn (v := .ty "int") rfl T.b_int bo_int rfl) pa_nil))))) (pw_or (pt_val (pe_callB (isiK K rfl) rfl T.b_isinstance bo_isinstance (pa_cons (pv 0) (pa_cons (pe_bltn (v := .ty "bool") rfl T.b_bool bo_bool rfl) pa_nil)))) (pw_or1 (pt_cmpR op_lt (pv 0) (pv 1) (nomark _)))))) (pss_one (ps_ret pe_bl)) pss_nil) (pss_one (ps_ret (pe_or (pe_cmpR op_isN (pv 2) pe_non (nomark _)) (pe_one (pe_cmpR op_le (pv 0) (pv 2) (nomark _))))))), .inl ?_⟩
    walk_at "norm"
    obtain ⟨i, lo, ⟨rfl, rfl⟩ | ⟨hi, rfl, rfl⟩⟩ := h
    · by_cases q : lo ≤ i
      · walk_at "skip"
        walk_at "ret"
        simp [q]
      · walk_at "take"
        walk_at "ret"
        simp [q]
    · by_cases q : lo ≤ i
      · walk_at "skip"
        walk_at "ret"
        simp [q]
      · walk_at "take"
        walk_at "ret"
        simp [q]
end
end NW
/-! languages.py, further -/
namespace NW
open PySem PySem.Spec PyProof.Rows L2 StX NM
local macro_rules | `(tactic| walk_at "my") => `(tactic| fail)
local macro_rules | `(tactic| walk_at "mycm") => `(tactic| fail)
local macro_rules | `(tactic| walk_at "myco") => `(tactic| fail)
local macro_rules | `(tactic| walk_at "mycc") => `(tactic| fail)
local macro_rules | `(tactic| walk_at "sh") => `(tactic| first | assumption | exact sh_n | exact Sh.num | exact Sh.non | exact sh_role | exact Sh.text (by decide +kernel) | exact sh_ns | exact sh_s | exact sh_m | exact sh_o | exact sh_h | exact sh_t | exact sh_ss | exact sh_ms | exact sh_head | exact sh_L | exact sh_nil | (apply sh_cons <;> walk_at "sh"))
local macro_rules | `(tactic| walk_at "shs") => `(tactic| first | assumption | exact shs_nil | (apply shs_cons; walk_at "sh"; walk_at "shs"))
local macro_rules | `(tactic| walk_at "co") => `(tactic| first
  | ((with_reducible apply co_ixTe); exact rfl; exact rfl)
  | ((with_reducible exact co_ixDl))
  | ((with_reducible apply co_ixL); exact rfl)
  | (with_reducible exact co_lt) | (with_reducible exact co_le) | (with_reducible exact co_gt) | (with_reducible exact co_ge) | (with_reducible exact co_sub)
  | (with_reducible exact co_isN) | (with_reducible exact co_isNotN)
  | ((with_reducible apply co_eq) <;> walk_at "sh") | ((with_reducible apply co_ne) <;> walk_at "sh")
  | (with_reducible exact co_add)
  | ((with_reducible apply co_inTe); exact rfl; walk_at "sh"; walk_at "shs")
  | walk_at "myco")
local macro_rules | `(tactic| walk_at "cc") => `(tactic| first
  | ((with_reducible apply cc_lenTe); exact rfl) | (with_reducible exact cc_lenL) | (with_reducible exact cc_all) | (with_reducible exact cc_any) | (with_reducible exact cc_tuple) | (with_reducible exact cc_intI)
  | (with_reducible exact cc_intB) | (with_reducible exact cc_min2) | (with_reducible exact cc_listT)
  | ((with_reducible apply cc_isi); first | exact isi_int rfl | exact isi_bool | exact isi_tuple rfl | exact isi_str rfl)
  | walk_at "mycc")
local macro_rules | `(tactic| walk_at "ca") => `(tactic| first
  | (with_reducible exact ca_nil)
  | ((with_reducible apply ca_cons); walk_at "cm"; walk_at "ca"))
local macro_rules | `(tactic| walk_at "cad") => `(tactic| first
  | (with_reducible exact cad_nil)
  | ((with_reducible apply cad_cons); walk_at "cm"; walk_at "cad")
  | ((with_reducible apply cad_starE); walk_at "cm"; exact rfl; walk_at "cad"))
local macro_rules | `(tactic| walk_at "cm") => `(tactic| first
  | ((with_reducible apply cm_var); exact rfl)
  | (with_reducible exact cm_int) | (with_reducible exact cm_str) | (with_reducible exact cm_non) | (with_reducible exact cm_bl)
  | ((with_reducible apply cm_op); walk_at "cm"; walk_at "cm"; walk_at "co")
  | ((with_reducible apply cm_tupD); walk_at "cad"; walk_at "size")
  | ((with_reducible apply cm_neg); walk_at "cm")
  | ((with_reducible apply cm_call); walk_at "ca"; walk_at "my")
  | walk_at "mycm"
  | ((with_reducible apply cm_cb); walk_at "ca"; walk_at "cc")
  | ((with_reducible apply cm_chain); walk_at "cm"; walk_at "cm"; walk_at "co"; (intro _; walk_at "cm"); walk_at "co")
  | ((with_reducible apply cm_andVF); walk_at "cm"; walk_at "dec0")
  | ((with_reducible apply cm_orVT); walk_at "cm"; walk_at "dec0")
  | ((with_reducible apply cm_ifT); walk_at "ct"; walk_at "dec"; walk_at "cm")
  | ((with_reducible apply cm_ifF); walk_at "ct"; walk_at "dec"; walk_at "cm")
  | ((with_reducible apply cm_andV); walk_at "cm"; (intro _; walk_at "cm"))
  | ((with_reducible apply cm_orV); walk_at "cm"; (intro _; walk_at "cm"))
  | ((with_reducible apply cm_notV); walk_at "cm")
  | (with_reducible exact cm_val))
local macro_rules | `(tactic| walk_at "ct") => `(tactic| first
  | ((with_reducible apply ct_test); walk_at "cm") | ((with_reducible apply ct_B); walk_at "cm") | ((with_reducible apply ct_not); walk_at "ct")
  | ((with_reducible apply ct_andF); walk_at "ct"; walk_at "dec0")
  | ((with_reducible apply ct_orT); walk_at "ct"; walk_at "dec0")
  | ((with_reducible apply ct_and); walk_at "ct"; (intro _; walk_at "ct"))
  | ((with_reducible apply ct_or); walk_at "ct"; (intro _; walk_at "ct")))
local macro_rules | `(tactic| walk_at "size") => `(tactic| focus first | assumption | (simp; done) | (simp; omega) | omega)
local macro_rules | `(tactic| walk_at "dec0") => `(tactic| focus first | rfl | (simp [eHead, eL, eSs, eMs, eS, eM, eT, eN, eNs, eH, eO, rN]; done))
local macro_rules | `(tactic| walk_at "dec") => `(tactic| focus first | rfl | (simp [eHead, eL, eSs, eMs, eS, eM, eT, eN, eNs, eH, eO, rN]; done) | (simp [eHead, eL, eSs, eMs, eS, eM, eT, eN, eNs, eH, eO, rN]; omega) | (simp [eHead, eL, eSs, eMs, eS, eM, eT, eN, eNs, eH, eO, rN, *]; done))
local macro_rules | `(tactic| walk_at "skip") => `(tactic| ((with_reducible apply bs_skip); walk_at "ct"; walk_at "dec"))
local macro_rules | `(tactic| walk_at "take") => `(tactic| (refine bs_seqR ?_; (with_reducible apply bs_ifT); walk_at "ct"; walk_at "dec"))
local macro_rules | `(tactic| walk_at "ret") => `(tactic| (refine bs_ret ?_; (with_reducible apply cm_is); walk_at "cm"))
local macro_rules | `(tactic| walk_at "set") => `(tactic| ((with_reducible apply bs_setS); walk_at "cm"))
local macro_rules | `(tactic| walk_at "drop") => `(tactic| ((with_reducible apply bs_dropS); walk_at "cm"))
local macro_rules | `(tactic| walk_at "norm") => `(tactic| skip)
local macro_rules | `(tactic| walk_at "less") => `(tactic| first | exact less_nil | (apply less_some; walk_at "less") | (apply less_none; walk_at "less"))
local macro_rules | `(tactic| walk_at "flat") => `(tactic| first | exact flat_nil | (refine flat_cons ?_ ?_; (first | exact trivial | exact rfl); walk_at "flat"))
section
variable {P : Program} {w : World} {K : Fg} {mg : Str → Option Value} {base : Heap}

/-! ### is_head -/
local macro_rules | `(tactic| walk_at "my") => `(tactic| first | exact r_is_whole | exact r_is_whole0)
abbrev s_is_head : Stmt := top 21
abbrev N_is_head : List Str := ["thing"]
theorem sc_is_head : FnScope N_is_head ["thing"] (defScope s_is_head) := ⟨rfl, rfl, rfl, by decide +kernel, rfl, by decide +kernel, by decide +kernel⟩
def okHead (p : Role × Nat) : Prop := p.2 ≤ 2 ∧ (p.1 = .on ∨ p.1 = .off → 1 ≤ p.2)
def R_is_head : List W → W → Prop := fun ws w => ∃ p, okHead p ∧ ws = [.d (eHead p)] ∧ w = .b true
theorem r_is_head {p : Role × Nat} (h : okHead p) : R_is_head [.d (eHead p)] (.b true) := ⟨p, h, rfl, rfl⟩
theorem ok_is_head (T : Txt K mg) (A : DefAt K mg "is_head" "is_head" s_is_head ["thing"]) (C_is_whole : CalF P w K mg base 1 "is_whole" R_is_whole) : CalF P w K mg base 2 "is_head" R_is_head := by
  refine calF A sc_is_head (fun ws u h => ?_) (fun f cdv A outer s H E ws u hr h => ?_)
  · obtain ⟨p, _, rfl, _⟩ := h; rfl
  · refine ⟨_, (pss_cons (ps_if (PW.pt (pw_or (pt_not (pt_val (pe_callB (isiK K rfl) rfl T.b_isinstance bo_isinstance (pa_cons (pv 0) (pa_cons (pe_bltn (v := .ty "tuple") rfl T.b_tuple bo_tuple rfl) pa_nil))))) (pw_or (pt_cmpR (neK K rfl hr) (pe_callB (lenK K rfl) rfl T.b_len bo_len (pa_cons (pv 0) pa_nil)) pe_int (nomark _)) (pw_or1 (pt_not (pt_val (pe_callB (isiK K rfl) rfl T.b_isinstance bo_isinstance (pa_cons (pe_ix (ixK K rfl) (pv 0) pe_int (fun _ _ => rfl)) (pa_cons (pe_bltn (v := .ty "str") rfl T.b_str bo_str rfl) pa_nil))))))))) (pss_one (ps_ret pe_bl)) pss_nil) (pss_cons (ps_if (pt_cmpR (inK K rfl hr) (pe_ix (ixK K rfl) (pv 0) pe_int (fun _ _ => rfl)) (pe_tup (pa_cons (C8.pe_gc rfl T.g_ON) (pa_cons (C8.pe_gc rfl T.g_OFF) pa_nil))) rfl) (pss_one (ps_ret (C8.pe_c C_is_whole hr (by decide) rfl (pa_cons (pe_ix (ixK K rfl) (pv 0) pe_int (fun _ _ => rfl)) (pa_cons pe_int (pa_cons (C8.pe_gc rfl T.g_MOST_LONG) pa_nil)))))) pss_nil) (pss_one (ps_ret (pe_and (pe_cmpR (inK K rfl hr) (pe_ix (ixK K rfl) (pv 0) pe_int (fun _ _ => rfl)) (pe_tup (pa_cons (C8.pe_gc rfl T.g_QUIET) (pa_cons (C8.pe_gc rfl T.g_OTHER) pa_nil))) rfl) (pe_one (C8.pe_c C_is_whole hr (by decide) rfl (pa_cons (pe_ix (ixK K rfl) (pv 0) pe_int (fun _ _ => rfl)) (pa_cons pe_int (pa_cons (C8.pe_gc rfl T.g_MOST_LONG) pa_nil)))))))))), .inl ?_⟩
    walk_at "norm"
    obtain ⟨⟨r, n⟩, ⟨h1, h2⟩, rfl, rfl⟩ := h
    have h1 : n ≤ 2 := h1
    cases r
    · have h3 : 1 ≤ n := h2 (.inl rfl)
      walk_at "skip"
      walk_at "take"
      walk_at "ret"
      walk_at "dec"
    · have h3 : 1 ≤ n := h2 (.inr rfl)
      walk_at "skip"
      walk_at "take"
      walk_at "ret"
      walk_at "dec"
    · walk_at "skip"
      walk_at "skip"
      walk_at "ret"
      walk_at "dec"
    · walk_at "skip"
      walk_at "skip"
      walk_at "ret"
      walk_at "dec"

/-! ### need_language -/
abbrev s_need_language : Stmt := top 22
abbrev N_need_language : List Str := ["thing", "heads", "one"]
theorem sc_need_language : FnScope N_need_language ["thing"] (defScope s_need_language) := ⟨rfl, rfl, rfl, by decide +kernel, rfl, by decide +kernel, by decide +kernel⟩
def R_need_language : List W → W → Prop := fun ws w => ∃ L, Good L ∧ ws = [.d (eL L)] ∧ w = .d (eL L)
theorem r_need_language {L : Lang} (g : Good L) : R_need_language [.d (eL L)] (.d (eL L)) := ⟨L, g, rfl, rfl⟩
local macro_rules | `(tactic| walk_at "my") => `(tactic| first | exact r_is_whole | exact r_is_whole0 | exact r_is_head (by assumption))
theorem ok_need_language (T : Txt K mg) (A : DefAt K mg "need_language" "need_language" s_need_language ["thing"]) (C_is_whole : CalF P w K mg base 1 "is_whole" R_is_whole) (C_is_head : CalF P w K mg base 2 "is_head" R_is_head) :
    CalF P w K mg base 3 "need_language" R_need_language := by
  refine calF A sc_need_language (fun ws u h => ?_) (fun f cdv A outer s H E ws u hr h => ?_)
  · obtain ⟨L, _, rfl, _⟩ := h; rfl
  · refine ⟨_, (pss_cons (ps_if (PW.pt (pw_or (pt_not (pt_val (pe_callB (isiK K rfl) rfl T.b_isinstance bo_isinstance (pa_cons (pv 0) (pa_cons (pe_bltn (v := .ty "tuple") rfl T.b_tuple bo_tuple rfl) pa_nil))))) (pw_or1 (pt_cmpR (neK K rfl hr) (pe_callB (lenK K rfl) rfl T.b_len bo_len (pa_cons (pv 0) pa_nil)) pe_int (nomark _))))) pss_never pss_nil) (pss_cons (ps_set (i := 1) sc_need_language.nd rfl (by first | exact Or.inl rfl | exact Or.inr rfl) (pe_ix (ixK K rfl) (pv 0) pe_int (fun _ _ => rfl))) (pss_cons (ps_if (PW.pt (pw_or (pt_not (pt_val (pe_callB (isiK K rfl) rfl T.b_isinstance bo_isinstance (pa_cons (pv 1) (pa_cons (pe_bltn (v := .ty "tuple") rfl T.b_tuple bo_tuple rfl) pa_nil))))) (pw_or (pt_not (pt_chain op_le op_le pe_int (pe_callB (lenK K rfl) rfl T.b_len bo_len (pa_cons (pv 1) pa_nil)) (C8.pe_gc rfl T.g_MOST_HEADS))) (pw_or1 (pt_not (pt_val (pe_callB (allK K rfl rfl) rfl T.b_all bo_all (pa_cons (pe_lc (own := [("one", 2)]) rfl sc_need_language.nd (piTK K rfl (pv 1)) (blkOk_by (own := [("one", 2)]) (N := N_need_language) (sc := defScope s_need_language) (by decide +kernel)) (fun _ _ _ _ _ => (pg_name (i := 2) sc_need_language.nd rfl (by first | exact Or.inl rfl | exact Or.inr rfl))) (fun _ _ _ _ _ => pts_nil) (fun _ _ _ _ _ => (C8.pe_c C_is_head hr (by decide) rfl (pa_cons (pv 2) pa_nil)))) pa_nil)))))))) pss_never pss_nil) (pss_cons (ps_if (pt_not (pt_val (C8.pe_c C_is_whole hr (by decide) rfl (pa_cons (pe_ix (ixK K rfl) (pv 0) pe_int (fun _ _ => rfl)) (pa_cons pe_int (pa_cons (C8.pe_gc rfl T.g_MOST_NOTES) pa_nil)))))) pss_never pss_nil) (pss_cons (ps_if (pt_not (pt_val (C8.pe_c C_is_whole hr (by decide) rfl (pa_cons (pe_ix (ixK K rfl) (pv 0) pe_int (fun _ _ => rfl)) (pa_cons pe_int (pa_cons (C8.pe_gc rfl T.g_MOST_MOMENTS) pa_nil)))))) pss_never pss_nil) (pss_one (ps_ret (pv 0)))))))), .inl ?_⟩
    walk_at "norm"
    obtain ⟨L, g, rfl, rfl⟩ := h
    have g1 := g.h1
    have g4 := g.h4
    walk_at "skip"
    walk_at "set"
    (with_reducible apply bs_skip)
    · (with_reducible apply ct_or)
      · walk_at "ct"
      · intro _
        (with_reducible apply ct_or)
        · walk_at "ct"
        · intro _
          (with_reducible apply ct_not)
          (with_reducible apply ct_B)
          (with_reducible apply cm_cb)
          · (with_reducible apply ca_cons)
            · refine cm_lcb (as := L.heads) (fun p => .d (eHead p)) (fun _ => true) (ci_tupM eHead (cm_var rfl) rfl) (by omega) fun p hp => ⟨_, [2], by simp, cg_name, ?_⟩
              have hp := g.hd p hp
              have hp : okHead p := hp
              walk_at "cm"
            · exact ca_nil
          · exact cc_all
    · focus (simp [eL, eHead]; omega)
    · (with_reducible apply bs_skip)
      · walk_at "ct"
      · have := g.n1
        have := g.n4
        walk_at "dec"
      (with_reducible apply bs_skip)
      · walk_at "ct"
      · have := g.m2
        walk_at "dec"
      walk_at "ret"
      rfl
end
end NW
/-! languages.py, further -/
namespace NW
open PySem PySem.Spec PyProof.Rows L2 StX NM
local macro_rules | `(tactic| walk_at "my") => `(tactic| fail)
local macro_rules | `(tactic| walk_at "mycm") => `(tactic| fail)
local macro_rules | `(tactic| walk_at "myco") => `(tactic| fail)
local macro_rules | `(tactic| walk_at "mycc") => `(tactic| fail)
local macro_rules | `(tactic| walk_at "sh") => `(tactic| first | assumption | exact sh_n | exact Sh.num | exact Sh.non | exact sh_role | exact Sh.text (by decide +kernel) | exact sh_ns | exact sh_s | exact sh_m | exact sh_o | exact sh_h | exact sh_t | exact sh_ss | exact sh_ms | exact sh_head | exact sh_L | exact sh_nil | (apply sh_cons <;> walk_at "sh"))
local macro_rules | `(tactic| walk_at "shs") => `(tactic| first | assumption | exact shs_nil | (apply shs_cons; walk_at "sh"; walk_at "shs"))
local macro_rules | `(tactic| walk_at "co") => `(tactic| first
  | ((with_reducible apply co_ixTe); exact rfl; exact rfl)
  | ((with_reducible exact co_ixDl))
  | ((with_reducible apply co_ixL); exact rfl)
  | (with_reducible exact co_lt) | (with_reducible exact co_le) | (with_reducible exact co_gt) | (with_reducible exact co_ge) | (with_reducible exact co_sub)
  | (with_reducible exact co_isN) | (with_reducible exact co_isNotN)
  | ((with_reducible apply co_eq) <;> walk_at "sh") | ((with_reducible apply co_ne) <;> walk_at "sh")
  | (with_reducible exact co_add)
  | ((with_reducible apply co_inTe); exact rfl; walk_at "sh"; walk_at "shs")
  | walk_at "myco")
local macro_rules | `(tactic| walk_at "cc") => `(tactic| first
  | ((with_reducible apply cc_lenTe); exact rfl) | (with_reducible exact cc_lenL) | (with_reducible exact cc_all) | (with_reducible exact cc_any) | (with_reducible exact cc_tuple) | (with_reducible exact cc_intI)
  | (with_reducible exact cc_intB) | (with_reducible exact cc_min2) | (with_reducible exact cc_listT)
  | ((with_reducible apply cc_isi); first | exact isi_int rfl | exact isi_bool | exact isi_tuple rfl | exact isi_str rfl)
  | walk_at "mycc")
local macro_rules | `(tactic| walk_at "ca") => `(tactic| first
  | (with_reducible exact ca_nil)
  | ((with_reducible apply ca_cons); walk_at "cm"; walk_at "ca"))
local macro_rules | `(tactic| walk_at "cad") => `(tactic| first
  | (with_reducible exact cad_nil)
  | ((with_reducible apply cad_cons); walk_at "cm"; walk_at "cad")
  | ((with_reducible apply cad_starE); walk_at "cm"; exact rfl; walk_at "cad"))
local macro_rules | `(tactic| walk_at "cm") => `(tactic| first
  | ((with_reducible apply cm_var); exact rfl)
  | (with_reducible exact cm_int) | (with_reducible exact cm_str) | (with_reducible exact cm_non) | (with_reducible exact cm_bl)
  | ((with_reducible apply cm_op); walk_at "cm"; walk_at "cm"; walk_at "co")
  | ((with_reducible apply cm_tupD); walk_at "cad"; walk_at "size")
  | ((with_reducible apply cm_neg); walk_at "cm")
  | ((with_reducible apply cm_call); walk_at "ca"; walk_at "my")
  | walk_at "mycm"
  | ((with_reducible apply cm_cb); walk_at "ca"; walk_at "cc")
  | ((with_reducible apply cm_chain); walk_at "cm"; walk_at "cm"; walk_at "co"; (intro _; walk_at "cm"); walk_at "co")
  | ((with_reducible apply cm_andVF); walk_at "cm"; walk_at "dec0")
  | ((with_reducible apply cm_orVT); walk_at "cm"; walk_at "dec0")
  | ((with_reducible apply cm_ifT); walk_at "ct"; walk_at "dec"; walk_at "cm")
  | ((with_reducible apply cm_ifF); walk_at "ct"; walk_at "dec"; walk_at "cm")
  | ((with_reducible apply cm_andV); walk_at "cm"; (intro _; walk_at "cm"))
  | ((with_reducible apply cm_orV); walk_at "cm"; (intro _; walk_at "cm"))
  | ((with_reducible apply cm_notV); walk_at "cm")
  | (with_reducible exact cm_val))
local macro_rules | `(tactic| walk_at "ct") => `(tactic| first
  | ((with_reducible apply ct_test); walk_at "cm") | ((with_reducible apply ct_B); walk_at "cm") | ((with_reducible apply ct_not); walk_at "ct")
  | ((with_reducible apply ct_andF); walk_at "ct"; walk_at "dec0")
  | ((with_reducible apply ct_orT); walk_at "ct"; walk_at "dec0")
  | ((with_reducible apply ct_and); walk_at "ct"; (intro _; walk_at "ct"))
  | ((with_reducible apply ct_or); walk_at "ct"; (intro _; walk_at "ct")))
local macro_rules | `(tactic| walk_at "size") => `(tactic| focus first | assumption | (simp; done) | (simp; omega) | omega)
local macro_rules | `(tactic| walk_at "dec0") => `(tactic| focus first | rfl | (simp [eHead, eL, eSs, eMs, eS, eM, eT, eN, eNs, eH, eO, rN]; done))
local macro_rules | `(tactic| walk_at "dec") => `(tactic| focus first | rfl | (simp [eHead, eL, eSs, eMs, eS, eM, eT, eN, eNs, eH, eO, rN]; done) | (simp [eHead, eL, eSs, eMs, eS, eM, eT, eN, eNs, eH, eO, rN]; omega) | (simp [eHead, eL, eSs, eMs, eS, eM, eT, eN, eNs, eH, eO, rN, *]; done))
local macro_rules | `(tactic| walk_at "skip") => `(tactic| ((with_reducible apply bs_skip); walk_at "ct"; walk_at "dec"))
local macro_rules | `(tactic| walk_at "take") => `(tactic| (refine bs_seqR ?_; (with_reducible apply bs_ifT); walk_at "ct"; walk_at "dec"))
local macro_rules | `(tactic| walk_at "ret") => `(tactic| (refine bs_ret ?_; (with_reducible apply cm_is); walk_at "cm"))
local macro_rules | `(tactic| walk_at "set") => `(tactic| ((with_reducible apply bs_setS); walk_at "cm"))
local macro_rules | `(tactic| walk_at "drop") => `(tactic| ((with_reducible apply bs_dropS); walk_at "cm"))
local macro_rules | `(tactic| walk_at "norm") => `(tactic| skip)
local macro_rules | `(tactic| walk_at "less") => `(tactic| first | exact less_nil | (apply less_some; walk_at "less") | (apply less_none; walk_at "less"))
local macro_rules | `(tactic| walk_at "flat") => `(tactic| first | exact flat_nil | (refine flat_cons ?_ ?_; (first | exact trivial | exact rfl); walk_at "flat"))
theorem atI_map {α β : Type} (g : α → β) {as : List α} {h : Nat} (hh : h < as.length) : atI (as.map g) (h : Int) = some (g (as[h])) := atI_nat (by simp [hh])
section
variable {P : Program} {w : World} {K : Fg} {mg : Str → Option Value} {base : Heap}

/-! ### long_of -/
abbrev s_long_of : Stmt := top 23
abbrev N_long_of : List Str := ["language", "head"]
theorem sc_long_of : FnScope N_long_of ["language", "head"] (defScope s_long_of) := ⟨rfl, rfl, rfl, by decide +kernel, rfl, by decide +kernel, by decide +kernel⟩
def longH (L : Lang) : Option Nat → Nat
  | none => 0
  | some h => L.long h
def okH (L : Lang) (hd : Option Nat) : Prop := ∀ h, hd = some h → h < L.heads.length
def R_long_of : List W → W → Prop := fun ws w => ∃ L hd, okH L hd ∧ ws = [.d (eL L), .d (eH hd)] ∧ w = .d (eN (longH L hd))
theorem r_long_of {L : Lang} {hd : Option Nat} (h : okH L hd) : R_long_of [.d (eL L), .d (eH hd)] (.d (eN (longH L hd))) := ⟨L, hd, h, rfl, rfl⟩
theorem ok_long_of (T : Txt K mg) (A : DefAt K mg "long_of" "long_of" s_long_of ["language", "head"]) : CalF P w K mg base 1 "long_of" R_long_of := by
  refine calF A sc_long_of (fun ws u h => ?_) (fun f cdv A outer s H E ws u hr h => ?_)
  · obtain ⟨L, hd, _, rfl, _⟩ := h; rfl
  · refine ⟨_, (pss_one (ps_ret (pe_ifExp (pt_cmpR (eqK K rfl hr) (pv 1) (pe_un un_neg pe_int) (nomark _)) pe_int (pe_ix (ixK K rfl) (pe_ix (ixK K rfl) (pe_ix (ixK K rfl) (pv 0) pe_int (fun _ _ => rfl)) (pv 1) (fun _ _ => rfl)) pe_int (fun _ _ => rfl))))), .inl ?_⟩
    walk_at "norm"
    obtain ⟨L, hd, hh, rfl, rfl⟩ := h
    cases hd with
    | none =>
      refine bs_ret ?_
      (with_reducible apply cm_ifT)
      · walk_at "ct"
      · rfl
      · (with_reducible apply cm_is)
        · walk_at "cm"
        · rfl
    | some h =>
      have hl := hh h rfl
      refine bs_ret ?_
      (with_reducible apply cm_ifF)
      · walk_at "ct"
      · walk_at "dec"
      · (with_reducible apply cm_is)
        · (with_reducible apply cm_op)
          · (with_reducible apply cm_op)
            · walk_at "cm"
            · walk_at "cm"
            · exact co_ixTe rfl (atI_map eHead hl)
          · walk_at "cm"
          · walk_at "co"
        · simp only [longH, long_mem hl]

/-! ### signs_of -/
local macro_rules | `(tactic| walk_at "my") => `(tactic| first | exact r_is_whole | exact r_is_whole0 | exact r_need_language (by assumption))
abbrev s_signs_of : Stmt := top 24
abbrev N_signs_of : List Str := ["language", "found", "number"]
theorem sc_signs_of : FnScope N_signs_of ["language"] (defScope s_signs_of) := ⟨rfl, rfl, rfl, by decide +kernel, rfl, by decide +kernel, by decide +kernel⟩
def R_signs_of : List W → W → Prop := fun ws w => ∃ L, Good L ∧ ws = [.d (eL L)] ∧ w = .l ((signs L).map eS)
theorem r_signs_of {L : Lang} (g : Good L) : R_signs_of [.d (eL L)] (.l ((signs L).map eS)) := ⟨L, g, rfl, rfl⟩
theorem ok_signs_of (T : Txt K mg) (A : DefAt K mg "signs_of" "signs_of" s_signs_of ["language"]) : CalF P w K mg base 1 "signs_of" R_signs_of := by
  refine calF A sc_signs_of (fun ws u h => ?_) (fun f cdv A outer s H E ws u hr h => ?_)
  · obtain ⟨L, _, rfl, _⟩ := h; rfl
  · refine ⟨_, (pss_cons (ps_setLc (i := 1) (own := [("number", 2)]) rfl sc_signs_of.nd rfl rfl (sw_true rfl rfl rfl (by decide +kernel)) (pi_range1 rfl T.b_range (pa_cons (pe_callB (lenK K rfl) rfl T.b_len bo_len (pa_cons (pe_ix (ixK K rfl) (pv 0) pe_int (fun _ _ => rfl)) pa_nil)) pa_nil)) (blkOk_by (own := [("number", 2)]) (N := N_signs_of) (sc := defScope s_signs_of) (by decide +kernel)) (fun _ _ _ _ _ => (pg_name (i := 2) sc_signs_of.nd rfl (by first | exact Or.inl rfl | exact Or.inr rfl))) (fun _ _ _ _ _ => pts_nil) (fun _ _ _ _ _ => (pe_tup (pa_cons (C8.pe_gc rfl T.g_HEAD) (pa_cons (pv 2) pa_nil))))) (pss_cons (ps_set (i := 1) sc_signs_of.nd rfl (by first | exact Or.inl rfl | exact Or.inr rfl) (pe_op (addK K rfl) (pv 1) (pe_lc (own := [("number", 2)]) rfl sc_signs_of.nd (pi_range1 rfl T.b_range (pa_cons (pe_ix (ixK K rfl) (pv 0) pe_int (fun _ _ => rfl)) pa_nil)) (blkOk_by (own := [("number", 2)]) (N := N_signs_of) (sc := defScope s_signs_of) (by decide +kernel)) (fun _ _ _ _ _ => (pg_name (i := 2) sc_signs_of.nd rfl (by first | exact Or.inl rfl | exact Or.inr rfl))) (fun _ _ _ _ _ => pts_nil) (fun _ _ _ _ _ => (pe_tup (pa_cons (C8.pe_gc rfl T.g_MOMENT) (pa_cons (pv 2) pa_nil))))))) (pss_one (ps_ret (pe_op (addK K rfl) (pv 1) (pe_lc (own := [("number", 2)]) rfl sc_signs_of.nd (pi_range1 rfl T.b_range (pa_cons (pe_ix (ixK K rfl) (pv 0) pe_int (fun _ _ => rfl)) pa_nil)) (blkOk_by (own := [("number", 2)]) (N := N_signs_of) (sc := defScope s_signs_of) (by decide +kernel)) (fun _ _ _ _ _ => (pg_name (i := 2) sc_signs_of.nd rfl (by first | exact Or.inl rfl | exact Or.inr rfl))) (fun _ _ _ _ _ => pts_nil) (fun _ _ _ _ _ => (pe_tup (pa_cons (C8.pe_gc rfl T.g_VALUE) (pa_cons (pv 2) pa_nil)))))))))), .inl ?_⟩
    walk_at "norm"
    obtain ⟨L, g, rfl, rfl⟩ := h
    have g4 := g.h4
    have n4 := g.n4
    have m2 := g.m2
    refine bs_setS (w := .l ((List.range L.heads.length).map fun i => eS (.head i))) ?_ ?_
    · refine cm_lcm (as := List.range L.heads.length) (fun i => .d (eN i)) (fun i => eS (.head i)) (ci_range (n := L.heads.length) (ca_cons (cm_is (by walk_at "cm") (by simp)) ca_nil) (by omega)) (by simp; omega) fun i hi => ⟨_, [2], by simp, cg_name, ?_⟩
      (with_reducible apply cm_is)
      · walk_at "cm"
      · rfl
    refine bs_setS (w := .l (((List.range L.heads.length).map fun i => eS (.head i)) ++ (List.range L.moments).map fun i => eS (.moment i))) ?_ ?_
    · refine cm_op (cm_var rfl) ?_ (co_addL (by simp; omega))
      refine cm_lcm (as := List.range L.moments) (fun i => .d (eN i)) (fun i => eS (.moment i)) (ci_range (n := L.moments) (ca_cons (cm_is (by walk_at "cm") rfl) ca_nil) (by omega)) (by simp; omega) fun i hi => ⟨_, [2], by simp, cg_name, ?_⟩
      (with_reducible apply cm_is)
      · walk_at "cm"
      · rfl
    refine bs_ret ?_
    refine cm_is (w' := .l ((((List.range L.heads.length).map fun i => eS (.head i)) ++ (List.range L.moments).map fun i => eS (.moment i)) ++ (List.range L.notes).map fun i => eS (.value i))) ?_ ?_
    · refine cm_op (cm_var rfl) ?_ (co_addL (by simp; omega))
      refine cm_lcm (as := List.range L.notes) (fun i => .d (eN i)) (fun i => eS (.value i)) (ci_range (n := L.notes) (ca_cons (cm_is (by walk_at "cm") rfl) ca_nil) (by omega)) (by simp; omega) fun i hi => ⟨_, [2], by simp, cg_name, ?_⟩
      (with_reducible apply cm_is)
      · walk_at "cm"
      · rfl
    · simp [NM.signs, List.map_append, List.map_map, Function.comp_def]

/-! ### is_sign -/
local macro_rules | `(tactic| walk_at "my") => `(tactic| first | exact r_is_whole | exact r_is_whole0 | exact r_need_language (by assumption) | exact r_signs_of (by assumption))
abbrev s_is_sign : Stmt := top 25
abbrev N_is_sign : List Str := ["language", "thing"]
theorem sc_is_sign : FnScope N_is_sign ["language", "thing"] (defScope s_is_sign) := ⟨rfl, rfl, rfl, by decide +kernel, rfl, by decide +kernel, by decide +kernel⟩
def R_is_sign : List W → W → Prop := fun ws w => ∃ L s, Good L ∧ L.ok s ∧ ws = [.d (eL L), .d (eS s)] ∧ w = .b true
theorem r_is_sign {L : Lang} {s : NM.Sign} (g : Good L) (h : L.ok s) : R_is_sign [.d (eL L), .d (eS s)] (.b true) := ⟨L, s, g, h, rfl, rfl⟩
theorem sh_signs {xs : List NM.Sign} : ∀ d ∈ xs.map eS, Sh 8 d := fun d hd => by
  obtain ⟨s, _, rfl⟩ := List.mem_map.mp hd
  exact sh_s
local macro_rules | `(tactic| walk_at "myco") => `(tactic| exact co_inL sh_s sh_signs)
theorem ok_is_sign (T : Txt K mg) (A : DefAt K mg "is_sign" "is_sign" s_is_sign ["language", "thing"]) (C_is_whole : CalF P w K mg base 1 "is_whole" R_is_whole) (C_signs_of : CalF P w K mg base 1 "signs_of" R_signs_of) : CalF P w K mg base 2 "is_sign" R_is_sign := by
  refine calF A sc_is_sign (fun ws u h => ?_) (fun f cdv A outer s H E ws u hr h => ?_)
  · obtain ⟨L, s, _, _, rfl, _⟩ := h; rfl
  · refine ⟨_, (pss_cons (ps_if (PW.pt (pw_or (pt_not (pt_val (pe_callB (isiK K rfl) rfl T.b_isinstance bo_isinstance (pa_cons (pv 1) (pa_cons (pe_bltn (v := .ty "tuple") rfl T.b_tuple bo_tuple rfl) pa_nil))))) (pw_or (pt_cmpR (neK K rfl hr) (pe_callB (lenK K rfl) rfl T.b_len bo_len (pa_cons (pv 1) pa_nil)) pe_int (nomark _)) (pw_or1 (pt_not (pt_val (pe_callB (isiK K rfl) rfl T.b_isinstance bo_isinstance (pa_cons (pe_ix (ixK K rfl) (pv 1) pe_int (fun _ _ => rfl)) (pa_cons (pe_bltn (v := .ty "str") rfl T.b_str bo_str rfl) pa_nil))))))))) (pss_one (ps_ret pe_bl)) pss_nil) (pss_one (ps_ret (pe_and (C8.pe_c C_is_whole hr (by decide) rfl (pa_cons (pe_ix (ixK K rfl) (pv 1) pe_int (fun _ _ => rfl)) (pa_cons pe_int (pa_cons pe_non pa_nil)))) (pe_one (pe_cmpR (inK K rfl hr) (pv 1) (C8.pe_c C_signs_of hr (by decide) rfl (pa_cons (pv 0) pa_nil)) rfl)))))), .inl ?_⟩
    walk_at "norm"
    obtain ⟨L, s, g, hs, rfl, rfl⟩ := h
    have hm := mem_signs.mpr hs
    have hm2 : eS s ∈ (signs L).map eS := List.mem_map_of_mem hm
    cases s
    all_goals
      walk_at "skip"
      walk_at "ret"
      simp only [hm2, decide_true]
      simp

/-! ### are_values -/
abbrev s_are_values : Stmt := top 27
abbrev N_are_values : List Str := ["language", "thing", "many", "one"]
theorem sc_are_values : FnScope N_are_values ["language", "thing", "many"] (defScope s_are_values) := ⟨rfl, rfl, rfl, by decide +kernel, rfl, by decide +kernel, by decide +kernel⟩
def R_are_values : List W → W → Prop := fun ws w => ∃ L vs, (∀ v ∈ vs, v < L.notes) ∧ vs.length ≤ 1000 ∧ ws = [.d (eL L), .d (eNs vs), .d (eN vs.length)] ∧ w = .b true
theorem r_are_values {L : Lang} {vs : List Nat} {k : Nat} (h : ∀ v ∈ vs, v < L.notes) (h2 : vs.length ≤ 1000) (e : k = vs.length) : R_are_values [.d (eL L), .d (eNs vs), .d (eN k)] (.b true) := ⟨L, vs, h, h2, by rw [e], rfl⟩
theorem ok_are_values (T : Txt K mg) (A : DefAt K mg "are_values" "are_values" s_are_values ["language", "thing", "many"]) (C_is_whole : CalF P w K mg base 1 "is_whole" R_is_whole) : CalF P w K mg base 2 "are_values" R_are_values := by
  refine calF A sc_are_values (fun ws u h => ?_) (fun f cdv A outer s H E ws u hr h => ?_)
  · obtain ⟨L, s, _, _, rfl, _⟩ := h; rfl
  · refine ⟨_, (pss_cons (ps_if (PW.pt (pw_or (pt_not (pt_val (pe_callB (isiK K rfl) rfl T.b_isinstance bo_isinstance (pa_cons (pv 1) (pa_cons (pe_bltn (v := .ty "tuple") rfl T.b_tuple bo_tuple rfl) pa_nil))))) (pw_or1 (pt_cmpR (neK K rfl hr) (pe_callB (lenK K rfl) rfl T.b_len bo_len (pa_cons (pv 1) pa_nil)) (pv 2) (nomark _))))) (pss_one (ps_ret pe_bl)) pss_nil) (pss_one (ps_ret (pe_callB (allK K rfl rfl) rfl T.b_all bo_all (pa_cons (pe_lc (own := [("one", 3)]) rfl sc_are_values.nd (piTK K rfl (pv 1)) (blkOk_by (own := [("one", 3)]) (N := N_are_values) (sc := defScope s_are_values) (by decide +kernel)) (fun _ _ _ _ _ => (pg_name (i := 3) sc_are_values.nd rfl (by first | exact Or.inl rfl | exact Or.inr rfl))) (fun _ _ _ _ _ => pts_nil) (fun _ _ _ _ _ => (C8.pe_c C_is_whole hr (by decide) rfl (pa_cons (pv 3) (pa_cons pe_int (pa_cons (pe_op op_sub (pe_ix (ixK K rfl) (pv 0) pe_int (fun _ _ => rfl)) pe_int) pa_nil)))))) pa_nil))))), .inl ?_⟩
    walk_at "norm"
    obtain ⟨L, vs, hv, hl, rfl, rfl⟩ := h
    walk_at "skip"
    refine bs_ret ?_
    refine cm_is (w' := .b ((vs.map fun _ => true).all id)) ?_ (by simp)
    refine cm_cb (ca_cons (cm_lcb (as := vs) (fun v => .d (eN v)) (fun _ => true) (ci_tupM eN (cm_var rfl) rfl) (by omega) fun v hvm => ⟨_, [3], by simp, cg_name, ?_⟩) ca_nil) cc_all
    have hlt := hv v hvm
    (with_reducible apply cm_is)
    · walk_at "cm"
    · walk_at "dec"

/-! ### is_message -/
abbrev s_is_message : Stmt := top 28
abbrev N_is_message : List Str := ["language", "value"]
theorem sc_is_message : FnScope N_is_message ["language", "value"] (defScope s_is_message) := ⟨rfl, rfl, rfl, by decide +kernel, rfl, by decide +kernel, by decide +kernel⟩
def R_is_message : List W → W → Prop := fun ws w => ∃ L m, Good L ∧ GoodM L m ∧ ws = [.d (eL L), .d (eM m)] ∧ w = .b true
theorem r_is_message {L : Lang} {m : Msg} (g : Good L) (h : GoodM L m) : R_is_message [.d (eL L), .d (eM m)] (.b true) := ⟨L, m, g, h, rfl, rfl⟩
theorem ok_is_message (T : Txt K mg) (A : DefAt K mg "is_message" "is_message" s_is_message ["language", "value"]) (C_is_whole : CalF P w K mg base 1 "is_whole" R_is_whole) (C_are_values : CalF P w K mg base 2 "are_values" R_are_values)
    (C_need_language : CalF P w K mg base 3 "need_language" R_need_language) : CalF P w K mg base 4 "is_message" R_is_message := by
  refine calF A sc_is_message (fun ws u h => ?_) (fun f cdv A outer s H E ws u hr h => ?_)
  · obtain ⟨L, s, _, _, rfl, _⟩ := h; rfl
  · refine ⟨_, (pss_cons (ps_expr (C8.pe_c C_need_language hr (by decide) rfl (pa_cons (pv 0) pa_nil))) (pss_cons (ps_if (PW.pt (pw_or (pt_not (pt_val (pe_callB (isiK K rfl) rfl T.b_isinstance bo_isinstance (pa_cons (pv 1) (pa_cons (pe_bltn (v := .ty "tuple") rfl T.b_tuple bo_tuple rfl) pa_nil))))) (pw_or (pt_cmpR (neK K rfl hr) (pe_callB (lenK K rfl) rfl T.b_len bo_len (pa_cons (pv 1) pa_nil)) pe_int (nomark _)) (pw_or1 (pt_not (pt_val (C8.pe_c C_is_whole hr (by decide) rfl (pa_cons (pe_ix (ixK K rfl) (pv 1) pe_int (fun _ _ => rfl)) (pa_cons pe_int (pa_cons (pe_op op_sub (pe_callB (lenK K rfl) rfl T.b_len bo_len (pa_cons (pe_ix (ixK K rfl) (pv 0) pe_int (fun _ _ => rfl)) pa_nil)) pe_int) pa_nil)))))))))) (pss_one (ps_ret pe_bl)) pss_nil) (pss_one (ps_ret (C8.pe_c C_are_values hr (by decide) rfl (pa_cons (pv 0) (pa_cons (pe_ix (ixK K rfl) (pv 1) pe_int (fun _ _ => rfl)) (pa_cons (pe_ix (ixK K rfl) (pe_ix (ixK K rfl) (pe_ix (ixK K rfl) (pv 0) pe_int (fun _ _ => rfl)) (pe_ix (ixK K rfl) (pv 1) pe_int (fun _ _ => rfl)) (fun _ _ => rfl)) pe_int (fun _ _ => rfl)) pa_nil)))))))), .inl ?_⟩
    walk_at "norm"
    obtain ⟨L, m, g, gm, rfl, rfl⟩ := h
    have h1 := gm.hl
    have h2 := gm.ln
    have h3 := g.long_le m.1
    walk_at "drop"
    walk_at "skip"
    refine bs_ret ?_
    (with_reducible apply cm_call)
    · (with_reducible apply ca_cons)
      · walk_at "cm"
      · (with_reducible apply ca_cons)
        · walk_at "cm"
        · (with_reducible apply ca_cons)
          · (with_reducible apply cm_op)
            · (with_reducible apply cm_op)
              · walk_at "cm"
              · walk_at "cm"
              · exact co_ixTe rfl (atI_map eHead h1)
            · walk_at "cm"
            · walk_at "co"
          · exact ca_nil
    · exact r_are_values gm.vs (by omega) (by rw [h2, long_mem h1])
end
end NW
/-! enumerate of a tuple. -/
namespace PySem
open Sem (wp)
open AutoSeq1 (wpAny_loadPart')
theorem nwEnumNew (tp : Addr) (vs : Array Value) (nn : Nat) (dc : Option Addr) (sl : Array (Option Value)) :
    Meets (Builtin.«enumerate.__new__» ⟨[.type "enumerate", .ref tp], []⟩) (fun _ R s =>
      s.heap.get? tp = some { cls := .type "tuple", dict := dc, data := .seq vs nn, slots := sl } ∧
      R (.ok (.ret (.ref (s.heap.push { cls := .type "tuple_iterator", data := .fields #[.ref tp, .int 0 0] }).objs.size)))
        { s with heap := (s.heap.push { cls := .type "tuple_iterator", data := .fields #[.ref tp, .int 0 0] }).push { cls := .type "enumerate", data := .fields #[.none, .bool false, .ref s.heap.objs.size, rawInt 0, .none, .none] } }) :=
  .of_wp fun prog w A R s q => by
    obtain ⟨hh, gg, dd, tk, oo⟩ := s
    obtain ⟨ht, q⟩ := q
    have hsb := sub_enumerate
    have hT : Heap.IsTuple (Shared.heap ⟨hh, gg, dd, tk, oo⟩) tp vs := ⟨_, ht, rfl, nn, rfl⟩
    wp_walk using wpAny_loadPart' ht
    refine wpAny_stack_any fun stk => wpAny_pure ?_
    split
    · rename_i cc _ _ _ _ _
      cases (cc == Value.type "enumerate")
      all_goals
        wp_walk using wpAny_loadPart' ht, wpAny_pyIter_tuple hT
        exact ⟨_, rfl, q⟩
    · wp_walk using wpAny_loadPart' ht, wpAny_pyIter_tuple hT
      exact ⟨_, rfl, q⟩
theorem nwCallEnum {prog : Program} {w : World} {A : Around} {E : Value → Shared → Prop} {s : Shared} {tp : Addr} {vs : Array Value} {Q : Value → Shared → Prop} (hT : s.heap.IsTuple tp vs)
    (q : ∀ h2, IsEnum h2 (s.heap.objs.size + 1) s.heap.objs.size 0 .none → h2.IsTupleIter s.heap.objs.size tp 0 →
      (∀ b o, s.heap.get? b = some o → h2.get? b = some o) → Q (.ref (s.heap.objs.size + 1)) { s with heap := h2 }) :
    wpAny (model prog w) A (call (.type "enumerate") [.ref tp]) Q E s := by
  obtain ⟨⟨cl, dc, dt, sl⟩, ht, e1, nn, e2⟩ := hT
  have e1' : cl = .type "tuple" := e1
  have e2' : dt = .seq vs nn := e2
  subst e1' e2'
  refine callType_new F.called_enumerate (by decide) (F.typeCall_enumerate_1 _) (F.newCall_enumerate_1 _)
    (fun ob => F.args_object_init_2 ob _) F.entry_enumerate_new (nwEnumNew tp vs nn dc sl) ⟨ht, ?_⟩
  generalize hp1 : s.heap.push { cls := .type "tuple_iterator", data := .fields #[.ref tp, .int 0 0] } = h1
  have z1 : h1.objs.size = s.heap.objs.size + 1 := by
    rw [← hp1]
    exact Heap.size_push ..
  have i1 : h1.get? s.heap.objs.size = some { cls := .type "tuple_iterator", data := .fields #[.ref tp, .int 0 0] } := by
    rw [← hp1]
    exact Heap.get?_push_size _ rfl
  have k1 : ∀ b o, s.heap.get? b = some o → h1.get? b = some o := fun b o x => by
    rw [← hp1]
    exact Heap.get?_push_of_some _ x
  show _ ∧ _
  rw [z1]
  have he := Heap.get?_push_size h1 (o := { cls := .type "enumerate", data := .fields #[.none, .bool false, .ref s.heap.objs.size, rawInt 0, .none, .none] }) rfl
  rw [z1] at he
  exact ⟨⟨_, he, rfl⟩, q _ he ⟨{ cls := .type "tuple_iterator", data := .fields #[.ref tp, .int 0 0] }, Heap.get?_push_of_some _ i1, rfl, rfl⟩ fun b o x => Heap.get?_push_of_some _ (k1 b o x)⟩
end PySem
namespace NW
open PySem PySem.Spec PyProof.Rows L2 StX
/-- the items of the tuple at a, each with its number, in new pairs -/
def ItEn (K : Fg) (a : Addr) : It where
  go := fun i H => ∃ xs x, SqT K H a xs ∧ xs[i]? = some x
  yld := fun i H v H2 => ∃ T x, v = .ref T ∧ H T = none ∧ H2 = upd H T (.tup [.int (i : Nat), x]) ∧ ∀ xs, SqT K H a xs → xs[i]? = some x
  stop := fun i H => ∃ xs, SqT K H a xs ∧ xs.length = i
theorem turnEn {P : Program} {w : World} {K : Fg} {elts : List Expr} {kk : Nat} {tpos : Pos} (a e it : Addr) :
    Turn P w K (.Tuple elts kk tpos) (ItEn K a) [e, it] e (fun i h => (∃ old, IsEnum h e it ((i : Nat) : Int) old) ∧ h.IsTupleIter it a i ∧ e ≠ it ∧ a ≠ it ∧ a ≠ e) where
  mem := List.mem_cons_self
  obj := fun i h st b hb => by
    obtain ⟨⟨old, he⟩, ⟨o, ho, _, hd⟩, _⟩ := st
    simp at hb
    rcases hb with rfl | rfl
    · exact ⟨_, he, fun v q => nomatch q⟩
    · refine ⟨o, ho, fun v q => ?_⟩
      rw [hd] at q
      cases q
  keep := fun i h h2 st k => by
    obtain ⟨⟨old, he⟩, hi, n1, n2⟩ := st
    exact ⟨⟨old, k e (by simp) _ he⟩, hi.at fun o q => k it (by simp) o q, n1, n2⟩
  item := by
    rintro X rfl rfl rfl hc i pins s σ H E I hf ⟨⟨old, he⟩, hit, n1, n2, n3⟩ ⟨xs, x, hq, hx⟩
    obtain ⟨us, rv, p, _⟩ := I.tuple hq
    obtain ⟨u, hu, ru⟩ := rv.get hx
    have le := Heap.lt_size he
    have li : it < s.heap.objs.size := by
      obtain ⟨_, q, _⟩ := hit
      exact Heap.lt_size q
    have pt : s.heap.IsTuple a us.toArray := p
    have lt : i < us.toArray.size := by
      have := (List.getElem?_eq_some_iff.mp hu).1
      simpa using this
    refine wpAny_pyNext_enum_itemD (Draws.tuple (A := X.A.in1) (show X.A.in1.handled = none from I.ok.hd hc) it a n2 us.toArray) he ⟨hit, pt⟩ lt n1 (by simp [n1, n3.symm]) fun y h2 tk hy ho st2 hT _ hk => ?_
    have ey : y = u := by
      have h3 : us.toArray[i]? = some u := by simpa using hu
      rw [h3] at hy
      exact (Option.some.inj hy).symm
    subst ey
    refine ⟨_, rfl, wpAny_letOwnedTupleGo_enum (s := { s with heap := h2, toks := tk + 1 }) ho fun h3 he3 sb => ?_⟩
    have hT3 := (sb.2 _ (Nat.ne_of_gt le)).trans hT
    have hnew : ObjOk X.prog X.w (upd H s.heap.objs.size (.tup [.int (i : Nat), x])) h3 s.heap.objs.size (.tup [.int (i : Nat), x]) :=
      ⟨by show 2 ≤ sizeLine; decide, [.int i tk, y], .cons ⟨_, rfl⟩ (.cons ru .nil), ⟨_, hT3, rfl, _, rfl⟩⟩
    have I2 := I.turnedNew (t' := tk + 1) (ch := [e, it]) (fun b ob hb q => (sb.2 b (fun z => hb (by simp [z]))).trans (hk b ob (fun z => hb (by simp [z])) (fun z => hb (by simp [z])) q)) hf (Nat.le_refl _) hnew
    refine ⟨.ref s.heap.objs.size, _, I2, rfl, ⟨_, x, rfl, I.hok.fresh (Nat.le_refl _), rfl, fun ys hy => by rw [I.tuple_inj hy hq]; exact hx⟩,
      ⟨⟨y, ?_⟩, st2.1.at fun o q => (sb.2 it n1.symm).trans q, n1, n2, n3⟩, fun b hb => ?_⟩
    · have e1 : ((i + 1 : Nat) : Int) = (i : Int) + 1 := by omega
      rw [e1]
      exact he3
    · have hb' : b < s.heap.objs.size := by
        have hb2 := hb
        simp at hb2
        rcases hb2 with rfl | rfl
        · exact le
        · exact li
      rw [upd_ne (Nat.ne_of_lt hb')]
      exact (hf b hb).1
  done := by
    rintro X rfl rfl rfl hc i pins s σ H E I hf ⟨⟨old, he⟩, hit, n1, n2, n3⟩ ⟨xs, hq, hx⟩
    obtain ⟨us, rv, p, _⟩ := I.tuple hq
    obtain ⟨f0, f1, f2, f3, f4, f5⟩ := hf it (by simp)
    have hl := rv.length
    have pt : s.heap.IsTuple a us.toArray := p
    have ei : i = us.toArray.size := by simp; omega
    subst ei
    exact wpAny_pyNext_enum_endD (Draws.tuple (A := X.A.in1) (show X.A.in1.handled = none from I.ok.hd hc) it a n2 us.toArray) he ⟨hit, pt⟩ fun h2 eb =>
      ⟨rfl, I.turned (t' := s.toks) (fun b o hb q => eb b o hb q) f0 f1 f3 f4 f5⟩
  self := fun A i s Q E st h => by
    obtain ⟨⟨_, he⟩, _⟩ := st
    exact wpAny_pyIter_enum he h
def iEn (K : Fg) (ta : TA) : TI := fun σ H R => ta σ H fun vs H1 => ∃ a xs, vs = [.ref a] ∧ SqT K H1 a xs ∧ R (ItEn K a) H1
theorem pi_enumT {X : Cx} (K : Fg) (hK : X.K = K) {e : Expr} {ta : TA} {p pos tpos : Pos} {elts : List Expr} {kk : Nat} (hg : Gl X "enumerate") (hm : X.mg "enumerate" = none) (ha : PA X [e] ta)
    (hs : starEach [e] X.env = [(false, eval e X.env)] := by rfl) : PI X (.Tuple elts kk tpos) (.Call (.Name "enumerate" p) [e] [] pos) (iEn K ta) := by
  subst hK
  refine ⟨fun pins s σ H R I h => Call_ (ld_blt I hg hm boot_enumerate (PyProof.Rows.callWith_type1 (thn (ha.run pos pins s σ H _ I h) ?_) hs rfl))⟩
  rintro us s1 ⟨vs, H1, I1, r1, a, xs, rfl, hq, q⟩
  cases r1 with
  | cons ra rb =>
    cases rb
    cases ra
    obtain ⟨its, rv, pt, _⟩ := I1.tuple hq
    have la : a < s1.heap.objs.size := by
      obtain ⟨o, ho, _⟩ := id pt
      exact Heap.lt_size ho
    refine nwCallEnum (show s1.heap.IsTuple a its.toArray from pt) fun h2 he hit hk => wpAny_pyIter_enum he ?_
    have I2 : Inv X pins σ H1 { s1 with heap := h2 } := I1.kept (t' := s1.toks) hk
    refine ⟨s1.heap.objs.size + 1, [s1.heap.objs.size + 1, s1.heap.objs.size], _, _, H1, rfl, I2, turnEn a _ _, ⟨⟨.none, he⟩, hit, Nat.succ_ne_self _, Nat.ne_of_lt la, Nat.ne_of_lt (Nat.lt_succ_of_lt la)⟩, fun b hb => ?_, q⟩
    have lb : s1.heap.objs.size ≤ b := by
      simp at hb
      rcases hb with rfl | rfl
      · exact Nat.le_succ _
      · exact Nat.le_refl _
    exact I1.fpOk lb (I1.hok.fresh lb)
/-- what such a walk gives -/
theorem ci_enumT {K : Fg} {r : Sl} {α : Type} {ta : TA} {a : D} {as : List α} (g : α → D) (h : CmA K ta r [.d a]) (e : a = .tup (as.map g)) : CmI K (iEn K ta) r ((List.range as.length).map fun i => .d (.tup [.num (i : Nat), (as[i]?.map g).getD .none])) := fun σ H R en q =>
  h σ H _ en fun xs H1 s1 r1 => by
    subst e
    obtain ⟨x, rfl, rx⟩ := one_inv r1
    obtain ⟨b, ys, rfl, ea, ra⟩ := Rp.tup_inv rx
    have hl := ra.length
    simp at hl
    refine ⟨b, ys, rfl, ea.sq, q _ H1 s1 fun H2 s2 => ?_⟩
    have t2 : SqT K H2 b ys := (show TupAt K H2 b ys from ea.elim (fun z => .inl (s2 _ _ z)) .inr).sq
    refine ⟨fun i hi => ⟨ys, ys[i]'(by simp at hi; omega), t2, by simp at hi ⊢⟩, ⟨ys, t2, by simp; omega⟩, fun i v H3 hi y => ?_⟩
    obtain ⟨T, x, rfl, hT, rfl, hx⟩ := y
    have hi' : i < as.length := by simpa using hi
    have k3 := Same.new (o := .tup [.int (i : Nat), x]) hT
    refine ⟨k3, .d (.tup [.num (i : Nat), g as[i]]), by simp [hi'], ?_⟩
    obtain ⟨x', h1, h2⟩ := ra.get (i := i) (d := g as[i]) (by simp [hi'])
    rw [hx ys t2] at h1
    cases h1
    exact .tup (.inl upd_same) (.cons (.int _) (.cons (Rp.keep (Keep.of (s2.trans k3)) _ _ h2) .nil))
end NW
/-! sorted(set(t)), zip of two tuples or two lists, enumerate of a list. -/
namespace NW
open PySem PySem.Spec PyProof.Rows L2 StX
/-- set(t), t a tuple of ints -/
def rSetT (K : Fg) (w : World) : List V → Hp → VK → Prop := fun xs H Q => ∃ (p : Addr) (ns : List Int), xs = [.ref p] ∧ SqT K H p (ns.map V.int) ∧ ns.length ≤ 50 ∧ ∀ a c, H a = none → c ≤ ns.length → Q (.ref a) (upd H a (SetO w a (fun j => decide (j ∈ ns)) c))
theorem setTK {X : Cx} (K : Fg) (w : World) (hK : X.K = K) (hw : X.w = w) (hc : X.calm = true) : CallR X (.type "set") (rSetT K w) := by
  subst hK hw
  rintro pins s σ H xs us Q I r ⟨p, ns, rfl, hq, hl, q⟩
  cases r with
  | cons r rr =>
    cases rr
    cases r
    obtain ⟨its, rv, pt, _⟩ := I.tuple hq
    refine call_set_tupI ns (I.ok.hd hc) (show s.heap.IsTuple p its.toArray from pt) (ints_of_vals rv) (by unfold scanBound; omega) fun h2 tk c R hcn k => ?_
    exact ⟨.ref s.heap.objs.size, _, I.laid (t' := tk) k (Nat.le_refl _) (setO_new R), rfl, q _ c (I.hok.fresh (Nat.le_refl _)) hcn⟩
theorem sortedSetK {X : Cx} (w : World) (hw : X.w = w) (hc : X.calm = true) : CallR X (.builtin "sorted") (rSortedSet w) := hw ▸ cr_sortedSet hc
theorem sorted_one : ∀ {as bs : List Int}, as.Pairwise (· < ·) → bs.Pairwise (· < ·) → (∀ k, k ∈ as ↔ k ∈ bs) → as = bs
  | [], [], _, _, _ => rfl
  | [], b :: bs, _, _, h => by
    have := (h b).mpr List.mem_cons_self
    cases this
  | a :: as, [], _, _, h => by
    have := (h a).mp List.mem_cons_self
    cases this
  | a :: as, b :: bs, ha, hb, h => by
    rw [List.pairwise_cons] at ha hb
    have e : a = b := by
      have h1 := (h a).mp List.mem_cons_self
      have h2 := (h b).mpr List.mem_cons_self
      rcases List.mem_cons.mp h1 with z | z
      · exact z
      · rcases List.mem_cons.mp h2 with y | y
        · exact y.symm
        · have := ha.1 b y
          have := hb.1 a z
          omega
    subst e
    congr 1
    refine sorted_one ha.2 hb.2 fun k => ?_
    have hk := h k
    rw [List.mem_cons, List.mem_cons] at hk
    constructor
    · intro m
      rcases hk.mp (.inr m) with z | z
      · have := ha.1 k m
        omega
      · exact z
    · intro m
      rcases hk.mpr (.inr m) with z | z
      · have := hb.1 k m
        omega
      · exact z
theorem cm_sortedSet {K : Fg} {w : World} {r : Sl} {ta : TE} {ns out : List Int} (h : Cm K ta r (.d (.tup (ns.map .num)))) (hl : ns.length ≤ 50) (ho : out.Pairwise (· < ·)) (hm : ∀ k, k ∈ out ↔ k ∈ ns) :
    Cm K (tCB (rSortedSet w) (tCons (tCB (rSetT K w) (tCons ta tNil)) tNil)) r (.l (out.map .num)) := fun σ H Q e q => by
  refine h σ H _ e fun x H1 s1 r1 => ?_
  obtain ⟨p, xs, rfl, ea, ra⟩ := Rp.tup_inv r1
  have ex := rpA_ints ra
  subst ex
  refine ⟨p, ns, rfl, ea.sq, hl, fun a c ha hc => ?_⟩
  refine ⟨a, _, c, rfl, upd_same, by omega, fun ns' p' h1 h2 h3 hp' => ?_⟩
  have e2 : ns' = out := sorted_one h1 ho fun k => by
    rw [h2 k, hm k]
    simp
  subst e2
  exact q _ _ ((s1.trans (Same.new ha)).trans (Same.new hp')) ⟨p', _, rfl, upd_same, rpA_ofInts _⟩
theorem cmI_is {K : Fg} {r : Sl} {wi : TI} {ws us : List W} (h : CmI K wi r ws) (e : ws = us) : CmI K wi r us := e ▸ h
/-! ### zip -/
def rZip (K : Fg) (ta : TA) : TI := RZ.iZipA K ta
theorem zipK {X : Cx} (K : Fg) (hK : X.K = K) {e e2 : Expr} {ta : TA} {p pos tpos : Pos} {elts : List Expr} {kk : Nat} (hg : Gl X "zip") (hm : X.mg "zip" = none) (ha : PA X [e, e2] ta)
    (hs : starEach [e, e2] X.env = (false, eval e X.env) :: starEach [e2] X.env := by rfl) (hp : (backTo pos (starEach [e2] X.env)).any (·.1) = false := by rfl) :
    PI X (.Tuple elts kk tpos) (.Call (.Name "zip" p) [e, e2] [] pos) (rZip K ta) := hK ▸ RZ.pi_zipA hg hm ha hs hp
theorem ci_zipT {K : Fg} {r : Sl} {ta : TA} {a b : D} {as bs : List D} (h : CmA K ta r [.d a, .d b]) (ea : a = .tup as) (eb : b = .tup bs) : CmI K (rZip K ta) r ((as.zip bs).map fun p => .d (.tup [p.1, p.2])) := fun σ H R en q =>
  h σ H _ en fun xs H1 s1 r1 => by
    subst ea eb
    obtain ⟨x, y, rfl, rx, ry⟩ := two_inv r1
    obtain ⟨a, us, rfl, ta', ra⟩ := Rp.tup_inv rx
    obtain ⟨b, vs, rfl, tb', rb⟩ := Rp.tup_inv ry
    have la := ra.length
    have lb := rb.length
    refine ⟨a, b, us, vs, rfl, .inr ⟨ta'.sq, tb'.sq, q _ H1 s1 fun H2 s2 => ?_⟩⟩
    have t2 : SqT K H2 a us := (show TupAt K H2 a us from ta'.elim (fun z => .inl (s2 _ _ z)) .inr).sq
    have t3 : SqT K H2 b vs := (show TupAt K H2 b vs from tb'.elim (fun z => .inl (s2 _ _ z)) .inr).sq
    refine ⟨fun i hi => ?_, ⟨us, vs, t2, t3, by simp; omega⟩, fun i v H3 hi yy => ?_⟩
    · have hi' : i < min as.length bs.length := by simpa using hi
      exact ⟨us, vs, us[i]'(by omega), vs[i]'(by omega), t2, t3, by simp, by simp⟩
    · have hi' : i < min as.length bs.length := by simpa using hi
      obtain ⟨T, x, y, rfl, hT, rfl, hx, hy⟩ := yy
      have k3 := Same.new (o := .tup [x, y]) hT
      have ha' : i < as.length := by omega
      have hb' : i < bs.length := by omega
      refine ⟨k3, .d (.tup [as[i], bs[i]]), ?_, ?_⟩
      · have hz : (as.zip bs)[i]? = some (as[i], bs[i]) := by
          rw [List.getElem?_eq_getElem (by simp; omega)]
          simp
        rw [List.getElem?_map, hz]
        rfl
      · obtain ⟨x', h1, h2⟩ := ra.get (i := i) (d := as[i]) (by simp [ha'])
        obtain ⟨y', h3, h4⟩ := rb.get (i := i) (d := bs[i]) (by simp [hb'])
        rw [hx us t2] at h1
        rw [hy vs t3] at h3
        cases h1
        cases h3
        exact .tup (.inl upd_same) (.cons (Rp.keep (Keep.of (s2.trans k3)) _ _ h2) (.cons (Rp.keep (Keep.of (s2.trans k3)) _ _ h4) .nil))
/-! ### enumerate of a list -/
theorem enumLK {X : Cx} (K : Fg) (hK : X.K = K) {e : Expr} {ta : TA} {p pos tpos : Pos} {elts : List Expr} {kk : Nat} (hg : Gl X "enumerate") (hm : X.mg "enumerate" = none) (ha : PA X [e] ta)
    (hs : starEach [e] X.env = [(false, eval e X.env)] := by rfl) : PI X (.Tuple elts kk tpos) (.Call (.Name "enumerate" p) [e] [] pos) (iEnum K ta) := hK ▸ pi_enum hg hm ha hs
end NW
/-! Bodies that fill a list of their own. -/
namespace NW
open PySem PySem.Spec PyProof.Rows L2 StX

/-! ### walks that lean on tuples alone -/
def ItOkK (K : Fg) (J : It) (H : Hp) (ws : List W) : Prop := ∀ H1, Keep H H1 → (∀ i, i < ws.length → J.go i H1) ∧ J.stop ws.length H1 ∧
  ∀ i x H2, i < ws.length → J.yld i H1 x H2 → Same H1 H2 ∧ ∃ w, ws[i]? = some w ∧ Rw K H2 x w
def CmIK (K : Fg) (wi : TI) (r : Sl) (ws : List W) : Prop := ∀ σ H R, EnvOk K r σ H → (∀ J H', Same H H' → ItOkK K J H' ws → R J H') → wi σ H R
section
variable {K : Fg} {r : Sl}
theorem TupAt.keep {H H1 : Hp} {a : Addr} {xs : List V} (k : Keep H H1) (t : TupAt K H a xs) : TupAt K H1 a xs := t.elim (fun q => .inl (k _ _ q)) .inr
theorem ck_tupM {α : Type} {tl : TE} {a : D} {as : List α} (g : α → D) (h : Cm K tl r (.d a)) (e : a = .tup (as.map g)) : CmIK K (iTup K tl) r (as.map fun x => .d (g x)) := fun σ H R en q => h σ H _ en fun x H1 s1 r1 => by
  subst e
  obtain ⟨a, xs, rfl, ea, ra⟩ := r1.tup_inv
  refine ⟨a, rfl, ⟨xs, ea.sq⟩, q _ H1 s1 fun H2 k2 => ?_⟩
  have t1 := ea.keep k2
  have wk := walk_tup (K := K) (a := a) (xs := xs)
  have hl := ra.length
  simp at hl
  refine ⟨fun i hi => wk.goes i H2 (by simp at hi; omega) t1.sq, ?_, fun i x H3 hi y => ?_⟩
  · have := wk.stops H2 t1.sq
    rw [hl] at this
    simpa using this
  · have hi' : i < as.length := by simpa using hi
    obtain ⟨rfl, e⟩ := wk.yields i H2 x H3 (by omega) t1.sq y
    obtain ⟨x', h1, h2⟩ := ra.get (i := i) (d := g as[i]) (by simp [hi'])
    rw [e] at h1
    cases h1
    exact ⟨Same.refl _, .d (g as[i]), by simp [hi'], Rp.keep k2 _ _ h2⟩
theorem ck_range {ta : TA} {n : Nat} (h : CmA K ta r [.d (.num n)]) (hn : n < 1000000) : CmIK K (iRng1 ta) r ((List.range n).map fun i => .d (.num (i : Nat))) := fun σ H R e q => h σ H _ e fun xs H1 s1 r1 => by
  obtain ⟨x, rfl, rx⟩ := one_inv r1
  have rx' := Rp.int_inv rx
  subst rx'
  refine ⟨(n : Int), rfl, by omega, by omega, q _ H1 s1 fun H2 s2 => ⟨fun i hi => ?_, ?_, fun i x H3 hi y => ?_⟩⟩
  · show i < (n : Int).toNat
    simpa using hi
  · show (n : Int).toNat ≤ _
    simp
  · obtain ⟨rfl, rfl⟩ := y
    have hi' : i < n := by simpa using hi
    refine ⟨Same.refl _, .d (.num (i : Nat)), by simp [hi'], ?_⟩
    rw [Int.zero_add]
    exact .int _
end

/-! ### slots that bear no list but such as stand elsewhere than at l -/
def FlatO (l : Addr) : Option W → Prop
  | none => True
  | some (.d _) => True
  | some (.b _) => True
  | some (.v _) => True
  | some (.ll av _) => av = l
  | _ => False
def FlatS (l : Addr) (r : Sl) : Prop := ∀ o ∈ r, FlatO l o
theorem flat_nil {l : Addr} : FlatS l [] := fun _ h => by cases h
theorem flat_cons {l : Addr} {o : Option W} {r : Sl} (h : FlatO l o) (t : FlatS l r) : FlatS l (o :: r) := fun x hx => by
  rcases List.mem_cons.mp hx with rfl | hx
  · exact h
  · exact t x hx
theorem EnvOk.putF {K : Fg} {l : Addr} {r : Sl} {σ : St} {H : Hp} {us vs : List V} (f : FlatS l r) (hl : H l = some (.lst us)) (e : EnvOk K r σ H) : EnvOk K r σ (upd H l (.lst vs)) := ⟨e.len, fun i w h => by
  have k : Keep H (upd H l (.lst vs)) := Keep.put fun ys q => by rw [hl] at q; cases q
  obtain ⟨x, h1, h2⟩ := e.at_ i w h
  refine ⟨x, h1, ?_⟩
  have hf := f _ (List.mem_of_getElem? h)
  cases w with
  | d d => exact Rp.keep k d x h2
  | b c => exact h2
  | v y => exact h2
  | l _ => exact hf.elim
  | lb _ => exact hf.elim
  | dl _ _ => exact hf.elim
  | p _ => exact hf.elim
  | ll av ks =>
    have e1 : av = l := hf
    subst e1
    obtain ⟨a, xs, ex, n, ha, ra⟩ := h2
    exact ⟨a, xs, ex, n, by rw [upd_ne n]; exact ha, RpA.keep k _ _ ra⟩⟩
/-- slots with lists that stood when nothing stood at l -/
def llS (l : Addr) (r : Sl) : Sl := r.map fun o => match o with
  | some (.l ks) => some (.ll l ks)
  | o => o
theorem EnvOk.lls {K : Fg} {l : Addr} {r : Sl} {σ : St} {H : Hp} (hl : H l = none) (e : EnvOk K r σ H) : EnvOk K (llS l r) σ H := by
  refine ⟨by rw [llS, List.length_map]; exact e.len, fun i w h => ?_⟩
  unfold llS at h
  rw [List.getElem?_map] at h
  cases hr : r[i]? with
  | none => rw [hr] at h; cases h
  | some o =>
    rw [hr] at h
    cases o with
    | none => simp at h
    | some u =>
      obtain ⟨x, h1, h2⟩ := e.at_ i u hr
      refine ⟨x, h1, ?_⟩
      cases u with
      | l ks =>
        simp at h
        subst h
        obtain ⟨a, xs, ex, ha, ra⟩ := h2
        exact ⟨a, xs, ex, ne_of_none ha hl, ha, ra⟩
      | d k => simp at h; subst h; exact h2
      | b k => simp at h; subst h; exact h2
      | lb k => simp at h; subst h; exact h2
      | v k => simp at h; subst h; exact h2
      | dl k1 k2 => simp at h; subst h; exact h2
      | ll k1 k2 => simp at h; subst h; exact h2
      | p k => simp at h; subst h; exact h2
theorem cm_varLL {K : Fg} {r : Sl} {i : Nat} {l : Addr} {ks : List D} (h : r[i]? = some (some (.ll l ks))) : Cm K (tVar i) r (.l ks) := fun σ H Q e q => by
  obtain ⟨x, h1, a, xs, ex, n, ha, ra⟩ := e.at_ i _ h
  exact ⟨x, h1, q x H (Same.refl H) ⟨a, xs, ex, ha, ra⟩⟩
/-- all but what stands at l -/
def SameX (l : Addr) (H H' : Hp) : Prop := ∀ a o, a ≠ l → H a = some o → H' a = some o
def ItOkX (K : Fg) (l : Addr) (J : It) (H : Hp) (ws : List W) : Prop := ∀ H1, SameX l H H1 → Keep H H1 → (∀ i, i < ws.length → J.go i H1) ∧ J.stop ws.length H1 ∧
  ∀ i x H2, i < ws.length → J.yld i H1 x H2 → Same H1 H2 ∧ ∃ w, ws[i]? = some w ∧ Rw K H2 x w
def CmIX (K : Fg) (l : Addr) (wi : TI) (r : Sl) (ws : List W) : Prop := ∀ σ H R, EnvOk K r σ H → (∀ J H', Same H H' → ItOkX K l J H' ws → R J H') → wi σ H R
theorem CmIK.x {K : Fg} {l : Addr} {wi : TI} {r : Sl} {ws : List W} (h : CmIK K wi r ws) : CmIX K l wi r ws := fun σ H R e q => h σ H R e fun J H' s it => q J H' s fun H1 _ k => it H1 k
theorem cx_lst {K : Fg} {r : Sl} {i : Nat} {l : Addr} {α : Type} (g : α → D) {as : List α} (h : r[i]? = some (some (.ll l (as.map g)))) : CmIX K l (iList K (tVar i)) r (as.map fun a => .d (g a)) := fun σ H R e q => by
  obtain ⟨x, h1, a, xs, rfl, n, ha, ra⟩ := e.at_ i _ h
  refine ⟨_, h1, a, rfl, ⟨xs, .of ha⟩, q _ H (Same.refl H) fun H2 sx k2 => ?_⟩
  have t1 : SqL K H2 a xs := .of (sx _ _ n ha)
  have wk := walk_list (K := K) (a := a) (xs := xs)
  have hl := ra.length
  simp at hl
  refine ⟨fun i hi => wk.goes i H2 (by simp at hi; omega) t1, ?_, fun i x H3 hi y => ?_⟩
  · have := wk.stops H2 t1
    rw [hl] at this
    simpa using this
  · have hi' : i < as.length := by simpa using hi
    obtain ⟨rfl, e⟩ := wk.yields i H2 x H3 (by omega) t1 y
    obtain ⟨x', h1, h2⟩ := ra.get (i := i) (d := g as[i]) (by simp [hi'])
    rw [e] at h1
    cases h1
    exact ⟨Same.refl _, .d (g as[i]), by simp [hi'], Rp.keep k2 _ _ h2⟩

/-- the list at l, made behind H0, holds ds; the slots are as r says -/
structure LSt (K : Fg) (H0 Hb : Hp) (l : Addr) (r : Sl) (ds : List D) (σ : St) (H : Hp) : Prop where
  env : EnvOk K r σ H
  same : Same H0 H
  fresh : H0 l = none
  lst : ∃ vs, H l = some (.lst vs) ∧ RpA K H vs ds
  kb : Keep Hb H
  kx : SameX l Hb H
section
variable {K : Fg} {H0 Hb H H' : Hp} {l : Addr} {r r' : Sl} {ds es : List D} {σ σ' : St} {d : D} {m : Nat} {te : TE} {DD : Ends}
theorem LSt.go (h : LSt K H0 Hb l r ds σ H) (s : Same H H') (e : EnvOk K r' σ' H') : LSt K H0 Hb l r' ds σ' H' := by
  obtain ⟨vs, h1, h2⟩ := h.lst
  exact ⟨e, h.same.trans s, h.fresh, ⟨vs, s _ _ h1, RpA.keep (Keep.of s) _ _ h2⟩, h.kb.trans (Keep.of s), fun a o n z => s _ _ (h.kx a o n z)⟩
theorem LSt.put (h : LSt K H0 Hb l r ds σ H) (f : FlatS l r) {vs : List V} {es : List D} (hr : RpA K H vs es) : LSt K H0 Hb l r es σ (upd H l (.lst vs)) := by
  obtain ⟨us, h1, h2⟩ := h.lst
  have k : Keep H (upd H l (.lst vs)) := Keep.put fun ys q => by rw [h1] at q; cases q
  refine ⟨h.env.putF f h1, fun a o ha => ?_, h.fresh, ⟨vs, upd_same, RpA.keep k _ _ hr⟩, h.kb.trans k, fun a o n z => by rw [upd_ne n]; exact h.kx a o n z⟩
  rw [upd_ne (ne_of_none ha h.fresh)]
  exact h.same a o ha
theorem LSt.less (h : LSt K H0 Hb l r ds σ H) (q : Less r' r) : LSt K H0 Hb l r' ds σ H := ⟨h.env.less q, h.same, h.fresh, h.lst, h.kb, h.kx⟩
theorem tup_cons {ta : TE} {tr : TA} {Q : VK} (h : ta σ H fun x H1 => tr σ H1 fun xs H2 => (x :: xs).length ≤ sizeLine ∧ ∀ p, H2 p = none → Q (.ref p) (upd H2 p (.tup (x :: xs)))) : tTup (tCons ta tr) σ H Q := h
/-- x = [] -/
theorem ls_new (i : Nat) (e : EnvOk K r σ H) (q : ∀ l H', LSt K H H l (r.set i (some (.v (.ref l)))) [] (σ.set i (some (.ref l))) H' → DD.nx (σ.set i (some (.ref l))) H') : tAsg (tLst tNil) (gName i) DD σ H := by
  refine ⟨by decide, fun l hl => q l _ ⟨(e.same (Same.new hl)).set rfl, Same.new hl, hl, ⟨[], upd_same, .nil⟩, Keep.of (Same.new hl), fun a o _ z => Same.new hl a o z⟩⟩
/-- x.append(e) -/
theorem ls_append (h : LSt K H0 Hb l r ds σ H) (hm : r[m]? = some (some (.v (.ref l)))) (he : Cm K te r (.d d)) (f : FlatS l r) (hz : ds.length < 100000) (q : ∀ H', LSt K H0 Hb l r (ds ++ [d]) σ H' → DD.nx σ H') :
    tDrop (tBM K "list" rAppend (tVar m) (tCons te tNil)) DD σ H := by
  obtain ⟨x, hx, ex⟩ := h.env.at_ m _ hm
  have ex' : x = .ref l := ex
  subst ex'
  obtain ⟨us, h1, _⟩ := h.lst
  refine ⟨_, hx, Or.inl ⟨rfl, _, SqL.of h1⟩, he σ H _ h.env fun y H1 s1 r1 => ?_⟩
  have h2 := h.go s1 (h.env.same s1)
  obtain ⟨vs, h3, h4⟩ := h2.lst
  have sz : (100000 : Nat) < sizeLine := by decide
  exact ⟨l, vs, y, rfl, rfl, h3, by rw [h4.length]; omega, q _ (h2.put f (h4.append (.cons r1 .nil)))⟩
/-- x.extend(e), e a new list -/
theorem ls_extend (h : LSt K H0 Hb l r ds σ H) (hm : r[m]? = some (some (.v (.ref l)))) (he : Cm K te r (.l es)) (f : FlatS l r) (hz : ds.length + es.length < 100000) (q : ∀ H', LSt K H0 Hb l r (ds ++ es) σ H' → DD.nx σ H') :
    tDrop (tBM K "list" rExtend (tVar m) (tCons te tNil)) DD σ H := by
  obtain ⟨x, hx, ex⟩ := h.env.at_ m _ hm
  have ex' : x = .ref l := ex
  subst ex'
  obtain ⟨us, h1, _⟩ := h.lst
  refine ⟨_, hx, Or.inl ⟨rfl, _, SqL.of h1⟩, he σ H _ h.env fun y H1 s1 r1 => ?_⟩
  have h2 := h.go s1 (h.env.same s1)
  obtain ⟨vs, h3, h4⟩ := h2.lst
  obtain ⟨b, zs, rfl, h5, h6⟩ := r1
  have sz : (100000 : Nat) < sizeLine := by decide
  exact ⟨l, b, vs, zs, rfl, rfl, h3, h5, by rw [h4.length, h6.length]; omega, q _ (h2.put f (h4.append h6))⟩
/-- a statement that leaves the list alone -/
theorem ls_bs {t : TS} (h : LSt K H0 Hb l r ds σ H) (ht : Bs K t r (.nx r')) (q : ∀ σ' H', LSt K H0 Hb l r' ds σ' H' → DD.nx σ' H') : t DD σ H := ht DD σ H h.env fun σ' H' s e => q σ' H' (h.go s e)
theorem ls_seq {t u : TS} (h : LSt K H0 Hb l r ds σ H) (ht : Bs K t r (.nx r')) (q : ∀ σ' H', LSt K H0 Hb l r' ds σ' H' → u DD σ' H') : tSeq t u DD σ H := ht _ σ H h.env fun σ' H' s e => q σ' H' (h.go s e)
theorem ls_if {tt : TT} {c : Bool} {t u : TS} (h : LSt K H0 Hb l r ds σ H) (ht : CmT K tt r c) (h1 : c = true → ∀ H', LSt K H0 Hb l r ds σ H' → t DD σ H') (h2 : c = false → ∀ H', LSt K H0 Hb l r ds σ H' → u DD σ H') : tIfS tt t u DD σ H :=
  ht σ H _ h.env fun H1 s1 => by
    cases c with
    | true => exact iteT (h1 rfl H1 (h.go s1 (h.env.same s1)))
    | false => exact iteF (h2 rfl H1 (h.go s1 (h.env.same s1)))
theorem ls_for {wi : TI} {g : TG} {tb : TS} {ws : List W} (R : Nat → Sl) (acc : Nat → List D) (h : LSt K H0 Hb l (R 0) (acc 0) σ H) (hi : CmIX K l wi (R 0) ws)
    (hb : ∀ i w, ws[i]? = some w → ∃ r1 is, CmG K g (R i) w r1 is ∧ ∀ (Hb : Hp) (σ : St) (H : Hp) (D' : Ends), LSt K H0 Hb l r1 (acc i) σ H → (∀ σ' H', LSt K H0 Hb l (R (i + 1)) (acc (i + 1)) σ' H' → D'.nx σ' H') → tb D' σ H)
    (q : ∀ σ' H', LSt K H0 Hb l (R ws.length) (acc ws.length) σ' H' → DD.nx σ' H') : tFor wi g tb DD σ H := by
  refine hi σ H _ h.env fun J H1 s1 it => ?_
  have h1 := h.go s1 (h.env.same s1)
  obtain ⟨us1, hl1, _⟩ := h1.lst
  refine for_it (n := ws.length) (G := fun H => SameX l H1 H ∧ Keep H1 H) (Y := fun i H x H2 => Same H H2 ∧ ∃ w, ws[i]? = some w ∧ Rw K H2 x w)
    ⟨fun i H hi g => (it H g.1 g.2).1 i hi, fun H g => (it H g.1 g.2).2.1, fun i H x H2 hi g y => (it H g.1 g.2).2.2 i x H2 hi y⟩
    (fun i σ H => LSt K H0 H1 l (R i) (acc i) σ H) ⟨h1.env, h1.same, h1.fresh, h1.lst, Keep.refl _, fun _ _ _ z => z⟩ (fun i σ H _ p => ⟨p.kx, p.kb⟩) (fun i x σ2 H2 H3 hi' p1 y => ?_) fun σ2 H2 p =>
      q σ2 H2 ⟨p.env, p.same, p.fresh, p.lst, h1.kb.trans p.kb, fun a o n z => p.kx a o n (h1.kx a o n z)⟩
  obtain ⟨s3, w, hw, rw'⟩ := y
  obtain ⟨r1, is, hg, hb⟩ := hb i w hw
  have p3 := p1.go s3 (p1.env.same s3)
  exact hg x σ2 H3 _ p3.env rw' fun σ' e' _ => hb H1 σ' H3 _ ⟨e', p3.same, p3.fresh, p3.lst, p3.kb, p3.kx⟩ fun σ4 H4 q4 => q4
end
end NW
/-! New lists, comprehensions of two clauses, sorted. -/
namespace NW
open PySem PySem.Spec PyProof.Rows L2 StX
/-- a new list -/
def CmN (K : Fg) (t : TE) (r : Sl) (ks : List D) : Prop := ∀ σ H Q, EnvOk K r σ H → (∀ a H' xs, Same H H' → H a = none → H' a = some (.lst xs) → RpA K H' xs ks → Q (.ref a) H') → t σ H Q
section
variable {K : Fg} {r : Sl} {t : TE} {ks : List D}
theorem CmN.cm (h : CmN K t r ks) : Cm K t r (.l ks) := fun σ H Q e q => h σ H Q e fun a H' xs s _ h1 h2 => q _ H' s ⟨a, xs, rfl, h1, h2⟩
theorem cn_lst {ta : TA} {ds : List D} (ht : CaD K ta r ds) (hl : ds.length ≤ 1000) : CmN K (tLst ta) r ds := fun σ H Q e q =>
  ht σ H _ e fun xs H1 s1 r1 => by
    have r2 := RwA.of_d r1
    refine ⟨by rw [r2.length]; exact Nat.le_trans hl (by decide), fun p hp => q p _ xs (s1.trans (Same.new hp)) (s1.free hp) upd_same (RpA.keep (Keep.of (Same.new hp)) _ _ r2)⟩
end
section
variable {K : Fg} {H0 Hb H : Hp} {l : Addr} {r : Sl} {ds ks : List D} {σ : St} {te : TE} {DD : Ends} {u : TS} {i : Nat}
/-- a slot takes a new list -/
theorem ls_setN (h : LSt K H0 Hb l r ds σ H) (he : CmN K te r ks) (q : ∀ σ' H', LSt K H0 Hb l (r.set i (some (.ll l ks))) ds σ' H' → DD.nx σ' H') : tAsg te (gName i) DD σ H :=
  he σ H _ h.env fun a H1 xs s1 hn h1 h2 => by
    obtain ⟨vs, h3, _⟩ := h.lst
    have n : a ≠ l := fun z => by
      subst z
      rw [h3] at hn
      cases hn
    exact q _ _ (h.go s1 ((h.env.same s1).set (w := .ll l ks) ⟨a, xs, rfl, n, h1, h2⟩))
end
section
variable {K : Fg} {H0 Hb H : Hp} {l : Addr} {r r' : Sl} {ds es ks : List D} {σ : St} {te : TE} {DD : Ends} {u : TS} {i m : Nat} {d : D}
theorem ls_setNS (h : LSt K H0 Hb l r ds σ H) (he : CmN K te r ks) (q : ∀ σ' H', LSt K H0 Hb l (r.set i (some (.ll l ks))) ds σ' H' → u DD σ' H') : tSeq (tAsg te (gName i)) u DD σ H := ls_setN (DD := { DD with nx := u DD }) h he q
theorem ls_extendS (h : LSt K H0 Hb l r ds σ H) (hm : r[m]? = some (some (.v (.ref l)))) (he : Cm K te r (.l es)) (f : FlatS l r) (hz : ds.length + es.length < 100000) (q : ∀ H', LSt K H0 Hb l r (ds ++ es) σ H' → u DD σ H') :
    tSeq (tDrop (tBM K "list" rExtend (tVar m) (tCons te tNil))) u DD σ H := ls_extend (DD := { DD with nx := u DD }) h hm he f hz q
theorem ls_appendS (h : LSt K H0 Hb l r ds σ H) (hm : r[m]? = some (some (.v (.ref l)))) (he : Cm K te r (.d d)) (f : FlatS l r) (hz : ds.length < 100000) (q : ∀ H', LSt K H0 Hb l r (ds ++ [d]) σ H' → u DD σ H') :
    tSeq (tDrop (tBM K "list" rAppend (tVar m) (tCons te tNil))) u DD σ H := ls_append (DD := { DD with nx := u DD }) h hm he f hz q
theorem ls_newN (i : Nat) (e : EnvOk K r σ H) (he : CmN K te r ks) (q : ∀ l σ' H', LSt K H H l (r.set i (some (.v (.ref l)))) ks σ' H' → u DD σ' H') : tSeq (tAsg te (gName i)) u DD σ H :=
  he σ H _ e fun a H1 xs s1 hn h1 h2 => q a _ _ ⟨(e.same s1).set rfl, s1, hn, ⟨xs, h1, h2⟩, Keep.of s1, fun b o _ z => s1 b o z⟩
/-- return x -/
theorem ls_ret (h : LSt K H0 Hb l r ds σ H) (hm : r[m]? = some (some (.v (.ref l)))) (q : ∀ x H', Same H0 H' → Rw K H' x (.l ds) → DD.rt x H') : tRet (tVar m) DD σ H := by
  obtain ⟨x, hx, ex⟩ := h.env.at_ m _ hm
  have ex' : x = .ref l := ex
  subst ex'
  obtain ⟨us, h1, h2⟩ := h.lst
  exact ⟨_, hx, q _ H h.same ⟨l, us, rfl, h1, h2⟩⟩
/-- return tuple(x) -/
theorem ls_retT (h : LSt K H0 Hb l r ds σ H) (hm : r[m]? = some (some (.v (.ref l)))) (q : ∀ x H', Same H0 H' → Rw K H' x (.d (.tup ds)) → DD.rt x H') : tRet (tCB (rTupOf K) (tCons (tVar m) tNil)) DD σ H := by
  obtain ⟨x, hx, ex⟩ := h.env.at_ m _ hm
  have ex' : x = .ref l := ex
  subst ex'
  obtain ⟨us, h1, h2⟩ := h.lst
  exact ⟨_, hx, l, us, rfl, .inl ⟨.of h1, fun p hp => q _ _ (h.same.trans (Same.new hp)) (.tup (.inl upd_same) (RpA.keep (Keep.of (Same.new hp)) _ _ h2))⟩⟩
end
/-! ### [e for x in .. for y in ..] -/
section
variable {K : Fg} {r : Sl} {α β : Type}
theorem flatMap_take {γ δ : Type} (f : γ → List δ) {as : List γ} {i : Nat} {a : γ} (h : as[i]? = some a) : (as.take (i + 1)).flatMap f = (as.take i).flatMap f ++ f a := by
  rw [List.take_succ, h, List.flatMap_append]
  simp
theorem map_take {γ δ : Type} (f : γ → δ) {as : List γ} {i : Nat} {a : γ} (h : as[i]? = some a) : (as.take (i + 1)).map f = (as.take i).map f ++ [f a] := by
  rw [List.take_succ, h, List.map_append]
  rfl
theorem llS_wipe (l : Addr) (r : Sl) (vs : List Nat) : wipeW (llS l r) vs = llS l (wipeW r vs) := by
  induction vs with
  | nil => rfl
  | cons v vs ih =>
    show (wipeW (llS l r) vs).set v none = llS l ((wipeW r vs).set v none)
    rw [ih]
    unfold llS
    rw [List.map_set]
theorem cn_lc2 {wi wi1 : TI} {g g1 : TG} {te : TE} {vs vs1 : List Nat} {as : List α} (p : α → W) (bs : α → List β) (q1 : β → W) (f : α → β → D)
    (hi : CmI K wi r (as.map p)) (hl : (as.flatMap bs).length ≤ 1000000)
    (hs : ∀ l a, a ∈ as → ∃ r0 r1 is, (∀ i, i ∈ is → i ∈ vs) ∧ CmG K g (wipeW (llS l r) vs) (p a) r0 is ∧ Less r1 r0 ∧ CmIX K l wi1 r1 ((bs a).map q1) ∧ FlatS l r1 ∧
      ∀ b, b ∈ bs a → ∃ r2 js, (∀ i, i ∈ js → i ∈ vs1) ∧ CmG K g1 (wipeW r1 vs1) (q1 b) r2 js ∧ Cm K te r2 (.d (f a b)))
    (hvv : ∀ i, i ∈ vs1 → i ∈ vs) : CmN K (tLc2 wi g tYes wi1 g1 tYes te vs vs1) r (as.flatMap fun a => (bs a).map (f a)) := fun σ H Q e q => by
  refine hi σ H _ e fun J H1 s1 it => fun L hD => ?_
  have sz : (1000000 : Nat) < sizeLine := by decide
  have e1 : EnvOk K (llS L r) σ H1 := (e.same s1).lls hD
  have len_le : ∀ (xs ys : List α), (xs.flatMap bs).length + (ys.flatMap bs).length = ((xs ++ ys).flatMap bs).length := fun xs ys => by rw [List.flatMap_append, List.length_append]
  have len_f : ∀ xs : List α, (xs.flatMap fun a => (bs a).map (f a)).length = (xs.flatMap bs).length := fun xs => by
    induction xs with
    | nil => rfl
    | cons x xs ih => simp only [List.flatMap_cons, List.length_append, List.length_map, ih]
  -- the outer turns
  refine ⟨fun i m H => m = as.length - i ∧ i ≤ as.length ∧ Same H1 H ∧ ∃ xs, H L = some (.lst xs) ∧ RpA K H xs ((as.take i).flatMap fun a => (bs a).map (f a)), ⟨as.length, by simp, Nat.zero_le _, Same.new hD, [], upd_same, by simp; exact .nil⟩, ?_⟩
  rintro i m H2 ⟨rfl, hle, s2, xs, hx, rx⟩
  have itH := it H2 s2
  by_cases hlt : i < as.length
  · refine .inr ⟨itH.1 i (by simpa using hlt), fun H' => i + 1 ≤ as.length ∧ Same H1 H' ∧ ∃ xs, H' L = some (.lst xs) ∧ RpA K H' xs ((as.take (i + 1)).flatMap fun a => (bs a).map (f a)), fun H' n => ⟨as.length - (i + 1), by omega, rfl, n.1, n.2⟩, fun x H3 y => ?_⟩
    obtain ⟨s3, w, hw, rw'⟩ := itH.2.2 i x H3 (by simpa using hlt) y
    have hai : as[i]? = some as[i] := List.getElem?_eq_getElem hlt
    have ew : w = p as[i] := by
      rw [List.getElem?_map, hai] at hw
      exact (Option.some.inj hw).symm
    subst ew
    obtain ⟨r0, r1, is, his, hg, hlss, hwi, hfl, hb⟩ := hs L as[i] (List.getElem_mem hlt)
    have e2 : EnvOk K (wipeW (llS L r) vs) (wipe σ vs) H3 := by
      have k0 : EnvOk K (llS L r) σ H3 := (e1.same s2).same s3
      exact k0.wipe vs
    refine hg x (wipe σ vs) H3 _ e2 rw' fun σ2 e3 wp => ⟨by rw [wp vs his]; exact wipe_wipe σ vs, ?_⟩
    replace e3 := e3.less hlss
    show wi1 σ2 H3 _
    refine hwi σ2 H3 _ e3 fun J1 H4 s4 it1 => ?_
    have hx4 : H4 L = some (.lst xs) := s4 _ _ (s3 _ _ hx)
    have rx4 : RpA K H4 xs _ := RpA.keep (Keep.of (s3.trans s4)) _ _ rx
    refine ⟨fun j k H => k = (bs as[i]).length - j ∧ j ≤ (bs as[i]).length ∧ Same H1 H ∧ SameX L H4 H ∧ Keep H4 H ∧ EnvOk K r1 σ2 H ∧ ∃ ys, H L = some (.lst ys) ∧ RpA K H ys (((as.take i).flatMap fun a => (bs a).map (f a)) ++ ((bs as[i]).take j).map (f as[i])),
      ⟨(bs as[i]).length, by simp, Nat.zero_le _, (s2.trans s3).trans s4, fun a o _ z => z, Keep.refl _, e3.same s4, xs, hx4, by simpa using rx4⟩, ?_⟩
    rintro j k H5 ⟨rfl, hle1, s5, sx5, k5, e5, ys, hy, ry⟩
    have it5 := it1 H5 sx5 k5
    by_cases hlt1 : j < (bs as[i]).length
    · refine .inr ⟨it5.1 j (by simpa using hlt1), fun H => j + 1 ≤ (bs as[i]).length ∧ Same H1 H ∧ SameX L H4 H ∧ Keep H4 H ∧ EnvOk K r1 σ2 H ∧ ∃ ys, H L = some (.lst ys) ∧ RpA K H ys (((as.take i).flatMap fun a => (bs a).map (f a)) ++ ((bs as[i]).take (j + 1)).map (f as[i])),
        fun H' n => ⟨(bs as[i]).length - (j + 1), by omega, rfl, n.1, n.2⟩, fun y H6 yy => ?_⟩
      obtain ⟨s6, w1, hw1, rw1⟩ := it5.2.2 j y H6 (by simpa using hlt1) yy
      have hbj : (bs as[i])[j]? = some (bs as[i])[j] := List.getElem?_eq_getElem hlt1
      have ew1 : w1 = q1 (bs as[i])[j] := by
        rw [List.getElem?_map, hbj] at hw1
        exact (Option.some.inj hw1).symm
      subst ew1
      obtain ⟨r2, js, hjs, hg1, he⟩ := hb _ (List.getElem_mem hlt1)
      refine hg1 y (wipe σ2 vs1) H6 _ ((e5.same s6).wipe vs1) rw1 fun σ3 e6 wp1 => ⟨by rw [wp1 vs1 hjs]; exact wipe_wipe σ2 vs1, ?_⟩
      show te σ3 H6 _
      refine he σ3 H6 _ e6 fun v H7 s7 r7 => ?_
      have s57 := s6.trans s7
      have hL7 := s57 _ _ hy
      have k7 : Keep H7 (upd H7 L (.lst (ys ++ [v]))) := Keep.put fun zs z => by rw [hL7] at z; cases z
      have hlen : ys.length < 1000000 := by
        have h1 := ry.length
        rw [List.length_append, len_f, List.length_map, List.length_take] at h1
        have h2 : ((as.take i).flatMap bs).length + (bs as[i]).length ≤ (as.flatMap bs).length := by
          have h3 := len_le (as.take (i + 1)) (as.drop (i + 1))
          rw [List.take_append_drop, flatMap_take bs hai, List.length_append] at h3
          omega
        omega
      refine ⟨ys, hL7, by omega, hlt1, fun a o ha => ?_, fun a o n ha => ?_, (k5.trans (Keep.of s57)).trans k7, ?_, ys ++ [v], upd_same, ?_⟩
      · rw [upd_ne (ne_of_none ha hD)]
        exact s57 _ _ (s5 _ _ ha)
      · rw [upd_ne n]
        exact s57 _ _ (sx5 _ _ n ha)
      · exact (e5.same s57).putF hfl hL7
      · rw [map_take (f as[i]) hbj, ← List.append_assoc]
        exact (RpA.keep ((Keep.of s57).trans k7) _ _ ry).append (.cons (Rp.keep k7 _ _ r7) .nil)
    · have ej : j = (bs as[i]).length := by omega
      subst ej
      refine .inl ⟨by simpa using it5.2.1, hlt, s5, ys, hy, ?_⟩
      rw [flatMap_take _ hai]
      rw [List.take_length] at ry
      exact ry
  · have ei : i = as.length := by omega
    subst ei
    rw [List.take_length] at rx
    exact .inl ⟨by simpa using itH.2.1, q L H2 xs (s1.trans s2) (s1.free hD) hx rx⟩
end
/-! ### sorted -/
def leD : D → D → Bool := PySem.W.dataLe false NestedKey.data
def sortD (ks : List D) : List D := ks.mergeSort leD
def rSortedD (K : Fg) : List V → Hp → VK → Prop := fun xs H Q => ∃ (a : Addr) (vs : List V) (ks : List D), xs = [.ref a] ∧ SqL K H a vs ∧ RpA K H vs ks ∧ PySem.W.AllAlike (ks.map NestedKey.data) ∧ PySem.W.Sortable (ks.map NestedKey.data) ∧
  (∀ k ∈ ks, Sh 8 k) ∧ ∀ p us, H p = none → RpA K H us (sortD ks) → Q (.ref p) (upd H p (.lst us))
theorem rpA_zip {K : Fg} {H : Hp} : ∀ {vs : List V} {ks : List D}, RpA K H vs ks → ∀ p ∈ vs.zip ks, Rp K H p.1 p.2
  | [], _, h, p, hp => by simp at hp
  | v :: vs, _, h, p, hp => by
    cases h with
    | cons a b =>
      rw [List.zip_cons_cons] at hp
      rcases List.mem_cons.mp hp with rfl | hp
      · exact a
      · exact rpA_zip b p hp
theorem rpA_of {K : Fg} {H : Hp} : ∀ {zs : List (V × D)}, (∀ p ∈ zs, Rp K H p.1 p.2) → RpA K H (zs.map (·.1)) (zs.map (·.2))
  | [], _ => .nil
  | z :: zs, h => .cons (h z List.mem_cons_self) (rpA_of fun p hp => h p (List.mem_cons_of_mem _ hp))
theorem vals_each {γ : Type} : ∀ {zs : List (V × γ)} {us : List Value}, Vals (zs.map (·.1)) us → PySem.W.EachIs (fun v p => RelV p.1 v) us zs
  | [], us, h => by cases h; exact .nil
  | z :: zs, us, h => by
    rw [List.map_cons] at h
    cases h with
    | cons a b => exact .cons a (vals_each b)
theorem each_vals {γ : Type} : ∀ {zs : List (V × γ)} {us : List Value}, PySem.W.EachIs (fun v p => RelV p.1 v) us zs → Vals (zs.map (·.1)) us
  | _, _, .nil => .nil
  | _, _, .cons a b => .cons a (each_vals b)
theorem sortedDK {X : Cx} (K : Fg) (hK : X.K = K) {k : Nat} (hr : Room k X.A) : CallR X (.builtin "sorted") (rSortedD K) := by
  subst hK
  rintro pins s σ H xs us Q I r ⟨a, vs, ks, rfl, hq, hrp, hal, hso, hsh, q⟩
  cases r with
  | cons r rr =>
    cases rr
    cases r
    obtain ⟨its, rv, pl, hz⟩ := I.list hq
    have hl := hrp.length
    have e1 : (vs.zip ks).map (·.1) = vs := List.map_fst_zip (by omega)
    have e2 : (vs.zip ks).map (·.2) = ks := List.map_snd_zip (by omega)
    have em : (vs.zip ks).map (fun p => p.2.data) = ks.map NestedKey.data := by
      conv => rhs; rw [← e2]
      rw [List.map_map]
      rfl
    have hzip := rpA_zip hrp
    have ei : PySem.W.EachIs (fun v p => RelV p.1 v) its (vs.zip ks) := vals_each (by rw [e1]; exact rv)
    have er : PySem.W.EachIs (fun v p => ∃ as, Reads s.heap v p.2.data as) its (vs.zip ks) := by
      have key : ∀ (zs : List (V × D)) (us : List Value), (∀ p ∈ zs, Rp X.K H p.1 p.2) → PySem.W.EachIs (fun v p => RelV p.1 v) us zs → PySem.W.EachIs (fun v (p : V × D) => ∃ as, Reads s.heap v p.2.data as) us zs := by
        intro zs us hz hh
        induction hh with
        | nil => exact .nil
        | cons a b ih =>
          rename_i v p vs' ps' 
          exact .cons (Dp.reads I p.2.data p.1 v (Rp.dp p.2 p.1 (hz p List.mem_cons_self)) a) (ih fun p hp => hz p (List.mem_cons_of_mem _ hp))
      exact key _ _ hzip ei
    refine PySem.W.sorted_data (enc := fun p : V × D => p.2.data) pl.isList ei er (by rw [em]; exact hal) (by rw [em]; exact hso) (by rw [List.length_zip]; omega) (fun p hp => ?_) fun out ho eo => ?_
    · have h1 := Sh.dep p.2 (hsh p.2 (List.of_mem_zip hp).2)
      have h2 := hr.un
      omega
    · obtain ⟨c, hc⟩ := sortedAll_at s.heap its out.toArray
      have es : ((vs.zip ks).mergeSort (PySem.W.dataLe false fun p : V × D => p.2.data)).map (·.2) = sortD ks := by
        have z := PySem.W.sort_maps (r := PySem.W.dataLe false fun p : V × D => p.2.data) (s := PySem.W.dataLe false NestedKey.data) (fun p : V × D => p.2) (l := vs.zip ks) (fun a _ b _ => rfl)
        rw [e2] at z
        exact z
      have hperm : ((vs.zip ks).mergeSort (PySem.W.dataLe false fun p : V × D => p.2.data)).Perm (vs.zip ks) := List.mergeSort_perm _ _
      have hrp2 := rpA_of (K := X.K) (H := H) (zs := (vs.zip ks).mergeSort (PySem.W.dataLe false fun p : V × D => p.2.data)) fun p hp => hzip p (hperm.mem_iff.mp hp)
      rw [es] at hrp2
      have hlen : (((vs.zip ks).mergeSort (PySem.W.dataLe false fun p : V × D => p.2.data)).map (·.1)).length ≤ sizeLine := by
        rw [List.length_map, List.length_mergeSort, List.length_zip]
        omega
      have fr : H (s.heap.objs.size + 1) = none := I.hok.fresh (Nat.le_succ _)
      refine ⟨.ref (s.heap.objs.size + 1), _, I.laid (t' := s.toks) (fun b u z => sortedAll_old z) (Nat.le_succ _) ?_, rfl, q _ _ fr hrp2⟩
      exact ⟨hlen, out, c, each_vals eo, hc⟩
theorem cn_sorted {K : Fg} {r : Sl} {ta : TE} {ks : List D} (h : Cm K ta r (.l ks)) (hal : PySem.W.AllAlike (ks.map NestedKey.data)) (hso : PySem.W.Sortable (ks.map NestedKey.data)) (hsh : ∀ k ∈ ks, Sh 8 k) :
    CmN K (tCB (rSortedD K) (tCons ta tNil)) r (sortD ks) := fun σ H Q e q => h σ H _ e fun x H1 s1 r1 => by
  obtain ⟨a, xs, rfl, ea, ra⟩ := r1
  exact ⟨a, xs, ks, rfl, .of ea, ra, hal, hso, hsh, fun p us hp hr => q p _ us (s1.trans (Same.new hp)) (s1.free hp) upd_same (RpA.keep (Keep.of (Same.new hp)) _ _ hr)⟩
theorem mem_sortD {k : D} {ks : List D} : k ∈ sortD ks ↔ k ∈ ks := (List.mergeSort_perm ks leD).mem_iff
theorem sortD_length (ks : List D) : (sortD ks).length = ks.length := List.length_mergeSort _
end NW
/-! need_stream; readers.py -/
namespace NW
open PySem PySem.Spec PyProof.Rows L2 StX NM
local macro_rules | `(tactic| walk_at "my") => `(tactic| fail)
local macro_rules | `(tactic| walk_at "mycm") => `(tactic| fail)
local macro_rules | `(tactic| walk_at "myco") => `(tactic| fail)
local macro_rules | `(tactic| walk_at "mycc") => `(tactic| fail)
local macro_rules | `(tactic| walk_at "sh") => `(tactic| first | assumption | exact sh_n | exact Sh.num | exact Sh.non | exact sh_role | exact Sh.text (by decide +kernel) | exact sh_ns | exact sh_s | exact sh_m | exact sh_o | exact sh_h | exact sh_t | exact sh_ss | exact sh_ms | exact sh_head | exact sh_L | exact sh_nil | (apply sh_cons <;> walk_at "sh"))
local macro_rules | `(tactic| walk_at "shs") => `(tactic| first | assumption | exact shs_nil | (apply shs_cons; walk_at "sh"; walk_at "shs"))
local macro_rules | `(tactic| walk_at "co") => `(tactic| first
  | ((with_reducible apply co_ixTe); exact rfl; exact rfl)
  | ((with_reducible exact co_ixDl))
  | ((with_reducible apply co_ixL); exact rfl)
  | (with_reducible exact co_lt) | (with_reducible exact co_le) | (with_reducible exact co_gt) | (with_reducible exact co_ge) | (with_reducible exact co_sub)
  | (with_reducible exact co_isN) | (with_reducible exact co_isNotN)
  | ((with_reducible apply co_eq) <;> walk_at "sh") | ((with_reducible apply co_ne) <;> walk_at "sh")
  | (with_reducible exact co_add)
  | ((with_reducible apply co_inTe); exact rfl; walk_at "sh"; walk_at "shs")
  | walk_at "myco")
local macro_rules | `(tactic| walk_at "cc") => `(tactic| first
  | ((with_reducible apply cc_lenTe); exact rfl) | (with_reducible exact cc_lenL) | (with_reducible exact cc_all) | (with_reducible exact cc_any) | (with_reducible exact cc_tuple) | (with_reducible exact cc_intI)
  | (with_reducible exact cc_intB) | (with_reducible exact cc_min2) | (with_reducible exact cc_listT)
  | ((with_reducible apply cc_isi); first | exact isi_int rfl | exact isi_bool | exact isi_tuple rfl | exact isi_str rfl)
  | walk_at "mycc")
local macro_rules | `(tactic| walk_at "ca") => `(tactic| first
  | (with_reducible exact ca_nil)
  | ((with_reducible apply ca_cons); walk_at "cm"; walk_at "ca"))
local macro_rules | `(tactic| walk_at "cad") => `(tactic| first
  | (with_reducible exact cad_nil)
  | ((with_reducible apply cad_cons); walk_at "cm"; walk_at "cad")
  | ((with_reducible apply cad_starE); walk_at "cm"; exact rfl; walk_at "cad"))
local macro_rules | `(tactic| walk_at "cm") => `(tactic| first
  | ((with_reducible apply cm_var); exact rfl)
  | (with_reducible exact cm_int) | (with_reducible exact cm_str) | (with_reducible exact cm_non) | (with_reducible exact cm_bl)
  | ((with_reducible apply cm_op); walk_at "cm"; walk_at "cm"; walk_at "co")
  | ((with_reducible apply cm_tupD); walk_at "cad"; walk_at "size")
  | ((with_reducible apply cm_neg); walk_at "cm")
  | ((with_reducible apply cm_call); walk_at "ca"; walk_at "my")
  | walk_at "mycm"
  | ((with_reducible apply cm_cb); walk_at "ca"; walk_at "cc")
  | ((with_reducible apply cm_chain); walk_at "cm"; walk_at "cm"; walk_at "co"; (intro _; walk_at "cm"); walk_at "co")
  | ((with_reducible apply cm_andVF); walk_at "cm"; walk_at "dec0")
  | ((with_reducible apply cm_orVT); walk_at "cm"; walk_at "dec0")
  | ((with_reducible apply cm_ifT); walk_at "ct"; walk_at "dec"; walk_at "cm")
  | ((with_reducible apply cm_ifF); walk_at "ct"; walk_at "dec"; walk_at "cm")
  | ((with_reducible apply cm_andV); walk_at "cm"; (intro _; walk_at "cm"))
  | ((with_reducible apply cm_orV); walk_at "cm"; (intro _; walk_at "cm"))
  | ((with_reducible apply cm_notV); walk_at "cm")
  | (with_reducible exact cm_val))
local macro_rules | `(tactic| walk_at "ct") => `(tactic| first
  | ((with_reducible apply ct_test); walk_at "cm") | ((with_reducible apply ct_B); walk_at "cm") | ((with_reducible apply ct_not); walk_at "ct")
  | ((with_reducible apply ct_andF); walk_at "ct"; walk_at "dec0")
  | ((with_reducible apply ct_orT); walk_at "ct"; walk_at "dec0")
  | ((with_reducible apply ct_and); walk_at "ct"; (intro _; walk_at "ct"))
  | ((with_reducible apply ct_or); walk_at "ct"; (intro _; walk_at "ct")))
local macro_rules | `(tactic| walk_at "size") => `(tactic| focus first | assumption | (simp; done) | (simp; omega) | omega)
local macro_rules | `(tactic| walk_at "dec0") => `(tactic| focus first | rfl | (simp [eHead, eL, eSs, eMs, eS, eM, eT, eN, eNs, eH, eO, rN]; done))
local macro_rules | `(tactic| walk_at "dec") => `(tactic| focus first | rfl | (simp [eHead, eL, eSs, eMs, eS, eM, eT, eN, eNs, eH, eO, rN]; done) | (simp [eHead, eL, eSs, eMs, eS, eM, eT, eN, eNs, eH, eO, rN]; omega) | (simp [eHead, eL, eSs, eMs, eS, eM, eT, eN, eNs, eH, eO, rN, *]; done))
local macro_rules | `(tactic| walk_at "skip") => `(tactic| ((with_reducible apply bs_skip); walk_at "ct"; walk_at "dec"))
local macro_rules | `(tactic| walk_at "take") => `(tactic| (refine bs_seqR ?_; (with_reducible apply bs_ifT); walk_at "ct"; walk_at "dec"))
local macro_rules | `(tactic| walk_at "ret") => `(tactic| (refine bs_ret ?_; (with_reducible apply cm_is); walk_at "cm"))
local macro_rules | `(tactic| walk_at "set") => `(tactic| ((with_reducible apply bs_setS); walk_at "cm"))
local macro_rules | `(tactic| walk_at "drop") => `(tactic| ((with_reducible apply bs_dropS); walk_at "cm"))
local macro_rules | `(tactic| walk_at "norm") => `(tactic| skip)
local macro_rules | `(tactic| walk_at "less") => `(tactic| first | exact less_nil | (apply less_some; walk_at "less") | (apply less_none; walk_at "less"))
local macro_rules | `(tactic| walk_at "flat") => `(tactic| first | exact flat_nil | (refine flat_cons ?_ ?_; (first | exact trivial | exact rfl); walk_at "flat"))
section
variable {P : Program} {w : World} {K : Fg} {mg : Str → Option Value} {base : Heap}

local macro_rules | `(tactic| walk_at "my") => `(tactic| first | exact r_is_whole | exact r_is_whole0 | exact r_need_language (by assumption) | exact r_signs_of (by assumption) | exact r_is_sign (by assumption) (by assumption) | exact r_long_of (by assumption))
/-! ### need_stream -/
abbrev s_need_stream : Stmt := top 26
abbrev N_need_stream : List Str := ["language", "stream", "number", "sign"]
theorem sc_need_stream : FnScope N_need_stream ["language", "stream"] (defScope s_need_stream) := ⟨rfl, rfl, rfl, by decide +kernel, rfl, by decide +kernel, by decide +kernel⟩
def R_need_stream : List W → W → Prop := fun ws w => ∃ L xs, Good L ∧ (∀ x ∈ xs, L.ok x) ∧ xs.length ≤ 400 ∧ ws = [.d (eL L), .d (eSs xs)] ∧ w = .d .none
theorem r_need_stream {L : Lang} {xs : List NM.Sign} (g : Good L) (h : ∀ x ∈ xs, L.ok x) (hl : xs.length ≤ 400) : R_need_stream [.d (eL L), .d (eSs xs)] (.d .none) := ⟨L, xs, g, h, hl, rfl, rfl⟩
theorem ok_need_stream (T : Txt K mg) (A : DefAt K mg "need_stream" "need_stream" s_need_stream ["language", "stream"]) (C_need_language : CalF P w K mg base 3 "need_language" R_need_language) (C_is_sign : CalF P w K mg base 2 "is_sign" R_is_sign) :
    CalF P w K mg base 4 "need_stream" R_need_stream := by
  refine calF A sc_need_stream (fun ws u h => ?_) (fun f cdv A outer s H E ws u hr h => ?_)
  · obtain ⟨L, xs, _, _, _, rfl, _⟩ := h; rfl
  · obtain ⟨L, xs, g, hx, hl, rfl, rfl⟩ := h
    refine ⟨_, (pss_cons (ps_expr (C8.pe_c C_need_language hr (by decide) rfl (pa_cons (pv 0) pa_nil))) (pss_cons (ps_if (PW.pt (pw_or (pt_not (pt_val (pe_callB (isiK K rfl) rfl T.b_isinstance bo_isinstance (pa_cons (pv 1) (pa_cons (pe_bltn (v := .ty "tuple") rfl T.b_tuple bo_tuple rfl) pa_nil))))) (pw_or1 (pt_cmpR op_gt (pe_callB (lenK K rfl) rfl T.b_len bo_len (pa_cons (pv 1) pa_nil)) (C8.pe_gc rfl T.g_MOST_SIGNS) (nomark _))))) pss_never pss_nil) (pss_one (ps_for PassesOwn.never rfl (pi_enumT K rfl rfl T.b_enumerate (pa_cons (pv 1) pa_nil)) (pgTK (n := 2) K rfl rfl (pgs_cons (pg_name (i := 2) sc_need_stream.nd rfl (by first | exact Or.inl rfl | exact Or.inr rfl)) (pgs_cons (pg_name (i := 3) sc_need_stream.nd rfl (by first | exact Or.inl rfl | exact Or.inr rfl)) pgs_nil))) (pss_one (ps_if (pt_not (pt_val (C8.pe_c C_is_sign hr (by decide) rfl (pa_cons (pv 0) (pa_cons (pv 3) pa_nil))))) pss_never pss_nil)))))), .inr ⟨rfl, startW N_need_stream [.d (eL L), .d (eSs xs)], ?_⟩⟩
    walk_at "drop"
    walk_at "skip"
    refine bs_for (fun _ => startW N_need_stream [.d (eL L), .d (eSs xs)]) (ci_enumT eS (ca_cons (cm_var rfl) ca_nil) rfl) fun i w hw => ?_
    have hi : i < xs.length := by
      have := (List.getElem?_eq_some_iff.mp hw).1
      simpa using this
    have ew : w = .d (.tup [.num (i : Nat), eS xs[i]]) := by
      simp [hi] at hw
      exact hw.symm
    subst ew
    have hok := hx _ (List.getElem_mem hi)
    refine ⟨_, _, cg_tupE rfl (cgs_cons cg_name (cgs_cons cg_name cgs_nil)) rfl, .inl ?_⟩
    apply bs_lessT
    · (with_reducible apply bs_if)
      · walk_at "ct"
      · intro e
        simp at e
      · intro _
        exact bs_next
    · walk_at "less"

/-! ### taken -/
abbrev s_taken : Stmt := top 31
abbrev N_taken : List Str := ["language", "head", "got", "sign", "more"]
theorem sc_taken : FnScope N_taken ["language", "head", "got", "sign"] (defScope s_taken) := ⟨rfl, rfl, rfl, by decide +kernel, rfl, by decide +kernel, by decide +kernel⟩
def R_taken : List W → W → Prop := fun ws w => ∃ L hd got x, Place L hd got ∧ Good L ∧ L.ok x ∧ ws = [.d (eL L), .d (eH hd), .d (eNs got), .d (eS x)] ∧
  w = .d (.tup [eH (NM.taken L hd got x).1, eNs (NM.taken L hd got x).2.1, eO (NM.taken L hd got x).2.2])
theorem r_taken {L : Lang} {hd : Option Nat} {got : List Nat} {x : NM.Sign} (p : Place L hd got) (g : Good L) (hx : L.ok x) : R_taken [.d (eL L), .d (eH hd), .d (eNs got), .d (eS x)]
  (.d (.tup [eH (NM.taken L hd got x).1, eNs (NM.taken L hd got x).2.1, eO (NM.taken L hd got x).2.2])) := ⟨L, hd, got, x, p, g, hx, rfl, rfl⟩
theorem ok_taken (T : Txt K mg) (A : DefAt K mg "taken" "taken" s_taken ["language", "head", "got", "sign"]) (C_long_of : CalF P w K mg base 1 "long_of" R_long_of) : CalF P w K mg base 2 "taken" R_taken := by
  refine calF A sc_taken (fun ws u h => ?_) (fun f cdv A outer s H E ws u hr h => ?_)
  · obtain ⟨L, hd, got, x, _, _, _, rfl, _⟩ := h; rfl
  · obtain ⟨L, hd, got, x, p, g, hx, rfl, rfl⟩ := h
    refine ⟨_, (pss_cons (ps_if (pt_cmpR (eqK K rfl hr) (pe_ix (ixK K rfl) (pv 3) pe_int (fun _ _ => rfl)) (C8.pe_gc rfl T.g_MOMENT) (nomark _)) (pss_one (ps_ret (pe_tup (pa_cons (pv 1) (pa_cons (pv 2) (pa_cons pe_non pa_nil)))))) pss_nil) (pss_cons (ps_if (pt_cmpR (eqK K rfl hr) (pe_ix (ixK K rfl) (pv 3) pe_int (fun _ _ => rfl)) (C8.pe_gc rfl T.g_HEAD) (nomark _)) (pss_cons (ps_if (pt_cmpR (eqK K rfl hr) (pe_ix (ixK K rfl) (pe_ix (ixK K rfl) (pe_ix (ixK K rfl) (pv 0) pe_int (fun _ _ => rfl)) (pe_ix (ixK K rfl) (pv 3) pe_int (fun _ _ => rfl)) (fun _ _ => rfl)) pe_int (fun _ _ => rfl)) pe_int (nomark _)) (pss_one (ps_ret (pe_tup (pa_cons (pe_un un_neg pe_int) (pa_cons (pe_tup pa_nil) (pa_cons (pe_tup (pa_cons (pe_ix (ixK K rfl) (pv 3) pe_int (fun _ _ => rfl)) (pa_cons (pe_tup pa_nil) pa_nil))) pa_nil)))))) pss_nil) (pss_one (ps_ret (pe_tup (pa_cons (pe_ix (ixK K rfl) (pv 3) pe_int (fun _ _ => rfl)) (pa_cons (pe_tup pa_nil) (pa_cons pe_non pa_nil))))))) pss_nil) (pss_cons (ps_if (pt_cmpR (eqK K rfl hr) (pv 1) (pe_un un_neg pe_int) (nomark _)) (pss_one (ps_ret (pe_tup (pa_cons (pe_un un_neg pe_int) (pa_cons (pe_tup pa_nil) (pa_cons pe_non pa_nil)))))) pss_nil) (pss_cons (ps_set (i := 4) sc_taken.nd rfl (by first | exact Or.inl rfl | exact Or.inr rfl) (pe_tup (starK K rfl (pv 2) (pa_cons (pe_ix (ixK K rfl) (pv 3) pe_int (fun _ _ => rfl)) pa_nil)))) (pss_one (ps_ret (pe_ifExp (pt_cmpR op_lt (pe_callB (lenK K rfl) rfl T.b_len bo_len (pa_cons (pv 4) pa_nil)) (C8.pe_c C_long_of hr (by decide) rfl (pa_cons (pv 0) (pa_cons (pv 1) pa_nil))) (nomark _)) (pe_tup (pa_cons (pv 1) (pa_cons (pv 4) (pa_cons pe_non pa_nil)))) (pe_tup (pa_cons (pv 1) (pa_cons (pe_tup pa_nil) (pa_cons (pe_tup (pa_cons (pv 1) (pa_cons (pv 4) pa_nil))) pa_nil))))))))))), .inl ?_⟩
    cases x with
    | moment n =>
      walk_at "take"
      walk_at "ret"
      rfl
    | head n =>
      have hn : n < L.heads.length := hx
      walk_at "skip"
      refine bs_seqR ?_
      (with_reducible apply bs_ifT)
      · walk_at "ct"
      · walk_at "dec"
      · have hlong := long_mem hn
        by_cases h0 : L.long n = 0
        · refine bs_seqR ?_
          (with_reducible apply bs_ifT)
          · (with_reducible apply ct_test)
            (with_reducible apply cm_op)
            · (with_reducible apply cm_op)
              · (with_reducible apply cm_op)
                · walk_at "cm"
                · walk_at "cm"
                · exact co_ixTe rfl (atI_map eHead hn)
              · walk_at "cm"
              · walk_at "co"
            · walk_at "cm"
            · walk_at "co"
          · rw [hlong] at h0
            simp [h0]
          · walk_at "ret"
            simp [NM.taken, h0, eH, eNs, eO, eM]
        · (with_reducible apply bs_skip)
          · (with_reducible apply ct_test)
            (with_reducible apply cm_op)
            · (with_reducible apply cm_op)
              · (with_reducible apply cm_op)
                · walk_at "cm"
                · walk_at "cm"
                · exact co_ixTe rfl (atI_map eHead hn)
              · walk_at "cm"
              · walk_at "co"
            · walk_at "cm"
            · walk_at "co"
          · rw [hlong] at h0
            simp
            omega
          · walk_at "ret"
            simp [NM.taken, h0, eH, eNs, eO, eM]
    | value v =>
      walk_at "skip"
      walk_at "skip"
      cases hd with
      | none =>
        walk_at "take"
        walk_at "ret"
        rfl
      | some h =>
        obtain ⟨hl, hg⟩ := p.hl h rfl
        have hle := g.long_le h
        have hok : okH L (some h) := fun h' e => by cases e; exact hl
        walk_at "skip"
        refine bs_setS (w := .d (eNs (got ++ [v]))) ?_ ?_
        · refine cm_is (w' := .d (.tup (got.map eN ++ [eN v]))) ?_ (by simp [eNs])
          refine cm_tupD (cad_starE (cm_var rfl) rfl (cad_cons (by walk_at "cm") cad_nil)) (by simp; omega)
        by_cases hlt : got.length + 1 < L.long h
        · refine bs_ret (cm_ifT ?_ (c1 := true) rfl ?_)
          · refine ct_test (cm_op (a := .d (.num ((got.length + 1 : Nat) : Int))) (b := .d (eN (L.long h))) ?_ ?_ ?_)
            · exact cm_is (by walk_at "cm") (by simp)
            · refine cm_call ?_ (r_long_of hok)
              walk_at "ca"
            · have := co_lt (K := K) (i := ((got.length + 1 : Nat) : Int)) (j := (L.long h : Int))
              rw [decide_eq_true (by omega)] at this
              exact this
          · (with_reducible apply cm_is)
            · walk_at "cm"
            · simp [NM.taken, hlt, eH, eO]
        · refine bs_ret (cm_ifF ?_ (c1 := false) rfl ?_)
          · refine ct_test (cm_op (a := .d (.num ((got.length + 1 : Nat) : Int))) (b := .d (eN (L.long h))) ?_ ?_ ?_)
            · exact cm_is (by walk_at "cm") (by simp)
            · refine cm_call ?_ (r_long_of hok)
              walk_at "ca"
            · have := co_lt (K := K) (i := ((got.length + 1 : Nat) : Int)) (j := (L.long h : Int))
              rw [decide_eq_false (by omega)] at this
              exact this
          · (with_reducible apply cm_is)
            · walk_at "cm"
            · simp [NM.taken, hlt, eH, eO, eM, eNs]
end
end NW
/-! readers.py: what is on, what is read -/
namespace NW
open PySem PySem.Spec PyProof.Rows L2 StX NM
local macro_rules | `(tactic| walk_at "my") => `(tactic| fail)
local macro_rules | `(tactic| walk_at "mycm") => `(tactic| fail)
local macro_rules | `(tactic| walk_at "myco") => `(tactic| fail)
local macro_rules | `(tactic| walk_at "mycc") => `(tactic| fail)
local macro_rules | `(tactic| walk_at "sh") => `(tactic| first | assumption | exact sh_n | exact Sh.num | exact Sh.non | exact sh_role | exact Sh.text (by decide +kernel) | exact sh_ns | exact sh_s | exact sh_m | exact sh_o | exact sh_h | exact sh_t | exact sh_ss | exact sh_ms | exact sh_head | exact sh_L | exact sh_nil | (apply sh_cons <;> walk_at "sh"))
local macro_rules | `(tactic| walk_at "shs") => `(tactic| first | assumption | exact shs_nil | (apply shs_cons; walk_at "sh"; walk_at "shs"))
local macro_rules | `(tactic| walk_at "co") => `(tactic| first
  | ((with_reducible apply co_ixTe); exact rfl; exact rfl)
  | ((with_reducible exact co_ixDl))
  | ((with_reducible apply co_ixL); exact rfl)
  | (with_reducible exact co_lt) | (with_reducible exact co_le) | (with_reducible exact co_gt) | (with_reducible exact co_ge) | (with_reducible exact co_sub)
  | (with_reducible exact co_isN) | (with_reducible exact co_isNotN)
  | ((with_reducible apply co_eq) <;> walk_at "sh") | ((with_reducible apply co_ne) <;> walk_at "sh")
  | (with_reducible exact co_add)
  | ((with_reducible apply co_inTe); exact rfl; walk_at "sh"; walk_at "shs")
  | walk_at "myco")
local macro_rules | `(tactic| walk_at "cc") => `(tactic| first
  | ((with_reducible apply cc_lenTe); exact rfl) | (with_reducible exact cc_lenL) | (with_reducible exact cc_all) | (with_reducible exact cc_any) | (with_reducible exact cc_tuple) | (with_reducible exact cc_intI)
  | (with_reducible exact cc_intB) | (with_reducible exact cc_min2) | (with_reducible exact cc_listT)
  | ((with_reducible apply cc_isi); first | exact isi_int rfl | exact isi_bool | exact isi_tuple rfl | exact isi_str rfl)
  | walk_at "mycc")
local macro_rules | `(tactic| walk_at "ca") => `(tactic| first
  | (with_reducible exact ca_nil)
  | ((with_reducible apply ca_cons); walk_at "cm"; walk_at "ca"))
local macro_rules | `(tactic| walk_at "cad") => `(tactic| first
  | (with_reducible exact cad_nil)
  | ((with_reducible apply cad_cons); walk_at "cm"; walk_at "cad")
  | ((with_reducible apply cad_starE); walk_at "cm"; exact rfl; walk_at "cad"))
local macro_rules | `(tactic| walk_at "cm") => `(tactic| first
  | ((with_reducible apply cm_var); exact rfl)
  | (with_reducible exact cm_int) | (with_reducible exact cm_str) | (with_reducible exact cm_non) | (with_reducible exact cm_bl)
  | ((with_reducible apply cm_op); walk_at "cm"; walk_at "cm"; walk_at "co")
  | ((with_reducible apply cm_tupD); walk_at "cad"; walk_at "size")
  | ((with_reducible apply cm_neg); walk_at "cm")
  | ((with_reducible apply cm_call); walk_at "ca"; walk_at "my")
  | walk_at "mycm"
  | ((with_reducible apply cm_cb); walk_at "ca"; walk_at "cc")
  | ((with_reducible apply cm_chain); walk_at "cm"; walk_at "cm"; walk_at "co"; (intro _; walk_at "cm"); walk_at "co")
  | ((with_reducible apply cm_andVF); walk_at "cm"; walk_at "dec0")
  | ((with_reducible apply cm_orVT); walk_at "cm"; walk_at "dec0")
  | ((with_reducible apply cm_ifT); walk_at "ct"; walk_at "dec"; walk_at "cm")
  | ((with_reducible apply cm_ifF); walk_at "ct"; walk_at "dec"; walk_at "cm")
  | ((with_reducible apply cm_andV); walk_at "cm"; (intro _; walk_at "cm"))
  | ((with_reducible apply cm_orV); walk_at "cm"; (intro _; walk_at "cm"))
  | ((with_reducible apply cm_notV); walk_at "cm")
  | (with_reducible exact cm_val))
local macro_rules | `(tactic| walk_at "ct") => `(tactic| first
  | ((with_reducible apply ct_test); walk_at "cm") | ((with_reducible apply ct_B); walk_at "cm") | ((with_reducible apply ct_not); walk_at "ct")
  | ((with_reducible apply ct_andF); walk_at "ct"; walk_at "dec0")
  | ((with_reducible apply ct_orT); walk_at "ct"; walk_at "dec0")
  | ((with_reducible apply ct_and); walk_at "ct"; (intro _; walk_at "ct"))
  | ((with_reducible apply ct_or); walk_at "ct"; (intro _; walk_at "ct")))
local macro_rules | `(tactic| walk_at "size") => `(tactic| focus first | assumption | (simp; done) | (simp; omega) | omega)
local macro_rules | `(tactic| walk_at "dec0") => `(tactic| focus first | rfl | (simp [eHead, eL, eSs, eMs, eS, eM, eT, eN, eNs, eH, eO, rN]; done))
local macro_rules | `(tactic| walk_at "dec") => `(tactic| focus first | rfl | (simp [eHead, eL, eSs, eMs, eS, eM, eT, eN, eNs, eH, eO, rN]; done) | (simp [eHead, eL, eSs, eMs, eS, eM, eT, eN, eNs, eH, eO, rN]; omega) | (simp [eHead, eL, eSs, eMs, eS, eM, eT, eN, eNs, eH, eO, rN, *]; done))
local macro_rules | `(tactic| walk_at "skip") => `(tactic| ((with_reducible apply bs_skip); walk_at "ct"; walk_at "dec"))
local macro_rules | `(tactic| walk_at "take") => `(tactic| (refine bs_seqR ?_; (with_reducible apply bs_ifT); walk_at "ct"; walk_at "dec"))
local macro_rules | `(tactic| walk_at "ret") => `(tactic| (refine bs_ret ?_; (with_reducible apply cm_is); walk_at "cm"))
local macro_rules | `(tactic| walk_at "set") => `(tactic| ((with_reducible apply bs_setS); walk_at "cm"))
local macro_rules | `(tactic| walk_at "drop") => `(tactic| ((with_reducible apply bs_dropS); walk_at "cm"))
local macro_rules | `(tactic| walk_at "norm") => `(tactic| skip)
local macro_rules | `(tactic| walk_at "less") => `(tactic| first | exact less_nil | (apply less_some; walk_at "less") | (apply less_none; walk_at "less"))
local macro_rules | `(tactic| walk_at "flat") => `(tactic| first | exact flat_nil | (refine flat_cons ?_ ?_; (first | exact trivial | exact rfl); walk_at "flat"))
section
variable {P : Program} {w : World} {K : Fg} {mg : Str → Option Value} {base : Heap}

local macro_rules | `(tactic| walk_at "my") => `(tactic| first | exact r_is_whole | exact r_is_whole0 | exact r_need_language (by assumption) | exact r_long_of (by assumption))
theorem atI_zero {α : Type} {x : α} {xs : List α} : atI (x :: xs) (0 : Int) = some x := atI_nat (j := 0) rfl
/-! ### notes_behind -/
abbrev s_notes_behind : Stmt := top 32
abbrev N_notes_behind : List Str := ["language", "on", "message", "role", "values", "note"]
theorem sc_notes_behind : FnScope N_notes_behind ["language", "on", "message"] (defScope s_notes_behind) := ⟨rfl, rfl, rfl, by decide +kernel, rfl, by decide +kernel, by decide +kernel⟩
def R_notes_behind : List W → W → Prop := fun ws w => ∃ L on m, Good L ∧ on.Pairwise (· < ·) ∧ on.length ≤ 40 ∧ (∀ q, m = some q → GoodM L q) ∧ ws = [.d (eL L), .d (eNs on), .d (eO m)] ∧ w = .d (eNs (notesBehind L on m))
theorem r_notes_behind {L : Lang} {on : List Nat} {m : Option Msg} (g : Good L) (h1 : on.Pairwise (· < ·)) (h2 : on.length ≤ 40) (h3 : ∀ q, m = some q → GoodM L q) : R_notes_behind [.d (eL L), .d (eNs on), .d (eO m)] (.d (eNs (notesBehind L on m))) := ⟨L, on, m, g, h1, h2, h3, rfl, rfl⟩
theorem ok_notes_behind (T : Txt K mg) (A : DefAt K mg "notes_behind" "notes_behind" s_notes_behind ["language", "on", "message"]) : CalF P w K mg base 1 "notes_behind" R_notes_behind := by
  refine calF A sc_notes_behind (fun ws u h => ?_) (fun f cdv A outer s H E ws u hr h => ?_)
  · obtain ⟨L, on, m, _, _, _, _, rfl, _⟩ := h; rfl
  · obtain ⟨L, on, m, g, hup, hlen, hm, rfl, rfl⟩ := h
    refine ⟨_, (pss_cons (ps_if (pt_cmpR op_isN (pv 2) pe_non (nomark _)) (pss_one (ps_ret (pv 1))) pss_nil) (pss_cons (ps_asg (pe_tup (pa_cons (pe_ix (ixK K rfl) (pe_ix (ixK K rfl) (pe_ix (ixK K rfl) (pv 0) pe_int (fun _ _ => rfl)) (pe_ix (ixK K rfl) (pv 2) pe_int (fun _ _ => rfl)) (fun _ _ => rfl)) pe_int (fun _ _ => rfl)) (pa_cons (pe_ix (ixK K rfl) (pv 2) pe_int (fun _ _ => rfl)) pa_nil))) (pgTK (n := 2) K rfl rfl (pgs_cons (pg_name (i := 3) sc_notes_behind.nd rfl (by first | exact Or.inl rfl | exact Or.inr rfl)) (pgs_cons (pg_name (i := 4) sc_notes_behind.nd rfl (by first | exact Or.inl rfl | exact Or.inr rfl)) pgs_nil)))) (pss_cons (ps_if (pt_cmpR (eqK K rfl hr) (pv 3) (C8.pe_gc rfl T.g_QUIET) (nomark _)) (pss_one (ps_ret (pe_tup pa_nil))) pss_nil) (pss_cons (ps_if (pt_cmpR (eqK K rfl hr) (pv 3) (C8.pe_gc rfl T.g_ON) (nomark _)) (pss_one (ps_ret (pe_callTy (tupleK K rfl) rfl T.b_tuple bo_tuple (pa_cons (pe_callB (sortedSetK w rfl rfl) rfl T.b_sorted bo_sorted (pa_cons (pe_callTy (setTK K w rfl rfl rfl) rfl T.b_set bo_set (pa_cons (pe_op (addK K rfl) (pv 1) (pe_tup (pa_cons (pe_ix (ixK K rfl) (pv 4) pe_int (fun _ _ => rfl)) pa_nil))) pa_nil)) pa_nil)) pa_nil)))) pss_nil) (pss_one (ps_ret (pe_ifExp (pt_cmpR (eqK K rfl hr) (pv 3) (C8.pe_gc rfl T.g_OFF) (nomark _)) (pe_callTy (tupleK K rfl) rfl T.b_tuple bo_tuple (pa_cons (pe_lc (own := [("note", 5)]) rfl sc_notes_behind.nd (piTK K rfl (pv 1)) (blkOk_by (own := [("note", 5)]) (N := N_notes_behind) (sc := defScope s_notes_behind) (by decide +kernel)) (fun _ _ _ _ _ => (pg_name (i := 5) sc_notes_behind.nd rfl (by first | exact Or.inl rfl | exact Or.inr rfl))) (fun _ _ _ _ _ => pts_one (pt_cmpR (neK K rfl hr) (pv 5) (pe_ix (ixK K rfl) (pv 4) pe_int (fun _ _ => rfl)) (nomark _))) (fun _ _ _ _ _ => (pv 5))) pa_nil)) (pv 1)))))))), .inl ?_⟩
    cases m with
    | none =>
      walk_at "take"
      walk_at "ret"
      rfl
    | some m =>
      obtain ⟨h, vs⟩ := m
      have gm := hm _ rfl
      have hl : h < L.heads.length := gm.hl
      walk_at "skip"
      refine bs_asgS (w := .d (.tup [.text (rN (L.role h)), eNs vs])) ?_ (cg_tupE rfl (cgs_cons cg_name (cgs_cons cg_name cgs_nil)) rfl) ?_
      · refine cm_tupD (cad_cons ?_ (cad_cons (by walk_at "cm") cad_nil)) (by simp)
        refine cm_is (w' := .d (.text (rN (L.heads[h]).1))) ?_ (by rw [role_mem hl])
        (with_reducible apply cm_op)
        · (with_reducible apply cm_op)
          · (with_reducible apply cm_op)
            · walk_at "cm"
            · walk_at "cm"
            · walk_at "co"
          · walk_at "cm"
          · exact co_ixTe rfl (atI_map eHead hl)
        · walk_at "cm"
        · walk_at "co"
      have nonempty : L.role h = .on ∨ L.role h = .off → ∃ v vs', vs = v :: vs' := fun hr => by
        have l1 := g.long_on hl hr
        have ln : vs.length = L.long h := gm.ln
        cases vs with
        | nil =>
          rw [← ln] at l1
          exact absurd l1 (by decide)
        | cons v vs' => exact ⟨v, vs', rfl⟩
      cases hrole : L.role h with
      | quiet =>
        walk_at "take"
        walk_at "ret"
        simp [notesBehind, hrole, eNs]
      | on =>
        obtain ⟨v, vs', rfl⟩ := nonempty (.inl hrole)
        walk_at "skip"
        refine bs_seqR ?_
        (with_reducible apply bs_ifT)
        · walk_at "ct"
        · walk_at "dec"
        · refine bs_ret (cm_cb (ca_cons (cm_is (w' := .l (((ins v on).map fun n : Nat => (n : Int)).map .num)) ?_ ?_) ca_nil) cc_tuple)
          · refine cm_sortedSet (ns := (on ++ [v]).map fun n : Nat => (n : Int)) (cm_is (w' := .d (.tup (on.map eN ++ [eN v]))) ?_ ?_) (by simp; omega) ?_ ?_
            · refine cm_op (cm_var rfl) (cm_tupD (cad_cons (cm_op (cm_var rfl) cm_int (co_ixTe rfl atI_zero)) cad_nil) (by simp)) (co_addTe rfl rfl (by simp; omega))
            · simp
            · rw [List.pairwise_map]
              exact (ins_up hup).imp fun h => by omega
            · intro k
              simp only [List.mem_map, mem_ins, List.mem_append, List.mem_singleton]
              constructor
              · rintro ⟨n, h | h, rfl⟩
                · exact ⟨n, .inr h, rfl⟩
                · exact ⟨n, .inl h, rfl⟩
              · rintro ⟨n, h | h, rfl⟩
                · exact ⟨n, .inr h, rfl⟩
                · exact ⟨n, .inl h, rfl⟩
          · simp [notesBehind, hrole, eNs, List.map_map, Function.comp_def]
      | off =>
        obtain ⟨v, vs', rfl⟩ := nonempty (.inr hrole)
        walk_at "skip"
        walk_at "skip"
        refine bs_ret (cm_ifT (c1 := true) ?_ rfl (cm_cb (ca_cons (cm_is (w' := .l ((on.filter (fun n => !decide (eN n = eN v))).map eN)) ?_ ?_) ca_nil) cc_tuple))
        · (with_reducible apply ct_test)
          refine cm_is (w' := .b (decide ((.text (rN .off) : D) = .text "off"))) ?_ rfl
          walk_at "cm"
        · refine cm_lcf (as := on) (fun n => .d (eN n)) _ eN (ci_tupM eN (cm_var rfl) rfl) (by omega) fun n hn => ⟨_, [5], by simp, cg_name, ?_, fun _ => ?_⟩
          · refine ct_test (cm_op (cm_var rfl) (cm_op (cm_var rfl) cm_int (co_ixTe rfl atI_zero)) (co_ne sh_n sh_n))
          · walk_at "cm"
        · have e : (on.filter fun n => !decide (eN n = eN v)) = on.filter (· ≠ v) := List.filter_congr fun n _ => by
            by_cases q : n = v
            · simp [q]
            · have : ¬ (n : Int) = (v : Int) := by omega
              simp [q, this]
          rw [e]
          simp [notesBehind, hrole, eNs]
      | other =>
        walk_at "skip"
        walk_at "skip"
        refine bs_ret (cm_ifF (c1 := false) ?_ rfl ?_)
        · (with_reducible apply ct_test)
          refine cm_is (w' := .b (decide ((.text (rN .other) : D) = .text "off"))) ?_ ?_
          · walk_at "cm"
          · first | rfl | (simp [rN]; decide)
        · (with_reducible apply cm_is)
          · walk_at "cm"
          · simp [notesBehind, hrole]
end
end NW
/-! readers.py: reading -/
namespace NW
open PySem PySem.Spec PyProof.Rows L2 StX NM
local macro_rules | `(tactic| walk_at "my") => `(tactic| fail)
local macro_rules | `(tactic| walk_at "mycm") => `(tactic| fail)
local macro_rules | `(tactic| walk_at "myco") => `(tactic| fail)
local macro_rules | `(tactic| walk_at "mycc") => `(tactic| fail)
local macro_rules | `(tactic| walk_at "sh") => `(tactic| first | assumption | exact sh_n | exact Sh.num | exact Sh.non | exact sh_role | exact Sh.text (by decide +kernel) | exact sh_ns | exact sh_s | exact sh_m | exact sh_o | exact sh_h | exact sh_t | exact sh_ss | exact sh_ms | exact sh_head | exact sh_L | exact sh_nil | (apply sh_cons <;> walk_at "sh"))
local macro_rules | `(tactic| walk_at "shs") => `(tactic| first | assumption | exact shs_nil | (apply shs_cons; walk_at "sh"; walk_at "shs"))
local macro_rules | `(tactic| walk_at "co") => `(tactic| first
  | ((with_reducible apply co_ixTe); exact rfl; exact rfl)
  | ((with_reducible exact co_ixDl))
  | ((with_reducible apply co_ixL); exact rfl)
  | (with_reducible exact co_lt) | (with_reducible exact co_le) | (with_reducible exact co_gt) | (with_reducible exact co_ge) | (with_reducible exact co_sub)
  | (with_reducible exact co_isN) | (with_reducible exact co_isNotN)
  | ((with_reducible apply co_eq) <;> walk_at "sh") | ((with_reducible apply co_ne) <;> walk_at "sh")
  | (with_reducible exact co_add)
  | ((with_reducible apply co_inTe); exact rfl; walk_at "sh"; walk_at "shs")
  | walk_at "myco")
local macro_rules | `(tactic| walk_at "cc") => `(tactic| first
  | ((with_reducible apply cc_lenTe); exact rfl) | (with_reducible exact cc_lenL) | (with_reducible exact cc_all) | (with_reducible exact cc_any) | (with_reducible exact cc_tuple) | (with_reducible exact cc_intI)
  | (with_reducible exact cc_intB) | (with_reducible exact cc_min2) | (with_reducible exact cc_listT)
  | ((with_reducible apply cc_isi); first | exact isi_int rfl | exact isi_bool | exact isi_tuple rfl | exact isi_str rfl)
  | walk_at "mycc")
local macro_rules | `(tactic| walk_at "ca") => `(tactic| first
  | (with_reducible exact ca_nil)
  | ((with_reducible apply ca_cons); walk_at "cm"; walk_at "ca"))
local macro_rules | `(tactic| walk_at "cad") => `(tactic| first
  | (with_reducible exact cad_nil)
  | ((with_reducible apply cad_cons); walk_at "cm"; walk_at "cad")
  | ((with_reducible apply cad_starE); walk_at "cm"; exact rfl; walk_at "cad"))
local macro_rules | `(tactic| walk_at "cm") => `(tactic| first
  | ((with_reducible apply cm_var); exact rfl)
  | (with_reducible exact cm_int) | (with_reducible exact cm_str) | (with_reducible exact cm_non) | (with_reducible exact cm_bl)
  | ((with_reducible apply cm_op); walk_at "cm"; walk_at "cm"; walk_at "co")
  | ((with_reducible apply cm_tupD); walk_at "cad"; walk_at "size")
  | ((with_reducible apply cm_neg); walk_at "cm")
  | ((with_reducible apply cm_call); walk_at "ca"; walk_at "my")
  | walk_at "mycm"
  | ((with_reducible apply cm_cb); walk_at "ca"; walk_at "cc")
  | ((with_reducible apply cm_chain); walk_at "cm"; walk_at "cm"; walk_at "co"; (intro _; walk_at "cm"); walk_at "co")
  | ((with_reducible apply cm_andVF); walk_at "cm"; walk_at "dec0")
  | ((with_reducible apply cm_orVT); walk_at "cm"; walk_at "dec0")
  | ((with_reducible apply cm_ifT); walk_at "ct"; walk_at "dec"; walk_at "cm")
  | ((with_reducible apply cm_ifF); walk_at "ct"; walk_at "dec"; walk_at "cm")
  | ((with_reducible apply cm_andV); walk_at "cm"; (intro _; walk_at "cm"))
  | ((with_reducible apply cm_orV); walk_at "cm"; (intro _; walk_at "cm"))
  | ((with_reducible apply cm_notV); walk_at "cm")
  | (with_reducible exact cm_val))
local macro_rules | `(tactic| walk_at "ct") => `(tactic| first
  | ((with_reducible apply ct_test); walk_at "cm") | ((with_reducible apply ct_B); walk_at "cm") | ((with_reducible apply ct_not); walk_at "ct")
  | ((with_reducible apply ct_andF); walk_at "ct"; walk_at "dec0")
  | ((with_reducible apply ct_orT); walk_at "ct"; walk_at "dec0")
  | ((with_reducible apply ct_and); walk_at "ct"; (intro _; walk_at "ct"))
  | ((with_reducible apply ct_or); walk_at "ct"; (intro _; walk_at "ct")))
local macro_rules | `(tactic| walk_at "size") => `(tactic| focus first | assumption | (simp; done) | (simp; omega) | omega)
local macro_rules | `(tactic| walk_at "dec0") => `(tactic| focus first | rfl | (simp [eHead, eL, eSs, eMs, eS, eM, eT, eN, eNs, eH, eO, rN]; done))
local macro_rules | `(tactic| walk_at "dec") => `(tactic| focus first | rfl | (simp [eHead, eL, eSs, eMs, eS, eM, eT, eN, eNs, eH, eO, rN]; done) | (simp [eHead, eL, eSs, eMs, eS, eM, eT, eN, eNs, eH, eO, rN]; omega) | (simp [eHead, eL, eSs, eMs, eS, eM, eT, eN, eNs, eH, eO, rN, *]; done))
local macro_rules | `(tactic| walk_at "skip") => `(tactic| ((with_reducible apply bs_skip); walk_at "ct"; walk_at "dec"))
local macro_rules | `(tactic| walk_at "take") => `(tactic| (refine bs_seqR ?_; (with_reducible apply bs_ifT); walk_at "ct"; walk_at "dec"))
local macro_rules | `(tactic| walk_at "ret") => `(tactic| (refine bs_ret ?_; (with_reducible apply cm_is); walk_at "cm"))
local macro_rules | `(tactic| walk_at "set") => `(tactic| ((with_reducible apply bs_setS); walk_at "cm"))
local macro_rules | `(tactic| walk_at "drop") => `(tactic| ((with_reducible apply bs_dropS); walk_at "cm"))
local macro_rules | `(tactic| walk_at "norm") => `(tactic| skip)
local macro_rules | `(tactic| walk_at "less") => `(tactic| first | exact less_nil | (apply less_some; walk_at "less") | (apply less_none; walk_at "less"))
local macro_rules | `(tactic| walk_at "flat") => `(tactic| first | exact flat_nil | (refine flat_cons ?_ ?_; (first | exact trivial | exact rfl); walk_at "flat"))
section
variable {P : Program} {w : World} {K : Fg} {mg : Str → Option Value} {base : Heap}

/-! ### read_so -/
abbrev s_read_so : Stmt := top 33
abbrev N_read_so : List Str := ["language", "standing", "stream", "head", "got", "on", "heard", "sign", "message"]
theorem sc_read_so : FnScope N_read_so ["language", "standing", "stream"] (defScope s_read_so) := ⟨rfl, rfl, rfl, by decide +kernel, rfl, by decide +kernel, by decide +kernel⟩
def R_read_so : List W → W → Prop := fun ws w => ∃ L s xs, Good L ∧ GoodT L s ∧ (∀ x ∈ xs, L.ok x) ∧ xs.length ≤ 400 ∧ ws = [.d (eL L), .d (eT s), .d (eSs xs)] ∧ w = .dl (eT (readSo L s xs).1) ((readSo L s xs).2.map eM)
theorem r_read_so {L : Lang} {s : Std} {xs : List NM.Sign} (g : Good L) (t : GoodT L s) (h : ∀ x ∈ xs, L.ok x) (hl : xs.length ≤ 400) : R_read_so [.d (eL L), .d (eT s), .d (eSs xs)] (.dl (eT (readSo L s xs).1) ((readSo L s xs).2.map eM)) := ⟨L, s, xs, g, t, h, hl, rfl, rfl⟩
theorem on_len {L : Lang} {s : Std} (g : Good L) (t : GoodT L s) : s.on.length ≤ 4 := by
  have h : s.on.Sublist (List.range L.notes) ∨ True := .inr trivial
  have key : ∀ (xs : List Nat) (a n : Nat), xs.Pairwise (· < ·) → (∀ v ∈ xs, a ≤ v ∧ v < a + n) → xs.length ≤ n := by
    intro xs
    induction xs with
    | nil => intro a n _ _; simp
    | cons x xs ih =>
      intro a n hp hv
      rw [List.pairwise_cons] at hp
      obtain ⟨h1, h2⟩ := hv x (by simp)
      cases n with
      | zero => omega
      | succ n =>
        have := ih (a + 1) n hp.2 fun v hv' => by
          have h3 := hp.1 v hv'
          have h4 := hv v (by simp [hv'])
          omega
        simp
        omega
  have := key s.on 0 L.notes t.up fun v hv => ⟨by omega, by have := t.on v hv; omega⟩
  have := g.n4
  omega
theorem ok_read_so (T : Txt K mg) (A : DefAt K mg "read_so" "read_so" s_read_so ["language", "standing", "stream"]) (C_taken : CalF P w K mg base 2 "taken" R_taken) (C_notes_behind : CalF P w K mg base 1 "notes_behind" R_notes_behind) :
    CalF P w K mg base 3 "read_so" R_read_so := by
  refine calF A sc_read_so (fun ws u h => ?_) (fun f cdv A outer s H E ws u hr h => ?_)
  · obtain ⟨L, s, xs, _, _, _, _, rfl, _⟩ := h; rfl
  · obtain ⟨L, s, xs, g, t, hx, hlen, rfl, rfl⟩ := h
    refine ⟨_, (pss_cons (ps_asg (pv 1) (pgTK (n := 3) K rfl rfl (pgs_cons (pg_name (i := 3) sc_read_so.nd rfl (by first | exact Or.inl rfl | exact Or.inr rfl)) (pgs_cons (pg_name (i := 4) sc_read_so.nd rfl (by first | exact Or.inl rfl | exact Or.inr rfl)) (pgs_cons (pg_name (i := 5) sc_read_so.nd rfl (by first | exact Or.inl rfl | exact Or.inr rfl)) pgs_nil))))) (pss_cons (ps_set (i := 6) sc_read_so.nd rfl (by first | exact Or.inl rfl | exact Or.inr rfl) (pe_lst pa_nil)) (pss_cons (ps_for PassesOwn.never rfl (piTK K rfl (pv 2)) (pg_name (i := 7) sc_read_so.nd rfl (by first | exact Or.inl rfl | exact Or.inr rfl)) (pss_cons (ps_asg (C8.pe_c C_taken hr (by decide) rfl (pa_cons (pv 0) (pa_cons (pv 3) (pa_cons (pv 4) (pa_cons (pv 7) pa_nil))))) (pgTK (n := 3) K rfl rfl (pgs_cons (pg_name (i := 3) sc_read_so.nd rfl (by first | exact Or.inl rfl | exact Or.inr rfl)) (pgs_cons (pg_name (i := 4) sc_read_so.nd rfl (by first | exact Or.inl rfl | exact Or.inr rfl)) (pgs_cons (pg_name (i := 8) sc_read_so.nd rfl (by first | exact Or.inl rfl | exact Or.inr rfl)) pgs_nil))))) (pss_cons (ps_set (i := 5) sc_read_so.nd rfl (by first | exact Or.inl rfl | exact Or.inr rfl) (C8.pe_c C_notes_behind hr (by decide) rfl (pa_cons (pv 0) (pa_cons (pv 5) (pa_cons (pv 8) pa_nil))))) (pss_one (ps_if (pt_cmpR op_notN (pv 8) pe_non (nomark _)) (pss_one (ps_expr (bmK K rfl (pe_bm PySem.F.plainAttrs_list PySem.F.slot_list_append PySem.F.type_list_append mt_append (pv 6) (pa_cons (pv 8) pa_nil))))) pss_nil))))) (pss_one (ps_ret (pe_tup (pa_cons (pe_tup (pa_cons (pv 3) (pa_cons (pv 4) (pa_cons (pv 5) pa_nil)))) (pa_cons (pv 6) pa_nil)))))))), .inl ?_⟩
    refine bs_asgS (w := .d (eT s)) (cm_var rfl) (cg_tupE rfl (cgs_cons cg_name (cgs_cons cg_name (cgs_cons cg_name cgs_nil))) rfl) ?_
    intro D σ H e p
    refine ls_new 6 e fun l H1 h1 => ?_
    let R : Std → Sl := fun S => [some (.d (eL L)), some (.d (eT s)), some (.d (eSs xs)), some (.d (eH S.hd)), some (.d (eNs S.got)), some (.d (eNs S.on)), some (.v (.ref l)), none, none]
    refine ls_for (fun i => R (readSo L s (xs.take i)).1) (fun i => (readSo L s (xs.take i)).2.map eM) h1 (ck_tupM eS (cm_var rfl) rfl).x (fun i w hw => ?_) fun σ2 H2 h2 => ?_
    · have hi : i < xs.length := by
        have := (List.getElem?_eq_some_iff.mp hw).1
        simpa using this
      have hxi : xs[i]? = some xs[i] := by simp [hi]
      have ew : w = .d (eS xs[i]) := by
        simp [hi] at hw
        exact hw.symm
      subst ew
      have hok := hx _ (List.getElem_mem hi)
      have tS := (good_read g t (xs := xs.take i) fun y hy => hx y (List.mem_of_mem_take hy)).1
      have hlen2 := heard_len L (xs.take i) s
      rw [List.length_take] at hlen2
      have hlen3 : (readSo L s (xs.take i)).2.length ≤ 400 := by omega
      clear hlen2
      rw [read_take L hxi s]
      generalize hS : readSo L s (xs.take i) = S at tS hlen3 ⊢
      obtain ⟨S, ms⟩ := S
      have hlen4 : ms.length ≤ 400 := hlen3
      have pl := tS.pl
      have onl := on_len g tS
      obtain ⟨p1, p2⟩ := place_taken pl hok
      refine ⟨_, _, cg_name, fun Hb σ3 H3 D' h3 q => ?_⟩
      refine ls_seq h3 (bs_asg (w := .d (.tup [eH (NM.taken L S.hd S.got xs[i]).1, eNs (NM.taken L S.hd S.got xs[i]).2.1, eO (NM.taken L S.hd S.got xs[i]).2.2])) (cm_call (ca_cons (cm_var rfl) (ca_cons (cm_var rfl) (ca_cons (cm_var rfl) (ca_cons (cm_var rfl) ca_nil)))) (r_taken pl g hok))
        (cg_tupE rfl (cgs_cons cg_name (cgs_cons cg_name (cgs_cons cg_name cgs_nil))) rfl)) fun σ4 H4 h4 => ?_
      refine ls_seq h4 (bs_asg (w := .d (eNs (notesBehind L S.on (NM.taken L S.hd S.got xs[i]).2.2))) (cm_call (ca_cons (cm_var rfl) (ca_cons (cm_var rfl) (ca_cons (cm_var rfl) ca_nil))) (r_notes_behind g tS.up (by omega) p2)) cg_name) fun σ5 H5 h5 => ?_
      have hst : (step L S xs[i]).2 = (NM.taken L S.hd S.got xs[i]).2.2 := rfl
      cases hm : (NM.taken L S.hd S.got xs[i]).2.2 with
      | none =>
        rw [hm] at h5
        refine ls_if (c := false) h5 (ct_test (cm_op (cm_var rfl) cm_non co_isNotN)) (fun z => by cases z) fun _ H6 h6 => ?_
        refine q _ _ ?_
        have h7 := h6.less (r' := R (step L S xs[i]).1) (by
          show Less [some (.d (eL L)), some (.d (eT s)), some (.d (eSs xs)), some (.d (eH (NM.taken L S.hd S.got xs[i]).1)), some (.d (eNs (NM.taken L S.hd S.got xs[i]).2.1)), some (.d (eNs (notesBehind L S.on (NM.taken L S.hd S.got xs[i]).2.2))), some (.v (.ref l)), none, none] _
          rw [hm]
          walk_at "less")
        rw [hst, hm]
        simpa using h7
      | some m =>
        rw [hm] at h5
        refine ls_if (c := true) h5 (ct_test (cm_op (cm_var rfl) cm_non co_isNotN)) (fun _ H6 h6 => ?_) fun z => by cases z
        refine ls_append (d := eM m) h6 rfl (cm_var rfl) (by walk_at "flat") (by simp; omega) fun H7 h7 => q _ _ ?_
        have h8 := h7.less (r' := R (step L S xs[i]).1) (by
          show Less [some (.d (eL L)), some (.d (eT s)), some (.d (eSs xs)), some (.d (eH (NM.taken L S.hd S.got xs[i]).1)), some (.d (eNs (NM.taken L S.hd S.got xs[i]).2.1)), some (.d (eNs (notesBehind L S.on (NM.taken L S.hd S.got xs[i]).2.2))), some (.v (.ref l)), none, none] _
          rw [hm]
          walk_at "less")
        rw [hst, hm]
        simpa using h8
    · simp only [List.length_map, List.take_length] at h2
      have hT : Cm K (tTup (tCons (tVar 3) (tCons (tVar 4) (tCons (tVar 5) tNil)))) (R (readSo L s xs).1) (.d (eT (readSo L s xs).1)) := cm_tupD (cad_cons (cm_var rfl) (cad_cons (cm_var rfl) (cad_cons (cm_var rfl) cad_nil))) (by simp)
      show tTup (tCons (tTup (tCons (tVar 3) (tCons (tVar 4) (tCons (tVar 5) tNil)))) (tCons (tVar 6) tNil)) σ2 H2 D.rt
      refine tup_cons (hT σ2 H2 _ h2.env fun y H3 s3 r3 => ?_)
      have h3 := h2.go s3 (h2.env.same s3)
      obtain ⟨z, hz, ez⟩ := h3.env.at_ 6 _ rfl
      have ez' : z = .ref l := ez
      subst ez'
      obtain ⟨vs, h4, h5⟩ := h3.lst
      refine ⟨_, hz, (by decide : (2 : Nat) ≤ sizeLine), fun q hq => p _ _ ((h3.same).trans (Same.new hq)) ⟨q, y, l, vs, rfl, upd_same, Rp.keep (Keep.of (Same.new hq)) _ _ r3, ?_, RpA.keep (Keep.of (Same.new hq)) _ _ h5⟩⟩
      rw [upd_ne (ne_of_none h4 hq)]
      exact h4
end
end NW
/-! readers.py: standings, read -/
namespace NW
open PySem PySem.Spec PyProof.Rows L2 StX NM
local macro_rules | `(tactic| walk_at "my") => `(tactic| fail)
local macro_rules | `(tactic| walk_at "mycm") => `(tactic| fail)
local macro_rules | `(tactic| walk_at "myco") => `(tactic| fail)
local macro_rules | `(tactic| walk_at "mycc") => `(tactic| fail)
local macro_rules | `(tactic| walk_at "sh") => `(tactic| first | assumption | exact sh_n | exact Sh.num | exact Sh.non | exact sh_role | exact Sh.text (by decide +kernel) | exact sh_ns | exact sh_s | exact sh_m | exact sh_o | exact sh_h | exact sh_t | exact sh_ss | exact sh_ms | exact sh_head | exact sh_L | exact sh_nil | (apply sh_cons <;> walk_at "sh"))
local macro_rules | `(tactic| walk_at "shs") => `(tactic| first | assumption | exact shs_nil | (apply shs_cons; walk_at "sh"; walk_at "shs"))
local macro_rules | `(tactic| walk_at "co") => `(tactic| first
  | ((with_reducible apply co_ixTe); exact rfl; exact rfl)
  | ((with_reducible exact co_ixDl))
  | ((with_reducible apply co_ixL); exact rfl)
  | (with_reducible exact co_lt) | (with_reducible exact co_le) | (with_reducible exact co_gt) | (with_reducible exact co_ge) | (with_reducible exact co_sub)
  | (with_reducible exact co_isN) | (with_reducible exact co_isNotN)
  | ((with_reducible apply co_eq) <;> walk_at "sh") | ((with_reducible apply co_ne) <;> walk_at "sh")
  | (with_reducible exact co_add)
  | ((with_reducible apply co_inTe); exact rfl; walk_at "sh"; walk_at "shs")
  | walk_at "myco")
local macro_rules | `(tactic| walk_at "cc") => `(tactic| first
  | ((with_reducible apply cc_lenTe); exact rfl) | (with_reducible exact cc_lenL) | (with_reducible exact cc_all) | (with_reducible exact cc_any) | (with_reducible exact cc_tuple) | (with_reducible exact cc_intI)
  | (with_reducible exact cc_intB) | (with_reducible exact cc_min2) | (with_reducible exact cc_listT)
  | ((with_reducible apply cc_isi); first | exact isi_int rfl | exact isi_bool | exact isi_tuple rfl | exact isi_str rfl)
  | walk_at "mycc")
local macro_rules | `(tactic| walk_at "ca") => `(tactic| first
  | (with_reducible exact ca_nil)
  | ((with_reducible apply ca_cons); walk_at "cm"; walk_at "ca"))
local macro_rules | `(tactic| walk_at "cad") => `(tactic| first
  | (with_reducible exact cad_nil)
  | ((with_reducible apply cad_cons); walk_at "cm"; walk_at "cad")
  | ((with_reducible apply cad_starE); walk_at "cm"; exact rfl; walk_at "cad"))
local macro_rules | `(tactic| walk_at "cm") => `(tactic| first
  | ((with_reducible apply cm_var); exact rfl)
  | (with_reducible exact cm_int) | (with_reducible exact cm_str) | (with_reducible exact cm_non) | (with_reducible exact cm_bl)
  | ((with_reducible apply cm_op); walk_at "cm"; walk_at "cm"; walk_at "co")
  | ((with_reducible apply cm_tupD); walk_at "cad"; walk_at "size")
  | ((with_reducible apply cm_neg); walk_at "cm")
  | ((with_reducible apply cm_call); walk_at "ca"; walk_at "my")
  | walk_at "mycm"
  | ((with_reducible apply cm_cb); walk_at "ca"; walk_at "cc")
  | ((with_reducible apply cm_chain); walk_at "cm"; walk_at "cm"; walk_at "co"; (intro _; walk_at "cm"); walk_at "co")
  | ((with_reducible apply cm_andVF); walk_at "cm"; walk_at "dec0")
  | ((with_reducible apply cm_orVT); walk_at "cm"; walk_at "dec0")
  | ((with_reducible apply cm_ifT); walk_at "ct"; walk_at "dec"; walk_at "cm")
  | ((with_reducible apply cm_ifF); walk_at "ct"; walk_at "dec"; walk_at "cm")
  | ((with_reducible apply cm_andV); walk_at "cm"; (intro _; walk_at "cm"))
  | ((with_reducible apply cm_orV); walk_at "cm"; (intro _; walk_at "cm"))
  | ((with_reducible apply cm_notV); walk_at "cm")
  | (with_reducible exact cm_val))
local macro_rules | `(tactic| walk_at "ct") => `(tactic| first
  | ((with_reducible apply ct_test); walk_at "cm") | ((with_reducible apply ct_B); walk_at "cm") | ((with_reducible apply ct_not); walk_at "ct")
  | ((with_reducible apply ct_andF); walk_at "ct"; walk_at "dec0")
  | ((with_reducible apply ct_orT); walk_at "ct"; walk_at "dec0")
  | ((with_reducible apply ct_and); walk_at "ct"; (intro _; walk_at "ct"))
  | ((with_reducible apply ct_or); walk_at "ct"; (intro _; walk_at "ct")))
local macro_rules | `(tactic| walk_at "size") => `(tactic| focus first | assumption | (simp; done) | (simp; omega) | omega)
local macro_rules | `(tactic| walk_at "dec0") => `(tactic| focus first | rfl | (simp [eHead, eL, eSs, eMs, eS, eM, eT, eN, eNs, eH, eO, rN]; done))
local macro_rules | `(tactic| walk_at "dec") => `(tactic| focus first | rfl | (simp [eHead, eL, eSs, eMs, eS, eM, eT, eN, eNs, eH, eO, rN]; done) | (simp [eHead, eL, eSs, eMs, eS, eM, eT, eN, eNs, eH, eO, rN]; omega) | (simp [eHead, eL, eSs, eMs, eS, eM, eT, eN, eNs, eH, eO, rN, *]; done))
local macro_rules | `(tactic| walk_at "skip") => `(tactic| ((with_reducible apply bs_skip); walk_at "ct"; walk_at "dec"))
local macro_rules | `(tactic| walk_at "take") => `(tactic| (refine bs_seqR ?_; (with_reducible apply bs_ifT); walk_at "ct"; walk_at "dec"))
local macro_rules | `(tactic| walk_at "ret") => `(tactic| (refine bs_ret ?_; (with_reducible apply cm_is); walk_at "cm"))
local macro_rules | `(tactic| walk_at "set") => `(tactic| ((with_reducible apply bs_setS); walk_at "cm"))
local macro_rules | `(tactic| walk_at "drop") => `(tactic| ((with_reducible apply bs_dropS); walk_at "cm"))
local macro_rules | `(tactic| walk_at "norm") => `(tactic| skip)
local macro_rules | `(tactic| walk_at "less") => `(tactic| first | exact less_nil | (apply less_some; walk_at "less") | (apply less_none; walk_at "less"))
local macro_rules | `(tactic| walk_at "flat") => `(tactic| first | exact flat_nil | (refine flat_cons ?_ ?_; (first | exact trivial | exact rfl); walk_at "flat"))
section
variable {P : Program} {w : World} {K : Fg} {mg : Str → Option Value} {base : Heap}

theorem head_cases {L : Lang} {hd : Option Nat} {got : List Nat} (p : Place L hd got) : (hd = none ∧ got = []) ∨ ∃ h, hd = some h ∧ h < L.heads.length ∧ got.length < L.long h := by
  cases hd with
  | none => exact .inl ⟨rfl, p.no rfl⟩
  | some h => exact .inr ⟨h, rfl, p.hl h rfl⟩
/-! ### is_place -/
abbrev s_is_place : Stmt := top 34
abbrev N_is_place : List Str := ["language", "head", "got"]
theorem sc_is_place : FnScope N_is_place ["language", "head", "got"] (defScope s_is_place) := ⟨rfl, rfl, rfl, by decide +kernel, rfl, by decide +kernel, by decide +kernel⟩
def R_is_place : List W → W → Prop := fun ws w => ∃ L hd got, Good L ∧ Place L hd got ∧ ws = [.d (eL L), .d (eH hd), .d (eNs got)] ∧ w = .b true
theorem r_is_place {L : Lang} {hd : Option Nat} {got : List Nat} (g : Good L) (p : Place L hd got) : R_is_place [.d (eL L), .d (eH hd), .d (eNs got)] (.b true) := ⟨L, hd, got, g, p, rfl, rfl⟩
local macro_rules | `(tactic| walk_at "my") => `(tactic| first | exact r_is_whole | exact r_is_whole0 | exact r_need_language (by assumption) | exact r_long_of (by assumption))
theorem ok_is_place (T : Txt K mg) (A : DefAt K mg "is_place" "is_place" s_is_place ["language", "head", "got"]) (C_is_whole : CalF P w K mg base 1 "is_whole" R_is_whole) (C_long_of : CalF P w K mg base 1 "long_of" R_long_of) (C_are_values : CalF P w K mg base 2 "are_values" R_are_values) :
    CalF P w K mg base 3 "is_place" R_is_place := by
  refine calF A sc_is_place (fun ws u h => ?_) (fun f cdv A outer s H E ws u hr h => ?_)
  · obtain ⟨L, hd, got, _, _, rfl, _⟩ := h; rfl
  · obtain ⟨L, hd, got, g, p, rfl, rfl⟩ := h
    refine ⟨_, (pss_cons (ps_if (PW.pt (pw_or (pt_not (pt_val (C8.pe_c C_is_whole hr (by decide) rfl (pa_cons (pv 1) (pa_cons (pe_un un_neg pe_int) (pa_cons (pe_op op_sub (pe_callB (lenK K rfl) rfl T.b_len bo_len (pa_cons (pe_ix (ixK K rfl) (pv 0) pe_int (fun _ _ => rfl)) pa_nil)) pe_int) pa_nil)))))) (pw_or1 (pt_not (pt_val (pe_callB (isiK K rfl) rfl T.b_isinstance bo_isinstance (pa_cons (pv 2) (pa_cons (pe_bltn (v := .ty "tuple") rfl T.b_tuple bo_tuple rfl) pa_nil)))))))) (pss_one (ps_ret pe_bl)) pss_nil) (pss_cons (ps_if (pt_cmpR (eqK K rfl hr) (pv 1) (pe_un un_neg pe_int) (nomark _)) (pss_one (ps_ret (pe_cmpR (eqK K rfl hr) (pv 2) (pe_tup pa_nil) (nomark _)))) pss_nil) (pss_one (ps_ret (pe_and (pe_cmpR op_lt (pe_callB (lenK K rfl) rfl T.b_len bo_len (pa_cons (pv 2) pa_nil)) (C8.pe_c C_long_of hr (by decide) rfl (pa_cons (pv 0) (pa_cons (pv 1) pa_nil))) (nomark _)) (pe_one (C8.pe_c C_are_values hr (by decide) rfl (pa_cons (pv 0) (pa_cons (pv 2) (pa_cons (pe_callB (lenK K rfl) rfl T.b_len bo_len (pa_cons (pv 2) pa_nil)) pa_nil)))))))))), .inl ?_⟩
    have vs := p.vs
    rcases head_cases p with ⟨rfl, rfl⟩ | ⟨h, rfl, hl, hg⟩
    · (with_reducible apply bs_skip)
      · (with_reducible apply ct_or)
        · (with_reducible apply ct_not)
          (with_reducible apply ct_B)
          refine cm_call (ws := [.d (.num (-1)), .d (.num (-1)), .d (.num ((L.heads.length : Int) - 1))]) ?_ r_is_whole
          refine ca_cons (cm_var rfl) (ca_cons (cm_neg cm_int) (ca_cons (cm_is (by walk_at "cm") (by simp)) ca_nil))
        · intro _
          walk_at "ct"
      · simp [eNs]
        omega
      refine bs_seqR ?_
      (with_reducible apply bs_ifT)
      · refine ct_test (cm_op (a := .d (.num (-1))) (cm_var rfl) (cm_neg cm_int) (co_eq .num .num))
      · rfl
      · refine bs_ret (cm_is (cm_op (cm_var rfl) (cm_tupD cad_nil (by simp)) (co_eq sh_ns sh_nil)) ?_)
        rfl
    · have hok : okH L (some h) := fun h' e => by cases e; exact hl
      have hle := g.long_le h
      (with_reducible apply bs_skip)
      · (with_reducible apply ct_or)
        · (with_reducible apply ct_not)
          (with_reducible apply ct_B)
          refine cm_call (ws := [.d (.num (h : Int)), .d (.num (-1)), .d (.num ((L.heads.length : Int) - 1))]) ?_ r_is_whole
          refine ca_cons (cm_var rfl) (ca_cons (cm_neg cm_int) (ca_cons (cm_is (by walk_at "cm") (by simp)) ca_nil))
        · intro _
          walk_at "ct"
      · simp [eNs]
        omega
      (with_reducible apply bs_skip)
      · refine ct_test (cm_op (a := .d (.num (h : Int))) (cm_var rfl) (cm_neg cm_int) (co_eq .num .num))
      · walk_at "dec"
      · refine bs_ret (cm_is (cm_andV (cm_op (a := .d (.num (got.length : Int))) (b := .d (.num (L.long h : Int))) (cm_is (by walk_at "cm") (by simp)) (cm_call (by walk_at "ca") (r_long_of hok)) co_lt)
          (fun _ => cm_call (ws := [.d (eL L), .d (eNs got), .d (eN got.length)]) (ca_cons (cm_var rfl) (ca_cons (cm_var rfl) (ca_cons (cm_is (by walk_at "cm") (by simp)) ca_nil))) (r_are_values vs (by omega) rfl))) ?_)
        simp
        omega

/-! ### is_standing -/
abbrev s_is_standing : Stmt := top 35
abbrev N_is_standing : List Str := ["language", "thing", "one", "other"]
theorem sc_is_standing : FnScope N_is_standing ["language", "thing"] (defScope s_is_standing) := ⟨rfl, rfl, rfl, by decide +kernel, rfl, by decide +kernel, by decide +kernel⟩
def R_is_standing : List W → W → Prop := fun ws w => ∃ L s, Good L ∧ GoodT L s ∧ ws = [.d (eL L), .d (eT s)] ∧ w = .b true
theorem r_is_standing {L : Lang} {s : Std} (g : Good L) (p : GoodT L s) : R_is_standing [.d (eL L), .d (eT s)] (.b true) := ⟨L, s, g, p, rfl, rfl⟩
theorem cut_drop (xs : List D) : cutD xs (some 1) none = xs.drop 1 := by
  unfold cutD
  have e1 : HT.sIx xs.length 0 (some 1) = min 1 xs.length := HT.sIx_nat xs.length 0 1
  rw [e1, HT.sIx_none]
  by_cases h : 1 ≤ xs.length
  · rw [Nat.min_eq_left h]
    exact List.take_of_length_le (by simp)
  · have : xs = [] := List.length_eq_zero_iff.mp (by omega)
    subst this
    rfl
theorem ok_is_standing (T : Txt K mg) (A : DefAt K mg "is_standing" "is_standing" s_is_standing ["language", "thing"]) (C_is_place : CalF P w K mg base 3 "is_place" R_is_place) (C_are_values : CalF P w K mg base 2 "are_values" R_are_values) :
    CalF P w K mg base 4 "is_standing" R_is_standing := by
  refine calF A sc_is_standing (fun ws u h => ?_) (fun f cdv A outer s H E ws u hr h => ?_)
  · obtain ⟨L, s, _, _, rfl, _⟩ := h; rfl
  · obtain ⟨L, st, g, t, rfl, rfl⟩ := h
    refine ⟨_, (pss_cons (ps_if (PW.pt (pw_or (pt_not (pt_val (pe_callB (isiK K rfl) rfl T.b_isinstance bo_isinstance (pa_cons (pv 1) (pa_cons (pe_bltn (v := .ty "tuple") rfl T.b_tuple bo_tuple rfl) pa_nil))))) (pw_or (pt_cmpR (neK K rfl hr) (pe_callB (lenK K rfl) rfl T.b_len bo_len (pa_cons (pv 1) pa_nil)) pe_int (nomark _)) (pw_or1 (pt_not (pt_val (C8.pe_c C_is_place hr (by decide) rfl (pa_cons (pv 0) (pa_cons (pe_ix (ixK K rfl) (pv 1) pe_int (fun _ _ => rfl)) (pa_cons (pe_ix (ixK K rfl) (pv 1) pe_int (fun _ _ => rfl)) pa_nil)))))))))) (pss_one (ps_ret pe_bl)) pss_nil) (pss_cons (ps_if (PW.pt (pw_or (pt_not (pt_val (pe_callB (isiK K rfl) rfl T.b_isinstance bo_isinstance (pa_cons (pe_ix (ixK K rfl) (pv 1) pe_int (fun _ _ => rfl)) (pa_cons (pe_bltn (v := .ty "tuple") rfl T.b_tuple bo_tuple rfl) pa_nil))))) (pw_or1 (pt_not (pt_val (C8.pe_c C_are_values hr (by decide) rfl (pa_cons (pv 0) (pa_cons (pe_ix (ixK K rfl) (pv 1) pe_int (fun _ _ => rfl)) (pa_cons (pe_callB (lenK K rfl) rfl T.b_len bo_len (pa_cons (pe_ix (ixK K rfl) (pv 1) pe_int (fun _ _ => rfl)) pa_nil)) pa_nil))))))))) (pss_one (ps_ret pe_bl)) pss_nil) (pss_one (ps_ret (pe_callB (allK K rfl rfl) rfl T.b_all bo_all (pa_cons (pe_lc (own := [("one", 2), ("other", 3)]) rfl sc_is_standing.nd (zipK K rfl rfl T.b_zip (pa_cons (pe_ix (ixK K rfl) (pv 1) pe_int (fun _ _ => rfl)) (pa_cons (pe_slice (slTK K rfl) (pe_ix (ixK K rfl) (pv 1) pe_int (fun _ _ => rfl)) (po_some pe_int) po_none) pa_nil))) (blkOk_by (own := [("one", 2), ("other", 3)]) (N := N_is_standing) (sc := defScope s_is_standing) (by decide +kernel)) (fun _ _ _ _ _ => (pgTK (n := 2) K rfl rfl (pgs_cons (pg_name (i := 2) sc_is_standing.nd rfl (by first | exact Or.inl rfl | exact Or.inr rfl)) (pgs_cons (pg_name (i := 3) sc_is_standing.nd rfl (by first | exact Or.inl rfl | exact Or.inr rfl)) pgs_nil)))) (fun _ _ _ _ _ => pts_nil) (fun _ _ _ _ _ => (pe_cmpR op_lt (pv 2) (pv 3) (nomark _)))) pa_nil)))))), .inl ?_⟩
    have onl := on_len g t
    (with_reducible apply bs_skip)
    · (with_reducible apply ct_or)
      · walk_at "ct"
      · intro _
        (with_reducible apply ct_or)
        · walk_at "ct"
        · intro _
          (with_reducible apply ct_not)
          (with_reducible apply ct_B)
          exact cm_call (by walk_at "ca") (r_is_place g t.pl)
    · walk_at "dec"
    (with_reducible apply bs_skip)
    · (with_reducible apply ct_or)
      · walk_at "ct"
      · intro _
        (with_reducible apply ct_not)
        (with_reducible apply ct_B)
        exact cm_call (ws := [.d (eL L), .d (eNs st.on), .d (eN st.on.length)]) (ca_cons (cm_var rfl) (ca_cons (by walk_at "cm") (ca_cons (cm_is (by walk_at "cm") (by simp)) ca_nil))) (r_are_values t.on (by omega) rfl)
    · walk_at "dec"
    refine bs_ret (cm_is (w' := .b (((st.on.zip (st.on.drop 1)).map fun q => decide (q.1 < q.2)).all id)) ?_ ?_)
    · refine cm_cb (ca_cons (cm_lcb (as := st.on.zip (st.on.drop 1)) (fun q => .d (.tup [eN q.1, eN q.2])) (fun q => decide (q.1 < q.2)) ?_ ?_ fun q hq => ⟨_, [2, 3], by simp, cg_tupE rfl (cgs_cons cg_name (cgs_cons cg_name cgs_nil)) rfl, ?_⟩) ca_nil) cc_all
      · refine cmI_is (ci_zipT (a := eNs st.on) (b := .tup (cutD (st.on.map eN) (some 1) none)) (ca_cons (by walk_at "cm") (ca_cons (cm_slT (ds := st.on.map eN) (by walk_at "cm") (cp_int cm_int) cp_no) ca_nil)) rfl rfl) ?_
        rw [cut_drop, ← List.map_drop, List.zip_map, List.map_map]
        rfl
      · simp
        omega
      · refine cm_is (cm_op (cm_var rfl) (cm_var rfl) co_lt) ?_
        simp
    · congr 1
      rw [List.all_map, List.all_eq_true]
      intro q hq
      simpa using up_zip t.up q hq

/-! ### read -/
abbrev s_read : Stmt := top 36
abbrev N_read : List Str := ["language", "standing", "stream", "found", "heard"]
theorem sc_read : FnScope N_read ["language", "standing", "stream"] (defScope s_read) := ⟨rfl, rfl, rfl, by decide +kernel, rfl, by decide +kernel, by decide +kernel⟩
def R_read : List W → W → Prop := fun ws w => ∃ L s xs, Good L ∧ GoodT L s ∧ (∀ x ∈ xs, L.ok x) ∧ xs.length ≤ 400 ∧ ws = [.d (eL L), .d (eT s), .d (eSs xs)] ∧ w = .d (.tup [eT (readSo L s xs).1, eMs (readSo L s xs).2])
theorem r_read {L : Lang} {s : Std} {xs : List NM.Sign} (g : Good L) (t : GoodT L s) (h : ∀ x ∈ xs, L.ok x) (hl : xs.length ≤ 400) : R_read [.d (eL L), .d (eT s), .d (eSs xs)] (.d (.tup [eT (readSo L s xs).1, eMs (readSo L s xs).2])) := ⟨L, s, xs, g, t, h, hl, rfl, rfl⟩
local macro_rules | `(tactic| walk_at "my") => `(tactic| first | exact r_is_whole | exact r_need_language (by assumption) | exact r_is_standing (by assumption) (by assumption) | exact r_need_stream (by assumption) (by assumption) (by assumption) | exact r_read_so (by assumption) (by assumption) (by assumption) (by assumption))
theorem ok_read (T : Txt K mg) (A : DefAt K mg "read" "read" s_read ["language", "standing", "stream"]) (C_need_language : CalF P w K mg base 3 "need_language" R_need_language) (C_is_standing : CalF P w K mg base 4 "is_standing" R_is_standing)
    (C_need_stream : CalF P w K mg base 4 "need_stream" R_need_stream) (C_read_so : CalF P w K mg base 3 "read_so" R_read_so) : CalF P w K mg base 5 "read" R_read := by
  refine calF A sc_read (fun ws u h => ?_) (fun f cdv A outer s H E ws u hr h => ?_)
  · obtain ⟨L, s, xs, _, _, _, _, rfl, _⟩ := h; rfl
  · obtain ⟨L, st, xs, g, t, hx, hlen, rfl, rfl⟩ := h
    refine ⟨_, (pss_cons (ps_expr (C8.pe_c C_need_language hr (by decide) rfl (pa_cons (pv 0) pa_nil))) (pss_cons (ps_if (pt_not (pt_val (C8.pe_c C_is_standing hr (by decide) rfl (pa_cons (pv 0) (pa_cons (pv 1) pa_nil))))) pss_never pss_nil) (pss_cons (ps_expr (C8.pe_c C_need_stream hr (by decide) rfl (pa_cons (pv 0) (pa_cons (pv 2) pa_nil)))) (pss_cons (ps_asg (C8.pe_c C_read_so hr (by decide) rfl (pa_cons (pv 0) (pa_cons (pv 1) (pa_cons (pv 2) pa_nil)))) (pgTK (n := 2) K rfl rfl (pgs_cons (pg_name (i := 3) sc_read.nd rfl (by first | exact Or.inl rfl | exact Or.inr rfl)) (pgs_cons (pg_name (i := 4) sc_read.nd rfl (by first | exact Or.inl rfl | exact Or.inr rfl)) pgs_nil)))) (pss_one (ps_ret (pe_tup (pa_cons (pv 3) (pa_cons (pe_callTy (tupleK K rfl) rfl T.b_tuple bo_tuple (pa_cons (pv 4) pa_nil)) pa_nil))))))))), .inl ?_⟩
    walk_at "drop"
    walk_at "skip"
    walk_at "drop"
    refine bs_asgS (w := .dl (eT (readSo L st xs).1) ((readSo L st xs).2.map eM)) (by walk_at "cm") (cg_dl (cgs_cons cg_name (cgs_cons cg_name cgs_nil))) ?_
    walk_at "ret"
    rfl
end
end NW
/-! readers.py: all standings -/
namespace NW
open PySem PySem.Spec PyProof.Rows L2 StX NM
local macro_rules | `(tactic| walk_at "my") => `(tactic| fail)
local macro_rules | `(tactic| walk_at "mycm") => `(tactic| fail)
local macro_rules | `(tactic| walk_at "myco") => `(tactic| fail)
local macro_rules | `(tactic| walk_at "mycc") => `(tactic| fail)
local macro_rules | `(tactic| walk_at "sh") => `(tactic| first | assumption | exact sh_n | exact Sh.num | exact Sh.non | exact sh_role | exact Sh.text (by decide +kernel) | exact sh_ns | exact sh_s | exact sh_m | exact sh_o | exact sh_h | exact sh_t | exact sh_ss | exact sh_ms | exact sh_head | exact sh_L | exact sh_nil | (apply sh_cons <;> walk_at "sh"))
local macro_rules | `(tactic| walk_at "shs") => `(tactic| first | assumption | exact shs_nil | (apply shs_cons; walk_at "sh"; walk_at "shs"))
local macro_rules | `(tactic| walk_at "co") => `(tactic| first
  | ((with_reducible apply co_ixTe); exact rfl; exact rfl)
  | ((with_reducible exact co_ixDl))
  | ((with_reducible apply co_ixL); exact rfl)
  | (with_reducible exact co_lt) | (with_reducible exact co_le) | (with_reducible exact co_gt) | (with_reducible exact co_ge) | (with_reducible exact co_sub)
  | (with_reducible exact co_isN) | (with_reducible exact co_isNotN)
  | ((with_reducible apply co_eq) <;> walk_at "sh") | ((with_reducible apply co_ne) <;> walk_at "sh")
  | (with_reducible exact co_add)
  | ((with_reducible apply co_inTe); exact rfl; walk_at "sh"; walk_at "shs")
  | walk_at "myco")
local macro_rules | `(tactic| walk_at "cc") => `(tactic| first
  | ((with_reducible apply cc_lenTe); exact rfl) | (with_reducible exact cc_lenL) | (with_reducible exact cc_all) | (with_reducible exact cc_any) | (with_reducible exact cc_tuple) | (with_reducible exact cc_intI)
  | (with_reducible exact cc_intB) | (with_reducible exact cc_min2) | (with_reducible exact cc_listT)
  | ((with_reducible apply cc_isi); first | exact isi_int rfl | exact isi_bool | exact isi_tuple rfl | exact isi_str rfl)
  | walk_at "mycc")
local macro_rules | `(tactic| walk_at "ca") => `(tactic| first
  | (with_reducible exact ca_nil)
  | ((with_reducible apply ca_cons); walk_at "cm"; walk_at "ca"))
local macro_rules | `(tactic| walk_at "cad") => `(tactic| first
  | (with_reducible exact cad_nil)
  | ((with_reducible apply cad_cons); walk_at "cm"; walk_at "cad")
  | ((with_reducible apply cad_starE); walk_at "cm"; exact rfl; walk_at "cad"))
local macro_rules | `(tactic| walk_at "cm") => `(tactic| first
  | ((with_reducible apply cm_var); exact rfl)
  | (with_reducible exact cm_int) | (with_reducible exact cm_str) | (with_reducible exact cm_non) | (with_reducible exact cm_bl)
  | ((with_reducible apply cm_op); walk_at "cm"; walk_at "cm"; walk_at "co")
  | ((with_reducible apply cm_tupD); walk_at "cad"; walk_at "size")
  | ((with_reducible apply cm_neg); walk_at "cm")
  | ((with_reducible apply cm_call); walk_at "ca"; walk_at "my")
  | walk_at "mycm"
  | ((with_reducible apply cm_cb); walk_at "ca"; walk_at "cc")
  | ((with_reducible apply cm_chain); walk_at "cm"; walk_at "cm"; walk_at "co"; (intro _; walk_at "cm"); walk_at "co")
  | ((with_reducible apply cm_andVF); walk_at "cm"; walk_at "dec0")
  | ((with_reducible apply cm_orVT); walk_at "cm"; walk_at "dec0")
  | ((with_reducible apply cm_ifT); walk_at "ct"; walk_at "dec"; walk_at "cm")
  | ((with_reducible apply cm_ifF); walk_at "ct"; walk_at "dec"; walk_at "cm")
  | ((with_reducible apply cm_andV); walk_at "cm"; (intro _; walk_at "cm"))
  | ((with_reducible apply cm_orV); walk_at "cm"; (intro _; walk_at "cm"))
  | ((with_reducible apply cm_notV); walk_at "cm")
  | (with_reducible exact cm_val))
local macro_rules | `(tactic| walk_at "ct") => `(tactic| first
  | ((with_reducible apply ct_test); walk_at "cm") | ((with_reducible apply ct_B); walk_at "cm") | ((with_reducible apply ct_not); walk_at "ct")
  | ((with_reducible apply ct_andF); walk_at "ct"; walk_at "dec0")
  | ((with_reducible apply ct_orT); walk_at "ct"; walk_at "dec0")
  | ((with_reducible apply ct_and); walk_at "ct"; (intro _; walk_at "ct"))
  | ((with_reducible apply ct_or); walk_at "ct"; (intro _; walk_at "ct")))
local macro_rules | `(tactic| walk_at "size") => `(tactic| focus first | assumption | (simp; done) | (simp; omega) | omega)
local macro_rules | `(tactic| walk_at "dec0") => `(tactic| focus first | rfl | (simp [eHead, eL, eSs, eMs, eS, eM, eT, eN, eNs, eH, eO, rN]; done))
local macro_rules | `(tactic| walk_at "dec") => `(tactic| focus first | rfl | (simp [eHead, eL, eSs, eMs, eS, eM, eT, eN, eNs, eH, eO, rN]; done) | (simp [eHead, eL, eSs, eMs, eS, eM, eT, eN, eNs, eH, eO, rN]; omega) | (simp [eHead, eL, eSs, eMs, eS, eM, eT, eN, eNs, eH, eO, rN, *]; done))
local macro_rules | `(tactic| walk_at "skip") => `(tactic| ((with_reducible apply bs_skip); walk_at "ct"; walk_at "dec"))
local macro_rules | `(tactic| walk_at "take") => `(tactic| (refine bs_seqR ?_; (with_reducible apply bs_ifT); walk_at "ct"; walk_at "dec"))
local macro_rules | `(tactic| walk_at "ret") => `(tactic| (refine bs_ret ?_; (with_reducible apply cm_is); walk_at "cm"))
local macro_rules | `(tactic| walk_at "set") => `(tactic| ((with_reducible apply bs_setS); walk_at "cm"))
local macro_rules | `(tactic| walk_at "drop") => `(tactic| ((with_reducible apply bs_dropS); walk_at "cm"))
local macro_rules | `(tactic| walk_at "norm") => `(tactic| skip)
local macro_rules | `(tactic| walk_at "less") => `(tactic| first | exact less_nil | (apply less_some; walk_at "less") | (apply less_none; walk_at "less"))
local macro_rules | `(tactic| walk_at "flat") => `(tactic| first | exact flat_nil | (refine flat_cons ?_ ?_; (first | exact trivial | exact rfl); walk_at "flat"))
section
variable {P : Program} {w : World} {K : Fg} {mg : Str → Option Value} {base : Heap}

local macro_rules | `(tactic| walk_at "my") => `(tactic| first | exact r_is_whole | exact r_need_language (by assumption) | exact r_long_of (by assumption))
def eP (p : Option Nat × List Nat) : D := .tup [eH p.1, eNs p.2]
/-! ### places_of (readers) -/
abbrev s_places_of : Stmt := top 37
abbrev N_places_of : List Str := ["language", "found", "head", "rows", "at", "row", "value"]
theorem sc_places_of : FnScope N_places_of ["language"] (defScope s_places_of) := ⟨rfl, rfl, rfl, by decide +kernel, rfl, by decide +kernel, by decide +kernel⟩
def R_places : List W → W → Prop := fun ws w => ∃ L, Good L ∧ ws = [.d (eL L)] ∧ w = .l ((places L).map eP)
theorem r_places {L : Lang} (g : Good L) : R_places [.d (eL L)] (.l ((places L).map eP)) := ⟨L, g, rfl, rfl⟩
theorem flat_len {α β : Type} (f : α → List β) (b : Nat) : ∀ xs : List α, (∀ x ∈ xs, (f x).length ≤ b) → (xs.flatMap f).length ≤ xs.length * b
  | [], _ => by simp
  | x :: xs, h => by
    have h1 := h x (by simp)
    have h2 := flat_len f b xs fun y hy => h y (by simp [hy])
    simp only [List.flatMap_cons, List.length_append, List.length_cons]
    rw [Nat.add_mul]
    omega
theorem rows_len (n : Nat) : ∀ k, (rows n k).length ≤ n ^ k
  | 0 => by simp [rows]
  | k + 1 => by
    have h := rows_len n k
    have h2 := flat_len (fun r : List Nat => (List.range n).map fun v => r ++ [v]) n (rows n k) fun r _ => by simp
    rw [Nat.pow_succ]
    exact Nat.le_trans h2 (Nat.mul_le_mul_right n h)
theorem rows_small {L : Lang} (g : Good L) {k : Nat} (hk : k ≤ 2) : (rows L.notes k).length ≤ 16 := by
  have n4 := g.n4
  calc (rows L.notes k).length ≤ L.notes ^ k := rows_len _ _
    _ ≤ 4 ^ k := Nat.pow_le_pow_left n4 k
    _ ≤ 4 ^ 2 := Nat.pow_le_pow_right (by decide) hk
theorem placesH_len {L : Lang} (g : Good L) (h : Nat) : (placesH L h).length ≤ 32 := by
  have hle := g.long_le h
  have := flat_len (fun k => (rows L.notes k).map fun r => (some h, r)) 16 (List.range (L.long h)) fun k hk => by
    rw [List.length_map]
    exact rows_small g (by have := List.mem_range.mp hk; omega)
  rw [List.length_range] at this
  unfold placesH
  omega
theorem places_len {L : Lang} (g : Good L) : (places L).length ≤ 129 := by
  have := flat_len (placesH L) 32 (List.range L.heads.length) fun h _ => placesH_len g h
  rw [List.length_range] at this
  have h4 := g.h4
  unfold places
  rw [List.length_cons]
  omega
theorem ok_places (T : Txt K mg) (A : DefAt K mg "places_of" "places_of_readers" s_places_of ["language"]) (C_long_of : CalF P w K mg base 1 "long_of" R_long_of) : CalF P w K mg base 2 "places_of_readers" R_places := by
  refine calF A sc_places_of (fun ws u h => ?_) (fun f cdv A outer s H E ws u hr h => ?_)
  · obtain ⟨L, _, rfl, _⟩ := h; rfl
  · obtain ⟨L, g, rfl, rfl⟩ := h
    refine ⟨_, (pss_cons (ps_set (i := 1) sc_places_of.nd rfl (by first | exact Or.inl rfl | exact Or.inr rfl) (pe_lst (pa_cons (pe_tup (pa_cons (pe_un un_neg pe_int) (pa_cons (pe_tup pa_nil) pa_nil))) pa_nil))) (pss_cons (ps_for PassesOwn.never rfl (pi_range1 rfl T.b_range (pa_cons (pe_callB (lenK K rfl) rfl T.b_len bo_len (pa_cons (pe_ix (ixK K rfl) (pv 0) pe_int (fun _ _ => rfl)) pa_nil)) pa_nil)) (pg_name (i := 2) sc_places_of.nd rfl (by first | exact Or.inl rfl | exact Or.inr rfl)) (pss_cons (ps_set (i := 3) sc_places_of.nd rfl (by first | exact Or.inl rfl | exact Or.inr rfl) (pe_lst (pa_cons (pe_tup pa_nil) pa_nil))) (pss_one (ps_for PassesOwn.never rfl (pi_range1 rfl T.b_range (pa_cons (C8.pe_c C_long_of hr (by decide) rfl (pa_cons (pv 0) (pa_cons (pv 2) pa_nil))) pa_nil)) (pg_name (i := 4) sc_places_of.nd rfl (by first | exact Or.inl rfl | exact Or.inr rfl)) (pss_cons (ps_expr (bmK K rfl (pe_bm PySem.F.plainAttrs_list PySem.F.slot_list_extend PySem.F.type_list_extend mt_extend (pv 1) (pa_cons (pe_lc (own := [("row", 5)]) rfl sc_places_of.nd (piLK K rfl (pv 3)) (blkOk_by (own := [("row", 5)]) (N := N_places_of) (sc := defScope s_places_of) (by decide +kernel)) (fun _ _ _ _ _ => (pg_name (i := 5) sc_places_of.nd rfl (by first | exact Or.inl rfl | exact Or.inr rfl))) (fun _ _ _ _ _ => pts_nil) (fun _ _ _ _ _ => (pe_tup (pa_cons (pv 2) (pa_cons (pv 5) pa_nil))))) pa_nil)))) (pss_one (ps_setLc2 (i := 3) (own := [("row", 5), ("value", 6)]) (vs1 := [6]) rfl sc_places_of.nd rfl rfl (sw_true rfl rfl rfl (by decide +kernel)) (piLK K rfl (pv 3)) (blkOk_by (own := [("row", 5), ("value", 6)]) (N := N_places_of) (sc := defScope s_places_of) (by decide +kernel)) (by decide) (fun _ _ _ _ _ => (pg_name (i := 5) sc_places_of.nd rfl (by first | exact Or.inl rfl | exact Or.inr rfl))) (fun _ _ _ _ _ => pts_nil) (fun _ _ _ _ _ => (pi_range1 rfl T.b_range (pa_cons (pe_ix (ixK K rfl) (pv 0) pe_int (fun _ _ => rfl)) pa_nil))) (fun _ _ _ _ _ => (pg_name (i := 6) sc_places_of.nd rfl (by first | exact Or.inl rfl | exact Or.inr rfl))) (fun _ _ _ _ _ => pts_nil) (fun _ _ _ _ _ => (pe_tup (starK K rfl (pv 5) (pa_cons (pv 6) pa_nil))))))))))) (pss_one (ps_ret (pv 1))))), .inl ?_⟩
    have g4 := g.h4
    have n4 := g.n4
    intro D σ H e p
    refine ls_newN (ks := [eP (none, [])]) 1 e (cn_lst (cad_cons (cm_is (by walk_at "cm") (by rfl)) cad_nil) (by simp)) fun l σ1 H1 h1 => ?_
    let acc : Nat → List (Option Nat × List Nat) := fun i => (none, []) :: (List.range i).flatMap (placesH L)
    have acc_len : ∀ i, i ≤ L.heads.length → (acc i).length ≤ 129 := fun i hi => by
      have := flat_len (placesH L) 32 (List.range i) fun h _ => placesH_len g h
      rw [List.length_range] at this
      show (((none, []) : Option Nat × List Nat) :: (List.range i).flatMap (placesH L)).length ≤ 129
      rw [List.length_cons]
      omega
    let R : Sl := [some (.d (eL L)), some (.v (.ref l)), none, none, none, none, none]
    refine (show tSeq (tFor _ _ _) _ D σ1 H1 from ls_for (fun _ => R) (fun i => (acc i).map eP) (h1.less (by walk_at "less")) (ck_range (n := L.heads.length) (ca_cons (cm_is (by walk_at "cm") (by simp)) ca_nil) (by omega)).x (fun i w hw => ?_) fun σ2 H2 h2 => ?_)
    · have hi : i < L.heads.length := by
        have := (List.getElem?_eq_some_iff.mp hw).1
        simpa using this
      have ew : w = .d (eN i) := by
        simp [hi] at hw
        exact hw.symm
      subst ew
      have hok : okH L (some i) := fun h' e => by cases e; exact hi
      have hle := g.long_le i
      refine ⟨_, _, cg_name, fun Hb σ3 H3 D' h3 q => ?_⟩
      refine ls_setNS (ks := [eNs []]) h3 (cn_lst (cad_cons (cm_is (by walk_at "cm") (by rfl)) cad_nil) (by simp)) fun σ4 H4 h4 => ?_
      let acc2 : Nat → List (Option Nat × List Nat) := fun j => acc i ++ (List.range j).flatMap fun k => (rows L.notes k).map fun r => (some i, r)
      let R2 : Nat → Sl := fun j => [some (.d (eL L)), some (.v (.ref l)), some (.d (eN i)), some (.ll l ((rows L.notes j).map eNs)), none, none, none]
      have h5 : LSt K H Hb l (R2 0) ((acc2 0).map eP) σ4 H4 := by
        have h5 := h4.less (r' := R2 0) (by walk_at "less")
        have e0 : acc2 0 = acc i := by simp [acc2]
        show LSt K H Hb l (R2 0) ((acc2 0).map eP) σ4 H4
        rw [e0]
        exact h5
      refine ls_for R2 (fun j => (acc2 j).map eP) h5 (ck_range (n := L.long i) (ca_cons (cm_call (ca_cons (cm_var rfl) (ca_cons (cm_var rfl) ca_nil)) (r_long_of hok)) ca_nil) (by omega)).x (fun j w hw => ?_) fun σ5 H5 h5 => ?_
      · have hj : j < L.long i := by
          have := (List.getElem?_eq_some_iff.mp hw).1
          simpa using this
        have ew : w = .d (eN j) := by
          simp [hj] at hw
          exact hw.symm
        subst ew
        have rs := rows_small g (k := j) (by omega)
        have a2l : (acc2 j).length ≤ 200 := by
          have h1 := acc_len i (by omega)
          have h2 := flat_len (fun k => (rows L.notes k).map fun r => (some i, r)) 16 (List.range j) fun k hk => by
            rw [List.length_map]
            exact rows_small g (by have := List.mem_range.mp hk; omega)
          rw [List.length_range] at h2
          show (acc i ++ _).length ≤ 200
          rw [List.length_append]
          omega
        refine ⟨_, _, cg_name, fun Hb2 σ6 H6 D2 h6 q2 => ?_⟩
        refine ls_extendS (es := ((rows L.notes j).map fun r => (some i, r)).map eP) h6 rfl ?_ (by walk_at "flat") (by simp; omega) fun H7 h7 => ?_
        · rw [List.map_map]
          refine cm_lcm (as := rows L.notes j) (fun r => .d (eNs r)) _ (ci_lstM eNs (cm_varLL rfl)) (by omega) fun r hr => ⟨_, [5], by simp, cg_name, ?_⟩
          exact cm_is (by walk_at "cm") (by rfl)
        · refine ls_setN (i := 3) (ks := (rows L.notes (j + 1)).map eNs) h7 ?_ fun σ8 H8 h8 => q2 _ _ ?_
          · have := cn_lc2 (K := K) (α := List Nat) (β := Nat) (r := (R2 j).set 4 (some (.d (eN j)))) (wi := iList K (tVar 3)) (vs := [5, 6]) (vs1 := [6]) (g := gName 5) (g1 := gName 6) (wi1 := iRng1 (tCons (tOp (rIx K) (tVar 0) (tC (.int 1))) tNil))
              (te := tTup (tStar K (tVar 5) (tCons (tVar 6) tNil))) (as := rows L.notes j) (fun r => .d (eNs r)) (fun _ => List.range L.notes) (fun v => .d (eN v)) (fun r v => eNs (r ++ [v])) (ci_lstM eNs (cm_varLL rfl)) ?_ ?_ (by simp)
            · have e2 : ((rows L.notes j).flatMap fun a => (List.range L.notes).map fun v => eNs (a ++ [v])) = (rows L.notes (j + 1)).map eNs := by
                simp only [rows, List.map_flatMap, List.map_map, Function.comp_def]
              rw [e2] at this
              exact this
            · have := flat_len (fun _ : List Nat => List.range L.notes) 4 (rows L.notes j) fun _ _ => by rw [List.length_range]; exact n4
              omega
            · intro l' r hr
              refine ⟨_, [some (.d (eL L)), none, none, none, none, some (.d (eNs r)), none], [5], by simp, cg_name, ?_, (ck_range (n := L.notes) (ca_cons (cm_is (by walk_at "cm") (by rfl)) ca_nil) (by omega)).x, ?_, fun v hv => ⟨_, [6], by simp, cg_name, ?_⟩⟩
              · walk_at "less"
              · walk_at "flat"
              · have hrl := (mem_rows.mp hr).1
                refine cm_is (w' := .d (.tup (r.map eN ++ [eN v]))) (cm_tupD (cad_starE (cm_var rfl) rfl (cad_cons (cm_var rfl) cad_nil)) (by simp; omega)) (by simp [eNs])
          · have e2 : acc2 (j + 1) = acc2 j ++ (rows L.notes j).map fun r => (some i, r) := by
              simp [acc2, List.range_succ, List.flatMap_append]
            have h9 := h8.less (r' := R2 (j + 1)) (by walk_at "less")
            rw [e2, List.map_append]
            exact h9
      · simp only [List.length_map, List.length_range] at h5
        have e2 : acc (i + 1) = acc2 (L.long i) := by
          simp [acc, acc2, List.range_succ, List.flatMap_append, placesH]
        have h6 := h5.less (r' := R) (by walk_at "less")
        refine q _ _ ?_
        rw [e2]
        exact h6
    · simp only [List.length_map, List.length_range] at h2
      exact ls_ret h2 rfl p
end
end NW
/-! readers.py: all standings -/
namespace NW
open PySem PySem.Spec PyProof.Rows L2 StX NM
local macro_rules | `(tactic| walk_at "my") => `(tactic| fail)
local macro_rules | `(tactic| walk_at "mycm") => `(tactic| fail)
local macro_rules | `(tactic| walk_at "myco") => `(tactic| fail)
local macro_rules | `(tactic| walk_at "mycc") => `(tactic| fail)
local macro_rules | `(tactic| walk_at "sh") => `(tactic| first | assumption | exact sh_n | exact Sh.num | exact Sh.non | exact sh_role | exact Sh.text (by decide +kernel) | exact sh_ns | exact sh_s | exact sh_m | exact sh_o | exact sh_h | exact sh_t | exact sh_ss | exact sh_ms | exact sh_head | exact sh_L | exact sh_nil | (apply sh_cons <;> walk_at "sh"))
local macro_rules | `(tactic| walk_at "shs") => `(tactic| first | assumption | exact shs_nil | (apply shs_cons; walk_at "sh"; walk_at "shs"))
local macro_rules | `(tactic| walk_at "co") => `(tactic| first
  | ((with_reducible apply co_ixTe); exact rfl; exact rfl)
  | ((with_reducible exact co_ixDl))
  | ((with_reducible apply co_ixL); exact rfl)
  | (with_reducible exact co_lt) | (with_reducible exact co_le) | (with_reducible exact co_gt) | (with_reducible exact co_ge) | (with_reducible exact co_sub)
  | (with_reducible exact co_isN) | (with_reducible exact co_isNotN)
  | ((with_reducible apply co_eq) <;> walk_at "sh") | ((with_reducible apply co_ne) <;> walk_at "sh")
  | (with_reducible exact co_add)
  | ((with_reducible apply co_inTe); exact rfl; walk_at "sh"; walk_at "shs")
  | walk_at "myco")
local macro_rules | `(tactic| walk_at "cc") => `(tactic| first
  | ((with_reducible apply cc_lenTe); exact rfl) | (with_reducible exact cc_lenL) | (with_reducible exact cc_all) | (with_reducible exact cc_any) | (with_reducible exact cc_tuple) | (with_reducible exact cc_intI)
  | (with_reducible exact cc_intB) | (with_reducible exact cc_min2) | (with_reducible exact cc_listT)
  | ((with_reducible apply cc_isi); first | exact isi_int rfl | exact isi_bool | exact isi_tuple rfl | exact isi_str rfl)
  | walk_at "mycc")
local macro_rules | `(tactic| walk_at "ca") => `(tactic| first
  | (with_reducible exact ca_nil)
  | ((with_reducible apply ca_cons); walk_at "cm"; walk_at "ca"))
local macro_rules | `(tactic| walk_at "cad") => `(tactic| first
  | (with_reducible exact cad_nil)
  | ((with_reducible apply cad_cons); walk_at "cm"; walk_at "cad")
  | ((with_reducible apply cad_starE); walk_at "cm"; exact rfl; walk_at "cad"))
local macro_rules | `(tactic| walk_at "cm") => `(tactic| first
  | ((with_reducible apply cm_var); exact rfl)
  | (with_reducible exact cm_int) | (with_reducible exact cm_str) | (with_reducible exact cm_non) | (with_reducible exact cm_bl)
  | ((with_reducible apply cm_op); walk_at "cm"; walk_at "cm"; walk_at "co")
  | ((with_reducible apply cm_tupD); walk_at "cad"; walk_at "size")
  | ((with_reducible apply cm_neg); walk_at "cm")
  | ((with_reducible apply cm_call); walk_at "ca"; walk_at "my")
  | walk_at "mycm"
  | ((with_reducible apply cm_cb); walk_at "ca"; walk_at "cc")
  | ((with_reducible apply cm_chain); walk_at "cm"; walk_at "cm"; walk_at "co"; (intro _; walk_at "cm"); walk_at "co")
  | ((with_reducible apply cm_andVF); walk_at "cm"; walk_at "dec0")
  | ((with_reducible apply cm_orVT); walk_at "cm"; walk_at "dec0")
  | ((with_reducible apply cm_ifT); walk_at "ct"; walk_at "dec"; walk_at "cm")
  | ((with_reducible apply cm_ifF); walk_at "ct"; walk_at "dec"; walk_at "cm")
  | ((with_reducible apply cm_andV); walk_at "cm"; (intro _; walk_at "cm"))
  | ((with_reducible apply cm_orV); walk_at "cm"; (intro _; walk_at "cm"))
  | ((with_reducible apply cm_notV); walk_at "cm")
  | (with_reducible exact cm_val))
local macro_rules | `(tactic| walk_at "ct") => `(tactic| first
  | ((with_reducible apply ct_test); walk_at "cm") | ((with_reducible apply ct_B); walk_at "cm") | ((with_reducible apply ct_not); walk_at "ct")
  | ((with_reducible apply ct_andF); walk_at "ct"; walk_at "dec0")
  | ((with_reducible apply ct_orT); walk_at "ct"; walk_at "dec0")
  | ((with_reducible apply ct_and); walk_at "ct"; (intro _; walk_at "ct"))
  | ((with_reducible apply ct_or); walk_at "ct"; (intro _; walk_at "ct")))
local macro_rules | `(tactic| walk_at "size") => `(tactic| focus first | assumption | (simp; done) | (simp; omega) | omega)
local macro_rules | `(tactic| walk_at "dec0") => `(tactic| focus first | rfl | (simp [eHead, eL, eSs, eMs, eS, eM, eT, eN, eNs, eH, eO, rN]; done))
local macro_rules | `(tactic| walk_at "dec") => `(tactic| focus first | rfl | (simp [eHead, eL, eSs, eMs, eS, eM, eT, eN, eNs, eH, eO, rN]; done) | (simp [eHead, eL, eSs, eMs, eS, eM, eT, eN, eNs, eH, eO, rN]; omega) | (simp [eHead, eL, eSs, eMs, eS, eM, eT, eN, eNs, eH, eO, rN, *]; done))
local macro_rules | `(tactic| walk_at "skip") => `(tactic| ((with_reducible apply bs_skip); walk_at "ct"; walk_at "dec"))
local macro_rules | `(tactic| walk_at "take") => `(tactic| (refine bs_seqR ?_; (with_reducible apply bs_ifT); walk_at "ct"; walk_at "dec"))
local macro_rules | `(tactic| walk_at "ret") => `(tactic| (refine bs_ret ?_; (with_reducible apply cm_is); walk_at "cm"))
local macro_rules | `(tactic| walk_at "set") => `(tactic| ((with_reducible apply bs_setS); walk_at "cm"))
local macro_rules | `(tactic| walk_at "drop") => `(tactic| ((with_reducible apply bs_dropS); walk_at "cm"))
local macro_rules | `(tactic| walk_at "norm") => `(tactic| skip)
local macro_rules | `(tactic| walk_at "less") => `(tactic| first | exact less_nil | (apply less_some; walk_at "less") | (apply less_none; walk_at "less"))
local macro_rules | `(tactic| walk_at "flat") => `(tactic| first | exact flat_nil | (refine flat_cons ?_ ?_; (first | exact trivial | exact rfl); walk_at "flat"))
section
variable {P : Program} {w : World} {K : Fg} {mg : Str → Option Value} {base : Heap}

/-! ### standings_of -/
theorem datas_ns : ∀ ns : List Nat, NestedKey.datas (ns.map eN) = (ns.map fun n : Nat => (n : Int)).map PyData.int
  | [] => rfl
  | n :: ns => by
    show NestedKey.datas (eN n :: ns.map eN) = _
    rw [NestedKey.datas, datas_ns ns]
    rfl
theorem data_ns (ns : List Nat) : NestedKey.data (eNs ns) = .tuple ((ns.map fun n : Nat => (n : Int)).map PyData.int) := by
  rw [eNs, NestedKey.data, datas_ns]
theorem data_h (o : Option Nat) : ∃ i, NestedKey.data (eH o) = .int i := by
  cases o with
  | none => exact ⟨-1, rfl⟩
  | some h => exact ⟨h, rfl⟩
theorem data_t (s : Std) : ∃ i, NestedKey.data (eT s) = .tuple [.int i, .tuple ((s.got.map fun n : Nat => (n : Int)).map PyData.int), .tuple ((s.on.map fun n : Nat => (n : Int)).map PyData.int)] := by
  obtain ⟨i, h⟩ := data_h s.hd
  refine ⟨i, ?_⟩
  rw [eT, NestedKey.data, NestedKey.datas, NestedKey.datas, NestedKey.datas, NestedKey.datas, h, data_ns, data_ns]
theorem alike_t (s t : Std) : PySem.W.alike (eT s).data (eT t).data = true := by
  obtain ⟨i, h1⟩ := data_t s
  obtain ⟨j, h2⟩ := data_t t
  rw [h1, h2]
  simp only [PySem.W.alike, PySem.W.alikeAll, PySem.W.alike_ints, Bool.and_true, Bool.and_self]
def stds (L : Lang) : List Std := (raw L).mergeSort fun a b => leD (eT a) (eT b)
theorem mem_stds {L : Lang} {s : Std} : s ∈ stds L ↔ GoodT L s := by
  unfold stds
  rw [(List.mergeSort_perm _ _).mem_iff]
  exact mem_raw
theorem stds_map (L : Lang) : sortD ((raw L).map eT) = (stds L).map eT := (PySem.W.sort_maps (r := fun a b => leD (eT a) (eT b)) (s := leD) eT (l := raw L) fun _ _ _ _ => rfl).symm
theorem lots_len : ∀ n, (lots n).length = 2 ^ n
  | 0 => rfl
  | n + 1 => by
    simp only [lots, List.length_append, List.length_map, lots_len n]
    omega
theorem raw_len {L : Lang} (g : Good L) : (raw L).length ≤ 129 * 16 := by
  have h1 := flat_len (fun p : Option Nat × List Nat => (lots L.notes).map fun l => (⟨p.1, p.2, l⟩ : Std)) 16 (places L) fun p _ => by
    rw [List.length_map, lots_len]
    exact Nat.pow_le_pow_right (n := 2) (by decide) g.n4
  have h2 := places_len g
  unfold raw
  omega
theorem stds_len {L : Lang} (g : Good L) : (stds L).length ≤ 129 * 16 := by
  unfold stds
  rw [List.length_mergeSort]
  exact raw_len g
theorem lot_len {n : Nat} {l : List Nat} (h : l ∈ lots n) : l.length ≤ n := by
  obtain ⟨h1, h2⟩ := mem_lots.mp h
  have key : ∀ (xs : List Nat) (a n : Nat), xs.Pairwise (· < ·) → (∀ v ∈ xs, a ≤ v ∧ v < a + n) → xs.length ≤ n := by
    intro xs
    induction xs with
    | nil => intro a n _ _; simp
    | cons x xs ih =>
      intro a n hp hv
      rw [List.pairwise_cons] at hp
      obtain ⟨h1, h2⟩ := hv x (by simp)
      cases n with
      | zero => omega
      | succ n =>
        have := ih (a + 1) n hp.2 fun v hv' => by
          have h3 := hp.1 v hv'
          have h4 := hv v (by simp [hv'])
          omega
        simp
        omega
  exact key l 0 n h1 fun v hv => ⟨by omega, by have := h2 v hv; omega⟩
abbrev s_standings_of : Stmt := top 39
abbrev N_standings_of : List Str := ["language", "lots", "note", "lot", "head", "got"]
theorem sc_standings_of : FnScope N_standings_of ["language"] (defScope s_standings_of) := ⟨rfl, rfl, rfl, by decide +kernel, rfl, by decide +kernel, by decide +kernel⟩
def R_standings_of : List W → W → Prop := fun ws w => ∃ L, Good L ∧ ws = [.d (eL L)] ∧ w = .l ((stds L).map eT)
theorem r_standings_of {L : Lang} (g : Good L) : R_standings_of [.d (eL L)] (.l ((stds L).map eT)) := ⟨L, g, rfl, rfl⟩
theorem ok_standings_of (T : Txt K mg) (A : DefAt K mg "standings_of" "standings_of" s_standings_of ["language"]) (C_places_of_readers : CalF P w K mg base 2 "places_of_readers" R_places) : CalF P w K mg base 3 "standings_of" R_standings_of := by
  refine calF A sc_standings_of (fun ws u h => ?_) (fun f cdv A outer s H E ws u hr h => ?_)
  · obtain ⟨L, _, rfl, _⟩ := h; rfl
  · obtain ⟨L, g, rfl, rfl⟩ := h
    refine ⟨_, (pss_cons (ps_set (i := 1) sc_standings_of.nd rfl (by first | exact Or.inl rfl | exact Or.inr rfl) (pe_lst (pa_cons (pe_tup pa_nil) pa_nil))) (pss_cons (ps_for PassesOwn.never rfl (pi_range1 rfl T.b_range (pa_cons (pe_ix (ixK K rfl) (pv 0) pe_int (fun _ _ => rfl)) pa_nil)) (pg_name (i := 2) sc_standings_of.nd rfl (by first | exact Or.inl rfl | exact Or.inr rfl)) (pss_one (ps_set (i := 1) sc_standings_of.nd rfl (by first | exact Or.inl rfl | exact Or.inr rfl) (pe_op (addK K rfl) (pv 1) (pe_lc (own := [("lot", 3)]) rfl sc_standings_of.nd (piLK K rfl (pv 1)) (blkOk_by (own := [("lot", 3)]) (N := N_standings_of) (sc := defScope s_standings_of) (by decide +kernel)) (fun _ _ _ _ _ => (pg_name (i := 3) sc_standings_of.nd rfl (by first | exact Or.inl rfl | exact Or.inr rfl))) (fun _ _ _ _ _ => pts_nil) (fun _ _ _ _ _ => (pe_tup (starK K rfl (pv 3) (pa_cons (pv 2) pa_nil))))))))) (pss_one (ps_ret (pe_callB (sortedDK K rfl hr) rfl T.b_sorted bo_sorted (pa_cons (pe_lc2 (own := [("head", 4), ("got", 5), ("lot", 3)]) (vs1 := [3]) rfl sc_standings_of.nd (piLK K rfl (C8.pe_c C_places_of_readers hr (by decide) rfl (pa_cons (pv 0) pa_nil))) (blkOk_by (own := [("head", 4), ("got", 5), ("lot", 3)]) (N := N_standings_of) (sc := defScope s_standings_of) (by decide +kernel)) (by decide) (fun _ _ _ _ _ => (pgTK (n := 2) K rfl rfl (pgs_cons (pg_name (i := 4) sc_standings_of.nd rfl (by first | exact Or.inl rfl | exact Or.inr rfl)) (pgs_cons (pg_name (i := 5) sc_standings_of.nd rfl (by first | exact Or.inl rfl | exact Or.inr rfl)) pgs_nil)))) (fun _ _ _ _ _ => pts_nil) (fun _ _ _ _ _ => (piLK K rfl (pv 1))) (fun _ _ _ _ _ => (pg_name (i := 3) sc_standings_of.nd rfl (by first | exact Or.inl rfl | exact Or.inr rfl))) (fun _ _ _ _ _ => pts_nil) (fun _ _ _ _ _ => (pe_tup (pa_cons (pv 4) (pa_cons (pv 5) (pa_cons (pv 3) pa_nil)))))) pa_nil)))))), .inl ?_⟩
    have n4 := g.n4
    let R : Nat → Sl := fun i => [some (.d (eL L)), some (.l ((lots i).map eNs)), none, none, none, none]
    refine bs_setS (w := .l ((lots 0).map eNs)) (cm_is (cm_lstD (cad_cons (cm_tupD cad_nil (by simp)) cad_nil) (by simp)) rfl) ?_
    refine bs_seq (r1 := R L.notes) ?_ ?_
    · have hb := bs_for (K := K) (g := gName 2) (wi := iRng1 (tCons (tOp (rIx K) (tVar 0) (tC (.int 1))) tNil)) (tb := tAsg (tOp (rAddU K) (tVar 1) (tLc (iList K (tVar 1)) (gName 3) tYes (tTup (tStar K (tVar 3) (tCons (tVar 2) tNil))) [3])) (gName 1)) R (ci_range (n := L.notes) (ca_cons (cm_is (by walk_at "cm") (by rfl)) ca_nil) (by omega)) ?_
      · simp only [List.length_map, List.length_range] at hb
        exact hb
      · intro i w hw
        have hi : i < L.notes := by
          have := (List.getElem?_eq_some_iff.mp hw).1
          simpa using this
        have ew : w = .d (eN i) := by
          simp [hi] at hw
          exact hw.symm
        subst ew
        refine ⟨_, _, cg_name, .inl ?_⟩
        have hl : (lots i).length ≤ 16 := by
          rw [lots_len]
          exact Nat.pow_le_pow_right (n := 2) (j := 4) (by decide) (by omega)
        refine bs_lessT (bs_set (i := 1) (w := .l ((lots (i + 1)).map eNs)) ?_) (by walk_at "less")
        have e2 : (lots (i + 1)).map eNs = (lots i).map eNs ++ (lots i).map fun l => eNs (l ++ [i]) := by
          simp only [lots, List.map_append, List.map_map, Function.comp_def]
        rw [e2]
        refine cm_op (cm_var rfl) (cm_lcm (as := lots i) (fun l => .d (eNs l)) _ (ci_lstM eNs (cm_var rfl)) (by omega) fun l hl' => ⟨_, [3], by simp, cg_name, ?_⟩) (co_addL (by simp; omega))
        have := lot_len hl'
        refine cm_is (w' := .d (.tup (l.map eN ++ [eN i]))) (cm_tupD (cad_starE (cm_var rfl) rfl (cad_cons (cm_var rfl) cad_nil)) (by simp; omega)) (by simp [eNs])
    · refine bs_ret ?_
      rw [← stds_map]
      refine CmN.cm (cn_sorted ?_ ?_ ?_ ?_)
      · have := cn_lc2 (K := K) (α := Option Nat × List Nat) (β := List Nat) (r := R L.notes) (wi := iList K (tCall (spF K R_places) [] E (tCons (tVar 0) tNil))) (vs := [4, 5, 3]) (vs1 := [3]) (g := gTup K 2 (gCons (gName 4) (gCons (gName 5) gNil))) (g1 := gName 3) (wi1 := iList K (tVar 1))
              (te := tTup (tCons (tVar 4) (tCons (tVar 5) (tCons (tVar 3) tNil)))) (as := places L) (fun p => .d (eP p)) (fun _ => lots L.notes) (fun l => .d (eNs l)) (fun p l => eT ⟨p.1, p.2, l⟩) (ci_lstM eP (cm_call (by walk_at "ca") (r_places g))) ?_ ?_ (by simp)
        · have e2 : ((places L).flatMap fun a => (lots L.notes).map fun l => eT ⟨a.1, a.2, l⟩) = (raw L).map eT := by
            simp only [raw, List.map_flatMap, List.map_map, Function.comp_def]
          rw [e2] at this
          exact this.cm
        · have h1 := flat_len (fun _ : Option Nat × List Nat => lots L.notes) 16 (places L) fun p _ => by
            rw [lots_len]
            exact Nat.pow_le_pow_right (n := 2) (by decide) n4
          have h2 := places_len g
          omega
        · intro l p hp
          refine ⟨_, [some (.d (eL L)), some (.ll l ((lots L.notes).map eNs)), none, none, some (.d (eH p.1)), some (.d (eNs p.2))], [4, 5], by simp, cg_tupE rfl (cgs_cons cg_name (cgs_cons cg_name cgs_nil)) rfl, ?_, cx_lst eNs rfl, ?_, fun lo hlo => ⟨_, [3], by simp, cg_name, ?_⟩⟩
          · walk_at "less"
          · walk_at "flat"
          · exact cm_is (by walk_at "cm") (by rfl)
      · intro d hd d' hd'
        obtain ⟨k, hk, rfl⟩ := List.mem_map.mp hd
        obtain ⟨k', hk', rfl⟩ := List.mem_map.mp hd'
        obtain ⟨s, _, rfl⟩ := List.mem_map.mp hk
        obtain ⟨s', _, rfl⟩ := List.mem_map.mp hk'
        exact alike_t s s'
      · refine .inl fun d hd => ?_
        obtain ⟨k, hk, rfl⟩ := List.mem_map.mp hd
        obtain ⟨s, _, rfl⟩ := List.mem_map.mp hk
        obtain ⟨i, h1⟩ := data_t s
        exact ⟨_, _, h1⟩
      · intro d hd
        obtain ⟨s, _, rfl⟩ := List.mem_map.mp hd
        exact sh_t

/-! ### standings -/
abbrev s_standings : Stmt := top 40
abbrev N_standings : List Str := ["language"]
theorem sc_standings : FnScope N_standings ["language"] (defScope s_standings) := ⟨rfl, rfl, rfl, by decide +kernel, rfl, by decide +kernel, by decide +kernel⟩
def eTs (ss : List Std) : D := .tup (ss.map eT)
def R_standings : List W → W → Prop := fun ws w => ∃ L, Good L ∧ ws = [.d (eL L)] ∧ w = .d (eTs (stds L))
theorem r_standings {L : Lang} (g : Good L) : R_standings [.d (eL L)] (.d (eTs (stds L))) := ⟨L, g, rfl, rfl⟩
local macro_rules | `(tactic| walk_at "my") => `(tactic| first | exact r_need_language (by assumption) | exact r_standings_of (by assumption))
theorem ok_standings (T : Txt K mg) (A : DefAt K mg "standings" "standings" s_standings ["language"]) (C_need_language : CalF P w K mg base 3 "need_language" R_need_language) (C_standings_of : CalF P w K mg base 3 "standings_of" R_standings_of) : CalF P w K mg base 4 "standings" R_standings := by
  refine calF A sc_standings (fun ws u h => ?_) (fun f cdv A outer s H E ws u hr h => ?_)
  · obtain ⟨L, _, rfl, _⟩ := h; rfl
  · obtain ⟨L, g, rfl, rfl⟩ := h
    refine ⟨_, (pss_one (ps_ret (pe_callTy (tupleK K rfl) rfl T.b_tuple bo_tuple (pa_cons (C8.pe_c C_standings_of hr (by decide) rfl (pa_cons (C8.pe_c C_need_language hr (by decide) rfl (pa_cons (pv 0) pa_nil)) pa_nil)) pa_nil)))), .inl ?_⟩
    walk_at "ret"
    rfl
end
end NW
/-! likes.py: parting, are_alike, part -/
namespace NW
open PySem PySem.Spec PyProof.Rows L2 StX NM
local macro_rules | `(tactic| walk_at "my") => `(tactic| fail)
local macro_rules | `(tactic| walk_at "mycm") => `(tactic| fail)
local macro_rules | `(tactic| walk_at "myco") => `(tactic| fail)
local macro_rules | `(tactic| walk_at "mycc") => `(tactic| fail)
local macro_rules | `(tactic| walk_at "sh") => `(tactic| first | assumption | exact sh_n | exact Sh.num | exact Sh.non | exact sh_role | exact Sh.text (by decide +kernel) | exact sh_ns | exact sh_s | exact sh_m | exact sh_o | exact sh_h | exact sh_t | exact sh_ss | exact sh_ms | exact sh_head | exact sh_L | exact sh_nil | (apply sh_cons <;> walk_at "sh"))
local macro_rules | `(tactic| walk_at "shs") => `(tactic| first | assumption | exact shs_nil | (apply shs_cons; walk_at "sh"; walk_at "shs"))
local macro_rules | `(tactic| walk_at "co") => `(tactic| first
  | ((with_reducible apply co_ixTe); exact rfl; exact rfl)
  | ((with_reducible exact co_ixDl))
  | ((with_reducible apply co_ixL); exact rfl)
  | (with_reducible exact co_lt) | (with_reducible exact co_le) | (with_reducible exact co_gt) | (with_reducible exact co_ge) | (with_reducible exact co_sub)
  | (with_reducible exact co_isN) | (with_reducible exact co_isNotN)
  | ((with_reducible apply co_eq) <;> walk_at "sh") | ((with_reducible apply co_ne) <;> walk_at "sh")
  | (with_reducible exact co_add)
  | ((with_reducible apply co_inTe); exact rfl; walk_at "sh"; walk_at "shs")
  | walk_at "myco")
local macro_rules | `(tactic| walk_at "cc") => `(tactic| first
  | ((with_reducible apply cc_lenTe); exact rfl) | (with_reducible exact cc_lenL) | (with_reducible exact cc_all) | (with_reducible exact cc_any) | (with_reducible exact cc_tuple) | (with_reducible exact cc_intI)
  | (with_reducible exact cc_intB) | (with_reducible exact cc_min2) | (with_reducible exact cc_listT)
  | ((with_reducible apply cc_isi); first | exact isi_int rfl | exact isi_bool | exact isi_tuple rfl | exact isi_str rfl)
  | walk_at "mycc")
local macro_rules | `(tactic| walk_at "ca") => `(tactic| first
  | (with_reducible exact ca_nil)
  | ((with_reducible apply ca_cons); walk_at "cm"; walk_at "ca"))
local macro_rules | `(tactic| walk_at "cad") => `(tactic| first
  | (with_reducible exact cad_nil)
  | ((with_reducible apply cad_cons); walk_at "cm"; walk_at "cad")
  | ((with_reducible apply cad_starE); walk_at "cm"; exact rfl; walk_at "cad"))
local macro_rules | `(tactic| walk_at "cm") => `(tactic| first
  | ((with_reducible apply cm_var); exact rfl)
  | (with_reducible exact cm_int) | (with_reducible exact cm_str) | (with_reducible exact cm_non) | (with_reducible exact cm_bl)
  | ((with_reducible apply cm_op); walk_at "cm"; walk_at "cm"; walk_at "co")
  | ((with_reducible apply cm_tupD); walk_at "cad"; walk_at "size")
  | ((with_reducible apply cm_neg); walk_at "cm")
  | ((with_reducible apply cm_call); walk_at "ca"; walk_at "my")
  | walk_at "mycm"
  | ((with_reducible apply cm_cb); walk_at "ca"; walk_at "cc")
  | ((with_reducible apply cm_chain); walk_at "cm"; walk_at "cm"; walk_at "co"; (intro _; walk_at "cm"); walk_at "co")
  | ((with_reducible apply cm_andVF); walk_at "cm"; walk_at "dec0")
  | ((with_reducible apply cm_orVT); walk_at "cm"; walk_at "dec0")
  | ((with_reducible apply cm_ifT); walk_at "ct"; walk_at "dec"; walk_at "cm")
  | ((with_reducible apply cm_ifF); walk_at "ct"; walk_at "dec"; walk_at "cm")
  | ((with_reducible apply cm_andV); walk_at "cm"; (intro _; walk_at "cm"))
  | ((with_reducible apply cm_orV); walk_at "cm"; (intro _; walk_at "cm"))
  | ((with_reducible apply cm_notV); walk_at "cm")
  | (with_reducible exact cm_val))
local macro_rules | `(tactic| walk_at "ct") => `(tactic| first
  | ((with_reducible apply ct_test); walk_at "cm") | ((with_reducible apply ct_B); walk_at "cm") | ((with_reducible apply ct_not); walk_at "ct")
  | ((with_reducible apply ct_andF); walk_at "ct"; walk_at "dec0")
  | ((with_reducible apply ct_orT); walk_at "ct"; walk_at "dec0")
  | ((with_reducible apply ct_and); walk_at "ct"; (intro _; walk_at "ct"))
  | ((with_reducible apply ct_or); walk_at "ct"; (intro _; walk_at "ct")))
local macro_rules | `(tactic| walk_at "size") => `(tactic| focus first | assumption | (simp; done) | (simp; omega) | omega)
local macro_rules | `(tactic| walk_at "dec0") => `(tactic| focus first | rfl | (simp [eHead, eL, eSs, eMs, eS, eM, eT, eN, eNs, eH, eO, rN]; done))
local macro_rules | `(tactic| walk_at "dec") => `(tactic| focus first | rfl | (simp [eHead, eL, eSs, eMs, eS, eM, eT, eN, eNs, eH, eO, rN]; done) | (simp [eHead, eL, eSs, eMs, eS, eM, eT, eN, eNs, eH, eO, rN]; omega) | (simp [eHead, eL, eSs, eMs, eS, eM, eT, eN, eNs, eH, eO, rN, *]; done))
local macro_rules | `(tactic| walk_at "skip") => `(tactic| ((with_reducible apply bs_skip); walk_at "ct"; walk_at "dec"))
local macro_rules | `(tactic| walk_at "take") => `(tactic| (refine bs_seqR ?_; (with_reducible apply bs_ifT); walk_at "ct"; walk_at "dec"))
local macro_rules | `(tactic| walk_at "ret") => `(tactic| (refine bs_ret ?_; (with_reducible apply cm_is); walk_at "cm"))
local macro_rules | `(tactic| walk_at "set") => `(tactic| ((with_reducible apply bs_setS); walk_at "cm"))
local macro_rules | `(tactic| walk_at "drop") => `(tactic| ((with_reducible apply bs_dropS); walk_at "cm"))
local macro_rules | `(tactic| walk_at "norm") => `(tactic| skip)
local macro_rules | `(tactic| walk_at "less") => `(tactic| first | exact less_nil | (apply less_some; walk_at "less") | (apply less_none; walk_at "less"))
local macro_rules | `(tactic| walk_at "flat") => `(tactic| first | exact flat_nil | (refine flat_cons ?_ ?_; (first | exact trivial | exact rfl); walk_at "flat"))
section
variable {P : Program} {w : World} {K : Fg} {mg : Str → Option Value} {base : Heap}

theorem eN_inj {a b : Nat} (h : eN a = eN b) : a = b := by
  have : (a : Int) = b := by injection h
  omega
theorem eNs_inj {a b : List Nat} (h : eNs a = eNs b) : a = b := by
  have h' : a.map eN = b.map eN := by
    unfold eNs at h
    injection h
  clear h
  induction a generalizing b with
  | nil => cases b with
    | nil => rfl
    | cons y ys => simp at h'
  | cons x xs ih => cases b with
    | nil => simp at h'
    | cons y ys =>
      rw [List.map_cons, List.map_cons] at h'
      injection h' with h1 h2
      rw [eN_inj h1, ih h2]
theorem eH_inj {a b : Option Nat} (h : eH a = eH b) : a = b := by
  cases a with
  | none => cases b with
    | none => rfl
    | some y =>
      have : (-1 : Int) = y := by injection h
      omega
  | some x => cases b with
    | none =>
      have : (x : Int) = -1 := by injection h
      omega
    | some y => rw [eN_inj h]
theorem eT_inj {a b : Std} (h : eT a = eT b) : a = b := by
  obtain ⟨a1, a2, a3⟩ := a
  obtain ⟨b1, b2, b3⟩ := b
  unfold eT at h
  injection h with h
  injection h with h1 h
  injection h with h2 h
  injection h with h3 h
  have h1 := eH_inj h1
  have h2 := eNs_inj h2
  have h3 := eNs_inj h3
  subst h1 h2 h3
  rfl
theorem eT_dec (a b : Std) : decide (eT a = eT b) = decide (a = b) := by
  by_cases h : a = b
  · subst h; simp
  · rw [decide_eq_false h, decide_eq_false fun e => h (eT_inj e)]
def isGood (L : Lang) (xs : List NM.Sign) : Prop := (∀ x ∈ xs, L.ok x) ∧ xs.length ≤ 400
local macro_rules | `(tactic| walk_at "my") => `(tactic| first | exact r_need_language (by assumption) | exact r_standings_of (by assumption) | exact r_need_stream (by assumption) (by assumption) (by assumption))
/-! ### need_both -/
abbrev s_need_both : Stmt := top 42
abbrev N_need_both : List Str := ["language", "stream", "other"]
theorem sc_need_both : FnScope N_need_both ["language", "stream", "other"] (defScope s_need_both) := ⟨rfl, rfl, rfl, by decide +kernel, rfl, by decide +kernel, by decide +kernel⟩
def R_need_both : List W → W → Prop := fun ws w => ∃ L xs ys, Good L ∧ isGood L xs ∧ isGood L ys ∧ ws = [.d (eL L), .d (eSs xs), .d (eSs ys)] ∧ w = .d .none
theorem r_need_both {L : Lang} {xs ys : List NM.Sign} (g : Good L) (hx : isGood L xs) (hy : isGood L ys) : R_need_both [.d (eL L), .d (eSs xs), .d (eSs ys)] (.d .none) := ⟨L, xs, ys, g, hx, hy, rfl, rfl⟩
theorem ok_need_both (T : Txt K mg) (A : DefAt K mg "need_both" "need_both" s_need_both ["language", "stream", "other"]) (C_need_stream : CalF P w K mg base 4 "need_stream" R_need_stream) : CalF P w K mg base 5 "need_both" R_need_both := by
  refine calF A sc_need_both (fun ws u h => ?_) (fun f cdv A outer s H E ws u hr h => ?_)
  · obtain ⟨L, xs, ys, _, _, _, rfl, _⟩ := h; rfl
  · obtain ⟨L, xs, ys, g, ⟨hx, lx⟩, ⟨hy, ly⟩, rfl, rfl⟩ := h
    refine ⟨_, (pss_cons (ps_expr (C8.pe_c C_need_stream hr (by decide) rfl (pa_cons (pv 0) (pa_cons (pv 1) pa_nil)))) (pss_one (ps_expr (C8.pe_c C_need_stream hr (by decide) rfl (pa_cons (pv 0) (pa_cons (pv 2) pa_nil)))))), .inr ⟨rfl, startW N_need_both [.d (eL L), .d (eSs xs), .d (eSs ys)], ?_⟩⟩
    refine bs_dropS (cm_call (by walk_at "ca") (r_need_stream g hx lx)) ?_
    exact bs_drop (cm_call (by walk_at "ca") (r_need_stream g hy ly))

/-! ### parting -/
abbrev s_parting : Stmt := top 43
abbrev N_parting : List Str := ["language", "stream", "other", "standing"]
theorem sc_parting : FnScope N_parting ["language", "stream", "other"] (defScope s_parting) := ⟨rfl, rfl, rfl, by decide +kernel, rfl, by decide +kernel, by decide +kernel⟩
def differ (L : Lang) (xs ys : List NM.Sign) (s : Std) : Bool := !decide ((readSo L s xs).1 = (readSo L s ys).1)
def partS (L : Lang) (xs ys : List NM.Sign) : Option Std := (stds L).find? (differ L xs ys)
def eOT (o : Option Std) : D := (o.map eT).getD .none
theorem sh_oT {k : Nat} {o : Option Std} : Sh (k + 2) (eOT o) := by
  cases o with
  | none => exact .non
  | some m => exact sh_t
def R_parting : List W → W → Prop := fun ws w => ∃ L xs ys, Good L ∧ isGood L xs ∧ isGood L ys ∧ ws = [.d (eL L), .d (eSs xs), .d (eSs ys)] ∧ w = .d (eOT (partS L xs ys))
theorem r_parting {L : Lang} {xs ys : List NM.Sign} (g : Good L) (hx : isGood L xs) (hy : isGood L ys) : R_parting [.d (eL L), .d (eSs xs), .d (eSs ys)] (.d (eOT (partS L xs ys))) := ⟨L, xs, ys, g, hx, hy, rfl, rfl⟩
theorem ok_parting (T : Txt K mg) (A : DefAt K mg "parting" "parting" s_parting ["language", "stream", "other"]) (C_standings_of : CalF P w K mg base 3 "standings_of" R_standings_of) (C_read_so : CalF P w K mg base 3 "read_so" R_read_so) : CalF P w K mg base 4 "parting" R_parting := by
  refine calF A sc_parting (fun ws u h => ?_) (fun f cdv A outer s H E ws u hr h => ?_)
  · obtain ⟨L, xs, ys, _, _, _, rfl, _⟩ := h; rfl
  · obtain ⟨L, xs, ys, g, ⟨hx, lx⟩, ⟨hy, ly⟩, rfl, rfl⟩ := h
    refine ⟨_, (pss_cons (ps_for PassesOwn.never rfl (piLK K rfl (C8.pe_c C_standings_of hr (by decide) rfl (pa_cons (pv 0) pa_nil))) (pg_name (i := 3) sc_parting.nd rfl (by first | exact Or.inl rfl | exact Or.inr rfl)) (pss_one (ps_if (pt_cmpR (neK K rfl hr) (pe_ix (ixK K rfl) (C8.pe_c C_read_so hr (by decide) rfl (pa_cons (pv 0) (pa_cons (pv 3) (pa_cons (pv 1) pa_nil)))) pe_int (fun _ _ => rfl)) (pe_ix (ixK K rfl) (C8.pe_c C_read_so hr (by decide) rfl (pa_cons (pv 0) (pa_cons (pv 3) (pa_cons (pv 2) pa_nil)))) pe_int (fun _ _ => rfl)) (nomark _)) (pss_one (ps_ret (pv 3))) pss_nil))) (pss_one (ps_ret pe_non))), .inl ?_⟩
    let R : Sl := [some (.d (eL L)), some (.d (eSs xs)), some (.d (eSs ys)), none]
    have test : ∀ s ∈ stds L, CmT K (tTest (tOp (rNeD K) (tOp (rIx K) (tCall (spF K R_read_so) [] E (tCons (tVar 0) (tCons (tVar 3) (tCons (tVar 1) tNil)))) (tC (.int 0))) (tOp (rIx K) (tCall (spF K R_read_so) [] E (tCons (tVar 0) (tCons (tVar 3) (tCons (tVar 2) tNil)))) (tC (.int 0)))))
        (R.set 3 (some (.d (eT s)))) (differ L xs ys s) := fun s hs => by
      have t := mem_stds.mp hs
      have e : differ L xs ys s = !decide (eT (readSo L s xs).1 = eT (readSo L s ys).1) := by rw [eT_dec]; rfl
      rw [e]
      refine ct_test (cm_op (cm_op (cm_call (by walk_at "ca") (r_read_so g t hx lx)) cm_int co_ixDl) (cm_op (cm_call (by walk_at "ca") (r_read_so g t hy ly)) cm_int co_ixDl) (co_ne sh_t sh_t))
    have nxt : ∀ s ∈ stds L, differ L xs ys s = false → Bs K (tIfS (tTest (tOp (rNeD K) (tOp (rIx K) (tCall (spF K R_read_so) [] E (tCons (tVar 0) (tCons (tVar 3) (tCons (tVar 1) tNil)))) (tC (.int 0))) (tOp (rIx K) (tCall (spF K R_read_so) [] E (tCons (tVar 0) (tCons (tVar 3) (tCons (tVar 2) tNil)))) (tC (.int 0))))) (tRet (tVar 3)) tNext)
        (R.set 3 (some (.d (eT s)))) (.nx R) := fun s hs hd => bs_lessT (bs_ifF (test s hs) hd bs_next) (by walk_at "less")
    cases hp : partS L xs ys with
    | none =>
      have hall := List.find?_eq_none.mp hp
      refine bs_seq (r1 := R) (bs_for (ws := (stds L).map fun s => .d (eT s)) (fun _ => R) (ci_lstM eT (cm_call (by walk_at "ca") (r_standings_of g))) fun i w hw => ?_) (bs_ret cm_non)
      obtain ⟨s, hs, rfl⟩ := List.mem_map.mp (List.mem_of_getElem? hw)
      exact ⟨_, _, cg_name, .inl (nxt s hs (by simpa using hall s hs))⟩
    | some s0 =>
      obtain ⟨h0, as, bs, e, hbef⟩ := List.find?_eq_some_iff_append.mp hp
      refine bs_seqR (bs_forR (ws := (stds L).map fun s => .d (eT s)) (fun _ => R) as.length (by rw [e]; simp) (ci_lstM eT (cm_call (by walk_at "ca") (r_standings_of g))) (fun i w hi hw => ?_) fun w' hw => ?_)
      · rw [List.getElem?_map, e, List.getElem?_append_left hi] at hw
        have hs : as[i] ∈ as := List.getElem_mem hi
        have ew : w = .d (eT as[i]) := by
          simp [hi] at hw
          exact hw.symm
        subst ew
        exact ⟨_, _, cg_name, nxt _ (by rw [e]; simp [hs]) (by simpa using hbef _ hs)⟩
      · rw [List.getElem?_map, e, List.getElem?_append_right (Nat.le_refl _)] at hw
        have ew : w' = .d (eT s0) := by
          simp at hw
          exact hw.symm
        subst ew
        exact ⟨_, _, cg_name, bs_ifT (test s0 (by rw [e]; simp)) h0 (bs_ret (cm_is (cm_var rfl) rfl))⟩

/-! ### are_alike, part -/
abbrev s_are_alike : Stmt := top 44
abbrev N_are_alike : List Str := ["language", "stream", "other"]
theorem sc_are_alike : FnScope N_are_alike ["language", "stream", "other"] (defScope s_are_alike) := ⟨rfl, rfl, rfl, by decide +kernel, rfl, by decide +kernel, by decide +kernel⟩
def R_are_alike : List W → W → Prop := fun ws w => ∃ L xs ys, Good L ∧ isGood L xs ∧ isGood L ys ∧ ws = [.d (eL L), .d (eSs xs), .d (eSs ys)] ∧ w = .b (decide (partS L xs ys = none))
theorem r_are_alike {L : Lang} {xs ys : List NM.Sign} (g : Good L) (hx : isGood L xs) (hy : isGood L ys) : R_are_alike [.d (eL L), .d (eSs xs), .d (eSs ys)] (.b (decide (partS L xs ys = none))) := ⟨L, xs, ys, g, hx, hy, rfl, rfl⟩
theorem ok_are_alike (T : Txt K mg) (A : DefAt K mg "are_alike" "are_alike" s_are_alike ["language", "stream", "other"]) (C_need_both : CalF P w K mg base 5 "need_both" R_need_both) (C_parting : CalF P w K mg base 4 "parting" R_parting) : CalF P w K mg base 6 "are_alike" R_are_alike := by
  refine calF A sc_are_alike (fun ws u h => ?_) (fun f cdv A outer s H E ws u hr h => ?_)
  · obtain ⟨L, xs, ys, _, _, _, rfl, _⟩ := h; rfl
  · obtain ⟨L, xs, ys, g, hx, hy, rfl, rfl⟩ := h
    refine ⟨_, (pss_cons (ps_expr (C8.pe_c C_need_both hr (by decide) rfl (pa_cons (pv 0) (pa_cons (pv 1) (pa_cons (pv 2) pa_nil))))) (pss_one (ps_ret (pe_cmpR op_isN (C8.pe_c C_parting hr (by decide) rfl (pa_cons (pv 0) (pa_cons (pv 1) (pa_cons (pv 2) pa_nil)))) pe_non (nomark _))))), .inl ?_⟩
    refine bs_dropS (cm_call (by walk_at "ca") (r_need_both g hx hy)) ?_
    refine bs_ret (cm_is (cm_op (cm_call (by walk_at "ca") (r_parting g hx hy)) cm_non co_isN) ?_)
    cases partS L xs ys <;> simp [eOT, eT]
abbrev s_part : Stmt := top 45
abbrev N_part : List Str := ["language", "stream", "other"]
theorem sc_part : FnScope N_part ["language", "stream", "other"] (defScope s_part) := ⟨rfl, rfl, rfl, by decide +kernel, rfl, by decide +kernel, by decide +kernel⟩
theorem ok_part (T : Txt K mg) (A : DefAt K mg "part" "part" s_part ["language", "stream", "other"]) (C_need_both : CalF P w K mg base 5 "need_both" R_need_both) (C_parting : CalF P w K mg base 4 "parting" R_parting) : CalF P w K mg base 6 "part" R_parting := by
  refine calF A sc_part (fun ws u h => ?_) (fun f cdv A outer s H E ws u hr h => ?_)
  · obtain ⟨L, xs, ys, _, _, _, rfl, _⟩ := h; rfl
  · obtain ⟨L, xs, ys, g, hx, hy, rfl, rfl⟩ := h
    refine ⟨_, (pss_cons (ps_expr (C8.pe_c C_need_both hr (by decide) rfl (pa_cons (pv 0) (pa_cons (pv 1) (pa_cons (pv 2) pa_nil))))) (pss_one (ps_ret (C8.pe_c C_parting hr (by decide) rfl (pa_cons (pv 0) (pa_cons (pv 1) (pa_cons (pv 2) pa_nil))))))), .inl ?_⟩
    refine bs_dropS (cm_call (by walk_at "ca") (r_need_both g hx hy)) ?_
    exact bs_ret (cm_call (by walk_at "ca") (r_parting g hx hy))
end
end NW
/-! Dicts whose keys are nested tuples. -/
namespace NW
open PySem PySem.Spec PyProof.Rows L2 StX
/-- a key, where its tuple stands, a value -/
abbrev NE := D × Addr × V
def NRel (p : NE) (q : D × Addr × Value) : Prop := p.1 = q.1 ∧ p.2.1 = q.2.1 ∧ RelV p.2.2 q.2.2
def entN (w : World) (x : D × Addr × Value) : DictEntry := ⟨x.1.hash w, .ref x.2.1, x.2.2⟩
def DNp (w : World) (a : Addr) (ep : Nat) (es : List NE) (h : Heap) : Prop := es.length ≤ sizeLine ∧ (a == sysModules) = false ∧ ∃ xs : List (D × Addr × Value), Paired NRel es xs ∧
  ∃ o arr, h.get? a = some o ∧ o.ExactDict ∧ o.data = .dict arr ep ∧ arr.toList = xs.map (entN w) ∧ (xs.map (·.1)).Nodup
def DNO (w : World) (a : Addr) (ep : Nat) (es : List NE) : HO := .ext (DNp w a ep es)
def KeyAt (K : Fg) (H : Hp) (b : Addr) (k : D) : Prop := Rp K H (.ref b) k ∧ k.depth ≤ 8
def KeysOk (K : Fg) (H : Hp) (es : List NE) : Prop := ∀ p ∈ es, KeyAt K H p.2.1 p.1
def valN {β : Type} (es : List (D × β)) (k : D) : Option β := (es.find? fun p => decide (p.1 = k)).map (·.2)
def putN (es : List NE) (k : D) (b : Addr) (v : V) : List NE := if (valN es k).isSome then es.map fun p => if p.1 = k then (p.1, p.2.1, v) else p else es ++ [(k, b, v)]
theorem putN_new {es : List NE} {k : D} (h : valN es k = none) (b : Addr) (v : V) : putN es k b v = es ++ [(k, b, v)] := by simp [putN, h]
theorem length_putN (es : List NE) (k : D) (b : Addr) (v : V) : (putN es k b v).length ≤ es.length + 1 := by
  unfold putN
  split
  · simp
  · simp
theorem KeyAt.keep {K : Fg} {H H' : Hp} (k : Keep H H') {b : Addr} {d : D} (h : KeyAt K H b d) : KeyAt K H' b d := ⟨Rp.keep k _ _ h.1, h.2⟩
theorem KeysOk.keep {K : Fg} {H H' : Hp} (k : Keep H H') {es : List NE} (h : KeysOk K H es) : KeysOk K H' es := fun p hp => (h p hp).keep k
theorem KeysOk.put {K : Fg} {H : Hp} {es : List NE} (h : KeysOk K H es) {b : Addr} {k : D} (hk : KeyAt K H b k) (v : V) : KeysOk K H (putN es k b v) := fun p hp => by
  unfold putN at hp
  split at hp
  · obtain ⟨q, hq, rfl⟩ := List.mem_map.mp hp
    by_cases e : q.1 = k
    · rw [if_pos e]
      exact h q hq
    · rw [if_neg e]
      exact h q hq
  · rcases List.mem_append.mp hp with hp | hp
    · exact h p hp
    · simp at hp
      subst hp
      exact hk
theorem dn_ok {P : Program} {w : World} {H : Hp} {h : Heap} {a : Addr} {ep : Nat} {es : List NE} (p : DNp w a ep es h) : ObjOk P w H h a (DNO w a ep es) :=
  ⟨p, (let ⟨_, _, _, _, o, _, e, _⟩ := p; ⟨o, e⟩), fun h1 h2 p k => by
    obtain ⟨z, y, xs, r, o, arr, e, c⟩ := p
    exact ⟨z, y, xs, r, o, arr, k o e, c⟩⟩
theorem NRel.find {es : List NE} {xs : List (D × Addr × Value)} (r : Paired NRel es xs) (k : D) : (valN es k = none ∧ atKey xs k = none) ∨ ∃ b v u, valN es k = some (b, v) ∧ atKey xs k = some (b, u) ∧ RelV v u := by
  induction r with
  | nil => exact .inl ⟨rfl, rfl⟩
  | @cons p q ps qs h t ih =>
    obtain ⟨h1, h2, h3⟩ := h
    by_cases e : p.1 = k
    · refine .inr ⟨p.2.1, p.2.2, q.2.2, by simp [valN, List.find?_cons, e], ?_, h3⟩
      rw [h1] at e
      simp [atKey, List.find?_cons, e, h2]
    · have e' : ¬ q.1 = k := fun z => e (h1.trans z)
      have e1 : valN (p :: ps) k = valN ps k := by simp [valN, List.find?_cons, e]
      have e2 : atKey (q :: qs) k = atKey qs k := by simp [atKey, List.find?_cons, e']
      rw [e1, e2]
      exact ih
theorem NRel.map {es : List NE} {xs : List (D × Addr × Value)} (r : Paired NRel es xs) (k : D) {v : V} {u : Value} (rv : RelV v u) : Paired NRel (es.map fun p => if p.1 = k then (p.1, p.2.1, v) else p) (xs.map (putAt k u)) := by
  induction r with
  | nil => exact .nil
  | @cons p q ps qs h t ih =>
    refine .cons ?_ ih
    obtain ⟨h1, h2, h3⟩ := h
    unfold putAt
    by_cases e : p.1 = k
    · have e' : q.1 = k := h1.symm.trans e
      simp only [if_pos e, if_pos e']
      exact ⟨h1, h2, rv⟩
    · have e' : ¬ q.1 = k := fun z => e (h1.trans z)
      simp only [if_neg e, if_neg e']
      exact ⟨h1, h2, h3⟩
theorem NRel.put {es : List NE} {xs : List (D × Addr × Value)} (r : Paired NRel es xs) (k : D) (b : Addr) {v : V} {u : Value} (rv : RelV v u) : Paired NRel (putN es k b v) (storedH xs k b u) := by
  rcases NRel.find r k with ⟨h1, h2⟩ | ⟨c, v', u', h1, h2, _⟩
  · rw [putN_new h1, storedH_new h2]
    exact Paired.snoc r ⟨rfl, rfl, rv⟩
  · rw [storedH_old h2]
    unfold putN
    rw [h1]
    exact NRel.map r k rv
section
variable {X : Cx} {pins : List (Addr × Obj)} {σ : St} {H : Hp} {s : Shared} {a b : Addr} {ep : Nat} {es : List NE} {k : D} {v : V} {A : Around} {E : Value → Shared → Prop}
mutual
theorem nested_of (I : Inv X pins σ H s) : ∀ (d : D) (x : V) (u : Value), Rp X.K H x d → RelV x u → NestedIs s.heap d u
  | .none, _, u, h, r => by
    cases h
    have e : u = Value.none := r
    subst e
    exact .none
  | .num i, _, u, h, r => by
    cases h
    obtain ⟨t, rfl⟩ := (show ∃ t, u = Value.int i t from r)
    exact .int i t
  | .text z, _, u, h, r => by
    cases h
    obtain ⟨t, rfl⟩ := (show ∃ t, u = Value.str z t from r)
    exact .text z t
  | .tup ds, _, u, h, r => by
    cases h with
    | @tup a xs ds t rr =>
      have e : u = Value.ref a := r
      subst e
      obtain ⟨its, rv, ⟨o, h1, h2, n, h3⟩, _⟩ := I.tuple t.sq
      exact .tup h1 h2 h3 (by simpa using nested_all I ds xs its rr rv)
theorem nested_all (I : Inv X pins σ H s) : ∀ (ds : List D) (xs : List V) (us : List Value), RpA X.K H xs ds → Vals xs us → NestedAll s.heap ds us
  | [], xs, us, h, r => by
    cases h
    cases r
    exact .nil
  | d :: ds, xs, us, h, r => by
    cases h with
    | cons h1 h2 =>
      cases r with
      | cons r1 r2 => exact .cons (nested_of I d _ _ h1 r1) (nested_all I ds _ _ h2 r2)
end
theorem key_is (I : Inv X pins σ H s) (h : KeyAt X.K H b k) : (nestedKind X.prog X.w).is s.heap k b := ⟨nested_of I k (.ref b) (.ref b) h.1 rfl, h.2⟩
theorem dn_at (I : Inv X pins σ H s) (e : H a = some (DNO X.w a ep es)) : DNp X.w a ep es s.heap := (show ObjOk X.prog X.w H s.heap a (.ext _) from I.hok a _ e).1
theorem dn_of (I : Inv X pins σ H s) (e : H a = some (DNO X.w a ep es)) (ko : KeysOk X.K H es) : es.length ≤ sizeLine ∧ (a == sysModules) = false ∧ ∃ xs, Paired NRel es xs ∧ s.heap.DictOfH (nestedKind X.prog X.w) a xs := by
  obtain ⟨z, y, xs, r, o, arr, h1, h2, h3, h4, h5⟩ := dn_at I e
  refine ⟨z, y, xs, r, o, arr, ep, h1, h2, h3, h4, ?_, h5⟩
  have all : ∀ {l : List NE} {m : List (D × Addr × Value)}, Paired NRel l m → (∀ p ∈ l, KeyAt X.K H p.2.1 p.1) → ∀ x ∈ m, (nestedKind X.prog X.w).is s.heap x.1 x.2.1 := by
    intro l m q
    induction q with
    | nil => intro _ x hx; exact nomatch hx
    | @cons p q ps qs hq t ih =>
      intro hk x hx
      rcases List.mem_cons.mp hx with e | hx
      · subst e
        have := key_is I (hk p List.mem_cons_self)
        rw [hq.1, hq.2.1] at this
        exact this
      · exact ih (fun p hp => hk p (List.mem_cons_of_mem _ hp)) x hx
  exact all r ko
theorem dn_new {P : Program} {w : World} {h' : Heap} {xs : List (D × Addr × Value)} (z : es.length ≤ sizeLine) (hd : (a == sysModules) = false) (r : Paired NRel es xs) (dd : h'.DictOfH (nestedKind P w) a xs) : ∃ ep, DNp w a ep es h' := by
  obtain ⟨o, arr, ep, h1, h2, h3, h4, _, h5⟩ := dd
  exact ⟨ep, z, hd, xs, r, o, arr, h1, h2, h3, h4, h5⟩
theorem DNp.typeIs (p : DNp X.w a ep es s.heap) : s.TypeIs (.ref a) "dict" := by
  obtain ⟨_, _, _, _, o, _, h1, h2, _⟩ := p
  exact ⟨o, h1, h2.1⟩
theorem DNp.raw {w : World} {h : Heap} (p : DNp w a ep es h) : ∃ arr, h.DictRaw a arr ep ∧ arr.size = es.length ∧ ∀ i (hi : i < arr.size), ∃ y, es[i]? = some y ∧ arr[i].key = .ref y.2.1 := by
  obtain ⟨_, _, xs, r, o, arr, h1, h2, h3, h4, _⟩ := p
  have hs : arr.size = xs.length := by rw [← Array.length_toList, h4, List.length_map]
  refine ⟨arr, ⟨o, h1, h2, h3⟩, by rw [hs]; exact (Paired.length r).symm, fun i hi => ?_⟩
  have hx : i < xs.length := by omega
  have he : i < es.length := by rw [Paired.length r]; exact hx
  have ea : arr[i] = entN w xs[i] := by
    have h5 : arr.toList[i]? = (xs.map (entN w))[i]? := by rw [h4]
    rw [Array.getElem?_toList, List.getElem?_map, Array.getElem?_eq_getElem hi, List.getElem?_eq_getElem hx] at h5
    exact Option.some.inj h5
  have pr : ∀ {l : List NE} {m : List (D × Addr × Value)}, Paired NRel l m → ∀ (i : Nat) (h1 : i < l.length) (h2 : i < m.length), NRel l[i] m[i] := by
    intro l m q
    induction q with
    | nil => intro i h1; exact absurd h1 (Nat.not_lt_zero _)
    | cons hq t ih =>
      intro i h1 h2
      cases i with
      | zero => exact hq
      | succ i => exact ih i _ _
  refine ⟨es[i], List.getElem?_eq_getElem he, ?_⟩
  rw [ea]
  exact congrArg Value.ref (pr r i he hx).2.1.symm
theorem room_n (hu : X.A.units + 64 < cLine) : (nestedKind X.prog X.w).room X.A.in1 := by
  show X.A.in1.units + 8 < cLine
  have : X.A.in1.units = X.A.units + 1 := rfl
  omega
theorem room_n0 (hu : X.A.units + 64 < cLine) : (nestedKind X.prog X.w).room X.A := by
  show X.A.units + 8 < cLine
  omega
theorem dn_write (I : Inv X pins σ H s) (e : H a = some (DNO X.w a ep es)) {h' : Heap} {t' : Nat} {es' : List NE} {xs : List (D × Addr × Value)} (hs : Heap.SameBut a s.heap h') (z : es'.length ≤ sizeLine) (hd : (a == sysModules) = false) (r : Paired NRel es' xs) (dd : h'.DictOfH (nestedKind X.prog X.w) a xs) :
    ∃ ep', Inv X pins σ (upd H a (DNO X.w a ep' es')) { s with heap := h', toks := t' } := by
  obtain ⟨ep', p⟩ := dn_new z hd r dd
  exact ⟨ep', d_write I (by rw [e]; exact True.intro) hs (let ⟨o, _, _, h1, _⟩ := dd; ⟨o, h1⟩) (dn_ok p)⟩
theorem dn_getItem {Q : Value → Shared → Prop} (hu : X.A.units + 64 < cLine) (I : Inv X pins σ H s) (e : H a = some (DNO X.w a ep es)) (ko : KeysOk X.K H es) (hk : KeyAt X.K H b k) {c : Addr} (hv : valN es k = some (c, v))
    (h : ∀ w' s', Inv X pins σ H s' → RelV v w' → Q w' s') : wpAny (model X.prog X.w) X.A (getItem (.ref a) (.ref b)) Q E s := by
  obtain ⟨z, hd, xs, r, dd⟩ := dn_of I e ko
  rcases NRel.find r k with ⟨h1, _⟩ | ⟨c', v', u', h1, h2, rv⟩
  · rw [h1] at hv; cases hv
  · rw [h1] at hv
    cases hv
    exact wpAny_getItem_heap (room_n hu) (key_is I hk) dd h2 (h u' _ (I.tok _) rv)
theorem dn_notIn {Q : Value → Shared → Prop} (hu : X.A.units + 64 < cLine) (I : Inv X pins σ H s) (e : H a = some (DNO X.w a ep es)) (ko : KeysOk X.K H es) (hk : KeyAt X.K H b k)
    (h : ∀ s', Inv X pins σ H s' → Q (.bool (!(valN es k).isSome)) s') : wpAny (model X.prog X.w) X.A (compareOp .NotIn (.ref b) (.ref a)) Q E s := by
  obtain ⟨z, hd, xs, r, dd⟩ := dn_of I e ko
  have e2 : (valN es k).isSome = (atKey xs k).isSome := by
    rcases NRel.find r k with ⟨h1, h2⟩ | ⟨c', v', u', h1, h2, rv⟩
    · rw [h1, h2]; rfl
    · rw [h1, h2]; rfl
  refine notIn_keyed (kvs := pairsH xs) (room_n hu) (key_is I hk) hd ⟨xs, dd, rfl⟩ ?_
  rw [valueAt_pairsH, Option.isSome_map, ← e2]
  exact h _ (I.tok _)
theorem dn_setItem {Q : Unit → Shared → Prop} {u : Value} (hu : X.A.units + 64 < cLine) (I : Inv X pins σ H s) (e : H a = some (DNO X.w a ep es)) (ko : KeysOk X.K H es) (hk : KeyAt X.K H b k) (rv : RelV v u) (hz : es.length < sizeLine)
    (h : ∀ ep' s', Inv X pins σ (upd H a (DNO X.w a ep' (putN es k b v))) s' → Q () s') : wpAny (model X.prog X.w) X.A (setItem (.ref a) (.ref b) u) Q E s := by
  obtain ⟨z, hd, xs, r, dd⟩ := dn_of I e ko
  refine wpAny_setItem_heap (hsz := by rw [← Paired.length r]; exact z) (room_n hu) (key_is I hk) dd fun h' dd' hs => ?_
  obtain ⟨ep', I'⟩ := dn_write (t' := s.toks + (nestedKind X.prog X.w).draws k) I e hs (by have := length_putN es k b v; omega) hd (NRel.put r k b rv) dd'
  exact h ep' _ I'
theorem dn_dictSet {Q : Unit → Shared → Prop} {u : Value} (hu : X.A.units + 64 < cLine) (I : Inv X pins σ H s) (e : H a = some (DNO X.w a ep es)) (ko : KeysOk X.K H es) (hk : KeyAt X.K H b k) (rv : RelV v u) (hz : es.length < sizeLine)
    (h : ∀ ep' s', Inv X pins σ (upd H a (DNO X.w a ep' (putN es k b v))) s' → Q () s') : wpAny (model X.prog X.w) X.A (dictSet a (.ref b) u) Q E s := by
  obtain ⟨z, hd, xs, r, dd⟩ := dn_of I e ko
  refine wpAny_dictSet_heap (hsz := by rw [← Paired.length r]; exact z) (room_n0 hu) (key_is I hk) dd fun h' dd' hs => ?_
  obtain ⟨ep', I'⟩ := dn_write (t' := s.toks + (nestedKind X.prog X.w).draws k) I e hs (by have := length_putN es k b v; omega) hd (NRel.put r k b rv) dd'
  exact h ep' _ I'
theorem dn_empty {w : World} (h : Heap) (hb : sysModules < h.objs.size) : DNp w h.objs.size 0 [] (h.push { cls := .type "dict", data := .dict #[] }) :=
  ⟨Nat.zero_le _, beq_eq_false_iff_ne.mpr (Ne.symm (Nat.ne_of_lt hb)), [], .nil, _, #[], Heap.get?_push_size _ rfl, ⟨rfl, rfl, rfl⟩, rfl, rfl, List.nodup_nil⟩
end
/-! ### readings -/
def tDNewN (w : World) : TE := fun _ H Q => ∀ p, H p = none → Q (.ref p) (upd H p (DNO w p 0 []))
theorem pe_dnewN {X : Cx} {pos : Pos} (w : World) (hw : X.w = w) : PE X (.Dict [] [] pos) (tDNewN w) := by
  subst hw
  exact ⟨fun pins s σ H Q I h =>
  wpAny_Dict_empty ⟨.ref s.heap.objs.size, _, I.laid (a := s.heap.objs.size) (o := DNO X.w s.heap.objs.size 0 []) (t' := s.toks) (fun _ _ q => Heap.get?_push_of_some _ q) (Nat.le_refl _) (dn_ok (dn_empty s.heap I.big)), rfl, h _ (I.hok.fresh (Nat.le_refl _))⟩⟩
/-- d[y] -/
def rGetN (K : Fg) (w : World) : R2 := fun x y H Q => ∃ a ep es b k c v, x = .ref a ∧ H a = some (DNO w a ep es) ∧ y = .ref b ∧ KeysOk K H es ∧ KeyAt K H b k ∧ valN es k = some (c, v) ∧ Q v H
theorem pe_dgetN {X : Cx} {o i : Expr} {pos : Pos} {td ty : TE} (K : Fg) (w : World) (hK : X.K = K) (hw : X.w = w) {k : Nat} (hr : Room k X.A) (ho : PE X o td) (hi : PE X i ty) (hs : NoSl i) : PE X (.Subscript o i pos) (tOp (rGetN K w) td ty) := by
  subst hK hw
  refine ⟨fun pins s σ H Q I h => ?_⟩
  refine subD_of PySem.F.slot_dict_getitem.lookup hs (thn (ho.run pins s σ H _ I h) fun u s1 ⟨x, H1, I1, rx, q1⟩ => thn (hi.run pins s1 σ H1 _ I1 q1) fun iv s2 ⟨y, H2, I2, ry, a, ep, es, b, k, c, v, ex, e, ey, ko, hk, hv, q2⟩ => ?_)
  subst ex ey
  obtain rfl : u = Value.ref a := rx
  obtain rfl : iv = Value.ref b := ry
  exact ⟨(dn_at I2 e).typeIs, dn_getItem (u64 hr) I2 e ko hk hv fun w' s3 I3 rw' => ⟨v, H2, I3, rw', q2⟩⟩
def rNotInN (K : Fg) (w : World) : R2 := fun y x H Q => ∃ a ep es b k, x = .ref a ∧ H a = some (DNO w a ep es) ∧ y = .ref b ∧ KeysOk K H es ∧ KeyAt K H b k ∧ Q (.bl (!(valN es k).isSome)) H
theorem op_notInN {X : Cx} (K : Fg) (w : World) (hK : X.K = K) (hw : X.w = w) {k : Nat} (hr : Room k X.A) : OpR X (compareOp .NotIn) (rNotInN K w) := by
  subst hK hw
  rintro pins s σ H x y v u Q I rx ry ⟨a, ep, es, b, k, ex, e, ey, ko, hk, q⟩
  subst ex ey
  obtain rfl : u = Value.ref a := ry
  obtain rfl : v = Value.ref b := rx
  exact dn_notIn (u64 hr) I e ko hk fun s3 I3 => ⟨.bl (!(valN es k).isSome), H, I3, rfl, q⟩
/-- d[y] = v -/
def sDPutN (K : Fg) (w : World) (td ty tv : TE) : TS := fun D σ H => tv σ H fun v H1 => td σ H1 fun x H2 => ty σ H2 fun y H3 => ∃ a ep es b k, x = .ref a ∧ H3 a = some (DNO w a ep es) ∧ y = .ref b ∧ KeysOk K H3 es ∧ KeyAt K H3 b k ∧ es.length < sizeLine ∧
  ∀ ep', D.nx σ (upd H3 a (DNO w a ep' (putN es k b v)))
theorem ps_dputN {X : Cx} {o i value : Expr} {pos pos' : Pos} {td ty tv : TE} (K : Fg) (w : World) (hK : X.K = K) (hw : X.w = w) {k : Nat} (hr : Room k X.A) (ho : PE X o td) (hi : PE X i ty) (hv : PE X value tv) (hs : swapsWith value (some (.Subscript o i pos')) pos.line X.env = pure false) :
    PS X (.Assign [.Subscript o i pos'] value pos) (sDPutN K w td ty tv) := by
  subst hK hw
  refine ⟨fun pins s σ H D I h => ?_⟩
  refine wpAny_Assign_Subscript (thn (hv.run pins s σ H _ I h) fun r s1 ⟨v, H1, I1, rv, q1⟩ => thn (ho.run pins s1 σ H1 _ I1 q1) fun u s2 ⟨x, H2, I2, rx, q2⟩ => thn (hi.run pins s2 σ H2 _ I2 q2) fun iv s3 ⟨y, H3, I3, ry, a, ep, es, b, k, ex, e, ey, ko, hk, hz, q3⟩ => ?_) hs
  subst ex ey
  obtain rfl : u = Value.ref a := rx
  obtain rfl : iv = Value.ref b := ry
  exact dn_setItem (u64 hr) I3 e ko hk rv hz fun ep' s4 I4 => ⟨σ, _, I4, q3 ep'⟩
/-- len(d) -/
def rLenN (w : World) : List V → Hp → VK → Prop := fun xs H Q => ∃ a ep es, xs = [.ref a] ∧ H a = some (DNO w a ep es) ∧ Q (.int es.length) H
/-! ### walks -/
def ItDn (w : World) (a : Addr) (ep : Nat) (es : List NE) : It where
  go := fun i H => H a = some (DNO w a ep es) ∧ i < es.length
  yld := fun i H x H' => H' = H ∧ ∃ y, es[i]? = some y ∧ x = .ref y.2.1
  stop := fun i H => H a = some (DNO w a ep es) ∧ es.length ≤ i
theorem turnDn {P : Program} {w : World} {K : Fg} {tg : Expr} (a it : Addr) (ep : Nat) (es : List NE) : Turn P w K tg (ItDn w a ep es) [it] it (fun i h => h.IsKeyIter it a i es.length ep) where
  mem := List.mem_cons_self
  obj := fun i h st b hb => by
    obtain ⟨o, ho, _, hd⟩ := st
    simp at hb
    subst hb
    refine ⟨o, ho, fun v q => ?_⟩
    rw [hd] at q
    cases q
  keep := fun i h h2 st k => by
    obtain ⟨o, ho, r⟩ := st
    exact ⟨o, k it (by simp) o ho, r⟩
  item := by
    rintro X rfl rfl rfl hc i pins s σ H E I hf st ⟨hd, hi⟩
    obtain ⟨arr, raw, hsz, ent⟩ := (dn_at I hd).raw
    obtain ⟨f0, f1, f2, f3, f4, f5⟩ := hf it (by simp)
    have hi' : i < arr.size := by omega
    obtain ⟨y, hy, ey⟩ := ent i hi'
    rw [← hsz] at st
    refine wpAny_pyNext_keys_item_raw st raw hi' fun h' st' sb => ?_
    refine ⟨_, rfl, ?_⟩
    obtain ⟨o', ho', hc', hd'⟩ := id st'
    refine go_of (s := { s with heap := h' }) ho' hc' hd' (by decide) ?_
    have I' : Inv X pins σ H { s with heap := h' } := I.turned (t' := s.toks) (fun b o hb e => (sb.2 b hb).trans e) f0 f1 f3 f4 f5
    exact ⟨.ref y.2.1, H, I', ey, ⟨rfl, y, hy, rfl⟩, by rw [← hsz]; exact st', fun b hb => by simp at hb; subst hb; exact f0⟩
  done := by
    rintro X rfl rfl rfl hc i pins s σ H E I hf st ⟨hd, hi⟩
    obtain ⟨arr, raw, hsz, ent⟩ := (dn_at I hd).raw
    obtain ⟨f0, f1, f2, f3, f4, f5⟩ := hf it (by simp)
    rw [← hsz] at st
    exact wpAny_pyNext_keys_end_raw (show X.A.in1.handled = none from I.ok.hd hc) st raw (by omega) fun h' eb => ⟨rfl, I.turned (t' := s.toks) (fun b o hb q => eb b o hb q) f0 f1 f3 f4 f5⟩
  self := fun A i s Q E st h => by
    refine wpAny_pyIter_slot st.typeIs F.slot_dict_keyiterator_iter (wpAny_call_entry F.slot_dict_keyiterator_iter st.typeIs F.entry_dict_keyiterator_iter ?_ (F.args_dict_keyiterator_iter_1 _))
    exact wpAny_pure ⟨_, rfl, "dict_keyiterator", _, st.typeIs, F.slot_dict_keyiterator_next.lookup, h⟩
def iDn (w : World) (td : TE) : TI := fun σ H R => td σ H fun x H1 => ∃ a ep es, x = .ref a ∧ H1 a = some (DNO w a ep es) ∧ R (ItDn w a ep es) H1
theorem pi_dn {X : Cx} {tg e : Expr} {td : TE} (w : World) (hw : X.w = w) (he : PE X e td) : PI X tg e (iDn w td) := by
  subst hw
  refine ⟨fun pins s σ H R I h => thn (he.run pins s σ H _ I h) fun v s1 ⟨x, H1, I1, rx, a, ep, es, ex, hd, q⟩ => ?_⟩
  subst ex
  obtain rfl : v = Value.ref a := rx
  have p := dn_at I1 hd
  have hm : (a == sysModules) = false := p.2.1
  obtain ⟨arr, raw, hsz, ent⟩ := p.raw
  refine wpAny_pyIter_dict_raw hm raw ?_
  refine ⟨s1.heap.objs.size, [s1.heap.objs.size], _, _, H1, rfl, I1.kept (t' := s1.toks) fun b u e => Heap.get?_push_of_some _ e, turnDn a _ ep es, ?_, fun b hb => ?_, q⟩
  · rw [← hsz]
    exact ⟨_, Heap.get?_push_size _ rfl, rfl, rfl⟩
  · simp at hb
    subst hb
    exact I1.fpOk (Nat.le_refl _) (I1.hok.fresh (Nat.le_refl _))
end NW
/-! Dict comprehensions with nested tuples as keys; len of such a dict. -/
namespace NW
open PySem PySem.Spec PyProof.Rows L2 StX
theorem lenNK {X : Cx} (w : World) (hw : X.w = w) {K : Fg} (hK : X.K = K) : CallR X (.builtin "len") (fun xs H Q => ∃ a ep es, xs = [.ref a] ∧ H a = some (DNO w a ep es) ∧ KeysOk K H es ∧ Q (.int es.length) H) := by
  subst hw hK
  rintro pins s σ H xs us Q I r ⟨a, ep, es, rfl, e, ko, q⟩
  cases r with
  | cons r rr =>
    cases rr
    cases r
    obtain ⟨z, hd, ys, rel, dd⟩ := dn_of I e ko
    have hl := Paired.length rel
    rw [sizeLine_eq] at z
    refine call_len_dictH hd dd (by omega) ?_
    exact ⟨.int es.length, H, I.tok _, ⟨_, by rw [hl]⟩, q⟩
def tDcN (K : Fg) (w : World) (wi : TI) (g : TG) (tk tv : TE) (vs : List Nat) : TE := fun σ H Q => wi σ H fun J G0 => ∀ C, G0 C = none → ∃ W : Nat → Nat → Hp → Prop, (∃ m, W 0 m (upd G0 C (DNO w C 0 []))) ∧
  ∀ i m G, W i m G → (J.stop i G ∧ Q (.ref C) G) ∨ (J.go i G ∧ ∃ Nx : Hp → Prop, (∀ G', Nx G' → ∃ m', m' < m ∧ W (i + 1) m' G') ∧
    ∀ x G1, J.yld i G x G1 → g x (wipe σ vs) G1 fun τ G2 => wipe τ vs = wipe σ vs ∧ tk τ G2 fun y G3 => tv τ G3 fun z G4 =>
      ∃ ep es b k, y = .ref b ∧ G4 C = some (DNO w C ep es) ∧ KeysOk K G4 es ∧ KeyAt K G4 b k ∧ es.length < sizeLine ∧ ∀ ep', Nx (upd G4 C (DNO w C ep' (putN es k b z))))
theorem pe_dcN {X : Cx} {ek ev tg it0 : Expr} {scope : Scope} {own : List (Str × Nat)} {pos : Pos} {wi : TI} {g : TG} {tk tv : TE} (K : Fg) (w : World) (hK : X.K = K) (hw : X.w = w) {room : Nat} (hr : Room room X.A) (hc : X.calm = true) (hN : X.N.Nodup)
    (hi : PI X tg it0 wi) (ok : BlkOk X.N X.env.scope scope own)
    (hg : ∀ (s : Shared) (H : Hp) (C : Addr) (cl : List (Str × Addr)) (fp : List Addr), PG (X.blk s H scope (compEnvC scope cl C X.env) fp) tg g)
    (hk : ∀ (s : Shared) (H : Hp) (C : Addr) (cl : List (Str × Addr)) (fp : List Addr), PE (X.blk s H scope (compEnvC scope cl C X.env) fp) ek tk)
    (hv : ∀ (s : Shared) (H : Hp) (C : Addr) (cl : List (Str × Addr)) (fp : List Addr), PE (X.blk s H scope (compEnvC scope cl C X.env) fp) ev tv) (hs : ∀ x, foldedSetIterable it0 X.env x = pure x := by intro _; rfl) :
    PE X (.DictComp ek ev [⟨tg, it0, [], 0⟩] scope pos) (tDcN K w wi g tk tv (own.map (·.2))) := by
  subst hK hw
  refine ⟨fun pins sh σ H Q I h => ?_⟩
  rw [arm_eval_DictComp]
  have hfr : ∀ y ∈ scope.names, y.2 = .free → ∃ c, X.env.cells.lookup y.1 = some c := fun y hy e => (ok.free y hy e).elim (fun q => I.ok.has _ (.inl q)) fun q => I.ok.has _ (.inr q)
  refine wpAny_comprehension_free (use := none) rfl hs (closure_ok hfr) ok.kind (fun y hy e => by rw [ok.uniq y hy, e]) (thn (hi.run pins sh σ H _ I h) fun xv s1 hx => thn hx fun itv s2 hit => ?_)
  obtain ⟨itA, fp, tn, J, G0, rfl, I2, T, st2, f2, q⟩ := hit
  refine wpAny_newObj_type (newEnv_comp ?_)
  -- where the new dict stands
  obtain ⟨C, eC⟩ : ∃ C, C = s2.heap.objs.size := ⟨_, rfl⟩
  rw [← eC]
  have newC : G0 C = none := I2.hok.fresh (Nat.le_of_eq eC.symm)
  obtain ⟨W, ⟨m0, w0⟩, turn⟩ := q C newC
  obtain ⟨s3, e3⟩ : ∃ s3 : Shared, s3 = { s2 with heap := s2.heap.push { cls := .type "dict", data := .dict #[] } } := ⟨_, rfl⟩
  have hp3 : s3.heap = s2.heap.push { cls := .type "dict", data := .dict #[] } := by rw [e3]
  have I3 : Inv X pins σ (upd G0 C (DNO X.w C 0 [])) s3 := by
    subst e3 eC
    exact I2.laid (t' := s2.toks) (fun b o z => Heap.get?_push_of_some _ z) (Nat.le_refl _) (dn_ok (dn_empty s2.heap I2.big))
  have fpLt : ∀ b ∈ fp, b < s2.heap.objs.size := fun b hb => let ⟨o, z, _⟩ := T.obj _ _ st2 b hb; Heap.lt_size z
  obtain ⟨G3, eG⟩ : ∃ G3, G3 = upd G0 C (DNO X.w C 0 []) := ⟨_, rfl⟩
  rw [← eG] at I3 w0
  have f3 : ∀ b ∈ fp, FpOk X pins G3 b ∧ b < s3.heap.objs.size := fun b hb => by
    have lt := fpLt b hb
    have nb : G3 b = none := by
      rw [eG, upd_ne (by rw [eC]; exact Nat.ne_of_lt lt)]
      exact (f2 b hb).1
    exact ⟨⟨nb, (f2 b hb).2⟩, by rw [hp3, Heap.size_push]; exact Nat.lt_succ_of_lt lt⟩
  have st3 : tn 0 s3.heap := T.keep _ _ _ st2 fun b _ o z => by rw [hp3]; exact Heap.get?_push_of_some _ z
  have I4 := block_start I3 ok hN f3
  have rg := hg s3 G3 s3.heap.objs.size (cellsFrom (s3.heap.objs.size + 1) scope.names (cloFrom X.env.cells scope.names [])) fp
  have rk := hk s3 G3 s3.heap.objs.size (cellsFrom (s3.heap.objs.size + 1) scope.names (cloFrom X.env.cells scope.names [])) fp
  have rv := hv s3 G3 s3.heap.objs.size (cellsFrom (s3.heap.objs.size + 1) scope.names (cloFrom X.env.cells scope.names [])) fp
  have out : ∀ b ∈ fp, G3 b = none := fun b hb => (f3 b hb).1.1
  have goal : codeAny (model X.prog X.w) X.A (.compStart (.DictComp ek ev [⟨tg, it0, [], 0⟩] scope pos) 0 (.ref itA) (.ref C) (compEnvC scope (cellsFrom (s3.heap.objs.size + 1) scope.names (cloFrom X.env.cells scope.names [])) s3.heap.objs.size X.env))
      (compPost (model X.prog X.w) X.A X.xe none (EP X pins σ Q) (.ref C) s3.heap.objs.size) { s3 with heap := pushCells (s3.heap.push { cls := .type "dict", data := .dict #[] }) scope.names } := by
    obtain ⟨B, eB⟩ : ∃ B, B = compEnvC scope (cellsFrom (s3.heap.objs.size + 1) scope.names (cloFrom X.env.cells scope.names [])) s3.heap.objs.size X.env := ⟨_, rfl⟩
    rw [← eB] at I4 rg rk rv ⊢
    have locB : B.locals = s3.heap.objs.size := by rw [eB]; rfl
    obtain ⟨s4, e4⟩ : ∃ s4 : Shared, s4 = { s3 with heap := pushCells (s3.heap.push { cls := .type "dict", data := .dict #[] }) scope.names } := ⟨_, rfl⟩
    rw [← e4] at I4 ⊢
    have st4 : tn 0 s4.heap := T.keep _ _ _ st3 fun b _ o z => by rw [e4]; exact pushCells_keeps _ _ _ _ (Heap.get?_push_of_some _ z)
    have fixed : ∀ {τ : St} {G : Hp} {t : Shared}, Inv (X.blk s3 G3 scope B fp) [] τ G t → (∀ b ∈ fp, G b = none) → ∀ b ∈ fp, FpOk (X.blk s3 G3 scope B fp) [] G b := fun {τ G t} I' hn b hb =>
      ⟨hn b hb, (I'.ok.exf b hb).1, I'.ok.exfs b hb, .inl hb, fun x c z => (I'.ok.exf b hb).2 x c z, fun p hp => absurd (show p ∈ ([] : List (Addr × Obj)) ++ [] from hp) (by simp)⟩
    have loop : codeAny (model X.prog X.w) X.A (.compLoop (.DictComp ek ev [⟨tg, it0, [], 0⟩] scope pos) 0 (.ref itA) (.ref C) B) (compPost (model X.prog X.w) X.A X.xe none (EP X pins σ Q) (.ref C) s3.heap.objs.size) s4 := by
      refine compLoop_anyD (fun n t => ∃ i G, Inv (X.blk s3 G3 scope B fp) [] (wipe σ (own.map (·.2))) G t ∧ tn i t.heap ∧ (∀ b ∈ fp, G b = none) ∧ W i n G) ?_ m0 ⟨0, G3, I4, st4, out, w0⟩
      rintro n t5 ⟨i, G5, I5, st5, n5, w5⟩
      rcases turn i n G5 w5 with ⟨stop, fin⟩ | ⟨go, Nx, hNx, step⟩
      · refine thnF (T.done (X.blk s3 G3 scope B fp) rfl rfl rfl hc i [] t5 _ G5 (fun _ _ => False) I5 (fixed I5 n5) st5 stop) fun r t6 ⟨hr0, I6⟩ => ?_
        subst hr0
        have I7 : Inv X pins σ G5 t6 := I3.call' (ch := fp) I6.os I6.base I6.hok I6.bare fun b hb => let z := (f3 b hb).1; ⟨z.2.2.2.1, z.2.1, z.2.2.2.2.1, z.2.2.2.2.2⟩
        have noB : G5 s3.heap.objs.size = none := by
          have z : G5 B.locals = none := I6.free
          rwa [locB] at z
        obtain ⟨m, hn, _⟩ := I6.loc
        have hn' : t6.heap.Ns B.locals m := hn
        rw [locB] at hn'
        obtain ⟨p0, p1, p2, p3, p4, p5⟩ := I3.fpOk (Nat.le_refl _) noB
        exact ⟨m, hn', fun h'' sb => ⟨.ref C, G5, I7.turned (t' := t6.toks) (fun b o hb z => (sb.2 b hb).trans z) p0 p1 p3 p4 p5, rfl, fin⟩⟩
      · refine thnF (T.item (X.blk s3 G3 scope B fp) rfl rfl rfl hc i [] t5 _ G5 (fun _ _ => False) I5 (fixed I5 n5) st5 go) fun r t6 ⟨u, hr0, h6⟩ => ?_
        subst hr0
        refine thnF h6 fun _ t7 ⟨x, G7, I7, r7, y7, st7, n7⟩ => ?_
        refine thnF (rg.run _ t7 _ G7 x u _ (I7.pinned (fixed I7 n7) (T.obj _ _ st7)) r7 (step x G7 y7)) fun _ t8 ⟨σ8, G8, I8, hw8, q8⟩ => ?_
        rw [List.forIn_nil]
        refine wpAny_pure ?_
        rw [if_pos rfl]
        refine thnF (rk.run _ t8 σ8 G8 _ I8 q8) fun kv t9 ⟨yk, G9, I9, r9, q9⟩ => ?_
        refine thnF (rv.run _ t9 σ8 G9 _ I9 q9) fun vv tA ⟨yv, GA, IA, rA, ep, es, b, k, ek0, hC, ko, ka, hz, nx⟩ => ?_
        subst ek0
        obtain rfl : kv = Value.ref b := r9
        refine dn_dictSet (X := X.blk s3 G3 scope B fp) (u64 (k := room) hr) IA hC ko ka rA hz fun ep' tB IB => ?_
        obtain ⟨m', hm, w'⟩ := hNx _ (nx ep')
        have kept : ∀ b ∈ fp, ∀ o, t7.heap.get? b = some o → tB.heap.get? b = some o ∧ (upd GA C (DNO X.w C ep' (putN es k _ yv))) b = none := fun b hb o z =>
          let y := IB.pin (b, o) (List.mem_append_right _ (List.mem_append_right _ (mem_pinsAt hb z)))
          ⟨y.1, y.2.1⟩
        have len8 : (wipe σ (own.map (·.2))).length = σ8.length := by rw [← hw8, wipe_length]
        refine ⟨m', hm, i + 1, _, (IB.unpinned (pins := [])).weak len8 (fun j v z => ?_), T.keep _ _ _ st7 fun b hb o z => (kept b hb o z).1, fun b hb => ?_, w'⟩
        · rw [← hw8] at z
          exact (wipe_some z).1
        · obtain ⟨o, z, _⟩ := T.obj _ _ st7 b hb
          exact (kept b hb o z).2
    exact codeAny_compStart_dict loop (T.self X.A 0 _ _ _ st4 loop)
  subst e3 eC
  exact goal
end NW
/-! What dict comprehensions come to. -/
namespace NW
open PySem PySem.Spec PyProof.Rows L2 StX
def PRel {β : Type} (F : V → β → Prop) (p : D × β) (q : NE) : Prop := p.1 = q.1 ∧ F q.2.2 p.2
abbrev DRel (K : Fg) (H : Hp) : D × W → NE → Prop := PRel (Rw K H)
/-- x is a dict with such keys and values -/
def dnP (K : Fg) (w : World) (kvs : List (D × W)) (x : V) (H : Hp) : Prop := ∃ a ep es, x = .ref a ∧ H a = some (DNO w a ep es) ∧ KeysOk K H es ∧ Paired (DRel K H) kvs es
theorem dnP.same {K : Fg} {w : World} {kvs : List (D × W)} {x : V} {H H' : Hp} (s : Same H H') (h : dnP K w kvs x H) : dnP K w kvs x H' := by
  obtain ⟨a, ep, es, e, h1, h2, h3⟩ := h
  exact ⟨a, ep, es, e, s _ _ h1, h2.keep (Keep.of s), Paired.mapP h3 fun _ _ z => ⟨z.1, z.2.same s⟩⟩
def dnW (K : Fg) (w : World) (kvs : List (D × W)) : W := .p (dnP K w kvs)
theorem dnW_of {K : Fg} {w : World} {kvs : List (D × W)} {x : V} {H : Hp} (h : dnP K w kvs x H) : Rw K H x (dnW K w kvs) := fun H' s => h.same s
theorem dnW_at {K : Fg} {w : World} {kvs : List (D × W)} {x : V} {H : Hp} (h : Rw K H x (dnW K w kvs)) : dnP K w kvs x H := h H (Same.refl H)
def putD {β : Type} (kvs : List (D × β)) (k : D) (v : β) : List (D × β) := if (valN kvs k).isSome then kvs.map fun p => if p.1 = k then (p.1, v) else p else kvs ++ [(k, v)]
theorem PRel.find {β : Type} {F : V → β → Prop} {kvs : List (D × β)} {es : List NE} (r : Paired (PRel F) kvs es) (k : D) : (valN kvs k = none ∧ valN es k = none) ∨ ∃ w b v, valN kvs k = some w ∧ valN es k = some (b, v) ∧ F v w := by
  induction r with
  | nil => exact .inl ⟨rfl, rfl⟩
  | @cons p q ps qs h t ih =>
    obtain ⟨h1, h2⟩ := h
    by_cases e : p.1 = k
    · have e' : q.1 = k := h1.symm.trans e
      exact .inr ⟨p.2, q.2.1, q.2.2, by simp [valN, List.find?_cons, e], by simp [valN, List.find?_cons, e'], h2⟩
    · have e' : ¬ q.1 = k := fun z => e (h1.trans z)
      have e1 : valN (p :: ps) k = valN ps k := by simp [valN, List.find?_cons, e]
      have e2 : valN (q :: qs) k = valN qs k := by simp [valN, List.find?_cons, e']
      rw [e1, e2]
      exact ih
theorem PRel.map {β : Type} {F : V → β → Prop} {kvs : List (D × β)} {es : List NE} (r : Paired (PRel F) kvs es) (k : D) {v : V} {w : β} (rv : F v w) :
    Paired (PRel F) (kvs.map fun p => if p.1 = k then (p.1, w) else p) (es.map fun p => if p.1 = k then (p.1, p.2.1, v) else p) := by
  induction r with
  | nil => exact .nil
  | @cons p q ps qs h t ih =>
    refine .cons ?_ ih
    obtain ⟨h1, h2⟩ := h
    by_cases e : p.1 = k
    · have e' : q.1 = k := h1.symm.trans e
      simp only [if_pos e, if_pos e']
      exact ⟨h1, rv⟩
    · have e' : ¬ q.1 = k := fun z => e (h1.trans z)
      simp only [if_neg e, if_neg e']
      exact ⟨h1, h2⟩
theorem PRel.put {β : Type} {F : V → β → Prop} {kvs : List (D × β)} {es : List NE} (r : Paired (PRel F) kvs es) (k : D) (b : Addr) {v : V} {w : β} (rv : F v w) : Paired (PRel F) (putD kvs k w) (putN es k b v) := by
  rcases PRel.find r k with ⟨h1, h2⟩ | ⟨w', b', v', h1, h2, _⟩
  · rw [putN_new h2]
    unfold putD
    rw [h1]
    exact Paired.snoc r ⟨rfl, rv⟩
  · unfold putD putN
    rw [h1, h2]
    exact PRel.map r k rv
theorem length_putD {β : Type} (kvs : List (D × β)) (k : D) (v : β) : (putD kvs k v).length ≤ kvs.length + 1 := by
  unfold putD
  split
  · simp
  · simp
/-- the dict of a comprehension -/
def dictOf {α β : Type} (as : List α) (fk : α → D) (fv : α → β) : List (D × β) := as.foldl (fun acc a => putD acc (fk a) (fv a)) []
theorem dictOf_take {α β : Type} {as : List α} (fk : α → D) (fv : α → β) {i : Nat} {a : α} (h : as[i]? = some a) : dictOf (as.take (i + 1)) fk fv = putD (dictOf (as.take i) fk fv) (fk a) (fv a) := by
  unfold dictOf
  rw [List.take_succ, h]
  simp [List.foldl_append]
theorem dictOf_len {α β : Type} (fk : α → D) (fv : α → β) : ∀ (as : List α), (dictOf as fk fv).length ≤ as.length := by
  have key : ∀ (as : List α) (acc : List (D × β)), (as.foldl (fun acc a => putD acc (fk a) (fv a)) acc).length ≤ acc.length + as.length := by
    intro as
    induction as with
    | nil => intro acc; simp
    | cons a as ih =>
      intro acc
      have h1 := ih (putD acc (fk a) (fv a))
      have h2 := length_putD acc (fk a) (fv a)
      simp only [List.foldl_cons, List.length_cons]
      omega
  intro as
  have := key as []
  simp at this
  exact this
def isTup (d : D) : Prop := ∃ ds, d = .tup ds
section
variable {K : Fg} {w : World} {r : Sl}
theorem cm_dcN {α : Type} {wi : TI} {g : TG} {tk tv : TE} {vs : List Nat} {as : List α} (p : α → W) (fk : α → D) (fv : α → W) (hi : CmI K wi r (as.map p)) (hl : as.length ≤ 1000000)
    (hs : ∀ a ∈ as, isTup (fk a) ∧ (fk a).depth ≤ 8 ∧ FlatW (fv a) ∧ ∃ r' is, (∀ i, i ∈ is → i ∈ vs) ∧ CmG K g (wipeW r vs) (p a) r' is ∧ Cm K tk r' (.d (fk a)) ∧ Cm K tv r' (fv a)) :
    Cm K (tDcN K w wi g tk tv vs) r (dnW K w (dictOf as fk fv)) := fun σ H Q e q => by
  refine hi σ H _ e fun J G0 s1 it => fun C newC => ?_
  have sz : (1000000 : Nat) < sizeLine := by decide
  refine ⟨fun i m G => m = as.length - i ∧ i ≤ as.length ∧ Same G0 G ∧ ∃ ep es, G C = some (DNO w C ep es) ∧ KeysOk K G es ∧ Paired (PRel fun v (u : W) => Rw K G v u ∧ FlatW u) (dictOf (as.take i) fk fv) es,
    ⟨as.length, by simp, Nat.zero_le _, Same.new newC, 0, [], upd_same, (fun p hp => nomatch hp), by simp [dictOf]; exact .nil⟩, ?_⟩
  rintro i m G ⟨rfl, hle, s2, ep, es, hC, ko, rel⟩
  have itG := it G s2
  by_cases hlt : i < as.length
  · refine .inr ⟨itG.1 i (by simpa using hlt), fun G' => i + 1 ≤ as.length ∧ Same G0 G' ∧ ∃ ep es, G' C = some (DNO w C ep es) ∧ KeysOk K G' es ∧ Paired (PRel fun v (u : W) => Rw K G' v u ∧ FlatW u) (dictOf (as.take (i + 1)) fk fv) es,
      fun G' n => ⟨as.length - (i + 1), by omega, rfl, n.1, n.2⟩, fun x G1 y => ?_⟩
    obtain ⟨s3, u, hu, ru⟩ := itG.2.2 i x G1 (by simpa using hlt) y
    have hai : as[i]? = some as[i] := List.getElem?_eq_getElem hlt
    have eu : u = p as[i] := by
      rw [List.getElem?_map, hai] at hu
      exact (Option.some.inj hu).symm
    subst eu
    obtain ⟨⟨ds, eds⟩, hdep, hfl, r', is, his, hg, hk, hv⟩ := hs as[i] (List.getElem_mem hlt)
    refine hg x (wipe σ vs) G1 _ ((e.same ((s1.trans s2).trans s3)).wipe vs) ru fun σ2 e2 wp => ⟨by rw [wp vs his]; exact wipe_wipe σ vs, ?_⟩
    refine hk σ2 G1 _ e2 fun yk G3 s4 rk => ?_
    refine hv σ2 G3 _ (e2.same s4) fun yv G4 s5 rv => ?_
    have rk4 : Rp K G4 yk (fk as[i]) := Rp.keep (Keep.of s5) _ _ rk
    obtain ⟨b, eb⟩ : ∃ b, yk = .ref b := by
      rw [eds] at rk4
      obtain ⟨b, _, eb, _⟩ := rk4.tup_inv
      exact ⟨b, eb⟩
    subst eb
    have s34 := (s3.trans s4).trans s5
    have hC4 := s34 _ _ hC
    have ko4 := ko.keep (Keep.of s34)
    have rel4 : Paired (PRel fun v (u : W) => Rw K G4 v u ∧ FlatW u) (dictOf (as.take i) fk fv) es := Paired.mapP rel fun _ _ z => ⟨z.1, z.2.1.same s34, z.2.2⟩
    have hlen : es.length < 1000000 := by
      have h1 := Paired.length rel
      have h2 := dictOf_len fk fv (as.take i)
      rw [List.length_take] at h2
      omega
    refine ⟨ep, es, b, fk as[i], rfl, hC4, ko4, ⟨rk4, hdep⟩, by omega, fun ep' => ?_⟩
    have kp : Keep G4 (upd G4 C (DNO w C ep' (putN es (fk as[i]) b yv))) := Keep.put fun ys z => by rw [hC4] at z; cases z
    refine ⟨hlt, fun a o ha => ?_, ep', _, upd_same, (ko4.put ⟨rk4, hdep⟩ yv).keep kp, ?_⟩
    · rw [upd_ne (ne_of_none ha newC)]
      exact s34 _ _ (s2 _ _ ha)
    · rw [dictOf_take fk fv hai]
      exact Paired.mapP (PRel.put rel4 (fk as[i]) b ⟨rv, hfl⟩) fun p0 q0 z => ⟨z.1, z.2.1.keepF kp z.2.2, z.2.2⟩
  · have ei : i = as.length := by omega
    subst ei
    rw [List.take_length] at rel
    exact .inl ⟨by simpa using itG.2.1, q _ G (s1.trans s2) (dnW_of ⟨C, ep, es, rfl, hC, ko, Paired.mapP rel fun _ _ z => ⟨z.1, z.2.1⟩⟩)⟩
theorem cc_lenN {kvs : List (D × W)} : CmC K (fun xs H Q => ∃ a ep es, xs = [.ref a] ∧ H a = some (DNO w a ep es) ∧ KeysOk K H es ∧ Q (.int es.length) H) [dnW K w kvs] (.d (.num kvs.length)) := fun xs H Q r q => by
  obtain ⟨x, rfl, rx⟩ := one_inv r
  obtain ⟨a, ep, es, rfl, h1, h2, h3⟩ := dnW_at rx
  refine ⟨a, ep, es, rfl, h1, h2, q _ H (Same.refl H) ?_⟩
  rw [← Paired.length h3]
  exact .int _
end
end NW
/-! likes.py: does_settle -/
namespace NW
open PySem PySem.Spec PyProof.Rows L2 StX NM
local macro_rules | `(tactic| walk_at "my") => `(tactic| fail)
local macro_rules | `(tactic| walk_at "mycm") => `(tactic| fail)
local macro_rules | `(tactic| walk_at "myco") => `(tactic| fail)
local macro_rules | `(tactic| walk_at "mycc") => `(tactic| fail)
local macro_rules | `(tactic| walk_at "sh") => `(tactic| first | assumption | exact sh_n | exact Sh.num | exact Sh.non | exact sh_role | exact Sh.text (by decide +kernel) | exact sh_ns | exact sh_s | exact sh_m | exact sh_o | exact sh_h | exact sh_t | exact sh_ss | exact sh_ms | exact sh_head | exact sh_L | exact sh_nil | (apply sh_cons <;> walk_at "sh"))
local macro_rules | `(tactic| walk_at "shs") => `(tactic| first | assumption | exact shs_nil | (apply shs_cons; walk_at "sh"; walk_at "shs"))
local macro_rules | `(tactic| walk_at "co") => `(tactic| first
  | ((with_reducible apply co_ixTe); exact rfl; exact rfl)
  | ((with_reducible exact co_ixDl))
  | ((with_reducible apply co_ixL); exact rfl)
  | (with_reducible exact co_lt) | (with_reducible exact co_le) | (with_reducible exact co_gt) | (with_reducible exact co_ge) | (with_reducible exact co_sub)
  | (with_reducible exact co_isN) | (with_reducible exact co_isNotN)
  | ((with_reducible apply co_eq) <;> walk_at "sh") | ((with_reducible apply co_ne) <;> walk_at "sh")
  | (with_reducible exact co_add)
  | ((with_reducible apply co_inTe); exact rfl; walk_at "sh"; walk_at "shs")
  | walk_at "myco")
local macro_rules | `(tactic| walk_at "cc") => `(tactic| first
  | ((with_reducible apply cc_lenTe); exact rfl) | (with_reducible exact cc_lenL) | (with_reducible exact cc_all) | (with_reducible exact cc_any) | (with_reducible exact cc_tuple) | (with_reducible exact cc_intI)
  | (with_reducible exact cc_intB) | (with_reducible exact cc_min2) | (with_reducible exact cc_listT)
  | ((with_reducible apply cc_isi); first | exact isi_int rfl | exact isi_bool | exact isi_tuple rfl | exact isi_str rfl)
  | walk_at "mycc")
local macro_rules | `(tactic| walk_at "ca") => `(tactic| first
  | (with_reducible exact ca_nil)
  | ((with_reducible apply ca_cons); walk_at "cm"; walk_at "ca"))
local macro_rules | `(tactic| walk_at "cad") => `(tactic| first
  | (with_reducible exact cad_nil)
  | ((with_reducible apply cad_cons); walk_at "cm"; walk_at "cad")
  | ((with_reducible apply cad_starE); walk_at "cm"; exact rfl; walk_at "cad"))
local macro_rules | `(tactic| walk_at "cm") => `(tactic| first
  | ((with_reducible apply cm_var); exact rfl)
  | (with_reducible exact cm_int) | (with_reducible exact cm_str) | (with_reducible exact cm_non) | (with_reducible exact cm_bl)
  | ((with_reducible apply cm_op); walk_at "cm"; walk_at "cm"; walk_at "co")
  | ((with_reducible apply cm_tupD); walk_at "cad"; walk_at "size")
  | ((with_reducible apply cm_neg); walk_at "cm")
  | ((with_reducible apply cm_call); walk_at "ca"; walk_at "my")
  | walk_at "mycm"
  | ((with_reducible apply cm_cb); walk_at "ca"; walk_at "cc")
  | ((with_reducible apply cm_chain); walk_at "cm"; walk_at "cm"; walk_at "co"; (intro _; walk_at "cm"); walk_at "co")
  | ((with_reducible apply cm_andVF); walk_at "cm"; walk_at "dec0")
  | ((with_reducible apply cm_orVT); walk_at "cm"; walk_at "dec0")
  | ((with_reducible apply cm_ifT); walk_at "ct"; walk_at "dec"; walk_at "cm")
  | ((with_reducible apply cm_ifF); walk_at "ct"; walk_at "dec"; walk_at "cm")
  | ((with_reducible apply cm_andV); walk_at "cm"; (intro _; walk_at "cm"))
  | ((with_reducible apply cm_orV); walk_at "cm"; (intro _; walk_at "cm"))
  | ((with_reducible apply cm_notV); walk_at "cm")
  | (with_reducible exact cm_val))
local macro_rules | `(tactic| walk_at "ct") => `(tactic| first
  | ((with_reducible apply ct_test); walk_at "cm") | ((with_reducible apply ct_B); walk_at "cm") | ((with_reducible apply ct_not); walk_at "ct")
  | ((with_reducible apply ct_andF); walk_at "ct"; walk_at "dec0")
  | ((with_reducible apply ct_orT); walk_at "ct"; walk_at "dec0")
  | ((with_reducible apply ct_and); walk_at "ct"; (intro _; walk_at "ct"))
  | ((with_reducible apply ct_or); walk_at "ct"; (intro _; walk_at "ct")))
local macro_rules | `(tactic| walk_at "size") => `(tactic| focus first | assumption | (simp; done) | (simp; omega) | omega)
local macro_rules | `(tactic| walk_at "dec0") => `(tactic| focus first | rfl | (simp [eHead, eL, eSs, eMs, eS, eM, eT, eN, eNs, eH, eO, rN]; done))
local macro_rules | `(tactic| walk_at "dec") => `(tactic| focus first | rfl | (simp [eHead, eL, eSs, eMs, eS, eM, eT, eN, eNs, eH, eO, rN]; done) | (simp [eHead, eL, eSs, eMs, eS, eM, eT, eN, eNs, eH, eO, rN]; omega) | (simp [eHead, eL, eSs, eMs, eS, eM, eT, eN, eNs, eH, eO, rN, *]; done))
local macro_rules | `(tactic| walk_at "skip") => `(tactic| ((with_reducible apply bs_skip); walk_at "ct"; walk_at "dec"))
local macro_rules | `(tactic| walk_at "take") => `(tactic| (refine bs_seqR ?_; (with_reducible apply bs_ifT); walk_at "ct"; walk_at "dec"))
local macro_rules | `(tactic| walk_at "ret") => `(tactic| (refine bs_ret ?_; (with_reducible apply cm_is); walk_at "cm"))
local macro_rules | `(tactic| walk_at "set") => `(tactic| ((with_reducible apply bs_setS); walk_at "cm"))
local macro_rules | `(tactic| walk_at "drop") => `(tactic| ((with_reducible apply bs_dropS); walk_at "cm"))
local macro_rules | `(tactic| walk_at "norm") => `(tactic| skip)
local macro_rules | `(tactic| walk_at "less") => `(tactic| first | exact less_nil | (apply less_some; walk_at "less") | (apply less_none; walk_at "less"))
local macro_rules | `(tactic| walk_at "flat") => `(tactic| first | exact flat_nil | (refine flat_cons ?_ ?_; (first | exact trivial | exact rfl); walk_at "flat"))
section
variable {P : Program} {w : World} {K : Fg} {mg : Str → Option Value} {base : Heap}

/-! ### does_settle -/
abbrev s_does_settle : Stmt := top 46
abbrev N_does_settle : List Str := ["language", "stream", "standing"]
theorem sc_does_settle : FnScope N_does_settle ["language", "stream"] (defScope s_does_settle) := ⟨rfl, rfl, rfl, by decide +kernel, rfl, by decide +kernel, by decide +kernel⟩
def endD (L : Lang) (xs : List NM.Sign) (s : Std) : D := eT (readSo L s xs).1
def settleS (L : Lang) (xs : List NM.Sign) : Bool := decide ((dictOf (stds L) (endD L xs) fun _ => W.b true).length = 1)
def R_does_settle : List W → W → Prop := fun ws w => ∃ L xs, Good L ∧ isGood L xs ∧ ws = [.d (eL L), .d (eSs xs)] ∧ w = .b (settleS L xs)
theorem r_does_settle {L : Lang} {xs : List NM.Sign} (g : Good L) (hx : isGood L xs) : R_does_settle [.d (eL L), .d (eSs xs)] (.b (settleS L xs)) := ⟨L, xs, g, hx, rfl, rfl⟩
theorem ok_does_settle (T : Txt K mg) (A : DefAt K mg "does_settle" "does_settle" s_does_settle ["language", "stream"]) (C_need_stream : CalF P w K mg base 4 "need_stream" R_need_stream) (C_standings_of : CalF P w K mg base 3 "standings_of" R_standings_of)
    (C_read_so : CalF P w K mg base 3 "read_so" R_read_so) : CalF P w K mg base 5 "does_settle" R_does_settle := by
  refine calF A sc_does_settle (fun ws u h => ?_) (fun f cdv A outer s H E ws u hr h => ?_)
  · obtain ⟨L, xs, _, _, rfl, _⟩ := h; rfl
  · obtain ⟨L, xs, g, ⟨hx, lx⟩, rfl, rfl⟩ := h
    refine ⟨_, (pss_cons (ps_expr (C8.pe_c C_need_stream hr (by decide) rfl (pa_cons (pv 0) (pa_cons (pv 1) pa_nil)))) (pss_one (ps_ret (pe_cmpR (eqK K rfl hr) (pe_callB (lenNK w rfl (K := K) rfl) rfl T.b_len bo_len (pa_cons (pe_dcN (own := [("standing", 2)]) K w rfl rfl hr rfl sc_does_settle.nd (piLK K rfl (C8.pe_c C_standings_of hr (by decide) rfl (pa_cons (pv 0) pa_nil))) (blkOk_by (own := [("standing", 2)]) (N := N_does_settle) (sc := defScope s_does_settle) (by decide +kernel)) (fun _ _ _ _ _ => (pg_name (i := 2) sc_does_settle.nd rfl (by first | exact Or.inl rfl | exact Or.inr rfl))) (fun _ _ _ _ _ => (pe_ix (ixK K rfl) (C8.pe_c C_read_so hr (by decide) rfl (pa_cons (pv 0) (pa_cons (pv 2) (pa_cons (pv 1) pa_nil)))) pe_int (fun _ _ => rfl))) (fun _ _ _ _ _ => pe_bl)) pa_nil)) pe_int (nomark _))))), .inl ?_⟩
    refine bs_dropS (cm_call (by walk_at "ca") (r_need_stream g hx lx)) ?_
    have ln := stds_len g
    refine bs_ret (cm_is (cm_op (cm_cb (ca_cons (cm_dcN (as := stds L) (fun s => .d (eT s)) (endD L xs) (fun _ => .b true) (ci_lstM eT (cm_call (by walk_at "ca") (r_standings_of g))) (by omega) fun s hs => ?_) ca_nil) cc_lenN) cm_int (co_eq .num .num)) ?_)
    · have t := mem_stds.mp hs
      refine ⟨⟨_, rfl⟩, ?_, trivial, _, [2], by simp, cg_name, cm_op (cm_call (by walk_at "ca") (r_read_so g t hx lx)) cm_int co_ixDl, cm_bl⟩
      have h1 := Sh.kdep (n := 2) _ (sh_t (k := 0) (s := (readSo L s xs).1))
      unfold endD
      omega
    · unfold settleS
      rw [d_num]
      congr 1
      exact decide_eq_decide.mpr ⟨fun e => by omega, fun e => by omega⟩
end
end NW
/-! Tuples and lists of things; what is known but for some i; slots that stay while an own object changes; breaks. -/
namespace NW
open PySem PySem.Spec PyProof.Rows L2 StX
/-! ### tuples, lists of anything -/
def tpW (K : Fg) (ws : List W) : W := .p fun x H => ∃ a xs, x = .ref a ∧ TupAt K H a xs ∧ RwA K H xs ws
def lsW (K : Fg) (ws : List W) : W := .p fun x H => ∃ a xs, x = .ref a ∧ H a = some (.lst xs) ∧ RwA K H xs ws
theorem TupAt.same {K : Fg} {H H1 : Hp} {a : Addr} {xs : List V} (s : Same H H1) (t : TupAt K H a xs) : TupAt K H1 a xs := t.elim (fun q => .inl (s _ _ q)) .inr
section
variable {K : Fg} {r r1 : Sl} {ws : List W} {w : W}
theorem tpW_of {H : Hp} {x : V} {a : Addr} {xs : List V} (e : x = .ref a) (t : TupAt K H a xs) (h : RwA K H xs ws) : Rw K H x (tpW K ws) := fun H' s => ⟨a, xs, e, t.same s, h.same s⟩
theorem lsW_of {H : Hp} {x : V} {a : Addr} {xs : List V} (e : x = .ref a) (t : H a = some (.lst xs)) (h : RwA K H xs ws) : Rw K H x (lsW K ws) := fun H' s => ⟨a, xs, e, s _ _ t, h.same s⟩
theorem cm_tupW {ta : TA} (h : CmA K ta r ws) (hl : ws.length ≤ 1000) : Cm K (tTup ta) r (tpW K ws) := fun σ H Q e q => h σ H _ e fun xs H1 s1 r1 => by
  refine ⟨by rw [r1.length]; exact Nat.le_trans hl (by decide), fun p hp => q _ _ (s1.trans (Same.new hp)) ?_⟩
  exact tpW_of rfl (.inl upd_same) (r1.same (Same.new hp))
theorem cm_lstW {ta : TA} (h : CmA K ta r ws) (hl : ws.length ≤ 1000) : Cm K (tLst ta) r (lsW K ws) := fun σ H Q e q => h σ H _ e fun xs H1 s1 r1 => by
  refine ⟨by rw [r1.length]; exact Nat.le_trans hl (by decide), fun p hp => q _ _ (s1.trans (Same.new hp)) ?_⟩
  exact lsW_of rfl upd_same (r1.same (Same.new hp))
theorem cg_tpW {gs : TGs} {n : Nat} {is : List Nat} (h : CmGs K gs r ws r1 is) (hn : ws.length = n) : CmG K (gTup K n gs) r (tpW K ws) r1 is := fun x σ H Q e rx q => by
  obtain ⟨a, xs, rfl, t, ra⟩ := rx H (Same.refl H)
  exact ⟨a, xs, rfl, t.sq, by rw [ra.length, hn], h xs σ H Q e ra q⟩
theorem atI_rw {H : Hp} {xs : List V} {i : Int} (h : RwA K H xs ws) (e : atI ws i = some w) : ∃ x, atI xs i = some x ∧ Rw K H x w := by
  unfold atI at e ⊢
  rw [h.length]
  cases z : ixN ws.length i with
  | none => rw [z] at e; cases e
  | some j =>
    rw [z] at e
    have get : ∀ {vs : List V} {us : List W} {j : Nat}, RwA K H vs us → us[j]? = some w → ∃ x, vs[j]? = some x ∧ Rw K H x w := by
      intro vs us j h
      induction h generalizing j with
      | nil => intro q; simp at q
      | cons a b ih =>
        intro q
        cases j with
        | zero =>
          simp at q
          subst q
          exact ⟨_, rfl, a⟩
        | succ j =>
          obtain ⟨x, h1, h2⟩ := ih (j := j) (by simpa using q)
          exact ⟨x, by simpa using h1, h2⟩
    exact get h e
theorem co_ixTp {i : Int} (h : atI ws i = some w) : CmO K (rIx K) (tpW K ws) (.d (.num i)) w := fun x y H Q rx ry q => by
  obtain ⟨a, xs, rfl, t, ra⟩ := rx H (Same.refl H)
  obtain ⟨v, h1, h2⟩ := atI_rw ra h
  exact .inr (.inl ⟨a, xs, i, v, rfl, Rp.int_inv ry, t.sq, h1, q _ H (Same.refl H) h2⟩)
theorem co_ixLs {i : Int} (h : atI ws i = some w) : CmO K (rIx K) (lsW K ws) (.d (.num i)) w := fun x y H Q rx ry q => by
  obtain ⟨a, xs, rfl, t, ra⟩ := rx H (Same.refl H)
  obtain ⟨v, h1, h2⟩ := atI_rw ra h
  exact .inl ⟨a, xs, i, v, rfl, Rp.int_inv ry, .of t, h1, q _ H (Same.refl H) h2⟩
end
/-! ### what is known but for some i -/
def exW (K : Fg) {ι : Type} (A : ι → Prop) (f : ι → W) : W := .p fun x H => ∃ i, A i ∧ Rw K H x (f i)
section
variable {K : Fg} {r : Sl} {ι : Type} {A : ι → Prop} {f f2 : ι → W} {w b : W}
theorem ex_of {H : Hp} {x : V} (i : ι) (a : A i) (h : Rw K H x (f i)) : Rw K H x (exW K A f) := fun H' s => ⟨i, a, h.same s⟩
theorem ex_at {H : Hp} {x : V} (h : Rw K H x (exW K A f)) : ∃ i, A i ∧ Rw K H x (f i) := h H (Same.refl H)
theorem co_ex {g : R2} (h : ∀ i, A i → CmO K g (f i) b (f2 i)) : CmO K g (exW K A f) b (exW K A f2) := fun x y H Q rx ry q => by
  obtain ⟨i, a, rx⟩ := ex_at rx
  exact h i a x y H Q rx ry fun z H' s rz => q z H' s (ex_of i a rz)
theorem cm_ex {t : TE} (h : Cm K t r (exW K A f)) (e : ∀ i, A i → f i = w) : Cm K t r w := fun σ H Q en q => h σ H _ en fun x H' s rx => by
  obtain ⟨i, a, rx⟩ := ex_at rx
  rw [e i a] at rx
  exact q x H' s rx
theorem bs_exS {te : TE} {g : TG} {u : TS} {o : Out} (h : Cm K te r (exW K A f)) (h2 : ∀ i, A i → ∃ r1 is, CmG K g r (f i) r1 is ∧ Bs K u r1 o) : Bs K (tSeq (tAsg te g) u) r o := fun D σ H e p =>
  h σ H _ e fun x H1 s1 rx => by
    obtain ⟨i, a, rx⟩ := ex_at rx
    obtain ⟨r1, is, hg, hb⟩ := h2 i a
    exact hg x σ H1 _ (e.same s1) rx fun σ' e' _ => hb D σ' H1 e' (p.same s1)
end
/-! ### dicts read -/
section
variable {K : Fg} {w : World} {r : Sl} {kvs : List (D × W)} {k : D} {u : W}
theorem co_getN (h : valN kvs k = some u) (ht : isTup k) (hd : k.depth ≤ 8) : CmO K (rGetN K w) (dnW K w kvs) (.d k) u := fun x y H Q rx ry q => by
  obtain ⟨a, ep, es, rfl, h1, h2, h3⟩ := dnW_at rx
  obtain ⟨ds, e⟩ := ht
  obtain ⟨b, _, eb, _⟩ := Rp.tup_inv (show Rp K H y (.tup ds) from e ▸ ry)
  subst eb
  rcases PRel.find h3 k with ⟨z, _⟩ | ⟨u', c, v, z1, z2, z3⟩
  · rw [z] at h; cases h
  · rw [z1] at h
    cases h
    exact ⟨a, ep, es, b, k, c, v, rfl, h1, rfl, h2, ⟨ry, hd⟩, z2, q v H (Same.refl H) z3⟩
theorem ci_dn {td : TE} (h : Cm K td r (dnW K w kvs)) : CmI K (iDn w td) r (kvs.map fun p => .d p.1) := fun σ H R e q => h σ H _ e fun x H1 s1 rx => by
  obtain ⟨a, ep, es, rfl, h1, h2, h3⟩ := dnW_at rx
  refine ⟨a, ep, es, rfl, h1, q _ H1 s1 fun H2 s2 => ?_⟩
  have hl := Paired.length h3
  refine ⟨fun i hi => ⟨s2 _ _ h1, by simp at hi; omega⟩, ⟨s2 _ _ h1, by simp; omega⟩, fun i x H3 hi y => ?_⟩
  obtain ⟨rfl, z, hz, rfl⟩ := y
  have hi' : i < kvs.length := by simpa using hi
  refine ⟨Same.refl _, .d kvs[i].1, by simp [hi'], ?_⟩
  have pr : ∀ {l : List (D × W)} {m : List NE}, Paired (DRel K H1) l m → ∀ (i : Nat) (h1 : i < l.length) (z : NE), m[i]? = some z → l[i].1 = z.1 := by
    intro l m q
    induction q with
    | nil => intro i h1; exact absurd h1 (Nat.not_lt_zero _)
    | cons hq t ih =>
      intro i h1 z hz
      cases i with
      | zero =>
        simp at hz
        subst hz
        exact hq.1
      | succ i => exact ih i (by simpa using h1) z (by simpa using hz)
  rw [pr h3 i hi' z hz]
  exact Rp.keep (Keep.of s2) _ _ (h2 z (List.mem_of_getElem? hz)).1
/-! ### zip of two lists -/
theorem ci_zipL {ta : TA} {as bs : List D} (h : CmA K ta r [.l as, .l bs]) : CmI K (rZip K ta) r ((as.zip bs).map fun p => .d (.tup [p.1, p.2])) := fun σ H R en q =>
  h σ H _ en fun xs H1 s1 r1 => by
    obtain ⟨x, y, rfl, rx, ry⟩ := two_inv r1
    obtain ⟨a, us, rfl, ta', ra⟩ := rx
    obtain ⟨b, vs, rfl, tb', rb⟩ := ry
    have la := ra.length
    have lb := rb.length
    refine ⟨a, b, us, vs, rfl, .inl ⟨.of ta', .of tb', q _ H1 s1 fun H2 s2 => ?_⟩⟩
    have t2 : SqL K H2 a us := .of (s2 _ _ ta')
    have t3 : SqL K H2 b vs := .of (s2 _ _ tb')
    refine ⟨fun i hi => ?_, ⟨us, vs, t2, t3, by simp; omega⟩, fun i v H3 hi yy => ?_⟩
    · have hi' : i < min as.length bs.length := by simpa using hi
      exact ⟨us, vs, us[i]'(by omega), vs[i]'(by omega), t2, t3, by simp, by simp⟩
    · have hi' : i < min as.length bs.length := by simpa using hi
      obtain ⟨T, x, y, rfl, hT, rfl, hx, hy⟩ := yy
      have k3 := Same.new (o := .tup [x, y]) hT
      have ha' : i < as.length := by omega
      have hb' : i < bs.length := by omega
      refine ⟨k3, .d (.tup [as[i], bs[i]]), ?_, ?_⟩
      · have hz : (as.zip bs)[i]? = some (as[i], bs[i]) := by
          rw [List.getElem?_eq_getElem (by simp; omega)]
          simp
        rw [List.getElem?_map, hz]
        rfl
      · obtain ⟨x', h1, h2⟩ := ra.get (i := i) (d := as[i]) (by simp [ha'])
        obtain ⟨y', h3, h4⟩ := rb.get (i := i) (d := bs[i]) (by simp [hb'])
        rw [hx us t2] at h1
        rw [hy vs t3] at h3
        cases h1
        cases h3
        exact .tup (.inl upd_same) (.cons (Rp.keep (Keep.of (s2.trans k3)) _ _ h2) (.cons (Rp.keep (Keep.of (s2.trans k3)) _ _ h4) .nil))
end
/-! ### breaks -/
section
variable {K : Fg} {g : TG} {wi : TI} {tb : TS} {ws : List W} {o : Out} {r : Sl}
/-- a walk that is left at item j -/
theorem bs_forB (R : Nat → Sl) (j : Nat) (hj : j < ws.length) (hi : CmI K wi (R 0) ws) (hs : ∀ i w, i < j → ws[i]? = some w → ∃ r1 is, CmG K g (R i) w r1 is ∧ Bs K tb r1 (.nx (R (i + 1))))
    (ht : ∀ w', ws[j]? = some w' → ∃ r1 is, CmG K g (R j) w' r1 is ∧ Bs K tb r1 (.bk r)) : Bs K (tFor wi g tb) (R 0) (.nx r) := fun D σ H e p => hi σ H _ e fun J H1 s1 it =>
  for_it (walk_of_it it) (fun i σ H => i ≤ j ∧ Same H1 H ∧ EnvOk K (R i) σ H) ⟨Nat.zero_le _, Same.refl _, e.same s1⟩ (fun i σ H _ q => q.2.1) (fun i x σ2 H2 H3 hi q y => by
    obtain ⟨hij, s2, e2⟩ := q
    obtain ⟨s3, w', hw, rw'⟩ := y
    by_cases hlt : i < j
    · obtain ⟨r1, is, hg, hb⟩ := hs i w' hlt hw
      exact hg x σ2 H3 _ (e2.same s3) rw' fun σ' e' _ => hb _ σ' H3 e' fun σ4 H4 s4 e4 => ⟨hlt, (s2.trans s3).trans s4, e4⟩
    · have hj' : i = j := by omega
      subst hj'
      obtain ⟨r1, is, hg, hb⟩ := ht w' hw
      exact hg x σ2 H3 _ (e2.same s3) rw' fun σ' e' _ => hb _ σ' H3 e' fun σ4 H4 s4 e4 => p σ4 H4 (((s1.trans s2).trans s3).trans s4) e4) fun σ2 H2 q => by
    have := q.1
    omega
theorem bs_break : Bs K tBreak r (.bk r) := fun D σ H e p => p σ H (Same.refl H) e
/-- a walk that is left at item j, by a body that changes what it may -/
theorem for_brk {D : Ends} {σ : St} {H : Hp} (R : Nat → Sl) (j : Nat) (hj : j < ws.length) (e : EnvOk K (R 0) σ H) (hi : CmI K wi (R 0) ws) (hs : ∀ i w, i < j → ws[i]? = some w → ∃ r1 is, CmG K g (R i) w r1 is ∧ Bs K tb r1 (.nx (R (i + 1))))
    (ht : ∀ w', ws[j]? = some w' → ∃ r1 is, CmG K g (R j) w' r1 is ∧ ∀ (D' : Ends) σ' H', Same H H' → EnvOk K r1 σ' H' → D'.bk = D.nx → D'.rt = D.rt → tb D' σ' H') : tFor wi g tb D σ H := hi σ H _ e fun J H1 s1 it =>
  for_it (walk_of_it it) (fun i σ H => i ≤ j ∧ Same H1 H ∧ EnvOk K (R i) σ H) ⟨Nat.zero_le _, Same.refl _, e.same s1⟩ (fun i σ H _ q => q.2.1) (fun i x σ2 H2 H3 hi q y => by
    obtain ⟨hij, s2, e2⟩ := q
    obtain ⟨s3, w', hw, rw'⟩ := y
    by_cases hlt : i < j
    · obtain ⟨r1, is, hg, hb⟩ := hs i w' hlt hw
      exact hg x σ2 H3 _ (e2.same s3) rw' fun σ' e' _ => hb _ σ' H3 e' fun σ4 H4 s4 e4 => ⟨hlt, (s2.trans s3).trans s4, e4⟩
    · have hj' : i = j := by omega
      subst hj'
      obtain ⟨r1, is, hg, hb⟩ := ht w' hw
      exact hg x σ2 H3 _ (e2.same s3) rw' fun σ' e' _ => hb _ σ' H3 ((s1.trans s2).trans s3) e' rfl rfl) fun σ2 H2 q => by
    have := q.1
    omega
end
/-! ### a comprehension's list is new -/
section
variable {K : Fg} {r : Sl}
theorem cn_lcm {α : Type} {wi : TI} {g : TG} {te : TE} {vs : List Nat} {as : List α} (p : α → W) (f : α → D) (hi : CmI K wi r (as.map p)) (hl : as.length ≤ 1000000)
    (hs : ∀ a ∈ as, ∃ r' is, (∀ i, i ∈ is → i ∈ vs) ∧ CmG K g (wipeW r vs) (p a) r' is ∧ Cm K te r' (.d (f a))) :
    CmN K (tLc wi g tYes te vs) r (as.map f) := fun σ H Q e q => by
  refine hi σ H _ e fun J H1 s1 it => fun D hD => ?_
  have sz : (1000000 : Nat) < sizeLine := by decide
  refine lc_it (n := as.length) (G := fun H => Same H1 H) (Y := fun i H x H2 => Same H H2 ∧ ∃ a, as[i]? = some a ∧ Rw K H2 x (p a))
    ⟨fun i H hi g => (it H g).1 i (by simpa using hi), fun H g => by have := (it H g).2.1; rwa [List.length_map] at this, fun i H x H' hi g y => by
      obtain ⟨h1, w, h2, h3⟩ := (it H g).2.2 i x H' (by simpa using hi) y
      refine ⟨h1, as[i], by simp [hi], ?_⟩
      simp [hi] at h2
      rw [h2]
      exact h3⟩
    (fun i H => Same H1 H ∧ ∃ xs, H D = some (.lst xs) ∧ RpA K H xs ((as.take i).map f)) ⟨Same.new hD, [], upd_same, by simp; exact .nil⟩ (fun i H _ p => p.1) (fun i x H2 H3 hi' p' y => ?_) (fun H p' => ?_)
  · obtain ⟨s2, xs, hx, rx⟩ := p'
    obtain ⟨s3, a, ha, rw'⟩ := y
    obtain ⟨r', is, his, hg, he⟩ := hs a (List.mem_of_getElem? ha)
    refine hg x (wipe σ vs) H3 _ ((e.same (s1.trans (s2.trans s3))).wipe vs) rw' fun σ' e' wp => ⟨by rw [wp vs his]; exact wipe_wipe σ vs, ?_⟩
    show te σ' H3 _
    refine he σ' H3 _ e' fun v H5 s5 r5 => ?_
    have s25 := s3.trans s5
    have hxs : xs.length ≤ as.length := by
      rw [rx.length, List.length_map, List.length_take]
      omega
    have hD5 : H5 D = some (.lst xs) := s25 _ _ hx
    have k5 : Keep H5 (upd H5 D (.lst (xs ++ [v]))) := Keep.put fun ys q => by rw [hD5] at q; cases q
    refine ⟨xs, hD5, by omega, fun b o hb => ?_, xs ++ [v], upd_same, ?_⟩
    · rw [upd_ne (ne_of_none hb hD)]
      exact s25 _ _ (s2 _ _ hb)
    · rw [map_take f ha]
      exact (RpA.keep (Keep.trans (Keep.of s25) k5) _ _ rx).append (.cons (Rp.keep k5 _ _ r5) .nil)
  · obtain ⟨s2, xs, hx, rx⟩ := p'
    rw [List.take_length] at rx
    exact q D H xs (s1.trans s2) (s1.free hD) hx rx
end
/-! ### slots that stay while the object at l changes -/
def StayW (l : Addr) (w : W) : Prop := ∀ (K : Fg) (H : Hp) (y : V) (o : HO), (∀ xs, H l ≠ some (.tup xs)) → Rw K H y w → Rw K (upd H l o) y w
def StayO (l : Addr) : Option W → Prop
  | none => True
  | some w => StayW l w
def StayS (l : Addr) (r : Sl) : Prop := ∀ o ∈ r, StayO l o
theorem stay_nil {l : Addr} : StayS l [] := fun _ h => by cases h
theorem stay_cons {l : Addr} {o : Option W} {r : Sl} (h : StayO l o) (t : StayS l r) : StayS l (o :: r) := fun x hx => by
  rcases List.mem_cons.mp hx with rfl | hx
  · exact h
  · exact t x hx
theorem stay_none {l : Addr} : StayO l none := trivial
theorem stay_d {l : Addr} {d : D} : StayO l (some (.d d)) := fun K H y o h r => Rp.keep (Keep.put h) d y r
theorem stay_b {l : Addr} {c : Bool} : StayO l (some (.b c)) := fun K H y o h r => r
theorem stay_v {l : Addr} {x : V} : StayO l (some (.v x)) := fun K H y o h r => r
/-- known since H0 -/
def old (K : Fg) (H0 : Hp) (w : W) : W := .p fun y H => Same H0 H ∧ Rw K H0 y w
theorem stay_old {l : Addr} {K : Fg} {H0 : Hp} {w : W} (hl : H0 l = none) : StayO l (some (old K H0 w)) := fun K' H y o h r H' s => by
  obtain ⟨s0, z⟩ := r H (Same.refl H)
  refine ⟨fun a u q => s a u ?_, z⟩
  rw [upd_ne (ne_of_none q hl)]
  exact s0 a u q
theorem cm_old {K : Fg} {r : Sl} {i : Nat} {H0 : Hp} {w : W} (h : r[i]? = some (some (old K H0 w))) : Cm K (tVar i) r w := fun σ H Q e q => by
  obtain ⟨x, h1, h2⟩ := e.at_ i _ h
  obtain ⟨s, z⟩ := h2 H (Same.refl H)
  exact ⟨x, h1, q x H (Same.refl H) (z.same s)⟩
theorem old_of {K : Fg} {H0 H : Hp} {w : W} {x : V} (s : Same H0 H) (h : Rw K H0 x w) : Rw K H x (old K H0 w) := fun H' s' => ⟨s.trans s', h⟩
section
variable {K : Fg} {r r' : Sl} {σ : St} {H H0 : Hp} {i : Nat} {w w' : W} {x : V} {l : Addr} {o : HO}
theorem EnvOk.stay (s : StayS l r) (hl : ∀ xs, H l ≠ some (.tup xs)) (e : EnvOk K r σ H) : EnvOk K r σ (upd H l o) := ⟨e.len, fun i w h => by
  obtain ⟨y, h1, h2⟩ := e.at_ i w h
  exact ⟨y, h1, s _ (List.mem_of_getElem? h) K H y o hl h2⟩⟩
/-- a slot's other side -/
theorem EnvOk.know (e : EnvOk K r σ H) (h : r[i]? = some (some w)) (f : ∀ x, Rw K H x w → Rw K H x w') : EnvOk K (r.set i (some w')) σ H := by
  obtain ⟨x, h1, h2⟩ := e.at_ i w h
  refine ⟨by rw [List.length_set]; exact e.len, fun j u q => ?_⟩
  by_cases z : i = j
  · subst z
    have hi : i < r.length := (List.getElem?_eq_some_iff.mp h).1
    rw [List.getElem?_set_self hi] at q
    cases q
    exact ⟨x, h1, f x h2⟩
  · rw [List.getElem?_set_ne z] at q
    exact e.at_ j u q
theorem Same.put0 (s : Same H0 H) (hl : H0 l = none) : Same H0 (upd H l o) := fun a u q => by
  rw [upd_ne (ne_of_none q hl)]
  exact s a u q
end
local macro_rules | `(tactic| walk_at "stay") => `(tactic| first | exact stay_nil | (refine stay_cons ?_ ?_; (first | exact stay_none | exact stay_d | exact stay_b | exact stay_v | exact stay_old (by assumption)); walk_at "stay"))
end NW
/-! fits.py: what is heard, behind -/
namespace NW
open PySem PySem.Spec PyProof.Rows L2 StX NM
local macro_rules | `(tactic| walk_at "my") => `(tactic| fail)
local macro_rules | `(tactic| walk_at "mycm") => `(tactic| fail)
local macro_rules | `(tactic| walk_at "myco") => `(tactic| fail)
local macro_rules | `(tactic| walk_at "mycc") => `(tactic| fail)
local macro_rules | `(tactic| walk_at "sh") => `(tactic| first | assumption | exact sh_n | exact Sh.num | exact Sh.non | exact sh_role | exact Sh.text (by decide +kernel) | exact sh_ns | exact sh_s | exact sh_m | exact sh_o | exact sh_h | exact sh_t | exact sh_ss | exact sh_ms | exact sh_head | exact sh_L | exact sh_nil | (apply sh_cons <;> walk_at "sh"))
local macro_rules | `(tactic| walk_at "shs") => `(tactic| first | assumption | exact shs_nil | (apply shs_cons; walk_at "sh"; walk_at "shs"))
local macro_rules | `(tactic| walk_at "co") => `(tactic| first
  | ((with_reducible apply co_ixTe); exact rfl; exact rfl)
  | ((with_reducible exact co_ixDl))
  | ((with_reducible apply co_ixL); exact rfl)
  | (with_reducible exact co_lt) | (with_reducible exact co_le) | (with_reducible exact co_gt) | (with_reducible exact co_ge) | (with_reducible exact co_sub)
  | (with_reducible exact co_isN) | (with_reducible exact co_isNotN)
  | ((with_reducible apply co_eq) <;> walk_at "sh") | ((with_reducible apply co_ne) <;> walk_at "sh")
  | (with_reducible exact co_add)
  | ((with_reducible apply co_inTe); exact rfl; walk_at "sh"; walk_at "shs")
  | walk_at "myco")
local macro_rules | `(tactic| walk_at "cc") => `(tactic| first
  | ((with_reducible apply cc_lenTe); exact rfl) | (with_reducible exact cc_lenL) | (with_reducible exact cc_all) | (with_reducible exact cc_any) | (with_reducible exact cc_tuple) | (with_reducible exact cc_intI)
  | (with_reducible exact cc_intB) | (with_reducible exact cc_min2) | (with_reducible exact cc_listT)
  | ((with_reducible apply cc_isi); first | exact isi_int rfl | exact isi_bool | exact isi_tuple rfl | exact isi_str rfl)
  | walk_at "mycc")
local macro_rules | `(tactic| walk_at "ca") => `(tactic| first
  | (with_reducible exact ca_nil)
  | ((with_reducible apply ca_cons); walk_at "cm"; walk_at "ca"))
local macro_rules | `(tactic| walk_at "cad") => `(tactic| first
  | (with_reducible exact cad_nil)
  | ((with_reducible apply cad_cons); walk_at "cm"; walk_at "cad")
  | ((with_reducible apply cad_starE); walk_at "cm"; exact rfl; walk_at "cad"))
local macro_rules | `(tactic| walk_at "cm") => `(tactic| first
  | ((with_reducible apply cm_var); exact rfl)
  | (with_reducible exact cm_int) | (with_reducible exact cm_str) | (with_reducible exact cm_non) | (with_reducible exact cm_bl)
  | ((with_reducible apply cm_op); walk_at "cm"; walk_at "cm"; walk_at "co")
  | ((with_reducible apply cm_tupD); walk_at "cad"; walk_at "size")
  | ((with_reducible apply cm_neg); walk_at "cm")
  | ((with_reducible apply cm_call); walk_at "ca"; walk_at "my")
  | walk_at "mycm"
  | ((with_reducible apply cm_cb); walk_at "ca"; walk_at "cc")
  | ((with_reducible apply cm_chain); walk_at "cm"; walk_at "cm"; walk_at "co"; (intro _; walk_at "cm"); walk_at "co")
  | ((with_reducible apply cm_andVF); walk_at "cm"; walk_at "dec0")
  | ((with_reducible apply cm_orVT); walk_at "cm"; walk_at "dec0")
  | ((with_reducible apply cm_ifT); walk_at "ct"; walk_at "dec"; walk_at "cm")
  | ((with_reducible apply cm_ifF); walk_at "ct"; walk_at "dec"; walk_at "cm")
  | ((with_reducible apply cm_andV); walk_at "cm"; (intro _; walk_at "cm"))
  | ((with_reducible apply cm_orV); walk_at "cm"; (intro _; walk_at "cm"))
  | ((with_reducible apply cm_notV); walk_at "cm")
  | (with_reducible exact cm_val))
local macro_rules | `(tactic| walk_at "ct") => `(tactic| first
  | ((with_reducible apply ct_test); walk_at "cm") | ((with_reducible apply ct_B); walk_at "cm") | ((with_reducible apply ct_not); walk_at "ct")
  | ((with_reducible apply ct_andF); walk_at "ct"; walk_at "dec0")
  | ((with_reducible apply ct_orT); walk_at "ct"; walk_at "dec0")
  | ((with_reducible apply ct_and); walk_at "ct"; (intro _; walk_at "ct"))
  | ((with_reducible apply ct_or); walk_at "ct"; (intro _; walk_at "ct")))
local macro_rules | `(tactic| walk_at "size") => `(tactic| focus first | assumption | (simp; done) | (simp; omega) | omega)
local macro_rules | `(tactic| walk_at "dec0") => `(tactic| focus first | rfl | (simp [eHead, eL, eSs, eMs, eS, eM, eT, eN, eNs, eH, eO, rN]; done))
local macro_rules | `(tactic| walk_at "dec") => `(tactic| focus first | rfl | (simp [eHead, eL, eSs, eMs, eS, eM, eT, eN, eNs, eH, eO, rN]; done) | (simp [eHead, eL, eSs, eMs, eS, eM, eT, eN, eNs, eH, eO, rN]; omega) | (simp [eHead, eL, eSs, eMs, eS, eM, eT, eN, eNs, eH, eO, rN, *]; done))
local macro_rules | `(tactic| walk_at "skip") => `(tactic| ((with_reducible apply bs_skip); walk_at "ct"; walk_at "dec"))
local macro_rules | `(tactic| walk_at "take") => `(tactic| (refine bs_seqR ?_; (with_reducible apply bs_ifT); walk_at "ct"; walk_at "dec"))
local macro_rules | `(tactic| walk_at "ret") => `(tactic| (refine bs_ret ?_; (with_reducible apply cm_is); walk_at "cm"))
local macro_rules | `(tactic| walk_at "set") => `(tactic| ((with_reducible apply bs_setS); walk_at "cm"))
local macro_rules | `(tactic| walk_at "drop") => `(tactic| ((with_reducible apply bs_dropS); walk_at "cm"))
local macro_rules | `(tactic| walk_at "norm") => `(tactic| skip)
local macro_rules | `(tactic| walk_at "less") => `(tactic| first | exact less_nil | (apply less_some; walk_at "less") | (apply less_none; walk_at "less"))
local macro_rules | `(tactic| walk_at "flat") => `(tactic| first | exact flat_nil | (refine flat_cons ?_ ?_; (first | exact trivial | exact rfl); walk_at "flat"))
section
variable {P : Program} {w : World} {K : Fg} {mg : Str → Option Value} {base : Heap}

local macro_rules | `(tactic| walk_at "my") => `(tactic| first | exact r_is_whole | exact r_is_whole0 | exact r_need_language (by assumption))
/-! ### is_heard -/
abbrev s_is_heard : Stmt := top 50
abbrev N_is_heard : List Str := ["language", "thing", "one"]
theorem sc_is_heard : FnScope N_is_heard ["language", "thing"] (defScope s_is_heard) := ⟨rfl, rfl, rfl, by decide +kernel, rfl, by decide +kernel, by decide +kernel⟩
def isHeard (L : Lang) (ms : List Msg) : Prop := (∀ m ∈ ms, GoodM L m) ∧ ms.length ≤ 20
def R_is_heard : List W → W → Prop := fun ws w => ∃ L ms, Good L ∧ isHeard L ms ∧ ws = [.d (eL L), .d (eMs ms)] ∧ w = .b true
theorem r_is_heard {L : Lang} {ms : List Msg} (g : Good L) (h : isHeard L ms) : R_is_heard [.d (eL L), .d (eMs ms)] (.b true) := ⟨L, ms, g, h, rfl, rfl⟩
theorem ok_is_heard (T : Txt K mg) (A : DefAt K mg "is_heard" "is_heard" s_is_heard ["language", "thing"]) (C_is_message : CalF P w K mg base 4 "is_message" R_is_message) : CalF P w K mg base 5 "is_heard" R_is_heard := by
  refine calF A sc_is_heard (fun ws u h => ?_) (fun f cdv A outer s H E ws u hr h => ?_)
  · obtain ⟨L, ms, _, _, rfl, _⟩ := h; rfl
  · obtain ⟨L, ms, g, ⟨hm, hl⟩, rfl, rfl⟩ := h
    refine ⟨_, (pss_cons (ps_if (PW.pt (pw_or (pt_not (pt_val (pe_callB (isiK K rfl) rfl T.b_isinstance bo_isinstance (pa_cons (pv 1) (pa_cons (pe_bltn (v := .ty "tuple") rfl T.b_tuple bo_tuple rfl) pa_nil))))) (pw_or1 (pt_cmpR op_gt (pe_callB (lenK K rfl) rfl T.b_len bo_len (pa_cons (pv 1) pa_nil)) (C8.pe_gc rfl T.g_MOST_HEARD_fits) (nomark _))))) (pss_one (ps_ret pe_bl)) pss_nil) (pss_one (ps_ret (pe_callB (allK K rfl rfl) rfl T.b_all bo_all (pa_cons (pe_lc (own := [("one", 2)]) rfl sc_is_heard.nd (piTK K rfl (pv 1)) (blkOk_by (own := [("one", 2)]) (N := N_is_heard) (sc := defScope s_is_heard) (by decide +kernel)) (fun _ _ _ _ _ => (pg_name (i := 2) sc_is_heard.nd rfl (by first | exact Or.inl rfl | exact Or.inr rfl))) (fun _ _ _ _ _ => pts_nil) (fun _ _ _ _ _ => (C8.pe_c C_is_message hr (by decide) rfl (pa_cons (pv 0) (pa_cons (pv 2) pa_nil))))) pa_nil))))), .inl ?_⟩
    walk_at "skip"
    refine bs_ret (cm_is (w' := .b ((ms.map fun _ => true).all id)) (cm_cb (ca_cons (cm_lcb (as := ms) (fun m => .d (eM m)) (fun _ => true) (ci_tupM eM (cm_var rfl) rfl) (by omega) fun m hm' => ⟨_, [2], by simp, cg_name, ?_⟩) ca_nil) cc_all) ?_)
    · exact cm_call (by walk_at "ca") (r_is_message g (hm m hm'))
    · simp

/-! ### need_heard, need_size -/
abbrev s_need_heard : Stmt := top 51
abbrev N_need_heard : List Str := ["language", "heard"]
theorem sc_need_heard : FnScope N_need_heard ["language", "heard"] (defScope s_need_heard) := ⟨rfl, rfl, rfl, by decide +kernel, rfl, by decide +kernel, by decide +kernel⟩
def R_need_heard : List W → W → Prop := fun ws w => ∃ L ms, Good L ∧ isHeard L ms ∧ ws = [.d (eL L), .d (eMs ms)] ∧ w = .d .none
theorem r_need_heard {L : Lang} {ms : List Msg} (g : Good L) (h : isHeard L ms) : R_need_heard [.d (eL L), .d (eMs ms)] (.d .none) := ⟨L, ms, g, h, rfl, rfl⟩
theorem ok_need_heard (T : Txt K mg) (A : DefAt K mg "need_heard" "need_heard" s_need_heard ["language", "heard"]) (C_need_language : CalF P w K mg base 3 "need_language" R_need_language) (C_is_heard : CalF P w K mg base 5 "is_heard" R_is_heard) : CalF P w K mg base 6 "need_heard" R_need_heard := by
  refine calF A sc_need_heard (fun ws u h => ?_) (fun f cdv A outer s H E ws u hr h => ?_)
  · obtain ⟨L, ms, _, _, rfl, _⟩ := h; rfl
  · obtain ⟨L, ms, g, hh, rfl, rfl⟩ := h
    refine ⟨_, (pss_cons (ps_expr (C8.pe_c C_need_language hr (by decide) rfl (pa_cons (pv 0) pa_nil))) (pss_one (ps_if (pt_not (pt_val (C8.pe_c C_is_heard hr (by decide) rfl (pa_cons (pv 0) (pa_cons (pv 1) pa_nil))))) pss_never pss_nil))), .inr ⟨rfl, startW N_need_heard [.d (eL L), .d (eMs ms)], ?_⟩⟩
    walk_at "drop"
    refine bs_ifF (ct_not (ct_test (cm_call (by walk_at "ca") (r_is_heard g hh)))) rfl bs_next
abbrev s_need_size : Stmt := top 52
abbrev N_need_size : List Str := ["language", "heard", "size"]
theorem sc_need_size : FnScope N_need_size ["language", "heard", "size"] (defScope s_need_size) := ⟨rfl, rfl, rfl, by decide +kernel, rfl, by decide +kernel, by decide +kernel⟩
def R_need_size : List W → W → Prop := fun ws w => ∃ L ms n, Good L ∧ isHeard L ms ∧ n ≤ 200 ∧ ws = [.d (eL L), .d (eMs ms), .d (eN n)] ∧ w = .d .none
theorem r_need_size {L : Lang} {ms : List Msg} {n : Nat} (g : Good L) (h : isHeard L ms) (hn : n ≤ 200) : R_need_size [.d (eL L), .d (eMs ms), .d (eN n)] (.d .none) := ⟨L, ms, n, g, h, hn, rfl, rfl⟩
theorem ok_need_size (T : Txt K mg) (A : DefAt K mg "need_size" "need_size" s_need_size ["language", "heard", "size"]) (C_need_heard : CalF P w K mg base 6 "need_heard" R_need_heard) (C_is_whole : CalF P w K mg base 1 "is_whole" R_is_whole) : CalF P w K mg base 7 "need_size" R_need_size := by
  refine calF A sc_need_size (fun ws u h => ?_) (fun f cdv A outer s H E ws u hr h => ?_)
  · obtain ⟨L, ms, n, _, _, _, rfl, _⟩ := h; rfl
  · obtain ⟨L, ms, n, g, hh, hn, rfl, rfl⟩ := h
    refine ⟨_, (pss_cons (ps_expr (C8.pe_c C_need_heard hr (by decide) rfl (pa_cons (pv 0) (pa_cons (pv 1) pa_nil)))) (pss_one (ps_if (pt_not (pt_val (C8.pe_c C_is_whole hr (by decide) rfl (pa_cons (pv 2) (pa_cons pe_int (pa_cons (C8.pe_gc rfl T.g_MOST_SIZE) pa_nil)))))) pss_never pss_nil))), .inr ⟨rfl, startW N_need_size [.d (eL L), .d (eMs ms), .d (eN n)], ?_⟩⟩
    refine bs_dropS (cm_call (by walk_at "ca") (r_need_heard g hh)) ?_
    refine bs_ifF (ct_not (ct_test (by walk_at "cm"))) ?_ bs_next
    simp
    omega

/-! ### behind -/
abbrev s_behind : Stmt := top 53
abbrev N_behind : List Str := ["language", "heard", "here", "sign", "head", "got", "message"]
theorem sc_behind : FnScope N_behind ["language", "heard", "here", "sign"] (defScope s_behind) := ⟨rfl, rfl, rfl, by decide +kernel, rfl, by decide +kernel, by decide +kernel⟩
/-- what stands, what is got, how many were heard -/
structure Pl where
  hd : Option Nat
  got : List Nat
  n : Nat
  deriving DecidableEq
def eB (p : Pl) : D := .tup [eH p.hd, eNs p.got, eN p.n]
def eOB (o : Option Pl) : D := (o.map eB).getD .none
structure GoodP (L : Lang) (ms : List Msg) (p : Pl) : Prop where
  pl : Place L p.hd p.got
  le : p.n ≤ ms.length
def behindS (L : Lang) (ms : List Msg) (p : Pl) (x : NM.Sign) : Option Pl :=
  let t := NM.taken L p.hd p.got x
  match t.2.2 with
  | none => some ⟨t.1, t.2.1, p.n⟩
  | some m => if ms[p.n]? = some m then some ⟨t.1, t.2.1, p.n + 1⟩ else none
theorem good_behind {L : Lang} {ms : List Msg} {p q : Pl} (h : GoodP L ms p) {x : NM.Sign} (hx : L.ok x) (e : behindS L ms p x = some q) : GoodP L ms q := by
  have h1 := (place_taken h.pl hx).1
  unfold behindS at e
  simp only at e
  split at e
  · cases e
    exact ⟨h1, h.le⟩
  · split at e
    · rename_i hm
      cases e
      refine ⟨h1, ?_⟩
      have := (List.getElem?_eq_some_iff.mp hm).1
      exact this
    · cases e
theorem eM_inj {a b : Msg} (h : eM a = eM b) : a = b := by
  obtain ⟨a1, a2⟩ := a
  obtain ⟨b1, b2⟩ := b
  unfold eM at h
  injection h with h
  injection h with h1 h
  injection h with h2 h
  have h1' : a1 = b1 := eN_inj h1
  have h2' : a2 = b2 := eNs_inj h2
  rw [h1', h2']
def R_behind : List W → W → Prop := fun ws w => ∃ L ms p x, Good L ∧ GoodP L ms p ∧ L.ok x ∧ ms.length ≤ 20 ∧ ws = [.d (eL L), .d (eMs ms), .d (eB p), .d (eS x)] ∧ w = .d (eOB (behindS L ms p x))
theorem r_behind {L : Lang} {ms : List Msg} {p : Pl} {x : NM.Sign} (g : Good L) (h : GoodP L ms p) (hx : L.ok x) (hl : ms.length ≤ 20) : R_behind [.d (eL L), .d (eMs ms), .d (eB p), .d (eS x)] (.d (eOB (behindS L ms p x))) := ⟨L, ms, p, x, g, h, hx, hl, rfl, rfl⟩
theorem ok_behind (T : Txt K mg) (A : DefAt K mg "behind" "behind" s_behind ["language", "heard", "here", "sign"]) (C_taken : CalF P w K mg base 2 "taken" R_taken) : CalF P w K mg base 3 "behind" R_behind := by
  refine calF A sc_behind (fun ws u h => ?_) (fun f cdv A outer s H E ws u hr h => ?_)
  · obtain ⟨L, ms, p, x, _, _, _, _, rfl, _⟩ := h; rfl
  · obtain ⟨L, ms, p, x, g, hp, hx, hl, rfl, rfl⟩ := h
    refine ⟨_, (pss_cons (ps_asg (C8.pe_c C_taken hr (by decide) rfl (pa_cons (pv 0) (pa_cons (pe_ix (ixK K rfl) (pv 2) pe_int (fun _ _ => rfl)) (pa_cons (pe_ix (ixK K rfl) (pv 2) pe_int (fun _ _ => rfl)) (pa_cons (pv 3) pa_nil))))) (pgTK (n := 3) K rfl rfl (pgs_cons (pg_name (i := 4) sc_behind.nd rfl (by first | exact Or.inl rfl | exact Or.inr rfl)) (pgs_cons (pg_name (i := 5) sc_behind.nd rfl (by first | exact Or.inl rfl | exact Or.inr rfl)) (pgs_cons (pg_name (i := 6) sc_behind.nd rfl (by first | exact Or.inl rfl | exact Or.inr rfl)) pgs_nil))))) (pss_cons (ps_if (pt_cmpR op_isN (pv 6) pe_non (nomark _)) (pss_one (ps_ret (pe_tup (pa_cons (pv 4) (pa_cons (pv 5) (pa_cons (pe_ix (ixK K rfl) (pv 2) pe_int (fun _ _ => rfl)) pa_nil)))))) pss_nil) (pss_cons (ps_if (PW.pt (pw_or (pt_cmpR (eqK K rfl hr) (pe_ix (ixK K rfl) (pv 2) pe_int (fun _ _ => rfl)) (pe_callB (lenK K rfl) rfl T.b_len bo_len (pa_cons (pv 1) pa_nil)) (nomark _)) (pw_or1 (pt_cmpR (neK K rfl hr) (pe_ix (ixK K rfl) (pv 1) (pe_ix (ixK K rfl) (pv 2) pe_int (fun _ _ => rfl)) (fun _ _ => rfl)) (pv 6) (nomark _))))) (pss_one (ps_ret pe_non)) pss_nil) (pss_one (ps_ret (pe_tup (pa_cons (pv 4) (pa_cons (pv 5) (pa_cons (pe_op (addK K rfl) (pe_ix (ixK K rfl) (pv 2) pe_int (fun _ _ => rfl)) pe_int) pa_nil))))))))), .inl ?_⟩
    obtain ⟨hd, got, n⟩ := p
    have hle : n ≤ ms.length := hp.le
    refine bs_asgS (w := .d (.tup [eH (NM.taken L hd got x).1, eNs (NM.taken L hd got x).2.1, eO (NM.taken L hd got x).2.2])) ?_ (cg_tupE rfl (cgs_cons cg_name (cgs_cons cg_name (cgs_cons cg_name cgs_nil))) rfl) ?_
    · exact cm_call (by walk_at "ca") (r_taken hp.pl g hx)
    generalize ht : NM.taken L hd got x = t
    obtain ⟨h', got', m⟩ := t
    cases m with
    | none =>
      walk_at "take"
      walk_at "ret"
      simp [behindS, ht, eOB, eB]
    | some m =>
      walk_at "skip"
      by_cases hlt : n < ms.length
      · have hget : atI (ms.map eM) ((n : Nat) : Int) = some (eM ms[n]) := atI_map eM hlt
        have test : CmT K (tOr (tTest (tOp (rEqD K) (tOp (rIx K) (tVar 2) (tC (.int 2))) (tCB (rLen K) (tCons (tVar 1) tNil)))) (tTest (tOp (rNeD K) (tOp (rIx K) (tVar 1) (tOp (rIx K) (tVar 2) (tC (.int 2)))) (tVar 6))))
            [some (.d (eL L)), some (.d (eMs ms)), some (.d (eB ⟨hd, got, n⟩)), some (.d (eS x)), some (.d (eH h')), some (.d (eNs got')), some (.d (eO (some m)))] (decide (eN n = .num (ms.length : Nat)) || !decide (eM ms[n] = eM m)) := by
          refine ct_or (ct_test ?_) fun _ => ct_test ?_
          · exact cm_is (by walk_at "cm") (by simp)
          · exact cm_op (cm_op (cm_var rfl) (by walk_at "cm") (co_ixTe rfl hget)) (cm_var rfl) (co_ne sh_m sh_m)
        have e0 : decide (eN n = .num (ms.length : Nat)) = false := by simp; omega
        rw [e0, Bool.false_or] at test
        by_cases hm : ms[n] = m
        · have e1 : (!decide (eM ms[n] = eM m)) = false := by simp [hm]
          rw [e1] at test
          refine bs_skip test rfl ?_
          refine bs_ret (cm_is (by walk_at "cm") ?_)
          have hm' : ms[n]? = some m := by rw [List.getElem?_eq_getElem hlt, hm]
          simp [behindS, ht, hm', eOB, eB]
        · have e1 : (!decide (eM ms[n] = eM m)) = true := by
            rw [decide_eq_false fun e => hm (eM_inj e)]
            rfl
          rw [e1] at test
          refine bs_seqR (bs_ifT test rfl (bs_ret (cm_is cm_non ?_)))
          have hm' : ¬ ms[n]? = some m := by rw [List.getElem?_eq_getElem hlt]; exact fun e => hm (Option.some.inj e)
          simp [behindS, ht, hm', eOB]
      · have en : n = ms.length := by omega
        subst en
        refine bs_seqR (bs_ifT (ct_orT (ct_test (cm_is (by walk_at "cm") rfl)) (by simp)) rfl (bs_ret (cm_is cm_non ?_)))
        simp [behindS, ht, eOB]
end
end NW
/-! fits.py: all that can stand -/
namespace NW
open PySem PySem.Spec PyProof.Rows L2 StX NM
local macro_rules | `(tactic| walk_at "my") => `(tactic| fail)
local macro_rules | `(tactic| walk_at "mycm") => `(tactic| fail)
local macro_rules | `(tactic| walk_at "myco") => `(tactic| fail)
local macro_rules | `(tactic| walk_at "mycc") => `(tactic| fail)
local macro_rules | `(tactic| walk_at "sh") => `(tactic| first | assumption | exact sh_n | exact Sh.num | exact Sh.non | exact sh_role | exact Sh.text (by decide +kernel) | exact sh_ns | exact sh_s | exact sh_m | exact sh_o | exact sh_h | exact sh_t | exact sh_ss | exact sh_ms | exact sh_head | exact sh_L | exact sh_nil | (apply sh_cons <;> walk_at "sh"))
local macro_rules | `(tactic| walk_at "shs") => `(tactic| first | assumption | exact shs_nil | (apply shs_cons; walk_at "sh"; walk_at "shs"))
local macro_rules | `(tactic| walk_at "co") => `(tactic| first
  | ((with_reducible apply co_ixTe); exact rfl; exact rfl)
  | ((with_reducible exact co_ixDl))
  | ((with_reducible apply co_ixL); exact rfl)
  | (with_reducible exact co_lt) | (with_reducible exact co_le) | (with_reducible exact co_gt) | (with_reducible exact co_ge) | (with_reducible exact co_sub)
  | (with_reducible exact co_isN) | (with_reducible exact co_isNotN)
  | ((with_reducible apply co_eq) <;> walk_at "sh") | ((with_reducible apply co_ne) <;> walk_at "sh")
  | (with_reducible exact co_add)
  | ((with_reducible apply co_inTe); exact rfl; walk_at "sh"; walk_at "shs")
  | walk_at "myco")
local macro_rules | `(tactic| walk_at "cc") => `(tactic| first
  | ((with_reducible apply cc_lenTe); exact rfl) | (with_reducible exact cc_lenL) | (with_reducible exact cc_all) | (with_reducible exact cc_any) | (with_reducible exact cc_tuple) | (with_reducible exact cc_intI)
  | (with_reducible exact cc_intB) | (with_reducible exact cc_min2) | (with_reducible exact cc_listT)
  | ((with_reducible apply cc_isi); first | exact isi_int rfl | exact isi_bool | exact isi_tuple rfl | exact isi_str rfl)
  | walk_at "mycc")
local macro_rules | `(tactic| walk_at "ca") => `(tactic| first
  | (with_reducible exact ca_nil)
  | ((with_reducible apply ca_cons); walk_at "cm"; walk_at "ca"))
local macro_rules | `(tactic| walk_at "cad") => `(tactic| first
  | (with_reducible exact cad_nil)
  | ((with_reducible apply cad_cons); walk_at "cm"; walk_at "cad")
  | ((with_reducible apply cad_starE); walk_at "cm"; exact rfl; walk_at "cad"))
local macro_rules | `(tactic| walk_at "cm") => `(tactic| first
  | ((with_reducible apply cm_var); exact rfl)
  | (with_reducible exact cm_int) | (with_reducible exact cm_str) | (with_reducible exact cm_non) | (with_reducible exact cm_bl)
  | ((with_reducible apply cm_op); walk_at "cm"; walk_at "cm"; walk_at "co")
  | ((with_reducible apply cm_tupD); walk_at "cad"; walk_at "size")
  | ((with_reducible apply cm_neg); walk_at "cm")
  | ((with_reducible apply cm_call); walk_at "ca"; walk_at "my")
  | walk_at "mycm"
  | ((with_reducible apply cm_cb); walk_at "ca"; walk_at "cc")
  | ((with_reducible apply cm_chain); walk_at "cm"; walk_at "cm"; walk_at "co"; (intro _; walk_at "cm"); walk_at "co")
  | ((with_reducible apply cm_andVF); walk_at "cm"; walk_at "dec0")
  | ((with_reducible apply cm_orVT); walk_at "cm"; walk_at "dec0")
  | ((with_reducible apply cm_ifT); walk_at "ct"; walk_at "dec"; walk_at "cm")
  | ((with_reducible apply cm_ifF); walk_at "ct"; walk_at "dec"; walk_at "cm")
  | ((with_reducible apply cm_andV); walk_at "cm"; (intro _; walk_at "cm"))
  | ((with_reducible apply cm_orV); walk_at "cm"; (intro _; walk_at "cm"))
  | ((with_reducible apply cm_notV); walk_at "cm")
  | (with_reducible exact cm_val))
local macro_rules | `(tactic| walk_at "ct") => `(tactic| first
  | ((with_reducible apply ct_test); walk_at "cm") | ((with_reducible apply ct_B); walk_at "cm") | ((with_reducible apply ct_not); walk_at "ct")
  | ((with_reducible apply ct_andF); walk_at "ct"; walk_at "dec0")
  | ((with_reducible apply ct_orT); walk_at "ct"; walk_at "dec0")
  | ((with_reducible apply ct_and); walk_at "ct"; (intro _; walk_at "ct"))
  | ((with_reducible apply ct_or); walk_at "ct"; (intro _; walk_at "ct")))
local macro_rules | `(tactic| walk_at "size") => `(tactic| focus first | assumption | (simp; done) | (simp; omega) | omega)
local macro_rules | `(tactic| walk_at "dec0") => `(tactic| focus first | rfl | (simp [eHead, eL, eSs, eMs, eS, eM, eT, eN, eNs, eH, eO, rN]; done))
local macro_rules | `(tactic| walk_at "dec") => `(tactic| focus first | rfl | (simp [eHead, eL, eSs, eMs, eS, eM, eT, eN, eNs, eH, eO, rN]; done) | (simp [eHead, eL, eSs, eMs, eS, eM, eT, eN, eNs, eH, eO, rN]; omega) | (simp [eHead, eL, eSs, eMs, eS, eM, eT, eN, eNs, eH, eO, rN, *]; done))
local macro_rules | `(tactic| walk_at "skip") => `(tactic| ((with_reducible apply bs_skip); walk_at "ct"; walk_at "dec"))
local macro_rules | `(tactic| walk_at "take") => `(tactic| (refine bs_seqR ?_; (with_reducible apply bs_ifT); walk_at "ct"; walk_at "dec"))
local macro_rules | `(tactic| walk_at "ret") => `(tactic| (refine bs_ret ?_; (with_reducible apply cm_is); walk_at "cm"))
local macro_rules | `(tactic| walk_at "set") => `(tactic| ((with_reducible apply bs_setS); walk_at "cm"))
local macro_rules | `(tactic| walk_at "drop") => `(tactic| ((with_reducible apply bs_dropS); walk_at "cm"))
local macro_rules | `(tactic| walk_at "norm") => `(tactic| skip)
local macro_rules | `(tactic| walk_at "less") => `(tactic| first | exact less_nil | (apply less_some; walk_at "less") | (apply less_none; walk_at "less"))
local macro_rules | `(tactic| walk_at "flat") => `(tactic| first | exact flat_nil | (refine flat_cons ?_ ?_; (first | exact trivial | exact rfl); walk_at "flat"))
section
variable {P : Program} {w : World} {K : Fg} {mg : Str → Option Value} {base : Heap}

/-! ### plain: what is reached -/
def begin0 : Pl := ⟨none, [], 0⟩
def nextsS (L : Lang) (ms : List Msg) (p : Pl) : List (Option Pl) := (signs L).map (behindS L ms p)
structure NetOk (L : Lang) (ms : List Msg) (ps : List Pl) : Prop where
  bg : begin0 ∈ ps
  nd : ps.Nodup
  good : ∀ p ∈ ps, GoodP L ms p
  shut : ∀ p ∈ ps, ∀ x ∈ signs L, ∀ q, behindS L ms p x = some q → q ∈ ps
/-- on the way -/
structure Way (L : Lang) (ms : List Msg) (ps ws : List Pl) : Prop where
  bg : begin0 ∈ ps ∨ begin0 ∈ ws
  nd : ps.Nodup
  good : ∀ p ∈ ps, GoodP L ms p
  goodW : ∀ p ∈ ws, GoodP L ms p
  shut : ∀ p ∈ ps, ∀ x ∈ signs L, ∀ q, behindS L ms p x = some q → q ∈ ps ∨ q ∈ ws
theorem good_begin {L : Lang} {ms : List Msg} : GoodP L ms begin0 := ⟨⟨fun _ => rfl, (fun _ e => by cases e), by simp [begin0]⟩, by simp [begin0]⟩
theorem way0 (L : Lang) (ms : List Msg) : Way L ms [] [begin0] := ⟨.inr (by simp), List.nodup_nil, (fun _ h => by cases h), (fun p h => by simp at h; subst h; exact good_begin), (fun _ h => by cases h)⟩
theorem Way.done {L : Lang} {ms : List Msg} {ps : List Pl} (h : Way L ms ps []) : NetOk L ms ps := ⟨h.bg.elim id fun q => by simp at q, h.nd, h.good, fun p hp x hx q e => (h.shut p hp x hx q e).elim id fun z => by simp at z⟩
theorem Way.skip {L : Lang} {ms : List Msg} {ps ws : List Pl} {p : Pl} (h : Way L ms ps (ws ++ [p])) (hp : p ∈ ps) : Way L ms ps ws := by
  refine ⟨?_, h.nd, h.good, fun q hq => h.goodW q (by simp [hq]), fun q hq x hx u e => ?_⟩
  · rcases h.bg with z | z
    · exact .inl z
    · rcases List.mem_append.mp z with z | z
      · exact .inr z
      · simp at z
        exact .inl (z ▸ hp)
  · rcases h.shut q hq x hx u e with z | z
    · exact .inl z
    · rcases List.mem_append.mp z with z | z
      · exact .inr z
      · simp at z
        exact .inl (z ▸ hp)
theorem Way.step {L : Lang} {ms : List Msg} {ps ws : List Pl} {p : Pl} (h : Way L ms ps (ws ++ [p])) (hp : p ∉ ps) : Way L ms (ps ++ [p]) (ws ++ (nextsS L ms p).filterMap id) := by
  have gp := h.goodW p (by simp)
  have mem : ∀ q, q ∈ (nextsS L ms p).filterMap id ↔ ∃ x ∈ signs L, behindS L ms p x = some q := fun q => by simp [nextsS]
  refine ⟨?_, ?_, fun q hq => ?_, fun q hq => ?_, fun q hq x hx u e => ?_⟩
  · rcases h.bg with z | z
    · exact .inl (by simp [z])
    · rcases List.mem_append.mp z with z | z
      · exact .inr (by simp [z])
      · simp at z
        exact .inl (by simp [z])
  · rw [List.nodup_append]
    exact ⟨h.nd, by simp, fun a ha b hb e => by simp at hb; subst hb; subst e; exact hp ha⟩
  · rcases List.mem_append.mp hq with z | z
    · exact h.good q z
    · simp at z
      exact z ▸ gp
  · rcases List.mem_append.mp hq with z | z
    · exact h.goodW q (by simp [z])
    · obtain ⟨x, hx, e⟩ := (mem q).mp z
      exact good_behind gp (mem_signs.mp hx) e
  · rcases List.mem_append.mp hq with z | z
    · rcases h.shut q z x hx u e with y | y
      · exact .inl (by simp [y])
      · rcases List.mem_append.mp y with y | y
        · exact .inr (by simp [y])
        · simp at y
          exact .inl (by simp [y])
    · simp at z
      subst z
      exact .inr (List.mem_append_right _ ((mem u).mpr ⟨x, hx, e⟩))
theorem nodup_len {α : Type} [DecidableEq α] : ∀ {as bs : List α}, as.Nodup → (∀ a ∈ as, a ∈ bs) → as.length ≤ bs.length
  | [], bs, _, _ => by simp
  | a :: as, bs, hn, hs => by
    rw [List.nodup_cons] at hn
    have ha := hs a List.mem_cons_self
    have h1 := nodup_len (as := as) (bs := bs.erase a) hn.2 fun b hb => by
      have hne : b ≠ a := fun e => hn.1 (e ▸ hb)
      exact (List.mem_erase_of_ne hne).mpr (hs b (List.mem_cons_of_mem _ hb))
    have h2 := List.length_erase_of_mem ha
    have h3 : 0 < bs.length := List.length_pos_of_mem ha
    rw [List.length_cons]
    omega
def allP (L : Lang) (ms : List Msg) : List Pl := (places L).flatMap fun p => (List.range (ms.length + 1)).map fun n => ⟨p.1, p.2, n⟩
theorem mem_allP {L : Lang} {ms : List Msg} {p : Pl} (h : GoodP L ms p) : p ∈ allP L ms := by
  simp only [allP, List.mem_flatMap, List.mem_map, List.mem_range]
  exact ⟨(p.hd, p.got), mem_places.mpr h.pl, p.n, by have := h.le; omega, rfl⟩
theorem allP_len {L : Lang} (g : Good L) {ms : List Msg} (hl : ms.length ≤ 20) : (allP L ms).length ≤ 129 * 21 := by
  have h1 := flat_len (fun p : Option Nat × List Nat => (List.range (ms.length + 1)).map fun n => (⟨p.1, p.2, n⟩ : Pl)) 21 (places L) fun p _ => by
    rw [List.length_map, List.length_range]
    omega
  have h2 := places_len g
  unfold allP
  omega
theorem net_len {L : Lang} (g : Good L) {ms : List Msg} (hl : ms.length ≤ 20) {ps : List Pl} (hn : ps.Nodup) (hg : ∀ p ∈ ps, GoodP L ms p) : ps.length ≤ 129 * 21 :=
  Nat.le_trans (nodup_len hn fun p hp => mem_allP (hg p hp)) (allP_len g hl)
theorem eB_inj {a b : Pl} (h : eB a = eB b) : a = b := by
  obtain ⟨a1, a2, a3⟩ := a
  obtain ⟨b1, b2, b3⟩ := b
  unfold eB at h
  injection h with h
  injection h with h1 h
  injection h with h2 h
  injection h with h3 h
  have h1 := eH_inj h1
  have h2 := eNs_inj h2
  have h3 := eN_inj h3
  subst h1 h2 h3
  rfl
theorem sh_B {k : Nat} {p : Pl} : Sh (k + 2) (eB p) := sh_cons sh_h (sh_cons sh_ns (sh_cons sh_n sh_nil))
theorem dep_B (p : Pl) : (eB p).depth ≤ 8 := by
  have := Sh.kdep (n := 2) _ (sh_B (k := 0) (p := p))
  omega
theorem valN_map {β : Type} {ps : List Pl} (f : Pl → β) {p : Pl} : valN (ps.map fun q => (eB q, f q)) (eB p) = if p ∈ ps then some (f p) else none := by
  induction ps with
  | nil => simp [valN]
  | cons q qs ih =>
    by_cases e : q = p
    · subst e
      simp [valN]
    · have e' : ¬ eB q = eB p := fun z => e (eB_inj z)
      have e'' : ¬ p = q := fun z => e z.symm
      have h1 : valN ((q :: qs).map fun q => (eB q, f q)) (eB p) = valN (qs.map fun q => (eB q, f q)) (eB p) := by simp [valN, List.find?_cons, e']
      rw [h1, ih]
      simp [e'']
/-! ### places_of -/
abbrev s_places_of_1 : Stmt := top 54
abbrev N_places_of_1 : List Str := ["language", "heard", "begin", "found", "waiting", "here", "sign", "there"]
theorem sc_places_of_1 : FnScope N_places_of_1 ["language", "heard"] (defScope s_places_of_1) := ⟨rfl, rfl, rfl, by decide +kernel, rfl, by decide +kernel, by decide +kernel⟩
/-- the dict's values, list by list -/
def FL (K : Fg) (l : Addr) (H : Hp) (v : V) (ds : List D) : Prop := ∃ c xs, v = .ref c ∧ c ≠ l ∧ H c = some (.lst xs) ∧ RpA K H xs ds
def kvP (L : Lang) (ms : List Msg) (ps : List Pl) : List (D × List D) := ps.map fun p => (eB p, (nextsS L ms p).map eOB)
structure PSt (K : Fg) (w : World) (L : Lang) (ms : List Msg) (H0 : Hp) (a l : Addr) (r : Sl) (ps ws : List Pl) (σ : St) (H : Hp) : Prop where
  env : EnvOk K r σ H
  same : Same H0 H
  fa : H0 a = none
  fl : H0 l = none
  dic : ∃ ep es, H a = some (DNO w a ep es) ∧ KeysOk K H es ∧ Paired (PRel (FL K l H)) (kvP L ms ps) es
  lst : ∃ vs, H l = some (.lst vs) ∧ RpA K H vs (ws.map eB)
theorem FL.same {l : Addr} {H H' : Hp} (s : Same H H') {v : V} {ds : List D} (h : FL K l H v ds) : FL K l H' v ds := by
  obtain ⟨c, xs, e, n, h1, h2⟩ := h
  exact ⟨c, xs, e, n, s _ _ h1, RpA.keep (Keep.of s) _ _ h2⟩
theorem PSt.go {L : Lang} {ms : List Msg} {H0 : Hp} {a l : Addr} {r r' : Sl} {ps ws : List Pl} {σ σ' : St} {H H' : Hp} (h : PSt K w L ms H0 a l r ps ws σ H) (s : Same H H') (e : EnvOk K r' σ' H') : PSt K w L ms H0 a l r' ps ws σ' H' := by
  obtain ⟨ep, es, h1, h2, h3⟩ := h.dic
  obtain ⟨vs, h4, h5⟩ := h.lst
  exact ⟨e, h.same.trans s, h.fa, h.fl, ⟨ep, es, s _ _ h1, h2.keep (Keep.of s), Paired.mapP h3 fun _ _ z => ⟨z.1, z.2.same s⟩⟩, vs, s _ _ h4, RpA.keep (Keep.of s) _ _ h5⟩
theorem PSt.ne {L : Lang} {ms : List Msg} {H0 : Hp} {a l : Addr} {r : Sl} {ps ws : List Pl} {σ : St} {H : Hp} (h : PSt K w L ms H0 a l r ps ws σ H) : a ≠ l := fun z => by
  obtain ⟨ep, es, h1, _⟩ := h.dic
  obtain ⟨vs, h4, _⟩ := h.lst
  rw [z, h4] at h1
  cases h1
/-- the list's object is changed -/
theorem PSt.putL {L : Lang} {ms : List Msg} {H0 : Hp} {a l : Addr} {r : Sl} {ps ws ws' : List Pl} {σ : St} {H : Hp} (h : PSt K w L ms H0 a l r ps ws σ H) (st : StayS l r) {us : List V} (hu : RpA K H us (ws'.map eB)) : PSt K w L ms H0 a l r ps ws' σ (upd H l (.lst us)) := by
  obtain ⟨ep, es, h1, h2, h3⟩ := h.dic
  obtain ⟨vs, h4, h5⟩ := h.lst
  have nt : ∀ xs, H l ≠ some (.tup xs) := fun xs q => by rw [h4] at q; cases q
  have k : Keep H (upd H l (.lst us)) := Keep.put nt
  refine ⟨h.env.stay st nt, Same.put0 h.same h.fl, h.fa, h.fl, ⟨ep, es, by rw [upd_ne h.ne]; exact h1, h2.keep k, Paired.mapP h3 fun _ _ z => ⟨z.1, ?_⟩⟩, us, upd_same, RpA.keep k _ _ hu⟩
  obtain ⟨c, xs, e, n, z1, z2⟩ := z.2
  exact ⟨c, xs, e, n, by rw [upd_ne n]; exact z1, RpA.keep k _ _ z2⟩
/-- the dict's object is changed: a new key -/
theorem PSt.putA {L : Lang} {ms : List Msg} {H0 : Hp} {a l : Addr} {r : Sl} {ps ws : List Pl} {p : Pl} {σ : St} {H : Hp} (h : PSt K w L ms H0 a l r ps ws σ H) (st : StayS a r) (hp : p ∉ ps) {b : Addr} {v : V} (hb : Rp K H (.ref b) (eB p)) (hv : FL K l H v ((nextsS L ms p).map eOB)) :
    ∃ ep es, H a = some (DNO w a ep es) ∧ KeysOk K H es ∧ KeyAt K H b (eB p) ∧ es.length = ps.length ∧ ∀ ep', PSt K w L ms H0 a l r (ps ++ [p]) ws σ (upd H a (DNO w a ep' (putN es (eB p) b v))) := by
  obtain ⟨ep, es, h1, h2, h3⟩ := h.dic
  obtain ⟨vs, h4, h5⟩ := h.lst
  have nt : ∀ xs, H a ≠ some (.tup xs) := fun xs q => by rw [h1] at q; cases q
  refine ⟨ep, es, h1, h2, ⟨hb, dep_B p⟩, by have := Paired.length h3; rw [kvP, List.length_map] at this; exact this.symm, fun ep' => ?_⟩
  have k : Keep H (upd H a (DNO w a ep' (putN es (eB p) b v))) := Keep.put nt
  have fk : ∀ (u : V) (ds : List D), FL K l H u ds → FL K l (upd H a (DNO w a ep' (putN es (eB p) b v))) u ds := fun u ds ⟨c, xs, e, n, z1, z2⟩ => ⟨c, xs, e, n, by
    rw [upd_ne fun q => by rw [q, h1] at z1; cases z1]
    exact z1, RpA.keep k _ _ z2⟩
  have e0 : valN (kvP L ms ps) (eB p) = none := by
    unfold kvP
    rw [valN_map (fun q => (nextsS L ms q).map eOB), if_neg hp]
  have e1 : valN es (eB p) = none := by
    rcases PRel.find h3 (eB p) with ⟨_, z⟩ | ⟨_, _, _, z, _⟩
    · exact z
    · rw [e0] at z; cases z
  have fin : ∀ H', (∀ (u : V) (ds : List D), FL K l H u ds → FL K l H' u ds) → Paired (PRel (FL K l H')) (kvP L ms (ps ++ [p])) (putN es (eB p) b v) := fun H' fk => by
    rw [putN_new e1]
    have e2 : kvP L ms (ps ++ [p]) = kvP L ms ps ++ [(eB p, (nextsS L ms p).map eOB)] := by simp [kvP]
    rw [e2]
    exact Paired.snoc (Paired.mapP h3 fun _ _ z => ⟨z.1, fk _ _ z.2⟩) ⟨rfl, fk _ _ hv⟩
  exact ⟨h.env.stay st nt, Same.put0 h.same h.fa, h.fa, h.fl, ⟨ep', _, upd_same, (h2.put ⟨hb, dep_B p⟩ v).keep k, fin _ fk⟩, vs, by rw [upd_ne (Ne.symm h.ne)]; exact h4, RpA.keep k _ _ h5⟩
/-- the net, as it is given back -/
def netK (K : Fg) (w : World) (L : Lang) (ms : List Msg) (ps : List Pl) : W := dnW K w (ps.map fun p => (eB p, .l ((nextsS L ms p).map eOB)))
def R_places_fits (K : Fg) (w : World) : List W → W → Prop := fun ws u => ∃ L ms, Good L ∧ isHeard L ms ∧ ws = [.d (eL L), .d (eMs ms)] ∧ u = exW K (NetOk L ms) (netK K w L ms)
theorem r_places_fits {L : Lang} {ms : List Msg} (g : Good L) (h : isHeard L ms) : R_places_fits K w [.d (eL L), .d (eMs ms)] (exW K (NetOk L ms) (netK K w L ms)) := ⟨L, ms, g, h, rfl, rfl⟩
theorem nexts_len {L : Lang} (g : Good L) (ms : List Msg) (p : Pl) : (nextsS L ms p).length ≤ 10 := by
  have h4 := g.h4
  have n4 := g.n4
  have m2 := g.m2
  rw [nextsS, List.length_map, NM.signs_length]
  omega
theorem fmap_len {α β : Type} (f : α → Option β) : ∀ as : List α, (as.filterMap f).length ≤ as.length
  | [] => by simp
  | a :: as => by
    have := fmap_len f as
    rw [List.filterMap_cons]
    split
    · simp; omega
    · simp; omega
local macro_rules | `(tactic| walk_at "stay") => `(tactic| first | exact stay_nil | (refine stay_cons ?_ ?_; (first | exact stay_none | exact stay_d | exact stay_b | exact stay_v | exact stay_old (by assumption)); walk_at "stay"))
theorem PSt.net {L : Lang} {ms : List Msg} {H0 : Hp} {a l : Addr} {r : Sl} {ps ws : List Pl} {σ : St} {H : Hp} (h : PSt K w L ms H0 a l r ps ws σ H) : dnP K w (ps.map fun p => (eB p, .l ((nextsS L ms p).map eOB))) (.ref a) H := by
  obtain ⟨ep, es, h1, h2, h3⟩ := h.dic
  refine ⟨a, ep, es, rfl, h1, h2, ?_⟩
  have key : ∀ (kvs : List (D × List D)) (es : List NE), Paired (PRel (FL K l H)) kvs es → Paired (DRel K H) (kvs.map fun p => (p.1, W.l p.2)) es := by
    intro kvs es q
    induction q with
    | nil => exact .nil
    | cons hq t ih =>
      obtain ⟨h1, c, xs, e, n, z1, z2⟩ := hq
      exact .cons ⟨h1, c, xs, e, z1, z2⟩ ih
  have := key _ _ h3
  rw [kvP, List.map_map] at this
  exact this
theorem PSt.val {L : Lang} {ms : List Msg} {H0 : Hp} {a l : Addr} {r : Sl} {ps ws : List Pl} {σ : St} {H : Hp} (h : PSt K w L ms H0 a l r ps ws σ H) (p : Pl) : ∃ ep es, H a = some (DNO w a ep es) ∧ KeysOk K H es ∧ (valN es (eB p)).isSome = decide (p ∈ ps) := by
  obtain ⟨ep, es, h1, h2, h3⟩ := h.dic
  refine ⟨ep, es, h1, h2, ?_⟩
  have e0 : valN (kvP L ms ps) (eB p) = if p ∈ ps then some ((nextsS L ms p).map eOB) else none := valN_map (fun q => (nextsS L ms q).map eOB)
  rcases PRel.find h3 (eB p) with ⟨z1, z2⟩ | ⟨u, c, v, z1, z2, _⟩
  · rw [z2]
    rw [e0] at z1
    by_cases hp : p ∈ ps
    · rw [if_pos hp] at z1; cases z1
    · simp [hp]
  · rw [z2]
    rw [e0] at z1
    by_cases hp : p ∈ ps
    · simp [hp]
    · rw [if_neg hp] at z1; cases z1
theorem eOB_some {os : List (Option Pl)} : (os.filter (·.isSome)).map eOB = (os.filterMap id).map eB := by
  induction os with
  | nil => rfl
  | cons o os ih =>
    cases o with
    | none => simpa using ih
    | some p => simpa [eOB] using ih
theorem ok_places_fits (T : Txt K mg) (A : DefAt K mg "places_of" "places_of_fits" s_places_of_1 ["language", "heard"]) (C_signs_of : CalF P w K mg base 1 "signs_of" R_signs_of) (C_behind : CalF P w K mg base 3 "behind" R_behind) :
    CalF P w K mg base 4 "places_of_fits" (R_places_fits K w) := by
  refine calF A sc_places_of_1 (fun ws u h => ?_) (fun f cdv A outer s H E ws u hr h => ?_)
  · obtain ⟨L, ms, _, _, rfl, _⟩ := h; rfl
  · obtain ⟨L, ms, g, ⟨hm, hl⟩, rfl, rfl⟩ := h
    refine ⟨_, (pss_cons (ps_set (i := 2) sc_places_of_1.nd rfl (by first | exact Or.inl rfl | exact Or.inr rfl) (pe_tup (pa_cons (pe_un un_neg pe_int) (pa_cons (pe_tup pa_nil) (pa_cons pe_int pa_nil))))) (pss_cons (ps_par (i := 3) (j := 4) rfl sc_places_of_1.nd rfl rfl (by decide) rfl rfl (pa_cons (pe_dnewN w rfl) (pa_cons (pe_lst (pa_cons (pv 2) pa_nil)) pa_nil)) rfl) (pss_cons (ps_while PassesOwn.never (pt_cmpR (neK K rfl hr) (pv 4) (pe_lst pa_nil) (nomark _)) (pss_cons (ps_set (i := 5) sc_places_of_1.nd rfl (by first | exact Or.inl rfl | exact Or.inr rfl) (bm0K K rfl (pe_bm0 PySem.F.plainAttrs_list PySem.F.slot_list_pop PySem.F.type_list_pop mt_pop (pv 4)))) (pss_one (ps_if (pt_cmpR (op_notInN K w rfl rfl hr) (pv 5) (pv 3) rfl) (pss_cons (ps_dputN K w rfl rfl hr (pv 3) (pv 5) (pe_lc (own := [("sign", 6)]) rfl sc_places_of_1.nd (piLK K rfl (C8.pe_c C_signs_of hr (by decide) rfl (pa_cons (pv 0) pa_nil))) (blkOk_by (own := [("sign", 6)]) (N := N_places_of_1) (sc := defScope s_places_of_1) (by decide +kernel)) (fun _ _ _ _ _ => (pg_name (i := 6) sc_places_of_1.nd rfl (by first | exact Or.inl rfl | exact Or.inr rfl))) (fun _ _ _ _ _ => pts_nil) (fun _ _ _ _ _ => (C8.pe_c C_behind hr (by decide) rfl (pa_cons (pv 0) (pa_cons (pv 1) (pa_cons (pv 5) (pa_cons (pv 6) pa_nil))))))) rfl) (pss_one (ps_expr (bmK K rfl (pe_bm PySem.F.plainAttrs_list PySem.F.slot_list_extend PySem.F.type_list_extend mt_extend (pv 4) (pa_cons (pe_lc (own := [("there", 7)]) rfl sc_places_of_1.nd (piLK K rfl (pe_dgetN K w rfl rfl hr (pv 3) (pv 5) (fun _ _ => rfl))) (blkOk_by (own := [("there", 7)]) (N := N_places_of_1) (sc := defScope s_places_of_1) (by decide +kernel)) (fun _ _ _ _ _ => (pg_name (i := 7) sc_places_of_1.nd rfl (by first | exact Or.inl rfl | exact Or.inr rfl))) (fun _ _ _ _ _ => pts_one (pt_cmpR op_notN (pv 7) pe_non (nomark _))) (fun _ _ _ _ _ => (pv 7))) pa_nil)))))) pss_nil)))) (pss_one (ps_ret (pv 3)))))), .inl ?_⟩
    refine bs_setS (w := .d (eB begin0)) (cm_is (by walk_at "cm") (by rfl)) ?_
    intro D σ H e p
    refine (show tSeq (tPar _ _ (tCons (tDNewN w) (tCons (tLst (tCons (tVar 2) tNil)) tNil))) _ D σ H from fun a ha => ?_)
    have e1 := e.same (Same.new (o := DNO w a 0 []) ha)
    refine cn_lst (ds := [eB begin0]) (cad_cons (cm_var rfl) cad_nil) (by simp) σ _ _ e1 fun l H1 vs s1 hlf hl1 hr1 => ?_
    refine ⟨_, _, rfl, ?_⟩
    let R : Sl := [some (.d (eL L)), some (.d (eMs ms)), some (.d (eB begin0)), some (.v (.ref a)), some (.v (.ref l)), none, none, none]
    have hne : ¬ l = a := fun z => by rw [z, upd_same] at hlf; cases hlf
    have fl0 : H l = none := by rwa [upd_ne hne] at hlf
    have st0 : PSt K w L ms H a l R [] [begin0] ((σ.set 3 (some (.ref a))).set 4 (some (.ref l))) H1 := by
      refine ⟨?_, (Same.new ha).trans s1, ha, fl0, ⟨0, [], s1 _ _ upd_same, (fun p hp => nomatch hp), .nil⟩, vs, hl1, hr1⟩
      exact ((e1.same s1).set (i := 3) (w := .v (.ref a)) rfl).set (i := 4) (w := .v (.ref l)) rfl
    refine (show tSeq (tWhile _ _) _ D _ H1 from ⟨fun m σ1 H1 => ∃ ps ws, m = (129 * 21 - ps.length) * 11 + ws.length ∧ m ≤ 30000 ∧ Way L ms ps ws ∧ PSt K w L ms H a l R ps ws σ1 H1, ⟨_, [], [begin0], rfl, by decide, way0 L ms, st0⟩, ?_⟩)
    rintro m σ2 H2 ⟨ps, ws, rfl, hm3, wy, st⟩
    have e2 := st.env.know (i := 4) (w' := .l (ws.map eB)) rfl fun x hx => by
      have hx' : x = .ref l := hx
      subst hx'
      obtain ⟨us, z1, z2⟩ := st.lst
      exact ⟨l, us, rfl, z1, z2⟩
    refine ct_test (c1 := !decide (ws.map eB = [])) (cm_op (cm_var rfl) (cm_lstD cad_nil (by simp)) (co_neL (fun d hd => by obtain ⟨q, _, rfl⟩ := List.mem_map.mp hd; exact sh_B) shs_nil)) σ2 H2 _ e2 fun H3 s3 => ?_
    have st3 := st.go s3 (st.env.same s3)
    clear st e2
    rcases List.eq_nil_or_concat ws with rfl | ⟨ws', q, rfl⟩
    · refine iteF ?_
      obtain ⟨x3, hx3, ex3⟩ := st3.env.at_ 3 _ rfl
      have ex3' : x3 = .ref a := ex3
      subst ex3'
      exact ⟨_, hx3, p _ H3 st3.same (ex_of ps wy.done (dnW_of st3.net))⟩
    · have c1 : (!decide (((ws'.concat q).map eB) = [])) = true := by simp
      rw [c1]
      refine iteT ⟨fun σ' H' => ∃ ps1 ws1, (129 * 21 - ps1.length) * 11 + ws1.length < (129 * 21 - ps.length) * 11 + (ws'.concat q).length ∧ Way L ms ps1 ws1 ∧ PSt K w L ms H a l R ps1 ws1 σ' H', fun σ' H' ⟨ps1, ws1, hm, h1, h2⟩ => ⟨_, hm, ps1, ws1, rfl, by omega, h1, h2⟩, ?_⟩
      rw [List.concat_eq_append] at wy st3 hm3 ⊢
      -- the last one is taken
      obtain ⟨us, hl3, hr3⟩ := st3.lst
      have hlen := hr3.length
      rw [List.length_map, List.length_append] at hlen
      simp only [List.length_singleton] at hlen
      obtain ⟨y, hy, ry⟩ := hr3.get (i := ws'.length) (d := eB q) (by simp)
      obtain ⟨x4, hx4, ex4⟩ := st3.env.at_ 4 _ rfl
      have ex4' : x4 = .ref l := ex4
      subst ex4'
      have hdrop : RpA K H3 us.dropLast (ws'.map eB) := by
        have z := hr3.take ws'.length
        have e : ((ws' ++ [q]).map eB).take ws'.length = ws'.map eB := by simp
        rw [e] at z
        rw [List.dropLast_eq_take, hlen]
        exact z
      refine (show tSeq (tAsg _ _) _ _ σ2 H3 from ⟨_, hx4, .inl ⟨rfl, _, SqL.of hl3⟩, l, us, y, rfl, rfl, hl3, by rw [hlen]; exact hy, ?_⟩)
      have nt : ∀ xs, H3 l ≠ some (.tup xs) := fun xs z => by rw [hl3] at z; cases z
      have st4 := st3.putL (ws' := ws') (us := us.dropLast) (by walk_at "stay") hdrop
      have ry4 : Rp K (upd H3 l (.lst us.dropLast)) y (eB q) := Rp.keep (Keep.put nt) _ _ ry
      have st5 := st4.go (Same.refl _) (st4.env.set (i := 5) (w := .d (eB q)) ry4)
      clear st4 st3
      generalize hH4 : upd H3 l (.lst us.dropLast) = H4 at st5 ry4 ⊢
      obtain ⟨b, xs5, eb, _, _⟩ := Rp.tup_inv ry4
      subst eb
      obtain ⟨x5, hx5, ex5⟩ := st5.env.at_ 5 _ rfl
      have hl5 : 5 < (σ2.set 5 (some (.ref b))).length := by rw [← st5.env.len, List.length_set]; exact (by decide : 5 < 8)
      have ex5' : x5 = .ref b := by
        rw [List.getElem?_set_self (by simpa using hl5)] at hx5
        exact (Option.some.inj (Option.some.inj hx5)).symm
      subst ex5'
      obtain ⟨x3, hx3, ex3⟩ := st5.env.at_ 3 _ rfl
      have ex3' : x3 = .ref a := ex3
      subst ex3'
      obtain ⟨x4, hx4', ex4⟩ := st5.env.at_ 4 _ rfl
      have ex4' : x4 = .ref l := ex4
      subst ex4'
      obtain ⟨ep, es, hd5, ko5, hval⟩ := st5.val q
      refine (show ∃ x, (σ2.set 5 (some (.ref b)))[5]? = some (some x) ∧ _ from ⟨_, hx5, _, hx3, a, ep, es, b, eB q, rfl, hd5, rfl, ko5, ⟨ry4, dep_B q⟩, _, rfl, ?_⟩)
      rw [hval]
      by_cases hq : q ∈ ps
      · rw [decide_eq_true hq]
        refine iteF ⟨ps, ws', by simp, wy.skip hq, st5.go (Same.refl _) (st5.env.less (r' := R) (by walk_at "less"))⟩
      · rw [decide_eq_false hq]
        have gq : GoodP L ms q := wy.goodW q (by simp)
        refine iteT ?_
        -- the new key
        have mk : CmN K (tLc (iList K (tCall (spF K R_signs_of) [] C8.E0 (tCons (tVar 0) tNil))) (gName 6) tYes (tCall (spF K R_behind) [] C8.E0 (tCons (tVar 0) (tCons (tVar 1) (tCons (tVar 5) (tCons (tVar 6) tNil))))) [6])
            (R.set 5 (some (.d (eB q)))) ((signs L).map fun x => eOB (behindS L ms q x)) := by
          refine cn_lcm (as := signs L) (fun x => .d (eS x)) (fun x => eOB (behindS L ms q x)) (ci_lstM eS (cm_call (ca_cons (cm_var rfl) ca_nil) (r_signs_of g))) (by have := nexts_len g ms q; rw [nextsS, List.length_map] at this; omega) fun x hx => ⟨_, [6], by simp, cg_name, ?_⟩
          exact cm_call (ca_cons (cm_var rfl) (ca_cons (cm_var rfl) (ca_cons (cm_var rfl) (ca_cons (cm_var rfl) ca_nil)))) (r_behind g gq (mem_signs.mp hx) hl)
        refine (show tSeq (sDPutN K w (tVar 3) (tVar 5) _) _ _ (σ2.set 5 (some (.ref b))) H4 from ?_)
        unfold tSeq sDPutN
        refine mk _ H4 _ st5.env fun c H5 zs s5 fc hc5 hz5 => ?_
        have st6 := st5.go s5 (st5.env.same s5)
        have hzz : (signs L).map (fun x => eOB (behindS L ms q x)) = (nextsS L ms q).map eOB := by simp [nextsS]
        rw [hzz] at hz5
        have cl : c ≠ l := fun z => by
          obtain ⟨_, z4, _⟩ := st5.lst
          rw [z, z4] at fc
          cases fc
        have lps : ps.length ≤ 129 * 21 := net_len g hl wy.nd wy.good
        have lps1 : (ps ++ [q]).length ≤ 129 * 21 := net_len g hl (wy.step hq).nd (wy.step hq).good
        obtain ⟨ep6, es6, hd6, ko6, ka6, hlen6, hput⟩ := st6.putA (p := q) (b := b) (v := .ref c) (by walk_at "stay") hq (Rp.keep (Keep.of s5) _ _ ry4) ⟨c, zs, rfl, cl, hc5, hz5⟩
        have sz : (1000000 : Nat) < sizeLine := by decide
        refine ⟨_, hx3, _, hx5, a, ep6, es6, b, eB q, rfl, hd6, rfl, ko6, ka6, by omega, fun ep' => ?_⟩
        have st7 := hput ep'
        clear hput st5 st6
        generalize hH7 : upd H5 a (DNO w a ep' (putN es6 (eB q) b (.ref c))) = H7 at st7 ⊢
        -- what comes behind is put to the list
        have e7 := st7.env.know (i := 3) (w' := netK K w L ms (ps ++ [q])) rfl fun x hx => by
          have hx' : x = .ref a := hx
          subst hx'
          exact dnW_of st7.net
        have hget : valN ((ps ++ [q]).map fun p => (eB p, W.l ((nextsS L ms p).map eOB))) (eB q) = some (.l ((nextsS L ms q).map eOB)) := by
          rw [valN_map (fun p => W.l ((nextsS L ms p).map eOB)), if_pos (by simp)]
        have mk2 : CmA K (tCons (tLc (iList K (tOp (rGetN K w) (tVar 3) (tVar 5))) (gName 7) (tTest (tOp rIsNotN (tVar 7) (tC .non))) (tVar 7) [7]) tNil)
            ((R.set 5 (some (.d (eB q)))).set 3 (some (netK K w L ms (ps ++ [q])))) [.l (((nextsS L ms q).filterMap id).map eB)] := by
          refine ca_cons ?_ ca_nil
          rw [← eOB_some]
          refine cm_lcf (as := nextsS L ms q) (fun o => .d (eOB o)) (·.isSome) eOB (ci_lstM eOB (cm_op (cm_var rfl) (cm_var rfl) (co_getN hget ⟨_, rfl⟩ (dep_B q)))) (by have := nexts_len g ms q; omega) fun o ho => ⟨_, [7], by simp, cg_name, ?_, fun _ => cm_var rfl⟩
          refine ct_test (cm_is (cm_op (cm_var rfl) cm_non co_isNotN) ?_)
          cases o <;> simp [eOB, eB]
        obtain ⟨us7, hl7, hu7⟩ := st7.lst
        refine (show ∃ x, (σ2.set 5 (some (.ref b)))[4]? = some (some x) ∧ _ from ⟨_, hx4', .inl ⟨rfl, _, SqL.of hl7⟩, ?_⟩)
        refine mk2 _ H7 _ e7 fun as8 H8 s8 r8 => ?_
        have st8 := st7.go s8 (st7.env.same s8)
        obtain ⟨x8, rfl, c8, ys, ec8, hc8, hr8⟩ := one_inv r8
        subst ec8
        obtain ⟨us8, hl8, hu8⟩ := st8.lst
        have hle8 := fmap_len id (nextsS L ms q)
        have hle9 := nexts_len g ms q
        have hlen8 := hr8.length
        have hlu8 := hu8.length
        rw [List.length_map] at hlen8 hlu8
        have wlen : ws'.length ≤ 30000 := by rw [List.length_append] at hm3; omega
        refine ⟨l, c8, us8, ys, rfl, rfl, hl8, hc8, by omega, ps ++ [q], ws' ++ (nextsS L ms q).filterMap id, ?_, wy.step hq, ?_⟩
        · simp only [List.length_append, List.length_singleton] at lps1 ⊢
          omega
        · have st9 := st8.putL (ws' := ws' ++ (nextsS L ms q).filterMap id) (us := us8 ++ ys) (by walk_at "stay") (by rw [List.map_append]; exact hu8.append hr8)
          exact st9.go (Same.refl _) (st9.env.less (r' := R) (by walk_at "less"))
end
end NW
/-! fits.py: how many fit -/
namespace NW
open PySem PySem.Spec PyProof.Rows L2 StX NM
local macro_rules | `(tactic| walk_at "my") => `(tactic| fail)
local macro_rules | `(tactic| walk_at "mycm") => `(tactic| fail)
local macro_rules | `(tactic| walk_at "myco") => `(tactic| fail)
local macro_rules | `(tactic| walk_at "mycc") => `(tactic| fail)
local macro_rules | `(tactic| walk_at "sh") => `(tactic| first | assumption | exact sh_n | exact Sh.num | exact Sh.non | exact sh_role | exact Sh.text (by decide +kernel) | exact sh_ns | exact sh_s | exact sh_m | exact sh_o | exact sh_h | exact sh_t | exact sh_ss | exact sh_ms | exact sh_head | exact sh_L | exact sh_nil | (apply sh_cons <;> walk_at "sh"))
local macro_rules | `(tactic| walk_at "shs") => `(tactic| first | assumption | exact shs_nil | (apply shs_cons; walk_at "sh"; walk_at "shs"))
local macro_rules | `(tactic| walk_at "co") => `(tactic| first
  | ((with_reducible apply co_ixTe); exact rfl; exact rfl)
  | ((with_reducible exact co_ixDl))
  | ((with_reducible apply co_ixL); exact rfl)
  | (with_reducible exact co_lt) | (with_reducible exact co_le) | (with_reducible exact co_gt) | (with_reducible exact co_ge) | (with_reducible exact co_sub)
  | (with_reducible exact co_isN) | (with_reducible exact co_isNotN)
  | ((with_reducible apply co_eq) <;> walk_at "sh") | ((with_reducible apply co_ne) <;> walk_at "sh")
  | (with_reducible exact co_add)
  | ((with_reducible apply co_inTe); exact rfl; walk_at "sh"; walk_at "shs")
  | walk_at "myco")
local macro_rules | `(tactic| walk_at "cc") => `(tactic| first
  | ((with_reducible apply cc_lenTe); exact rfl) | (with_reducible exact cc_lenL) | (with_reducible exact cc_all) | (with_reducible exact cc_any) | (with_reducible exact cc_tuple) | (with_reducible exact cc_intI)
  | (with_reducible exact cc_intB) | (with_reducible exact cc_min2) | (with_reducible exact cc_listT)
  | ((with_reducible apply cc_isi); first | exact isi_int rfl | exact isi_bool | exact isi_tuple rfl | exact isi_str rfl)
  | walk_at "mycc")
local macro_rules | `(tactic| walk_at "ca") => `(tactic| first
  | (with_reducible exact ca_nil)
  | ((with_reducible apply ca_cons); walk_at "cm"; walk_at "ca"))
local macro_rules | `(tactic| walk_at "cad") => `(tactic| first
  | (with_reducible exact cad_nil)
  | ((with_reducible apply cad_cons); walk_at "cm"; walk_at "cad")
  | ((with_reducible apply cad_starE); walk_at "cm"; exact rfl; walk_at "cad"))
local macro_rules | `(tactic| walk_at "cm") => `(tactic| first
  | ((with_reducible apply cm_var); exact rfl)
  | (with_reducible exact cm_int) | (with_reducible exact cm_str) | (with_reducible exact cm_non) | (with_reducible exact cm_bl)
  | ((with_reducible apply cm_op); walk_at "cm"; walk_at "cm"; walk_at "co")
  | ((with_reducible apply cm_tupD); walk_at "cad"; walk_at "size")
  | ((with_reducible apply cm_neg); walk_at "cm")
  | ((with_reducible apply cm_call); walk_at "ca"; walk_at "my")
  | walk_at "mycm"
  | ((with_reducible apply cm_cb); walk_at "ca"; walk_at "cc")
  | ((with_reducible apply cm_chain); walk_at "cm"; walk_at "cm"; walk_at "co"; (intro _; walk_at "cm"); walk_at "co")
  | ((with_reducible apply cm_andVF); walk_at "cm"; walk_at "dec0")
  | ((with_reducible apply cm_orVT); walk_at "cm"; walk_at "dec0")
  | ((with_reducible apply cm_ifT); walk_at "ct"; walk_at "dec"; walk_at "cm")
  | ((with_reducible apply cm_ifF); walk_at "ct"; walk_at "dec"; walk_at "cm")
  | ((with_reducible apply cm_andV); walk_at "cm"; (intro _; walk_at "cm"))
  | ((with_reducible apply cm_orV); walk_at "cm"; (intro _; walk_at "cm"))
  | ((with_reducible apply cm_notV); walk_at "cm")
  | (with_reducible exact cm_val))
local macro_rules | `(tactic| walk_at "ct") => `(tactic| first
  | ((with_reducible apply ct_test); walk_at "cm") | ((with_reducible apply ct_B); walk_at "cm") | ((with_reducible apply ct_not); walk_at "ct")
  | ((with_reducible apply ct_andF); walk_at "ct"; walk_at "dec0")
  | ((with_reducible apply ct_orT); walk_at "ct"; walk_at "dec0")
  | ((with_reducible apply ct_and); walk_at "ct"; (intro _; walk_at "ct"))
  | ((with_reducible apply ct_or); walk_at "ct"; (intro _; walk_at "ct")))
local macro_rules | `(tactic| walk_at "size") => `(tactic| focus first | assumption | (simp; done) | (simp; omega) | omega)
local macro_rules | `(tactic| walk_at "dec0") => `(tactic| focus first | rfl | (simp [eHead, eL, eSs, eMs, eS, eM, eT, eN, eNs, eH, eO, rN]; done))
local macro_rules | `(tactic| walk_at "dec") => `(tactic| focus first | rfl | (simp [eHead, eL, eSs, eMs, eS, eM, eT, eN, eNs, eH, eO, rN]; done) | (simp [eHead, eL, eSs, eMs, eS, eM, eT, eN, eNs, eH, eO, rN]; omega) | (simp [eHead, eL, eSs, eMs, eS, eM, eT, eN, eNs, eH, eO, rN, *]; done))
local macro_rules | `(tactic| walk_at "skip") => `(tactic| ((with_reducible apply bs_skip); walk_at "ct"; walk_at "dec"))
local macro_rules | `(tactic| walk_at "take") => `(tactic| (refine bs_seqR ?_; (with_reducible apply bs_ifT); walk_at "ct"; walk_at "dec"))
local macro_rules | `(tactic| walk_at "ret") => `(tactic| (refine bs_ret ?_; (with_reducible apply cm_is); walk_at "cm"))
local macro_rules | `(tactic| walk_at "set") => `(tactic| ((with_reducible apply bs_setS); walk_at "cm"))
local macro_rules | `(tactic| walk_at "drop") => `(tactic| ((with_reducible apply bs_dropS); walk_at "cm"))
local macro_rules | `(tactic| walk_at "norm") => `(tactic| skip)
local macro_rules | `(tactic| walk_at "less") => `(tactic| first | exact less_nil | (apply less_some; walk_at "less") | (apply less_none; walk_at "less"))
local macro_rules | `(tactic| walk_at "flat") => `(tactic| first | exact flat_nil | (refine flat_cons ?_ ?_; (first | exact trivial | exact rfl); walk_at "flat"))
local macro_rules | `(tactic| walk_at "stay") => `(tactic| first | exact stay_nil | (refine stay_cons ?_ ?_; (first | exact stay_none | exact stay_d | exact stay_b | exact stay_v | exact stay_old (by assumption)); walk_at "stay"))
section
variable {P : Program} {w : World} {K : Fg} {mg : Str → Option Value} {base : Heap}

/-! ### a walk whose body changes own objects -/
theorem for_keep {g : TG} {wi : TI} {tb : TS} {us : List W} {r : Sl} {σ : St} {H : Hp} {D : Ends} (hi : CmIK K wi r us) (e : EnvOk K r σ H) (P : Hp → Nat → St → Hp → Prop) (h0 : ∀ H1, Same H H1 → P H1 0 σ H1) (hk : ∀ H1 i σ' H', P H1 i σ' H' → Keep H1 H')
    (hs : ∀ H1 i u σ' H' x H2 (D' : Ends), us[i]? = some u → P H1 i σ' H' → Same H' H2 → Rw K H2 x u → (∀ σ4 H4, P H1 (i + 1) σ4 H4 → D'.nx σ4 H4) → D'.rt = D.rt → D'.bk = D.nx → g x σ' H2 fun σ2 H3 => tb D' σ2 H3)
    (hd : ∀ H1 σ' H', P H1 us.length σ' H' → D.nx σ' H') : tFor wi g tb D σ H := by
  refine hi σ H _ e fun J H1 s1 it => ?_
  exact for_it (n := us.length) (G := fun H => Keep H1 H) (Y := fun i H x H2 => Same H H2 ∧ ∃ u, us[i]? = some u ∧ Rw K H2 x u)
    ⟨fun i H hi g => (it H g).1 i hi, fun H g => (it H g).2.1, fun i H x H2 hi g y => (it H g).2.2 i x H2 hi y⟩
    (P H1) (h0 H1 s1) (fun i σ' H' _ p => hk H1 i σ' H' p) (fun i x σ' H' H2 _ p y => by
      obtain ⟨s2, u, hu, ru⟩ := y
      exact hs H1 i u σ' H' x H2 _ hu p s2 ru (fun _ _ q => q) rfl rfl) fun σ' H' p => hd H1 σ' H' p
/-! ### plain: how many fit -/
def cntS (L : Lang) (ms : List Msg) : Nat → Pl → Nat
  | 0, p => if p.n = ms.length then 1 else 0
  | k + 1, p => (((nextsS L ms p).filterMap id).map (cntS L ms k)).sum
def kvC (L : Lang) (ms : List Msg) (ps : List Pl) (k : Nat) : List (D × W) := ps.map fun p => (eB p, W.d (eN (cntS L ms k p)))
theorem foldl_put {α β : Type} (fk : α → D) (fv : α → β) : ∀ (as : List α) (acc : List (D × β)), (as.map fk).Nodup → (∀ a ∈ as, valN acc (fk a) = none) → as.foldl (fun acc a => putD acc (fk a) (fv a)) acc = acc ++ as.map fun a => (fk a, fv a)
  | [], acc, _, _ => by simp
  | a :: as, acc, hn, hv => by
    rw [List.map_cons, List.nodup_cons] at hn
    have e : putD acc (fk a) (fv a) = acc ++ [(fk a, fv a)] := by simp [putD, hv a List.mem_cons_self]
    rw [List.foldl_cons, e, foldl_put fk fv as _ hn.2 fun b hb => ?_]
    · simp
    · have h1 := hv b (List.mem_cons_of_mem _ hb)
      have hne : ¬ fk a = fk b := fun z => hn.1 (z ▸ List.mem_map_of_mem hb)
      have h2 : acc.find? (fun p => decide (p.1 = fk b)) = none := by simpa [valN] using h1
      simp [valN, List.find?_append, h2, hne]
theorem dictOf_nodup {α β : Type} {as : List α} (fk : α → D) (fv : α → β) (hn : (as.map fk).Nodup) : dictOf as fk fv = as.map fun a => (fk a, fv a) := by
  have := foldl_put fk fv as [] hn fun _ _ => rfl
  simpa [dictOf] using this
theorem nodup_B {ps : List Pl} (h : ps.Nodup) : (ps.map eB).Nodup := by
  induction ps with
  | nil => simp
  | cons p ps ih =>
    rw [List.nodup_cons] at h
    rw [List.map_cons, List.nodup_cons]
    refine ⟨fun z => ?_, ih h.2⟩
    obtain ⟨q, hq, e⟩ := List.mem_map.mp z
    exact h.1 (eB_inj e ▸ hq)
theorem dnP.put {w : World} {kvs : List (D × W)} {x : V} {H : Hp} {l : Addr} {vs us : List V} (f : ∀ p ∈ kvs, FlatW p.2) (hl : H l = some (.lst vs)) (h : dnP K w kvs x H) : dnP K w kvs x (upd H l (.lst us)) := by
  obtain ⟨a, ep, es, e, h1, h2, h3⟩ := h
  have k : Keep H (upd H l (.lst us)) := Keep.put fun ys q => by rw [hl] at q; cases q
  have na : a ≠ l := fun z => by rw [z, hl] at h1; cases h1
  refine ⟨a, ep, es, e, by rw [upd_ne na]; exact h1, h2.keep k, ?_⟩
  have key : ∀ (kvs : List (D × W)) (es : List NE), (∀ p ∈ kvs, FlatW p.2) → Paired (DRel K H) kvs es → Paired (DRel K (upd H l (.lst us))) kvs es := by
    intro kvs es f q
    induction q with
    | nil => exact .nil
    | cons hq t ih => exact .cons ⟨hq.1, hq.2.keepF k (f _ List.mem_cons_self)⟩ (ih fun p hp => f p (List.mem_cons_of_mem _ hp))
  exact key kvs es f h3
theorem seq_lst {ta : TA} {i : Nat} {u : TS} {D : Ends} {σ : St} {H : Hp} (h : ta σ H fun xs H1 => xs.length ≤ sizeLine ∧ ∀ p, H1 p = none → u D (σ.set i (some (.ref p))) (upd H1 p (.lst xs))) : tSeq (tAsg (tLst ta) (gName i)) u D σ H := h
abbrev D_num (n : Nat) : D := eN n
/-! ### counts_of -/
abbrev s_counts_of : Stmt := top 56
abbrev N_counts_of : List Str := ["language", "heard", "size", "net", "found", "here", "turn", "last", "there"]
theorem sc_counts_of : FnScope N_counts_of ["language", "heard", "size"] (defScope s_counts_of) := ⟨rfl, rfl, rfl, by decide +kernel, rfl, by decide +kernel, by decide +kernel⟩
def scin_counts_of : Scope := { kind := .function, names := [(".0", .local), ("here", .local), ("sum", .globalImplicit), ("last", .cell), ("net", .cell)], isGenerator := false, isCoroutine := false }
def countsW (K : Fg) (w : World) (L : Lang) (ms : List Msg) (n : Nat) (ps : List Pl) : W := lsW K ((List.range (n + 1)).map fun k => dnW K w (kvC L ms ps k))
def R_counts_of (K : Fg) (w : World) : List W → W → Prop := fun ws u => ∃ L ms n, Good L ∧ isHeard L ms ∧ n ≤ 200 ∧ ws = [.d (eL L), .d (eMs ms), .d (eN n)] ∧ u = exW K (NetOk L ms) fun ps => tpW K [countsW K w L ms n ps, netK K w L ms ps]
theorem r_counts_of {L : Lang} {ms : List Msg} {n : Nat} (g : Good L) (h : isHeard L ms) (hn : n ≤ 200) : R_counts_of K w [.d (eL L), .d (eMs ms), .d (eN n)] (exW K (NetOk L ms) fun ps => tpW K [countsW K w L ms n ps, netK K w L ms ps]) := ⟨L, ms, n, g, h, hn, rfl, rfl⟩
/-- the dicts in a list -/
def DL (K : Fg) (w : World) (kvss : List (List (D × W))) (xs : List V) (H : Hp) : Prop := Paired (fun kvs x => dnP K w kvs x H) kvss xs
theorem DL.same {kvss : List (List (D × W))} {xs : List V} {H H' : Hp} (s : Same H H') (h : DL K w kvss xs H) : DL K w kvss xs H' := Paired.mapP h fun _ _ z => z.same s
theorem DL.rw {kvss : List (List (D × W))} {xs : List V} {H : Hp} (h : DL K w kvss xs H) : RwA K H xs (kvss.map (dnW K w)) := by
  induction h with
  | nil => exact .nil
  | cons a b ih => exact .cons (dnW_of a) ih
theorem DL.put {kvss : List (List (D × W))} {xs : List V} {H : Hp} {l : Addr} {vs us : List V} (f : ∀ kvs ∈ kvss, ∀ p ∈ kvs, FlatW p.2) (hl : H l = some (.lst vs)) (h : DL K w kvss xs H) : DL K w kvss xs (upd H l (.lst us)) := by
  induction h with
  | nil => exact .nil
  | cons a b ih => exact .cons (a.put (f _ List.mem_cons_self) hl) (ih fun k hk => f k (List.mem_cons_of_mem _ hk))
theorem flat_kvC (L : Lang) (ms : List Msg) (ps : List Pl) (k : Nat) : ∀ p ∈ kvC L ms ps k, FlatW p.2 := fun p hp => by
  obtain ⟨q, _, rfl⟩ := List.mem_map.mp hp
  trivial
theorem sum_nat (ns : List Nat) : (ns.map fun n : Nat => (n : Int)).sum = ((ns.sum : Nat) : Int) := by
  induction ns with
  | nil => rfl
  | cons n ns ih => simp [ih]
structure CSt (K : Fg) (w : World) (L : Lang) (ms : List Msg) (ps : List Pl) (H0 : Hp) (l : Addr) (r : Sl) (k : Nat) (σ : St) (H : Hp) : Prop where
  env : EnvOk K r σ H
  same : Same H0 H
  fl : H0 l = none
  lst : ∃ xs, H l = some (.lst xs) ∧ DL K w ((List.range (k + 1)).map (kvC L ms ps)) xs H
theorem CSt.go {L : Lang} {ms : List Msg} {ps : List Pl} {H0 : Hp} {l : Addr} {r r' : Sl} {k : Nat} {σ σ' : St} {H H' : Hp} (h : CSt K w L ms ps H0 l r k σ H) (s : Same H H') (e : EnvOk K r' σ' H') : CSt K w L ms ps H0 l r' k σ' H' := by
  obtain ⟨xs, h1, h2⟩ := h.lst
  exact ⟨e, h.same.trans s, h.fl, xs, s _ _ h1, h2.same s⟩
theorem CSt.ls {L : Lang} {ms : List Msg} {ps : List Pl} {H0 : Hp} {l : Addr} {r : Sl} {k : Nat} {σ : St} {H : Hp} (h : CSt K w L ms ps H0 l r k σ H) : Rw K H (.ref l) (countsW K w L ms k ps) := by
  obtain ⟨xs, h1, h2⟩ := h.lst
  have := h2.rw
  rw [List.map_map] at this
  exact lsW_of rfl h1 this
theorem CSt.app {L : Lang} {ms : List Msg} {ps : List Pl} {H0 : Hp} {l : Addr} {r : Sl} {k : Nat} {σ : St} {H : Hp} {x : V} (h : CSt K w L ms ps H0 l r k σ H) (st : StayS l r) (hx : dnP K w (kvC L ms ps (k + 1)) x H) :
    ∃ xs, H l = some (.lst xs) ∧ xs.length = k + 1 ∧ Keep H (upd H l (.lst (xs ++ [x]))) ∧ CSt K w L ms ps H0 l r (k + 1) σ (upd H l (.lst (xs ++ [x]))) := by
  obtain ⟨xs, h1, h2⟩ := h.lst
  have nt : ∀ ys, H l ≠ some (.tup ys) := fun ys q => by rw [h1] at q; cases q
  have hl := Paired.length h2
  simp at hl
  refine ⟨xs, h1, by omega, Keep.put nt, h.env.stay st nt, Same.put0 h.same h.fl, h.fl, xs ++ [x], upd_same, ?_⟩
  have h3 : DL K w ((List.range (k + 1)).map (kvC L ms ps)) xs (upd H l (.lst (xs ++ [x]))) := h2.put (fun kvs hk => by
    obtain ⟨i, _, rfl⟩ := List.mem_map.mp hk
    exact flat_kvC L ms ps i) h1
  rw [List.range_succ, List.map_append]
  exact Paired.snoc h3 (hx.put (flat_kvC L ms ps (k + 1)) h1)
theorem ok_counts_of (T : Txt K mg) (A : DefAt K mg "counts_of" "counts_of" s_counts_of ["language", "heard", "size"]) (C_places_of_fits : CalF P w K mg base 4 "places_of_fits" (R_places_fits K w)) : CalF P w K mg base 5 "counts_of" (R_counts_of K w) := by
  refine calF A sc_counts_of (fun ws u h => ?_) (fun f cdv A outer s H E ws u hr h => ?_)
  · obtain ⟨L, ms, n, _, _, _, rfl, _⟩ := h; rfl
  · obtain ⟨L, ms, n, g, hh, hn, rfl, rfl⟩ := h
    refine ⟨_, (pss_cons (ps_set (i := 3) sc_counts_of.nd rfl (by first | exact Or.inl rfl | exact Or.inr rfl) (C8.pe_c C_places_of_fits hr (by decide) rfl (pa_cons (pv 0) (pa_cons (pv 1) pa_nil)))) (pss_cons (ps_set (i := 4) sc_counts_of.nd rfl (by first | exact Or.inl rfl | exact Or.inr rfl) (pe_lst (pa_cons (pe_dcN (own := [("here", 5)]) K w rfl rfl hr rfl sc_counts_of.nd (pi_dn w rfl (pv 3)) (blkOk_by (own := [("here", 5)]) (N := N_counts_of) (sc := defScope s_counts_of) (by decide +kernel)) (fun _ _ _ _ _ => (pg_name (i := 5) sc_counts_of.nd rfl (by first | exact Or.inl rfl | exact Or.inr rfl))) (fun _ _ _ _ _ => (pv 5)) (fun _ _ _ _ _ => (pe_callTy call_int1 rfl T.b_int bo_int (pa_cons (pe_cmpR (eqK K rfl hr) (pe_ix (ixK K rfl) (pv 5) pe_int (fun _ _ => rfl)) (pe_callB (lenK K rfl) rfl T.b_len bo_len (pa_cons (pv 1) pa_nil)) (nomark _)) pa_nil)))) pa_nil))) (pss_cons (ps_for PassesOwn.never rfl (pi_range1 rfl T.b_range (pa_cons (pv 2) pa_nil)) (pg_name (i := 6) sc_counts_of.nd rfl (by first | exact Or.inl rfl | exact Or.inr rfl)) (pss_cons (ps_set (i := 7) sc_counts_of.nd rfl (by first | exact Or.inl rfl | exact Or.inr rfl) (pe_ix (ixK K rfl) (pv 4) (pe_un un_neg pe_int) (fun _ _ => rfl))) (pss_one (ps_expr (bmK K rfl (pe_bm PySem.F.plainAttrs_list PySem.F.slot_list_append PySem.F.type_list_append mt_append (pv 4) (pa_cons (pe_dcN (own := [("here", 5)]) K w rfl rfl hr rfl sc_counts_of.nd (pi_dn w rfl (pv 3)) (blkOk_by (own := [("here", 5)]) (N := N_counts_of) (sc := defScope s_counts_of) (by decide +kernel)) (fun _ _ _ _ _ => (pg_name (i := 5) sc_counts_of.nd rfl (by first | exact Or.inl rfl | exact Or.inr rfl))) (fun _ _ _ _ _ => (pv 5)) (fun _ _ _ _ _ => (pe_callB (sumK K rfl rfl) rfl T.b_sum bo_sum (pa_cons (pe_lc (own := [("there", 8)]) rfl sc_counts_of.nd (piLK K rfl (pe_dgetN K w rfl rfl hr (pv 3) (pv 5) (fun _ _ => rfl))) (blkOk_by (own := [("there", 8)]) (N := N_counts_of) (sc := scin_counts_of) (by decide +kernel)) (fun _ _ _ _ _ => (pg_name (i := 8) sc_counts_of.nd rfl (by first | exact Or.inl rfl | exact Or.inr rfl))) (fun _ _ _ _ _ => pts_one (pt_cmpR op_notN (pv 8) pe_non (nomark _))) (fun _ _ _ _ _ => (pe_dgetN K w rfl rfl hr (pv 7) (pv 8) (fun _ _ => rfl)))) pa_nil)))) pa_nil))))))) (pss_one (ps_ret (pe_tup (pa_cons (pv 4) (pa_cons (pv 3) pa_nil)))))))), .inl ?_⟩
    refine bs_exS (cm_call (by walk_at "ca") (r_places_fits g hh)) fun ps ok => ⟨_, _, cg_name, ?_⟩
    have lps := net_len g hh.2 ok.nd ok.good
    have ndB := nodup_B ok.nd
    intro D σ H e p
    have walkN : ∀ {td : TE} {r : Sl}, Cm K td r (netK K w L ms ps) → CmI K (iDn w td) r (ps.map fun p => .d (eB p)) := fun h => by
      have := ci_dn h
      rw [List.map_map] at this
      exact this
    -- the first dict
    have mk0 : Cm K (tDcN K w (iDn w (tVar 3)) (gName 5) (tVar 5) (tCB rInt1 (tCons (tOp (rEqD K) (tOp (rIx K) (tVar 5) (tC (.int 2))) (tCB (rLen K) (tCons (tVar 1) tNil))) tNil)) [5])
        ((startW N_counts_of [.d (eL L), .d (eMs ms), .d (eN n)]).set 3 (some (netK K w L ms ps))) (dnW K w (kvC L ms ps 0)) := by
      have := cm_dcN (K := K) (w := w) (vs := [5]) (g := gName 5) (wi := iDn w (tVar 3)) (tk := tVar 5) (tv := tCB rInt1 (tCons (tOp (rEqD K) (tOp (rIx K) (tVar 5) (tC (.int 2))) (tCB (rLen K) (tCons (tVar 1) tNil))) tNil))
        (r := (startW N_counts_of [.d (eL L), .d (eMs ms), .d (eN n)]).set 3 (some (netK K w L ms ps))) (as := ps) (fun p => .d (eB p)) eB (fun p => W.d (eN (cntS L ms 0 p))) (walkN (cm_var rfl)) (by omega) fun q hq => ⟨⟨_, rfl⟩, dep_B q, trivial, _, [5], by simp, cg_name, cm_var rfl, ?_⟩
      · rw [dictOf_nodup eB _ ndB] at this
        exact this
      · refine cm_is (w' := .d (.num (if decide (eN q.n = .num (ms.length : Nat)) then 1 else 0))) ?_ ?_
        · exact cm_cb (ca_cons (cm_is (by walk_at "cm") (by simp)) ca_nil) cc_intB
        · have hle := (ok.good q hq).le
          by_cases z : q.n = ms.length
          · simp [cntS, z]
          · have : ¬ ((q.n : Nat) : Int) = (ms.length : Nat) := by omega
            simp [cntS, z, this]
    refine seq_lst ?_
    refine (ca_cons mk0 ca_nil) σ H _ e fun xs0 H1 s1 r1 => ?_
    obtain ⟨x0, rfl, rx0⟩ := one_inv r1
    refine ⟨(by decide : 1 ≤ sizeLine), fun l hl => ?_⟩
    let R : Sl := [some (.d (eL L)), some (.d (eMs ms)), some (.d (eN n)), some (old K H (netK K w L ms ps)), some (.v (.ref l)), none, none, none, none]
    have fl : H l = none := s1.free hl
    have sn := Same.new (o := .lst [x0]) hl
    have s01 := s1.trans sn
    have st0 : CSt K w L ms ps H l R 0 (σ.set 4 (some (.ref l))) (upd H1 l (.lst [x0])) := by
      refine ⟨?_, s01, fl, [x0], upd_same, .cons ((dnW_at rx0).same sn) .nil⟩
      have h3 := (e.know (i := 3) (w' := old K H (netK K w L ms ps)) rfl fun x hx => old_of (Same.refl H) hx).same s01
      exact h3.set (i := 4) (w := .v (.ref l)) rfl
    clear mk0
    refine (show tSeq (tFor _ _ _) _ D _ _ from for_keep (r := R) (us := (List.range n).map fun i : Nat => .d (eN i)) (ck_range (ca_cons (cm_var rfl) ca_nil) (by omega)) st0.env (fun HB i σ' H' => Keep HB H' ∧ CSt K w L ms ps H l R i σ' H')
      (fun HB s' => ⟨Keep.refl _, st0.go s' (st0.env.same s')⟩) (fun _ _ _ _ q => q.1) (fun HB i u σ' H' x H2 D' hu q s2 ru hnx hrt hbk => ?_) fun HB σ' H' q => ?_)
    · have hi : i < n := by
        have := (List.getElem?_eq_some_iff.mp hu).1
        simpa using this
      have eu : u = .d (eN i) := by
        simp [hi] at hu
        exact hu.symm
      subst eu
      have st2 := q.2.go s2 ((q.2.env.same s2).set (i := 6) (w := .d (eN i)) ru)
      have e3 := st2.env.know (i := 4) (w' := countsW K w L ms i ps) rfl fun y hy => by
        have hy' : y = .ref l := hy
        subst hy'
        exact st2.ls
      have mkL : Cm K (tOp (rIx K) (tVar 4) (tUn (rU fun i => .int (-i)) (tC (.int 1)))) ((R.set 6 (some (.d (eN i)))).set 4 (some (countsW K w L ms i ps))) (dnW K w (kvC L ms ps i)) := by
        refine cm_op (cm_var rfl) (cm_neg cm_int) (co_ixLs ?_)
        rw [List.range_succ, List.map_append]
        exact atI_last _ _
      refine mkL _ H2 _ e3 fun y H4 s4 ry => ?_
      have st4 := st2.go s4 ((st2.env.same s4).set (i := 7) ry)
      clear e3 mkL
      have mkS : CmA K (tCons (tDcN K w (iDn w (tVar 3)) (gName 5) (tVar 5) (tCB (rSum K) (tCons (tLc (iList K (tOp (rGetN K w) (tVar 3) (tVar 5))) (gName 8) (tTest (tOp rIsNotN (tVar 8) (tC .non))) (tOp (rGetN K w) (tVar 7) (tVar 8)) [8]) tNil)) [5]) tNil)
          ((R.set 6 (some (.d (eN i)))).set 7 (some (dnW K w (kvC L ms ps i)))) [dnW K w (kvC L ms ps (i + 1))] := by
        refine ca_cons ?_ ca_nil
        have := cm_dcN (K := K) (w := w) (vs := [5]) (g := gName 5) (wi := iDn w (tVar 3)) (tk := tVar 5) (tv := tCB (rSum K) (tCons (tLc (iList K (tOp (rGetN K w) (tVar 3) (tVar 5))) (gName 8) (tTest (tOp rIsNotN (tVar 8) (tC .non))) (tOp (rGetN K w) (tVar 7) (tVar 8)) [8]) tNil))
          (r := (R.set 6 (some (.d (eN i)))).set 7 (some (dnW K w (kvC L ms ps i)))) (as := ps) (fun p => .d (eB p)) eB (fun p => W.d (eN (cntS L ms (i + 1) p))) (walkN (cm_old rfl)) (by omega) fun q hq => ⟨⟨_, rfl⟩, dep_B q, trivial, _, [5], by simp, cg_name, cm_var rfl, ?_⟩
        · rw [dictOf_nodup eB _ ndB] at this
          exact this
        · have hget : valN (ps.map fun p => (eB p, W.l ((nextsS L ms p).map eOB))) (eB q) = some (.l ((nextsS L ms q).map eOB)) := by
            rw [valN_map (fun p => W.l ((nextsS L ms p).map eOB)), if_pos hq]
          have mkl : Cm K (tLc (iList K (tOp (rGetN K w) (tVar 3) (tVar 5))) (gName 8) (tTest (tOp rIsNotN (tVar 8) (tC .non))) (tOp (rGetN K w) (tVar 7) (tVar 8)) [8])
              ((wipeW ((R.set 6 (some (.d (eN i)))).set 7 (some (dnW K w (kvC L ms ps i)))) [5]).set 5 (some (.d (eB q)))) (.l (((nextsS L ms q).filter (·.isSome)).map fun o => D_num (o.elim 0 (cntS L ms i)))) := by
            refine cm_lcf (as := nextsS L ms q) (fun o => .d (eOB o)) (·.isSome) (fun o => D_num (o.elim 0 (cntS L ms i))) (ci_lstM eOB (cm_op (cm_old rfl) (cm_var rfl) (co_getN hget ⟨_, rfl⟩ (dep_B q)))) (by have := nexts_len g ms q; omega) fun o ho => ⟨_, [8], by simp, cg_name, ?_, fun hb => ?_⟩
            · refine ct_test (cm_is (cm_op (cm_var rfl) cm_non co_isNotN) ?_)
              cases o <;> simp [eOB, eB]
            · cases o with
              | none => cases hb
              | some q' =>
                have hin : q' ∈ ps := by
                  obtain ⟨x', hx', e'⟩ := List.mem_map.mp ho
                  exact ok.shut q hq x' hx' q' e'
                have hg2 : valN (kvC L ms ps i) (eB q') = some (.d (eN (cntS L ms i q'))) := by
                  unfold kvC
                  rw [valN_map (fun p => W.d (eN (cntS L ms i p))), if_pos hin]
                exact cm_op (cm_var rfl) (cm_var (w := .d (eB q')) rfl) (co_getN hg2 ⟨_, rfl⟩ (dep_B q'))
          have el : (((nextsS L ms q).filter (·.isSome)).map fun o => D_num (o.elim 0 (cntS L ms i))) = ((((nextsS L ms q).filterMap id).map (cntS L ms i)).map fun n : Nat => (n : Int)).map .num := by
            generalize nextsS L ms q = os
            induction os with
            | nil => rfl
            | cons o os ih =>
              cases o with
              | none => simpa using ih
              | some q' => simpa [D_num] using ih
          rw [el] at mkl
          refine cm_is (cm_cb (ca_cons mkl ca_nil) cc_sum) ?_
          rw [sum_nat]
          rfl
      obtain ⟨x4, hx4, ex4⟩ := st4.env.at_ 4 _ rfl
      have ex4' : x4 = .ref l := ex4
      subst ex4'
      obtain ⟨zs, hzs, _⟩ := st4.lst
      refine (show ∃ x, _ = some (some x) ∧ _ from ⟨_, hx4, .inl ⟨rfl, _, SqL.of hzs⟩, ?_⟩)
      refine mkS _ H4 _ st4.env fun as5 H5 s5 r5 => ?_
      obtain ⟨z, rfl, rz⟩ := one_inv r5
      have st5 := (st4.go s5 (st4.env.same s5)).go (Same.refl _) ((st4.env.same s5).less (r' := R) (by walk_at "less"))
      obtain ⟨ys, hys, hlen, kp, st6⟩ := st5.app (by walk_at "stay") (dnW_at rz)
      have sz : (100000 : Nat) < sizeLine := by decide
      exact ⟨l, ys, z, rfl, rfl, hys, by omega, hnx _ _ ⟨(q.1.trans (Keep.of (s2.trans (s4.trans s5)))).trans kp, st6⟩⟩
    · have e9 := q.2.env.know (i := 4) (w' := countsW K w L ms n ps) rfl fun y hy => by
        have hy' : y = .ref l := hy
        subst hy'
        have := q.2.ls
        simp only [List.length_map, List.length_range] at this
        exact this
      have mkT : Cm K (tTup (tCons (tVar 4) (tCons (tVar 3) tNil))) (R.set 4 (some (countsW K w L ms n ps))) (tpW K [countsW K w L ms n ps, netK K w L ms ps]) := cm_tupW (ca_cons (cm_var rfl) (ca_cons (cm_old rfl) ca_nil)) (by simp)
      exact mkT σ' H' _ e9 fun y H2 s2 ry => p y H2 (q.2.same.trans s2) (ex_of ps ok ry)
end
end NW
/-! fits.py: many_streams, number_of -/
namespace NW
open PySem PySem.Spec PyProof.Rows L2 StX NM
local macro_rules | `(tactic| walk_at "my") => `(tactic| fail)
local macro_rules | `(tactic| walk_at "mycm") => `(tactic| fail)
local macro_rules | `(tactic| walk_at "myco") => `(tactic| fail)
local macro_rules | `(tactic| walk_at "mycc") => `(tactic| fail)
local macro_rules | `(tactic| walk_at "sh") => `(tactic| first | assumption | exact sh_n | exact Sh.num | exact Sh.non | exact sh_role | exact Sh.text (by decide +kernel) | exact sh_ns | exact sh_s | exact sh_m | exact sh_o | exact sh_h | exact sh_t | exact sh_ss | exact sh_ms | exact sh_head | exact sh_L | exact sh_nil | (apply sh_cons <;> walk_at "sh"))
local macro_rules | `(tactic| walk_at "shs") => `(tactic| first | assumption | exact shs_nil | (apply shs_cons; walk_at "sh"; walk_at "shs"))
local macro_rules | `(tactic| walk_at "co") => `(tactic| first
  | ((with_reducible apply co_ixTe); exact rfl; exact rfl)
  | ((with_reducible exact co_ixDl))
  | ((with_reducible apply co_ixL); exact rfl)
  | (with_reducible exact co_lt) | (with_reducible exact co_le) | (with_reducible exact co_gt) | (with_reducible exact co_ge) | (with_reducible exact co_sub)
  | (with_reducible exact co_isN) | (with_reducible exact co_isNotN)
  | ((with_reducible apply co_eq) <;> walk_at "sh") | ((with_reducible apply co_ne) <;> walk_at "sh")
  | (with_reducible exact co_add)
  | ((with_reducible apply co_inTe); exact rfl; walk_at "sh"; walk_at "shs")
  | walk_at "myco")
local macro_rules | `(tactic| walk_at "cc") => `(tactic| first
  | ((with_reducible apply cc_lenTe); exact rfl) | (with_reducible exact cc_lenL) | (with_reducible exact cc_all) | (with_reducible exact cc_any) | (with_reducible exact cc_tuple) | (with_reducible exact cc_intI)
  | (with_reducible exact cc_intB) | (with_reducible exact cc_min2) | (with_reducible exact cc_listT)
  | ((with_reducible apply cc_isi); first | exact isi_int rfl | exact isi_bool | exact isi_tuple rfl | exact isi_str rfl)
  | walk_at "mycc")
local macro_rules | `(tactic| walk_at "ca") => `(tactic| first
  | (with_reducible exact ca_nil)
  | ((with_reducible apply ca_cons); walk_at "cm"; walk_at "ca"))
local macro_rules | `(tactic| walk_at "cad") => `(tactic| first
  | (with_reducible exact cad_nil)
  | ((with_reducible apply cad_cons); walk_at "cm"; walk_at "cad")
  | ((with_reducible apply cad_starE); walk_at "cm"; exact rfl; walk_at "cad"))
local macro_rules | `(tactic| walk_at "cm") => `(tactic| first
  | ((with_reducible apply cm_var); exact rfl)
  | (with_reducible exact cm_int) | (with_reducible exact cm_str) | (with_reducible exact cm_non) | (with_reducible exact cm_bl)
  | ((with_reducible apply cm_op); walk_at "cm"; walk_at "cm"; walk_at "co")
  | ((with_reducible apply cm_tupD); walk_at "cad"; walk_at "size")
  | ((with_reducible apply cm_neg); walk_at "cm")
  | ((with_reducible apply cm_call); walk_at "ca"; walk_at "my")
  | walk_at "mycm"
  | ((with_reducible apply cm_cb); walk_at "ca"; walk_at "cc")
  | ((with_reducible apply cm_chain); walk_at "cm"; walk_at "cm"; walk_at "co"; (intro _; walk_at "cm"); walk_at "co")
  | ((with_reducible apply cm_andVF); walk_at "cm"; walk_at "dec0")
  | ((with_reducible apply cm_orVT); walk_at "cm"; walk_at "dec0")
  | ((with_reducible apply cm_ifT); walk_at "ct"; walk_at "dec"; walk_at "cm")
  | ((with_reducible apply cm_ifF); walk_at "ct"; walk_at "dec"; walk_at "cm")
  | ((with_reducible apply cm_andV); walk_at "cm"; (intro _; walk_at "cm"))
  | ((with_reducible apply cm_orV); walk_at "cm"; (intro _; walk_at "cm"))
  | ((with_reducible apply cm_notV); walk_at "cm")
  | (with_reducible exact cm_val))
local macro_rules | `(tactic| walk_at "ct") => `(tactic| first
  | ((with_reducible apply ct_test); walk_at "cm") | ((with_reducible apply ct_B); walk_at "cm") | ((with_reducible apply ct_not); walk_at "ct")
  | ((with_reducible apply ct_andF); walk_at "ct"; walk_at "dec0")
  | ((with_reducible apply ct_orT); walk_at "ct"; walk_at "dec0")
  | ((with_reducible apply ct_and); walk_at "ct"; (intro _; walk_at "ct"))
  | ((with_reducible apply ct_or); walk_at "ct"; (intro _; walk_at "ct")))
local macro_rules | `(tactic| walk_at "size") => `(tactic| focus first | assumption | (simp; done) | (simp; omega) | omega)
local macro_rules | `(tactic| walk_at "dec0") => `(tactic| focus first | rfl | (simp [eHead, eL, eSs, eMs, eS, eM, eT, eN, eNs, eH, eO, rN]; done))
local macro_rules | `(tactic| walk_at "dec") => `(tactic| focus first | rfl | (simp [eHead, eL, eSs, eMs, eS, eM, eT, eN, eNs, eH, eO, rN]; done) | (simp [eHead, eL, eSs, eMs, eS, eM, eT, eN, eNs, eH, eO, rN]; omega) | (simp [eHead, eL, eSs, eMs, eS, eM, eT, eN, eNs, eH, eO, rN, *]; done))
local macro_rules | `(tactic| walk_at "skip") => `(tactic| ((with_reducible apply bs_skip); walk_at "ct"; walk_at "dec"))
local macro_rules | `(tactic| walk_at "take") => `(tactic| (refine bs_seqR ?_; (with_reducible apply bs_ifT); walk_at "ct"; walk_at "dec"))
local macro_rules | `(tactic| walk_at "ret") => `(tactic| (refine bs_ret ?_; (with_reducible apply cm_is); walk_at "cm"))
local macro_rules | `(tactic| walk_at "set") => `(tactic| ((with_reducible apply bs_setS); walk_at "cm"))
local macro_rules | `(tactic| walk_at "drop") => `(tactic| ((with_reducible apply bs_dropS); walk_at "cm"))
local macro_rules | `(tactic| walk_at "norm") => `(tactic| skip)
local macro_rules | `(tactic| walk_at "less") => `(tactic| first | exact less_nil | (apply less_some; walk_at "less") | (apply less_none; walk_at "less"))
local macro_rules | `(tactic| walk_at "flat") => `(tactic| first | exact flat_nil | (refine flat_cons ?_ ?_; (first | exact trivial | exact rfl); walk_at "flat"))
local macro_rules | `(tactic| walk_at "stay") => `(tactic| first | exact stay_nil | (refine stay_cons ?_ ?_; (first | exact stay_none | exact stay_d | exact stay_b | exact stay_v | exact stay_old (by assumption)); walk_at "stay"))
section
variable {P : Program} {w : World} {K : Fg} {mg : Str → Option Value} {base : Heap}

theorem bs_aug {i : Nat} {te : TE} {f : Int → Int → Int} {r : Sl} {a b : Int} (h : r[i]? = some (some (.d (.num a)))) (hb : Cm K te r (.d (.num b))) : Bs K (tAug i te (ipI f)) r (.nx (r.set i (some (.d (.num (f a b)))))) := fun D σ H e p => by
  obtain ⟨x, h1, h2⟩ := e.at_ i _ h
  refine ⟨x, h1, hb σ H _ e fun y H1 s1 ry => ⟨a, b, Rp.int_inv h2, Rp.int_inv ry, p _ H1 s1 ((e.same s1).set (.int _))⟩⟩
theorem atI_counts {L : Lang} {ms : List Msg} {ps : List Pl} {n k : Nat} {w : World} (h : k ≤ n) : atI ((List.range (n + 1)).map fun k => dnW K w (kvC L ms ps k)) (k : Int) = some (dnW K w (kvC L ms ps k)) := atI_nat (by rw [List.getElem?_map, List.getElem?_range (by omega)]; rfl)
theorem val_cnt {L : Lang} {ms : List Msg} {ps : List Pl} {k : Nat} {q : Pl} (h : q ∈ ps) : valN (kvC L ms ps k) (eB q) = some (.d (eN (cntS L ms k q))) := by
  unfold kvC
  rw [valN_map (fun p => W.d (eN (cntS L ms k p))), if_pos h]
theorem val_net {L : Lang} {ms : List Msg} {ps : List Pl} {q : Pl} (h : q ∈ ps) : valN (ps.map fun p => (eB p, W.l ((nextsS L ms p).map eOB))) (eB q) = some (.l ((nextsS L ms q).map eOB)) := by
  rw [valN_map (fun p => W.l ((nextsS L ms p).map eOB)), if_pos h]
/-! ### many_streams -/
abbrev s_many_streams : Stmt := top 57
abbrev N_many_streams : List Str := ["language", "heard", "size"]
theorem sc_many_streams : FnScope N_many_streams ["language", "heard", "size"] (defScope s_many_streams) := ⟨rfl, rfl, rfl, by decide +kernel, rfl, by decide +kernel, by decide +kernel⟩
def R_many_streams : List W → W → Prop := fun ws u => ∃ L ms n, Good L ∧ isHeard L ms ∧ n ≤ 200 ∧ ws = [.d (eL L), .d (eMs ms), .d (eN n)] ∧ u = .d (eN (cntS L ms n begin0))
theorem r_many_streams {L : Lang} {ms : List Msg} {n : Nat} (g : Good L) (h : isHeard L ms) (hn : n ≤ 200) : R_many_streams [.d (eL L), .d (eMs ms), .d (eN n)] (.d (eN (cntS L ms n begin0))) := ⟨L, ms, n, g, h, hn, rfl, rfl⟩
theorem ok_many_streams (T : Txt K mg) (A : DefAt K mg "many_streams" "many_streams" s_many_streams ["language", "heard", "size"]) (C_need_size : CalF P w K mg base 7 "need_size" R_need_size) (C_counts_of : CalF P w K mg base 5 "counts_of" (R_counts_of K w)) :
    CalF P w K mg base 8 "many_streams" R_many_streams := by
  refine calF A sc_many_streams (fun ws u h => ?_) (fun f cdv A outer s H E ws u hr h => ?_)
  · obtain ⟨L, ms, n, _, _, _, rfl, _⟩ := h; rfl
  · obtain ⟨L, ms, n, g, hh, hn, rfl, rfl⟩ := h
    refine ⟨_, (pss_cons (ps_expr (C8.pe_c C_need_size hr (by decide) rfl (pa_cons (pv 0) (pa_cons (pv 1) (pa_cons (pv 2) pa_nil))))) (pss_one (ps_ret (pe_dgetN K w rfl rfl hr (pe_ix (ixK K rfl) (pe_ix (ixK K rfl) (C8.pe_c C_counts_of hr (by decide) rfl (pa_cons (pv 0) (pa_cons (pv 1) (pa_cons (pv 2) pa_nil)))) pe_int (fun _ _ => rfl)) (pe_un un_neg pe_int) (fun _ _ => rfl)) (pe_tup (pa_cons (pe_un un_neg pe_int) (pa_cons (pe_tup pa_nil) (pa_cons pe_int pa_nil)))) (fun _ _ => rfl))))), .inl ?_⟩
    refine bs_dropS (cm_call (by walk_at "ca") (r_need_size g hh hn)) ?_
    have h1 : Cm K (tCall (spF K (R_counts_of K w)) [] C8.E0 (tCons (tVar 0) (tCons (tVar 1) (tCons (tVar 2) tNil)))) (startW N_many_streams [.d (eL L), .d (eMs ms), .d (eN n)]) _ := cm_call (by walk_at "ca") (r_counts_of (w := w) g hh hn)
    have h2 := cm_op h1 (cm_int (i := 0)) (co_ex fun ps _ => co_ixTp (i := 0) (w := countsW K w L ms n ps) rfl)
    have h3 := cm_op h2 (cm_neg (cm_int (i := 1))) (co_ex (f2 := fun ps => dnW K w (kvC L ms ps n)) fun ps _ => co_ixLs (by rw [List.range_succ, List.map_append]; exact L2.atI_last _ _))
    have hb : Cm K (tTup (tCons (tUn (rU fun i => .int (-i)) (tC (.int 1))) (tCons (tTup tNil) (tCons (tC (.int 0)) tNil)))) (startW N_many_streams [.d (eL L), .d (eMs ms), .d (eN n)]) (.d (eB begin0)) := cm_is (by walk_at "cm") (by rfl)
    exact bs_ret (cm_ex (cm_op h3 hb (co_ex (f2 := fun ps => .d (eN (cntS L ms n begin0))) fun ps ok => co_getN (val_cnt ok.bg) ⟨_, rfl⟩ (dep_B begin0))) fun _ _ => rfl)

/-! ### plain: the number of a stream -/
def pathS (L : Lang) (ms : List Msg) : Pl → List NM.Sign → Option Pl
  | p, [] => some p
  | p, x :: xs => (behindS L ms p x).bind fun q => pathS L ms q xs
/-- how many lead on from what comes behind a sign -/
def cnt1 (L : Lang) (ms : List Msg) (k : Nat) (p : Pl) (x : NM.Sign) : Nat := (behindS L ms p x).elim 0 (cntS L ms k)
def befS (L : Lang) (ms : List Msg) (k : Nat) (p : Pl) (j : Nat) : Nat := (((signs L).take j).map (cnt1 L ms k p)).sum
def numS (L : Lang) (ms : List Msg) : Pl → List NM.Sign → Nat
  | _, [] => 0
  | p, x :: xs => befS L ms xs.length p ((signs L).idxOf x) + (behindS L ms p x).elim 0 fun q => numS L ms q xs
theorem befS_succ {L : Lang} {ms : List Msg} {k : Nat} {p : Pl} {j : Nat} {y : NM.Sign} (h : (signs L)[j]? = some y) : befS L ms k p (j + 1) = befS L ms k p j + cnt1 L ms k p y := by
  unfold befS
  rw [List.take_succ, h]
  simp
theorem eS_inj {a b : NM.Sign} (h : eS a = eS b) : a = b := by
  cases a <;> cases b <;> simp [eS] at h <;> first | exact absurd h.1 (by decide +kernel) | exact congrArg _ (by omega)
theorem path_cons {L : Lang} {ms : List Msg} {p e : Pl} {x : NM.Sign} {xs : List NM.Sign} (h : pathS L ms p (x :: xs) = some e) : ∃ q, behindS L ms p x = some q ∧ pathS L ms q xs = some e := by
  unfold pathS at h
  cases hb : behindS L ms p x with
  | none => rw [hb] at h; cases h
  | some q =>
    rw [hb] at h
    exact ⟨q, rfl, h⟩
theorem path_take {L : Lang} {ms : List Msg} : ∀ {xs : List NM.Sign} {p e : Pl} {i : Nat}, pathS L ms p xs = some e → i ≤ xs.length → ∃ q, pathS L ms p (xs.take i) = some q ∧ pathS L ms q (xs.drop i) = some e
  | xs, p, e, 0, h, _ => ⟨p, by simp [pathS], by simpa using h⟩
  | [], p, e, i + 1, h, hi => absurd hi (by simp)
  | x :: xs, p, e, i + 1, h, hi => by
    obtain ⟨q, h1, h2⟩ := path_cons h
    obtain ⟨q2, h3, h4⟩ := path_take (i := i) h2 (by simpa using hi)
    exact ⟨q2, by simp [pathS, h1, h3], by simpa using h4⟩
theorem path_in {L : Lang} {ms : List Msg} {ps : List Pl} (ok : NetOk L ms ps) : ∀ {xs : List NM.Sign} {p e : Pl}, (∀ x ∈ xs, L.ok x) → p ∈ ps → pathS L ms p xs = some e → e ∈ ps
  | [], p, e, _, hp, h => by
    simp only [pathS] at h
    cases h
    exact hp
  | x :: xs, p, e, hx, hp, h => by
    obtain ⟨q, h1, h2⟩ := path_cons h
    exact path_in ok (fun y hy => hx y (List.mem_cons_of_mem _ hy)) (ok.shut p hp x (mem_signs.mpr (hx x List.mem_cons_self)) q h1) h2
theorem path_app {L : Lang} {ms : List Msg} : ∀ {xs ys : List NM.Sign} {p : Pl}, pathS L ms p (xs ++ ys) = (pathS L ms p xs).bind fun q => pathS L ms q ys
  | [], ys, p => rfl
  | x :: xs, ys, p => by
    simp only [List.cons_append, pathS]
    cases behindS L ms p x with
    | none => rfl
    | some q => exact path_app (xs := xs) (ys := ys) (p := q)
def plS (L : Lang) (ms : List Msg) (xs : List NM.Sign) (i : Nat) : Pl := (pathS L ms begin0 (xs.take i)).getD begin0
theorem plS_at {L : Lang} {ms : List Msg} {xs : List NM.Sign} {e : Pl} {i : Nat} (h : pathS L ms begin0 xs = some e) (hi : i ≤ xs.length) : pathS L ms begin0 (xs.take i) = some (plS L ms xs i) ∧ pathS L ms (plS L ms xs i) (xs.drop i) = some e := by
  obtain ⟨q, h1, h2⟩ := path_take h hi
  have e : plS L ms xs i = q := by simp [plS, h1]
  rw [e]
  exact ⟨h1, h2⟩
theorem plS_step {L : Lang} {ms : List Msg} {xs : List NM.Sign} {e : Pl} {i : Nat} (h : pathS L ms begin0 xs = some e) (hi : i < xs.length) : behindS L ms (plS L ms xs i) xs[i] = some (plS L ms xs (i + 1)) := by
  have h1 := (plS_at h (Nat.le_of_lt hi)).1
  have h2 := (plS_at (i := i + 1) h hi).1
  rw [List.take_succ, List.getElem?_eq_getElem hi, path_app, h1] at h2
  simp only [Option.bind_some, Option.toList_some, pathS] at h2
  cases hb : behindS L ms (plS L ms xs i) xs[i] with
  | none => rw [hb] at h2; cases h2
  | some q =>
    rw [hb] at h2
    simpa [pathS] using h2
theorem numS_step {L : Lang} {ms : List Msg} {xs : List NM.Sign} {e : Pl} {i : Nat} (h : pathS L ms begin0 xs = some e) (hi : i < xs.length) :
    numS L ms (plS L ms xs i) (xs.drop i) = befS L ms (xs.length - 1 - i) (plS L ms xs i) ((signs L).idxOf xs[i]) + numS L ms (plS L ms xs (i + 1)) (xs.drop (i + 1)) := by
  rw [List.drop_eq_getElem_cons hi]
  simp only [numS, plS_step h hi, Option.elim_some]
  congr 2
  rw [List.length_drop]
  omega
theorem numS_le {L : Lang} {ms : List Msg} {xs : List NM.Sign} {e : Pl} (h : pathS L ms begin0 xs = some e) : ∀ i, i ≤ xs.length → numS L ms (plS L ms xs i) (xs.drop i) ≤ numS L ms begin0 xs
  | 0, _ => by simp [plS, pathS]
  | i + 1, hi => by
    have h1 := numS_le h i (by omega)
    have h2 := numS_step h (i := i) (by omega)
    omega
theorem not_before {α : Type} [DecidableEq α] : ∀ {l : List α} {x : α} {k : Nat} (h : k < l.length), k < l.idxOf x → ¬ l[k] = x
  | [], x, k, h, _ => absurd h (by simp)
  | a :: l, x, k, h, hk => fun z => by
    rw [List.idxOf_cons] at hk
    by_cases e : a = x
    · simp [e] at hk
    · have e' : (a == x) = false := by simpa using e
      rw [e'] at hk
      cases k with
      | zero => exact e z
      | succ k => exact not_before (l := l) (x := x) (k := k) (by simpa using h) (by simpa using hk) (by simpa using z)
/-! ### number_of -/
abbrev s_number_of : Stmt := top 59
abbrev N_number_of : List Str := ["language", "heard", "size", "stream", "counts", "net", "here", "found", "turn", "sign", "one", "there"]
theorem sc_number_of : FnScope N_number_of ["language", "heard", "size", "stream"] (defScope s_number_of) := ⟨rfl, rfl, rfl, by decide +kernel, rfl, by decide +kernel, by decide +kernel⟩
def R_number_of : List W → W → Prop := fun ws u => ∃ L ms xs e, Good L ∧ isHeard L ms ∧ xs.length ≤ 200 ∧ (∀ x ∈ xs, L.ok x) ∧ pathS L ms begin0 xs = some e ∧ e.n = ms.length ∧ ws = [.d (eL L), .d (eMs ms), .d (eN xs.length), .d (eSs xs)] ∧ u = .d (eN (numS L ms begin0 xs))
theorem r_number_of {L : Lang} {ms : List Msg} {xs : List NM.Sign} {e : Pl} (g : Good L) (h : isHeard L ms) (hn : xs.length ≤ 200) (hx : ∀ x ∈ xs, L.ok x) (hp : pathS L ms begin0 xs = some e) (he : e.n = ms.length) :
  R_number_of [.d (eL L), .d (eMs ms), .d (eN xs.length), .d (eSs xs)] (.d (eN (numS L ms begin0 xs))) := ⟨L, ms, xs, e, g, h, hn, hx, hp, he, rfl, rfl⟩
theorem ok_number_of (T : Txt K mg) (A : DefAt K mg "number_of" "number_of" s_number_of ["language", "heard", "size", "stream"]) (C_need_size : CalF P w K mg base 7 "need_size" R_need_size) (C_need_stream : CalF P w K mg base 4 "need_stream" R_need_stream)
    (C_counts_of : CalF P w K mg base 5 "counts_of" (R_counts_of K w)) (C_signs_of : CalF P w K mg base 1 "signs_of" R_signs_of) : CalF P w K mg base 8 "number_of" R_number_of := by
  refine calF A sc_number_of (fun ws u h => ?_) (fun f cdv A outer s H E ws u hr h => ?_)
  · obtain ⟨L, ms, xs, e, _, _, _, _, _, _, rfl, _⟩ := h; rfl
  · obtain ⟨L, ms, xs, e, g, hh, hn, hx, hp, he, rfl, rfl⟩ := h
    refine ⟨_, (pss_cons (ps_expr (C8.pe_c C_need_size hr (by decide) rfl (pa_cons (pv 0) (pa_cons (pv 1) (pa_cons (pv 2) pa_nil))))) (pss_cons (ps_expr (C8.pe_c C_need_stream hr (by decide) rfl (pa_cons (pv 0) (pa_cons (pv 3) pa_nil)))) (pss_cons (ps_asg (C8.pe_c C_counts_of hr (by decide) rfl (pa_cons (pv 0) (pa_cons (pv 1) (pa_cons (pv 2) pa_nil)))) (pgTK (n := 2) K rfl rfl (pgs_cons (pg_name (i := 4) sc_number_of.nd rfl (by first | exact Or.inl rfl | exact Or.inr rfl)) (pgs_cons (pg_name (i := 5) sc_number_of.nd rfl (by first | exact Or.inl rfl | exact Or.inr rfl)) pgs_nil)))) (pss_cons (ps_asg (pe_tup (pa_cons (pe_tup (pa_cons (pe_un un_neg pe_int) (pa_cons (pe_tup pa_nil) (pa_cons pe_int pa_nil)))) (pa_cons pe_int pa_nil))) (pgTK (n := 2) K rfl rfl (pgs_cons (pg_name (i := 6) sc_number_of.nd rfl (by first | exact Or.inl rfl | exact Or.inr rfl)) (pgs_cons (pg_name (i := 7) sc_number_of.nd rfl (by first | exact Or.inl rfl | exact Or.inr rfl)) pgs_nil)))) (pss_cons (ps_if (pt_cmpR (neK K rfl hr) (pe_callB (lenK K rfl) rfl T.b_len bo_len (pa_cons (pv 3) pa_nil)) (pv 2) (nomark _)) pss_never pss_nil) (pss_cons (ps_for PassesOwn.never rfl (pi_enumT K rfl rfl T.b_enumerate (pa_cons (pv 3) pa_nil)) (pgTK (n := 2) K rfl rfl (pgs_cons (pg_name (i := 8) sc_number_of.nd rfl (by first | exact Or.inl rfl | exact Or.inr rfl)) (pgs_cons (pg_name (i := 9) sc_number_of.nd rfl (by first | exact Or.inl rfl | exact Or.inr rfl)) pgs_nil))) (pss_cons (ps_for PassesOwn.never rfl (zipK K rfl rfl T.b_zip (pa_cons (C8.pe_c C_signs_of hr (by decide) rfl (pa_cons (pv 0) pa_nil)) (pa_cons (pe_dgetN K w rfl rfl hr (pv 5) (pv 6) (fun _ _ => rfl)) pa_nil))) (pgTK (n := 2) K rfl rfl (pgs_cons (pg_name (i := 10) sc_number_of.nd rfl (by first | exact Or.inl rfl | exact Or.inr rfl)) (pgs_cons (pg_name (i := 11) sc_number_of.nd rfl (by first | exact Or.inl rfl | exact Or.inr rfl)) pgs_nil))) (pss_cons (ps_if (pt_cmpR (eqK K rfl hr) (pv 10) (pv 9) (nomark _)) (pss_one ps_break) pss_nil) (pss_one (ps_aug (i := 7) sc_number_of.nd rfl (by first | exact Or.inl rfl | exact Or.inr rfl) (pe_ifExp (pt_cmpR op_isN (pv 11) pe_non (nomark _)) pe_int (pe_dgetN K w rfl rfl hr (pe_ix (ixK K rfl) (pv 4) (pe_op op_sub (pe_op op_sub (pv 2) pe_int) (pv 8)) (fun _ _ => rfl)) (pv 11) (fun _ _ => rfl))) ip_add)))) (pss_cons (ps_if (pt_cmpR op_isN (pv 11) pe_non (nomark _)) pss_never pss_nil) (pss_one (ps_set (i := 6) sc_number_of.nd rfl (by first | exact Or.inl rfl | exact Or.inr rfl) (pv 11)))))) (pss_cons (ps_if (pt_cmpR (neK K rfl hr) (pe_ix (ixK K rfl) (pv 6) pe_int (fun _ _ => rfl)) (pe_callB (lenK K rfl) rfl T.b_len bo_len (pa_cons (pv 1) pa_nil)) (nomark _)) pss_never pss_nil) (pss_one (ps_ret (pv 7)))))))))), .inl ?_⟩
    refine bs_dropS (cm_call (by walk_at "ca") (r_need_size g hh hn)) ?_
    refine bs_dropS (cm_call (by walk_at "ca") (r_need_stream g hx (by omega))) ?_
    refine bs_exS (cm_call (by walk_at "ca") (r_counts_of (w := w) g hh hn)) fun ps ok => ⟨_, _, cg_tpW (cgs_cons cg_name (cgs_cons cg_name cgs_nil)) rfl, ?_⟩
    refine bs_asgS (w := .d (.tup [eB begin0, .num 0])) (cm_is (by walk_at "cm") (by rfl)) (cg_tupE rfl (cgs_cons cg_name (cgs_cons cg_name cgs_nil)) rfl) ?_
    refine bs_skip (ct_test (cm_is (by walk_at "cm") (by rfl))) (by simp) ?_
    let acc : Nat → Nat := fun i => numS L ms begin0 xs - numS L ms (plS L ms xs i) (xs.drop i)
    let R : Nat → Sl := fun i => [some (.d (eL L)), some (.d (eMs ms)), some (.d (eN xs.length)), some (.d (eSs xs)), some (countsW K w L ms xs.length ps), some (netK K w L ms ps), some (.d (eB (plS L ms xs i))), some (.d (eN (acc i))), none, none, none, none]
    have acc0 : acc 0 = 0 := by simp [acc, plS, pathS]
    have inP : ∀ i, i ≤ xs.length → plS L ms xs i ∈ ps := fun i hi => path_in ok (fun y hy => hx y (List.mem_of_mem_take hy)) ok.bg (plS_at hp hi).1
    let IfX : TE := tIf (tTest (tOp rIsN (tVar 11) (tC .non))) (tC (.int 0)) (tOp (rGetN K w) (tOp (rIx K) (tVar 4) (tOp (rI0 fun i j => .int (i - j)) (tOp (rI0 fun i j => .int (i - j)) (tVar 2) (tC (.int 1))) (tVar 8))) (tVar 11))
    let inner : TS := tFor (rZip K (tCons (tCall (spF K R_signs_of) [] C8.E0 (tCons (tVar 0) tNil)) (tCons (tOp (rGetN K w) (tVar 5) (tVar 6)) tNil))) (gTup K 2 (gCons (gName 10) (gCons (gName 11) gNil))) (tSeq (tIfS (tTest (tOp (rEqD K) (tVar 10) (tVar 9))) tBreak tNext) (tAug 7 IfX (ipI fun i j => i + j)))
    have loop := bs_for (K := K) (g := gTup K 2 (gCons (gName 8) (gCons (gName 9) gNil))) (wi := iEn K (tCons (tVar 3) tNil)) R
      (tb := tSeq inner (tSeq (tIfS (tTest (tOp rIsN (tVar 11) (tC .non))) tNever tNext) (tAsg (tVar 11) (gName 6)))) (ci_enumT eS (ca_cons (cm_var rfl) ca_nil) rfl) fun i w0 hw => ?_
    · simp only [List.length_map, List.length_range] at loop
      have eR : ∀ (r : Sl), r = R 0 → Bs K (tFor (iEn K (tCons (tVar 3) tNil)) (gTup K 2 (gCons (gName 8) (gCons (gName 9) gNil))) (tSeq inner (tSeq (tIfS (tTest (tOp rIsN (tVar 11) (tC .non))) tNever tNext) (tAsg (tVar 11) (gName 6))))) r (.nx (R xs.length)) := fun r e => by
        rw [e]
        exact loop
      refine bs_seq (r1 := R xs.length) (eR _ ?_) ?_
      · show _ = [_, _, _, _, _, _, _, some (W.d (eN (acc 0))), _, _, _, _]
        rw [acc0]
        rfl
      · have eE : plS L ms xs xs.length = e := by
          have h1 := (plS_at hp (Nat.le_refl _)).2
          rw [List.drop_length] at h1
          simpa [pathS] using h1
        refine bs_skip (ct_test (cm_is (by walk_at "cm") (by rfl))) ?_ (bs_ret (cm_is (cm_var rfl) ?_))
        · simp [eE, he]
        · simp [acc, numS]
    · have hi : i < xs.length := by
        have := (List.getElem?_eq_some_iff.mp hw).1
        simpa using this
      have ew : w0 = .d (.tup [.num (i : Nat), eS xs[i]]) := by
        simp [hi] at hw
        exact hw.symm
      subst ew
      obtain ⟨p, ep⟩ : ∃ p, p = plS L ms xs i := ⟨_, rfl⟩
      obtain ⟨x, ex⟩ : ∃ x, x = xs[i] := ⟨_, rfl⟩
      have hpin : p ∈ ps := ep ▸ inP i (Nat.le_of_lt hi)
      have hstep : behindS L ms p x = some (plS L ms xs (i + 1)) := by rw [ep, ex]; exact plS_step hp hi
      have hxin : x ∈ signs L := mem_signs.mpr (hx x (ex ▸ List.getElem_mem hi))
      let kk := xs.length - 1 - i
      let S : Nat → Sl := fun k => [some (.d (eL L)), some (.d (eMs ms)), some (.d (eN xs.length)), some (.d (eSs xs)), some (countsW K w L ms xs.length ps), some (netK K w L ms ps), some (.d (eB p)), some (.d (eN (acc i + befS L ms kk p k))), some (.d (eN i)), some (.d (eS x)), none, none]
      have hj : (signs L).idxOf x < (signs L).length := List.idxOf_lt_length_of_mem hxin
      have hjx : (signs L)[(signs L).idxOf x] = x := List.getElem_idxOf hj
      let zs : List W := (((signs L).map eS).zip ((nextsS L ms p).map eOB)).map fun q => .d (.tup [q.1, q.2])
      have zlen : zs.length = (signs L).length := by simp [zs, nextsS]
      have zat : ∀ k w', (hk : k < (signs L).length) → zs[k]? = some w' → w' = .d (.tup [eS (signs L)[k], eOB (behindS L ms p (signs L)[k])]) := fun k w' hk h => by
        rw [List.getElem?_eq_getElem (by omega)] at h
        have := Option.some.inj h
        rw [← this]
        simp [zs, nextsS]
      let rj : Sl := [some (.d (eL L)), some (.d (eMs ms)), some (.d (eN xs.length)), some (.d (eSs xs)), some (countsW K w L ms xs.length ps), some (netK K w L ms ps), some (.d (eB p)), some (.d (eN (acc i + befS L ms kk p ((signs L).idxOf x)))), some (.d (eN i)), some (.d (eS x)), some (.d (eS x)), some (.d (eB (plS L ms xs (i + 1))))]
      have inn : Bs K inner (S 0) (.nx rj) := by
        refine bs_forB (ws := zs) S ((signs L).idxOf x) (by rw [zlen]; exact hj) ?_ (fun k w' hk hw' => ?_) fun w' hw' => ?_
        · exact ci_zipL (ca_cons (cm_call (ca_cons (cm_var rfl) ca_nil) (r_signs_of g)) (ca_cons (cm_op (cm_var rfl) (cm_var rfl) (co_getN (val_net hpin) ⟨_, rfl⟩ (dep_B p))) ca_nil))
        · have hk' : k < (signs L).length := by omega
          have ew := zat k w' hk' hw'
          subst ew
          have hne : ¬ (signs L)[k] = x := not_before hk' hk
          refine ⟨_, _, cg_tupE rfl (cgs_cons cg_name (cgs_cons cg_name cgs_nil)) rfl, bs_lessT (bs_skip (ct_test (cm_op (cm_var rfl) (cm_var rfl) (co_eq sh_s sh_s))) (by simp; exact fun z => hne (eS_inj z)) (bs_aug (a := (acc i + befS L ms kk p k : Nat)) (b := (cnt1 L ms kk p (signs L)[k] : Nat)) rfl ?_)) ?_⟩
          · have hc : Cm K (tOp (rIx K) (tVar 4) (tOp (rI0 fun i j => .int (i - j)) (tOp (rI0 fun i j => .int (i - j)) (tVar 2) (tC (.int 1))) (tVar 8))) (((S k).set 10 (some (.d (eS (signs L)[k])))).set 11 (some (.d (eOB (behindS L ms p (signs L)[k]))))) (dnW K w (kvC L ms ps kk)) := by
              refine cm_op (cm_var rfl) (cm_is (w' := .d (.num ((xs.length : Int) - 1 - (i : Int)))) (cm_op (cm_op (cm_var rfl) cm_int co_sub) (cm_var rfl) co_sub) ?_) (co_ixLs (i := (kk : Int)) (atI_counts (by omega)))
              have : (xs.length : Int) - 1 - (i : Int) = (kk : Int) := by omega
              rw [this]
            cases hb : behindS L ms p (signs L)[k] with
            | none =>
              rw [hb] at hc
              refine cm_ifT (ct_test (cm_op (cm_var rfl) cm_non co_isN)) (by rfl) (cm_is cm_int ?_)
              simp [cnt1, hb]
            | some q' =>
              rw [hb] at hc
              have hin := ok.shut p hpin _ (List.getElem_mem hk') q' hb
              refine cm_ifF (ct_test (cm_op (cm_var rfl) cm_non co_isN)) (by simp [eOB, eB]) (cm_is (cm_op hc (cm_var (w := .d (eB q')) rfl) (co_getN (val_cnt hin) ⟨_, rfl⟩ (dep_B q'))) ?_)
              simp [cnt1, hb]
          · have es : ((acc i + befS L ms kk p k : Nat) : Int) + (cnt1 L ms kk p (signs L)[k] : Nat) = ((acc i + befS L ms kk p (k + 1) : Nat) : Int) := by
              rw [befS_succ (List.getElem?_eq_getElem hk')]
              omega
            rw [es]
            walk_at "less"
        · have ew := zat _ w' hj hw'
          rw [hjx, hstep] at ew
          subst ew
          exact ⟨_, _, cg_tupE rfl (cgs_cons cg_name (cgs_cons cg_name cgs_nil)) rfl, bs_seqE rfl (bs_ifT (ct_test (cm_op (cm_var rfl) (cm_var rfl) (co_eq sh_s sh_s))) (by simp) bs_break)⟩
      refine ⟨_, _, cg_tupE rfl (cgs_cons cg_name (cgs_cons cg_name cgs_nil)) rfl, .inl ?_⟩
      have eS0 : ∀ r : Sl, r = S 0 → Bs K inner r (.nx rj) := fun r e => by rw [e]; exact inn
      refine bs_seq (eS0 _ ?_) (bs_skip (ct_test (cm_op (cm_var rfl) cm_non co_isN)) (by simp [eB]) (bs_lessT (bs_set (cm_var rfl)) ?_))
      · show _ = [_, _, _, _, _, _, _, some (W.d (eN (acc i + befS L ms kk p 0))), _, _, _, _]
        have : befS L ms kk p 0 = 0 := by simp [befS]
        rw [this, ep, ex]
        rfl
      · have ea : acc i + befS L ms kk p ((signs L).idxOf x) = acc (i + 1) := by
          have h1 := numS_step hp hi
          have h2 := numS_le hp i (Nat.le_of_lt hi)
          rw [← ep, ← ex] at h1
          simp only [acc, ← ep]
          rw [← ep] at h2
          have h3 : befS L ms kk p ((signs L).idxOf x) = befS L ms (xs.length - 1 - i) p ((signs L).idxOf x) := rfl
          omega
        show Less (R (i + 1)) _
        simp only [rj, ea]
        walk_at "less"
end
end NW
/-! fits.py: stream_at -/
namespace NW
open PySem PySem.Spec PyProof.Rows L2 StX NM
local macro_rules | `(tactic| walk_at "my") => `(tactic| fail)
local macro_rules | `(tactic| walk_at "mycm") => `(tactic| fail)
local macro_rules | `(tactic| walk_at "myco") => `(tactic| fail)
local macro_rules | `(tactic| walk_at "mycc") => `(tactic| fail)
local macro_rules | `(tactic| walk_at "sh") => `(tactic| first | assumption | exact sh_n | exact Sh.num | exact Sh.non | exact sh_role | exact Sh.text (by decide +kernel) | exact sh_ns | exact sh_s | exact sh_m | exact sh_o | exact sh_h | exact sh_t | exact sh_ss | exact sh_ms | exact sh_head | exact sh_L | exact sh_nil | (apply sh_cons <;> walk_at "sh"))
local macro_rules | `(tactic| walk_at "shs") => `(tactic| first | assumption | exact shs_nil | (apply shs_cons; walk_at "sh"; walk_at "shs"))
local macro_rules | `(tactic| walk_at "co") => `(tactic| first
  | ((with_reducible apply co_ixTe); exact rfl; exact rfl)
  | ((with_reducible exact co_ixDl))
  | ((with_reducible apply co_ixL); exact rfl)
  | (with_reducible exact co_lt) | (with_reducible exact co_le) | (with_reducible exact co_gt) | (with_reducible exact co_ge) | (with_reducible exact co_sub)
  | (with_reducible exact co_isN) | (with_reducible exact co_isNotN)
  | ((with_reducible apply co_eq) <;> walk_at "sh") | ((with_reducible apply co_ne) <;> walk_at "sh")
  | (with_reducible exact co_add)
  | ((with_reducible apply co_inTe); exact rfl; walk_at "sh"; walk_at "shs")
  | walk_at "myco")
local macro_rules | `(tactic| walk_at "cc") => `(tactic| first
  | ((with_reducible apply cc_lenTe); exact rfl) | (with_reducible exact cc_lenL) | (with_reducible exact cc_all) | (with_reducible exact cc_any) | (with_reducible exact cc_tuple) | (with_reducible exact cc_intI)
  | (with_reducible exact cc_intB) | (with_reducible exact cc_min2) | (with_reducible exact cc_listT)
  | ((with_reducible apply cc_isi); first | exact isi_int rfl | exact isi_bool | exact isi_tuple rfl | exact isi_str rfl)
  | walk_at "mycc")
local macro_rules | `(tactic| walk_at "ca") => `(tactic| first
  | (with_reducible exact ca_nil)
  | ((with_reducible apply ca_cons); walk_at "cm"; walk_at "ca"))
local macro_rules | `(tactic| walk_at "cad") => `(tactic| first
  | (with_reducible exact cad_nil)
  | ((with_reducible apply cad_cons); walk_at "cm"; walk_at "cad")
  | ((with_reducible apply cad_starE); walk_at "cm"; exact rfl; walk_at "cad"))
local macro_rules | `(tactic| walk_at "cm") => `(tactic| first
  | ((with_reducible apply cm_var); exact rfl)
  | (with_reducible exact cm_int) | (with_reducible exact cm_str) | (with_reducible exact cm_non) | (with_reducible exact cm_bl)
  | ((with_reducible apply cm_op); walk_at "cm"; walk_at "cm"; walk_at "co")
  | ((with_reducible apply cm_tupD); walk_at "cad"; walk_at "size")
  | ((with_reducible apply cm_neg); walk_at "cm")
  | ((with_reducible apply cm_call); walk_at "ca"; walk_at "my")
  | walk_at "mycm"
  | ((with_reducible apply cm_cb); walk_at "ca"; walk_at "cc")
  | ((with_reducible apply cm_chain); walk_at "cm"; walk_at "cm"; walk_at "co"; (intro _; walk_at "cm"); walk_at "co")
  | ((with_reducible apply cm_andVF); walk_at "cm"; walk_at "dec0")
  | ((with_reducible apply cm_orVT); walk_at "cm"; walk_at "dec0")
  | ((with_reducible apply cm_ifT); walk_at "ct"; walk_at "dec"; walk_at "cm")
  | ((with_reducible apply cm_ifF); walk_at "ct"; walk_at "dec"; walk_at "cm")
  | ((with_reducible apply cm_andV); walk_at "cm"; (intro _; walk_at "cm"))
  | ((with_reducible apply cm_orV); walk_at "cm"; (intro _; walk_at "cm"))
  | ((with_reducible apply cm_notV); walk_at "cm")
  | (with_reducible exact cm_val))
local macro_rules | `(tactic| walk_at "ct") => `(tactic| first
  | ((with_reducible apply ct_test); walk_at "cm") | ((with_reducible apply ct_B); walk_at "cm") | ((with_reducible apply ct_not); walk_at "ct")
  | ((with_reducible apply ct_andF); walk_at "ct"; walk_at "dec0")
  | ((with_reducible apply ct_orT); walk_at "ct"; walk_at "dec0")
  | ((with_reducible apply ct_and); walk_at "ct"; (intro _; walk_at "ct"))
  | ((with_reducible apply ct_or); walk_at "ct"; (intro _; walk_at "ct")))
local macro_rules | `(tactic| walk_at "size") => `(tactic| focus first | assumption | (simp; done) | (simp; omega) | omega)
local macro_rules | `(tactic| walk_at "dec0") => `(tactic| focus first | rfl | (simp [eHead, eL, eSs, eMs, eS, eM, eT, eN, eNs, eH, eO, rN]; done))
local macro_rules | `(tactic| walk_at "dec") => `(tactic| focus first | rfl | (simp [eHead, eL, eSs, eMs, eS, eM, eT, eN, eNs, eH, eO, rN]; done) | (simp [eHead, eL, eSs, eMs, eS, eM, eT, eN, eNs, eH, eO, rN]; omega) | (simp [eHead, eL, eSs, eMs, eS, eM, eT, eN, eNs, eH, eO, rN, *]; done))
local macro_rules | `(tactic| walk_at "skip") => `(tactic| ((with_reducible apply bs_skip); walk_at "ct"; walk_at "dec"))
local macro_rules | `(tactic| walk_at "take") => `(tactic| (refine bs_seqR ?_; (with_reducible apply bs_ifT); walk_at "ct"; walk_at "dec"))
local macro_rules | `(tactic| walk_at "ret") => `(tactic| (refine bs_ret ?_; (with_reducible apply cm_is); walk_at "cm"))
local macro_rules | `(tactic| walk_at "set") => `(tactic| ((with_reducible apply bs_setS); walk_at "cm"))
local macro_rules | `(tactic| walk_at "drop") => `(tactic| ((with_reducible apply bs_dropS); walk_at "cm"))
local macro_rules | `(tactic| walk_at "norm") => `(tactic| skip)
local macro_rules | `(tactic| walk_at "less") => `(tactic| first | exact less_nil | (apply less_some; walk_at "less") | (apply less_none; walk_at "less"))
local macro_rules | `(tactic| walk_at "flat") => `(tactic| first | exact flat_nil | (refine flat_cons ?_ ?_; (first | exact trivial | exact rfl); walk_at "flat"))
local macro_rules | `(tactic| walk_at "stay") => `(tactic| first | exact stay_nil | (refine stay_cons ?_ ?_; (first | exact stay_none | exact stay_d | exact stay_b | exact stay_v | exact stay_old (by assumption)); walk_at "stay"))
section
variable {P : Program} {w : World} {K : Fg} {mg : Str → Option Value} {base : Heap}

/-! ### an own list of data -/
structure OSt (K : Fg) (H0 : Hp) (l : Addr) (r : Sl) (ds : List D) (σ : St) (H : Hp) : Prop where
  env : EnvOk K r σ H
  same : Same H0 H
  fl : H0 l = none
  lst : ∃ vs, H l = some (.lst vs) ∧ RpA K H vs ds
theorem OSt.go {H0 : Hp} {l : Addr} {r r' : Sl} {ds : List D} {σ σ' : St} {H H' : Hp} (h : OSt K H0 l r ds σ H) (s : Same H H') (e : EnvOk K r' σ' H') : OSt K H0 l r' ds σ' H' := by
  obtain ⟨vs, h1, h2⟩ := h.lst
  exact ⟨e, h.same.trans s, h.fl, vs, s _ _ h1, RpA.keep (Keep.of s) _ _ h2⟩
theorem OSt.app {H0 : Hp} {l : Addr} {r : Sl} {ds : List D} {d : D} {σ : St} {H : Hp} {y : V} (h : OSt K H0 l r ds σ H) (st : StayS l r) (hy : Rp K H y d) : ∃ vs, H l = some (.lst vs) ∧ vs.length = ds.length ∧ Keep H (upd H l (.lst (vs ++ [y]))) ∧ OSt K H0 l r (ds ++ [d]) σ (upd H l (.lst (vs ++ [y]))) := by
  obtain ⟨vs, h1, h2⟩ := h.lst
  have nt : ∀ ys, H l ≠ some (.tup ys) := fun ys q => by rw [h1] at q; cases q
  have k : Keep H (upd H l (.lst (vs ++ [y]))) := Keep.put nt
  exact ⟨vs, h1, h2.length, k, h.env.stay st nt, Same.put0 h.same h.fl, h.fl, vs ++ [y], upd_same, (RpA.keep k _ _ h2).append (.cons (Rp.keep k _ _ hy) .nil)⟩
theorem seq_par {i j : Nat} {ta tb : TE} {u : TS} {D : Ends} {σ : St} {H : Hp} (h : ta σ H fun x H1 => tb σ H1 fun y H2 => ∃ v w, [x, y] = [v, w] ∧ u D ((σ.set i (some v)).set j (some w)) H2) : tSeq (tPar i j (tCons ta (tCons tb tNil))) u D σ H := h
/-! ### plain: the stream with a number -/
def pickI : List Nat → Nat → Nat × Nat
  | [], m => (0, m)
  | c :: cs, m => if m < c then (0, m) else ((pickI cs (m - c)).1 + 1, (pickI cs (m - c)).2)
theorem pick_ok : ∀ {cs : List Nat} {m : Nat}, m < cs.sum → ∃ h : (pickI cs m).1 < cs.length, (cs.take (pickI cs m).1).sum + (pickI cs m).2 = m ∧ (pickI cs m).2 < cs[(pickI cs m).1]
  | [], m, h => by simp at h
  | c :: cs, m, h => by
    unfold pickI
    by_cases hc : m < c
    · simp [hc]
    · simp only [if_neg hc]
      rw [List.sum_cons] at h
      obtain ⟨h1, h2, h3⟩ := pick_ok (cs := cs) (m := m - c) (by omega)
      refine ⟨by simpa using h1, ?_, by simpa using h3⟩
      simp only [List.take_succ_cons, List.sum_cons]
      omega
def atS (L : Lang) (ms : List Msg) : Nat → Pl → Nat → List NM.Sign
  | 0, _, _ => []
  | k + 1, p, m => match (signs L)[(pickI ((signs L).map (cnt1 L ms k p)) m).1]? with
    | none => []
    | some x => match behindS L ms p x with
      | none => []
      | some q => x :: atS L ms k q (pickI ((signs L).map (cnt1 L ms k p)) m).2
theorem cnt_sum (L : Lang) (ms : List Msg) (k : Nat) (p : Pl) : cntS L ms (k + 1) p = ((signs L).map (cnt1 L ms k p)).sum := by
  rw [cntS]
  unfold nextsS
  generalize signs L = xs
  induction xs with
  | nil => rfl
  | cons x xs ih =>
    rw [List.map_cons, List.map_cons, List.sum_cons, ← ih]
    unfold cnt1
    cases behindS L ms p x <;> simp
theorem cnt1_none {L : Lang} {ms : List Msg} {k : Nat} {p : Pl} {x : NM.Sign} (h : behindS L ms p x = none) : cnt1 L ms k p x = 0 := by simp [cnt1, h]
theorem cnt1_some {L : Lang} {ms : List Msg} {k : Nat} {p q : Pl} {x : NM.Sign} (h : behindS L ms p x = some q) : cnt1 L ms k p x = cntS L ms k q := by simp [cnt1, h]
theorem befS_le {L : Lang} {ms : List Msg} {k : Nat} {p : Pl} {c : Nat} : ∀ {d : Nat}, c ≤ d → d ≤ (signs L).length → befS L ms k p c ≤ befS L ms k p d
  | 0, h, _ => by
    have : c = 0 := by omega
    subst this
    exact Nat.le_refl _
  | d + 1, h, hl => by
    by_cases e : c = d + 1
    · subst e; exact Nat.le_refl _
    · have h1 := befS_le (L := L) (ms := ms) (k := k) (p := p) (c := c) (d := d) (by omega) (by omega)
      rw [befS_succ (List.getElem?_eq_getElem (show d < (signs L).length by omega))]
      omega
/-- one step of it -/
theorem at_step {L : Lang} {ms : List Msg} {k : Nat} {p : Pl} {m : Nat} (h : m < cntS L ms (k + 1) p) : ∃ j x q m', ∃ hj : j < (signs L).length, (signs L)[j] = x ∧ behindS L ms p x = some q ∧ befS L ms k p j + m' = m ∧ m' < cntS L ms k q ∧ atS L ms (k + 1) p m = x :: atS L ms k q m' := by
  rw [cnt_sum] at h
  obtain ⟨h1, h2, h3⟩ := pick_ok h
  have hj : (pickI ((signs L).map (cnt1 L ms k p)) m).1 < (signs L).length := by simpa using h1
  have h4 : (pickI ((signs L).map (cnt1 L ms k p)) m).2 < cnt1 L ms k p (signs L)[(pickI ((signs L).map (cnt1 L ms k p)) m).1] := by simpa using h3
  cases hb : behindS L ms p (signs L)[(pickI ((signs L).map (cnt1 L ms k p)) m).1] with
  | none =>
    rw [cnt1_none hb] at h4
    exact absurd h4 (by simp)
  | some q =>
    refine ⟨_, _, q, (pickI ((signs L).map (cnt1 L ms k p)) m).2, hj, rfl, hb, ?_, ?_, ?_⟩
    · unfold befS
      rw [List.map_take]
      exact h2
    · rw [cnt1_some hb] at h4
      exact h4
    · rw [atS, List.getElem?_eq_getElem hj]
      simp only [hb]
/-! ### stream_at -/
abbrev s_stream_at : Stmt := top 58
abbrev N_stream_at : List Str := ["language", "heard", "size", "number", "counts", "net", "here", "found", "turn", "sign", "there", "many"]
theorem sc_stream_at : FnScope N_stream_at ["language", "heard", "size", "number"] (defScope s_stream_at) := ⟨rfl, rfl, rfl, by decide +kernel, rfl, by decide +kernel, by decide +kernel⟩
def R_stream_at : List W → W → Prop := fun ws u => ∃ L ms n m, Good L ∧ isHeard L ms ∧ n ≤ 200 ∧ m < cntS L ms n begin0 ∧ ws = [.d (eL L), .d (eMs ms), .d (eN n), .d (eN m)] ∧ u = .d (eSs (atS L ms n begin0 m))
theorem r_stream_at {L : Lang} {ms : List Msg} {n m : Nat} (g : Good L) (h : isHeard L ms) (hn : n ≤ 200) (hm : m < cntS L ms n begin0) : R_stream_at [.d (eL L), .d (eMs ms), .d (eN n), .d (eN m)] (.d (eSs (atS L ms n begin0 m))) := ⟨L, ms, n, m, g, h, hn, hm, rfl, rfl⟩
local macro_rules | `(tactic| walk_at "my") => `(tactic| first | exact r_is_whole | exact r_is_whole0 | exact r_need_language (by assumption))
theorem ok_stream_at (T : Txt K mg) (A : DefAt K mg "stream_at" "stream_at" s_stream_at ["language", "heard", "size", "number"]) (C_need_size : CalF P w K mg base 7 "need_size" R_need_size) (C_is_whole : CalF P w K mg base 1 "is_whole" R_is_whole)
    (C_counts_of : CalF P w K mg base 5 "counts_of" (R_counts_of K w)) (C_signs_of : CalF P w K mg base 1 "signs_of" R_signs_of) : CalF P w K mg base 8 "stream_at" R_stream_at := by
  refine calF A sc_stream_at (fun ws u h => ?_) (fun f cdv A outer s H E ws u hr h => ?_)
  · obtain ⟨L, ms, n, m, _, _, _, _, rfl, _⟩ := h; rfl
  · obtain ⟨L, ms, n, m0, g, hh, hn, hm0, rfl, rfl⟩ := h
    refine ⟨_, (pss_cons (ps_expr (C8.pe_c C_need_size hr (by decide) rfl (pa_cons (pv 0) (pa_cons (pv 1) (pa_cons (pv 2) pa_nil))))) (pss_cons (ps_if (pt_not (pt_val (C8.pe_c C_is_whole hr (by decide) rfl (pa_cons (pv 3) (pa_cons pe_int (pa_cons pe_non pa_nil)))))) pss_never pss_nil) (pss_cons (ps_asg (C8.pe_c C_counts_of hr (by decide) rfl (pa_cons (pv 0) (pa_cons (pv 1) (pa_cons (pv 2) pa_nil)))) (pgTK (n := 2) K rfl rfl (pgs_cons (pg_name (i := 4) sc_stream_at.nd rfl (by first | exact Or.inl rfl | exact Or.inr rfl)) (pgs_cons (pg_name (i := 5) sc_stream_at.nd rfl (by first | exact Or.inl rfl | exact Or.inr rfl)) pgs_nil)))) (pss_cons (ps_par (i := 6) (j := 7) rfl sc_stream_at.nd rfl rfl (by decide) rfl rfl (pa_cons (pe_tup (pa_cons (pe_un un_neg pe_int) (pa_cons (pe_tup pa_nil) (pa_cons pe_int pa_nil)))) (pa_cons (pe_lst pa_nil) pa_nil)) rfl) (pss_cons (ps_if (pt_cmpR op_ge (pv 3) (pe_dgetN K w rfl rfl hr (pe_ix (ixK K rfl) (pv 4) (pe_un un_neg pe_int) (fun _ _ => rfl)) (pv 6) (fun _ _ => rfl)) (nomark _)) pss_never pss_nil) (pss_cons (ps_for PassesOwn.never rfl (pi_range1 rfl T.b_range (pa_cons (pv 2) pa_nil)) (pg_name (i := 8) sc_stream_at.nd rfl (by first | exact Or.inl rfl | exact Or.inr rfl)) (pss_one (ps_for PassesOwn.never rfl (zipK K rfl rfl T.b_zip (pa_cons (C8.pe_c C_signs_of hr (by decide) rfl (pa_cons (pv 0) pa_nil)) (pa_cons (pe_dgetN K w rfl rfl hr (pv 5) (pv 6) (fun _ _ => rfl)) pa_nil))) (pgTK (n := 2) K rfl rfl (pgs_cons (pg_name (i := 9) sc_stream_at.nd rfl (by first | exact Or.inl rfl | exact Or.inr rfl)) (pgs_cons (pg_name (i := 10) sc_stream_at.nd rfl (by first | exact Or.inl rfl | exact Or.inr rfl)) pgs_nil))) (pss_cons (ps_set (i := 11) sc_stream_at.nd rfl (by first | exact Or.inl rfl | exact Or.inr rfl) (pe_ifExp (pt_cmpR op_isN (pv 10) pe_non (nomark _)) pe_int (pe_dgetN K w rfl rfl hr (pe_ix (ixK K rfl) (pv 4) (pe_op op_sub (pe_op op_sub (pv 2) pe_int) (pv 8)) (fun _ _ => rfl)) (pv 10) (fun _ _ => rfl)))) (pss_cons (ps_if (pt_cmpR op_lt (pv 3) (pv 11) (nomark _)) (pss_cons (ps_expr (bmK K rfl (pe_bm PySem.F.plainAttrs_list PySem.F.slot_list_append PySem.F.type_list_append mt_append (pv 7) (pa_cons (pv 9) pa_nil)))) (pss_cons (ps_set (i := 6) sc_stream_at.nd rfl (by first | exact Or.inl rfl | exact Or.inr rfl) (pv 10)) (pss_one ps_break))) pss_nil) (pss_one (ps_aug (i := 3) sc_stream_at.nd rfl (by first | exact Or.inl rfl | exact Or.inr rfl) (pv 11) ip_sub))))))) (pss_one (ps_ret (pe_callTy (tupleK K rfl) rfl T.b_tuple bo_tuple (pa_cons (pv 7) pa_nil)))))))))), .inl ?_⟩
    refine bs_dropS (cm_call (by walk_at "ca") (r_need_size g hh hn)) ?_
    walk_at "skip"
    refine bs_exS (cm_call (by walk_at "ca") (r_counts_of (w := w) g hh hn)) fun ps ok => ⟨_, _, cg_tpW (cgs_cons cg_name (cgs_cons cg_name cgs_nil)) rfl, ?_⟩
    intro D σ H e p
    have mkB : Cm K (tTup (tCons (tUn (rU fun i => .int (-i)) (tC (.int 1))) (tCons (tTup tNil) (tCons (tC (.int 0)) tNil)))) (((startW N_stream_at [.d (eL L), .d (eMs ms), .d (eN n), .d (eN m0)]).set 4 (some (countsW K w L ms n ps))).set 5 (some (netK K w L ms ps))) (.d (eB begin0)) := cm_is (by walk_at "cm") (by rfl)
    refine seq_par ?_
    refine mkB σ H _ e fun xB H1 s1 rB => ?_
    refine ⟨(by decide : 0 ≤ sizeLine), fun l hl => ⟨_, _, rfl, ?_⟩⟩
    let R : Pl → Nat → Sl := fun p m => [some (.d (eL L)), some (.d (eMs ms)), some (.d (eN n)), some (.d (eN m)), some (old K H (countsW K w L ms n ps)), some (old K H (netK K w L ms ps)), some (.d (eB p)), some (.v (.ref l)), none, none, none, none]
    have fl : H l = none := s1.free hl
    have sn := Same.new (o := .lst []) hl
    have st0 : OSt K H l (R begin0 m0) (([] : List NM.Sign).map eS) ((σ.set 6 (some xB)).set 7 (some (.ref l))) (upd H1 l (.lst [])) := by
      refine ⟨?_, s1.trans sn, fl, [], upd_same, .nil⟩
      have h3 := ((e.know (i := 4) (w' := old K H (countsW K w L ms n ps)) rfl fun x hx => old_of (Same.refl H) hx).know (i := 5) (w' := old K H (netK K w L ms ps)) rfl fun x hx => old_of (Same.refl H) hx).same (s1.trans sn)
      exact (h3.set (i := 6) (w := .d (eB begin0)) (Rp.keep (Keep.of sn) _ _ rB)).set (i := 7) (w := .v (.ref l)) rfl
    clear mkB
    -- number is small enough
    have mkT : CmT K (tTest (tOp rGe (tVar 3) (tOp (rGetN K w) (tOp (rIx K) (tVar 4) (tUn (rU fun i => .int (-i)) (tC (.int 1)))) (tVar 6)))) (R begin0 m0) (decide ((cntS L ms n begin0 : Int) ≤ (m0 : Int))) :=
      ct_test (cm_op (cm_var rfl) (cm_op (cm_op (cm_old rfl) (cm_neg cm_int) (co_ixLs (by rw [List.range_succ, List.map_append]; exact L2.atI_last _ _))) (cm_var (w := .d (eB begin0)) rfl) (co_getN (val_cnt ok.bg) ⟨_, rfl⟩ (dep_B begin0))) co_ge)
    have cF : decide ((cntS L ms n begin0 : Int) ≤ (m0 : Int)) = false := by simp; omega
    rw [cF] at mkT
    refine mkT _ _ _ st0.env fun H2 s2 => iteF ?_
    have st2 := st0.go s2 (st0.env.same s2)
    clear st0 mkT
    refine (show tSeq (tFor _ _ _) _ D _ H2 from for_keep (r := R begin0 m0) (us := (List.range n).map fun i : Nat => .d (eN i)) (ck_range (ca_cons (cm_var rfl) ca_nil) (by omega)) st2.env
      (fun HB i σ' H' => Keep HB H' ∧ ∃ p m out, p ∈ ps ∧ m < cntS L ms (n - i) p ∧ out ++ atS L ms (n - i) p m = atS L ms n begin0 m0 ∧ out.length = i ∧ OSt K H l (R p m) (out.map eS) σ' H')
      (fun HB s' => ⟨Keep.refl _, begin0, m0, [], ok.bg, hm0, rfl, rfl, st2.go s' (st2.env.same s')⟩) (fun _ _ _ _ q => q.1) (fun HB i u σ' H' x H2 D' hu q s2 ru hnx hrt hbk => ?_) fun HB σ' H' q => ?_)
    · obtain ⟨kp, pl, m, out, hpl, hm, hout, hol, st⟩ := q
      have hi : i < n := by
        have := (List.getElem?_eq_some_iff.mp hu).1
        simpa using this
      have eu : u = .d (eN i) := by
        simp [hi] at hu
        exact hu.symm
      subst eu
      obtain ⟨k, hk⟩ : ∃ k, n - i = k + 1 := ⟨n - i - 1, by omega⟩
      rw [hk] at hm hout
      obtain ⟨j, x0, q, m', hj, hx0, hq, hsum, hm', hat⟩ := at_step hm
      have st3 := st.go s2 ((st.env.same s2).set (i := 8) (w := .d (eN i)) ru)
      let S : Nat → Sl := fun c => [some (.d (eL L)), some (.d (eMs ms)), some (.d (eN n)), some (.d (.num ((m : Int) - (befS L ms k pl c : Nat)))), some (old K H (countsW K w L ms n ps)), some (old K H (netK K w L ms ps)), some (.d (eB pl)), some (.v (.ref l)), some (.d (eN i)), none, none, none]
      have env0 : EnvOk K (S 0) (σ'.set 8 (some x)) H2 := by
        have e0 : (m : Int) - ((befS L ms k pl 0 : Nat) : Int) = (m : Int) := by simp [befS]
        have z := st3.env
        show EnvOk K [_, _, _, some (W.d (.num ((m : Int) - (befS L ms k pl 0 : Nat)))), _, _, _, _, _, _, _, _] _ _
        rw [e0]
        exact z
      let IfX : TE := tIf (tTest (tOp rIsN (tVar 10) (tC .non))) (tC (.int 0)) (tOp (rGetN K w) (tOp (rIx K) (tVar 4) (tOp (rI0 fun i j => .int (i - j)) (tOp (rI0 fun i j => .int (i - j)) (tVar 2) (tC (.int 1))) (tVar 8))) (tVar 10))
      let zs : List W := (((signs L).map eS).zip ((nextsS L ms pl).map eOB)).map fun q => .d (.tup [q.1, q.2])
      have zlen : zs.length = (signs L).length := by simp [zs, nextsS]
      have zat : ∀ k w', (hk : k < (signs L).length) → zs[k]? = some w' → w' = .d (.tup [eS (signs L)[k], eOB (behindS L ms pl (signs L)[k])]) := fun k w' hk h => by
        rw [List.getElem?_eq_getElem (by omega)] at h
        have := Option.some.inj h
        rw [← this]
        simp [zs, nextsS]
      have mkIf : ∀ c, (hc : c < (signs L).length) → Cm K IfX (((S c).set 9 (some (.d (eS (signs L)[c])))).set 10 (some (.d (eOB (behindS L ms pl (signs L)[c]))))) (.d (eN (cnt1 L ms k pl (signs L)[c]))) := fun c hc => by
        have hcn : Cm K (tOp (rIx K) (tVar 4) (tOp (rI0 fun i j => .int (i - j)) (tOp (rI0 fun i j => .int (i - j)) (tVar 2) (tC (.int 1))) (tVar 8))) (((S c).set 9 (some (.d (eS (signs L)[c])))).set 10 (some (.d (eOB (behindS L ms pl (signs L)[c]))))) (dnW K w (kvC L ms ps k)) := by
          refine cm_op (cm_old rfl) (cm_is (w' := .d (.num ((n : Int) - 1 - (i : Int)))) (cm_op (cm_op (cm_var rfl) cm_int co_sub) (cm_var rfl) co_sub) ?_) (co_ixLs (i := (k : Int)) (atI_counts (by omega)))
          have : (n : Int) - 1 - (i : Int) = (k : Int) := by omega
          rw [this]
        cases hb : behindS L ms pl (signs L)[c] with
        | none =>
          rw [hb] at hcn
          exact cm_ifT (ct_test (cm_op (cm_var rfl) cm_non co_isN)) (by rfl) (cm_is cm_int (by rw [cnt1_none hb]; rfl))
        | some q' =>
          rw [hb] at hcn
          have hin := ok.shut pl hpl _ (List.getElem_mem hc) q' hb
          exact cm_ifF (ct_test (cm_op (cm_var rfl) cm_non co_isN)) (by simp [eOB, eB]) (cm_is (cm_op hcn (cm_var (w := .d (eB q')) rfl) (co_getN (val_cnt hin) ⟨_, rfl⟩ (dep_B q'))) (by rw [cnt1_some hb]))
      refine (show tFor _ _ _ D' (σ'.set 8 (some x)) H2 from for_brk (ws := zs) S j (by rw [zlen]; exact hj) env0 ?_ (fun c w' hc hw' => ?_) fun w' hw' => ?_)
      · exact ci_zipL (ca_cons (cm_call (ca_cons (cm_var rfl) ca_nil) (r_signs_of g)) (ca_cons (cm_op (cm_old rfl) (cm_var rfl) (co_getN (val_net hpl) ⟨_, rfl⟩ (dep_B pl))) ca_nil))
      · have hc' : c < (signs L).length := by omega
        have ew := zat c w' hc' hw'
        subst ew
        have h1 := befS_succ (L := L) (ms := ms) (k := k) (p := pl) (List.getElem?_eq_getElem hc')
        have h2 := befS_le (L := L) (ms := ms) (k := k) (p := pl) (c := c + 1) (d := j) hc (Nat.le_of_lt hj)
        refine ⟨_, _, cg_tupE rfl (cgs_cons cg_name (cgs_cons cg_name cgs_nil)) rfl, bs_lessT (bs_setS (mkIf c hc') (bs_skip (ct_test (cm_op (cm_var rfl) (cm_var rfl) co_lt)) (by simp; omega) (bs_aug rfl (cm_var rfl)))) ?_⟩
        have es : (m : Int) - (befS L ms k pl c : Nat) - (cnt1 L ms k pl (signs L)[c] : Nat) = (m : Int) - (befS L ms k pl (c + 1) : Nat) := by omega
        rw [es]
        walk_at "less"
      · have ew := zat j w' hj hw'
        have mkj := mkIf j hj
        rw [hx0, hq] at ew
        rw [hx0, hq, cnt1_some hq] at mkj
        subst ew
        refine ⟨_, _, cg_tupE rfl (cgs_cons cg_name (cgs_cons cg_name cgs_nil)) rfl, fun D2 σ3 H3 s3 e3 hb2 hr2 => ?_⟩
        refine mkj σ3 H3 _ e3 fun y H4 s4 ry => ?_
        have st4 := st3.go (s3.trans s4) ((e3.same s4).set (i := 11) ry)
        have mkl := ct_test (cm_op (K := K) (cm_var (i := 3) (r := (((S j).set 9 (some (.d (eS x0)))).set 10 (some (.d (eOB (some q))))).set 11 (some (.d (eN (cntS L ms k q))))) rfl) (cm_var (i := 11) rfl) co_lt)
        have cT : decide ((m : Int) - (befS L ms k pl j : Nat) < (cntS L ms k q : Nat)) = true := by simp; omega
        rw [cT] at mkl
        refine mkl _ H4 _ st4.env fun H5 s5 => iteT ?_
        have st5 := st4.go s5 (st4.env.same s5)
        obtain ⟨x7, hx7, ex7⟩ := st5.env.at_ 7 _ rfl
        have ex7' : x7 = .ref l := ex7
        subst ex7'
        obtain ⟨x9, hx9, rx9⟩ := st5.env.at_ 9 _ rfl
        obtain ⟨vs5, hv5, hl5, kp5, st6⟩ := st5.app (by walk_at "stay") rx9
        have sz : (100000 : Nat) < sizeLine := by decide
        refine (show ∃ x, _ = some (some x) ∧ _ from ⟨_, hx7, .inl ⟨rfl, _, SqL.of hv5⟩, _, hx9, l, vs5, x9, rfl, rfl, hv5, by rw [hl5, List.length_map]; omega, ?_⟩)
        obtain ⟨x10, hx10, rx10⟩ := st6.env.at_ 10 _ rfl
        refine (show ∃ x, _ = some (some x) ∧ _ from ⟨_, hx10, ?_⟩)
        show D2.bk _ _
        rw [hb2]
        refine hnx _ _ ⟨((kp.trans (Keep.of (s2.trans ((s3.trans s4).trans s5)))).trans kp5), q, m', out ++ [x0], ok.shut pl hpl x0 (hx0 ▸ List.getElem_mem hj) q hq, ?_, ?_, by simp [hol], ?_⟩
        · have : n - (i + 1) = k := by omega
          rw [this]
          exact hm'
        · have : n - (i + 1) = k := by omega
          rw [this, List.append_assoc]
          rw [hat] at hout
          exact hout
        · have em : (m : Int) - (befS L ms k pl j : Nat) = (m' : Int) := by omega
          have st7 := st6.go (Same.refl _) (st6.env.set (i := 6) (w := .d (eB q)) rx10)
          rw [List.map_append]
          refine st7.go (Same.refl _) (st7.env.less (r' := R q m') ?_)
          show Less [_, _, _, some (W.d (.num (m' : Int))), _, _, _, _, _, _, _, _] _
          rw [← em]
          walk_at "less"
    · obtain ⟨kp, pl, m, out, hpl, hm, hout, hol, st⟩ := q
      simp only [List.length_map, List.length_range, Nat.sub_self] at hout
      have eo : out = atS L ms n begin0 m0 := by simpa [atS] using hout
      obtain ⟨x7, hx7, ex7⟩ := st.env.at_ 7 _ rfl
      have ex7' : x7 = .ref l := ex7
      subst ex7'
      obtain ⟨vs, hv, hr7⟩ := st.lst
      refine (show ∃ x, _ = some (some x) ∧ _ from ⟨_, hx7, l, vs, rfl, .inl ⟨.of hv, fun b hb => p _ _ (st.same.trans (Same.new hb)) ?_⟩⟩)
      rw [← eo]
      exact .tup (.inl upd_same) (RpA.keep (Keep.of (Same.new hb)) _ _ hr7)
end
end NW
/-! A display of one pair, its key a nested tuple; walks over a list that stays. -/
namespace NW
open PySem PySem.Spec PyProof.Rows L2 StX
def tDisp1N (K : Fg) (w : World) (tk tv : TE) : TE := fun σ H Q => ∀ p, H p = none → tk σ (upd H p (DNO w p 0 [])) fun y H1 => tv σ H1 fun z H2 => H2 p = some (DNO w p 0 []) ∧ ∃ b k, y = .ref b ∧ KeyAt K H2 b k ∧ ∀ ep', Q (.ref p) (upd H2 p (DNO w p ep' [(k, b, z)]))
theorem pe_disp1N {X : Cx} {ek ev : Expr} {pos : Pos} {tk tv : TE} (K : Fg) (w : World) (hK : X.K = K) (hw : X.w = w) {room : Nat} (hr : Room room X.A) (hk : PE X ek tk) (hv : PE X ev tv) : PE X (.Dict [some ek] [ev] pos) (tDisp1N K w tk tv) := by
  subst hK hw
  refine ⟨fun pins s σ H Q I q => ?_⟩
  have hn := I.hok.fresh (Nat.le_refl s.heap.objs.size)
  have I1 := I.laid (a := s.heap.objs.size) (o := DNO X.w s.heap.objs.size 0 []) (h' := s.heap.push { cls := .type "dict", data := .dict #[] }) (t' := s.toks) (fun _ _ z => Heap.get?_push_of_some _ z) (Nat.le_refl _) (dn_ok (dn_empty s.heap I.big))
  have hp0 : pairTrees [some ek] [ev] X.env pos ≠ [] := by simp [pairTrees]
  have hp1 : (pairTrees [some ek] [ev] X.env pos).length ≤ 15 := by simp [pairTrees]
  rw [arm_eval_Dict, zip_pairTrees [some ek] [ev] X.env pos rfl rfl, dictDisplay_pairs _ hp0 (by omega)]
  refine wpAny_bind (wpAny_standAt (wpAny_bind (wpAny_subDictH (knd := nestedKind X.prog X.w) (Q := fun d s' => wpAny (model X.prog X.w) X.A (pure (Value.ref d)) (EP X pins σ Q) X.xe s') (room_n0 (u64 hr)) hp1 ?_)))
  refine pairTrees_cons_walk (thn (hk.run pins _ σ _ _ I1 (q _ hn)) fun u s1 ⟨y, H1, I2, ry, q1⟩ => thn (hv.run pins s1 σ H1 _ I2 q1) fun uv s2 ⟨z, H2, I3, rz, hD, b, k, ey, ka, q2⟩ => pairTrees_nil_walk ?_)
  subst ey
  obtain rfl : u = Value.ref b := ry
  obtain ⟨_, hd, xs, rel, dd⟩ := dn_of I3 hD fun p hp => nomatch hp
  cases rel
  refine ⟨[(k, b, uv)], ⟨rfl, rfl, key_is I3 ka, trivial⟩, dd, fun h' tk' dd' hs => wpAny_pure ?_⟩
  have e : storedAllH (K := D) [] [(k, b, uv)] = [(k, b, uv)] := rfl
  rw [e] at dd'
  obtain ⟨ep', I4⟩ := dn_write (t' := tk') I3 hD hs (es' := [(k, b, z)]) (by decide : 1 ≤ sizeLine) hd (.cons ⟨rfl, rfl, rz⟩ .nil) dd'
  exact ⟨.ref s.heap.objs.size, _, I4, rfl, q2 ep'⟩
/-- a walk over the list at c, while it stays -/
theorem for_at {K : Fg} {wi : TI} {g : TG} {tb : TS} {c : Addr} {xs : List V} {D : Ends} {σ : St} {H : Hp} (hw : ∀ R : It → Hp → Prop, R (Itl K c) H → wi σ H R) (P : Nat → St → Hp → Prop) (h0 : P 0 σ H) (hk : ∀ i σ' H', P i σ' H' → H' c = some (.lst xs))
    (hs : ∀ i x σ' H' (D' : Ends), xs[i]? = some x → P i σ' H' → (∀ σ4 H4, P (i + 1) σ4 H4 → D'.nx σ4 H4) → D'.rt = D.rt → D'.bk = D.nx → g x σ' H' fun σ2 H3 => tb D' σ2 H3)
    (hd : ∀ σ' H', P xs.length σ' H' → D.nx σ' H') : tFor wi g tb D σ H := by
  have wk := walk_list (K := K) (a := c) (xs := xs)
  refine hw _ (for_it wk P h0 (fun i σ' H' _ p => .of (hk i σ' H' p)) (fun i x σ' H' H2 _ p y => ?_) hd)
  obtain ⟨rfl, e⟩ := y
  exact hs i x σ' _ _ e p (fun _ _ q => q) rfl rfl
end NW
/-! fits.py: shortest_size -/
namespace NW
open PySem PySem.Spec PyProof.Rows L2 StX NM
local macro_rules | `(tactic| walk_at "my") => `(tactic| fail)
local macro_rules | `(tactic| walk_at "mycm") => `(tactic| fail)
local macro_rules | `(tactic| walk_at "myco") => `(tactic| fail)
local macro_rules | `(tactic| walk_at "mycc") => `(tactic| fail)
local macro_rules | `(tactic| walk_at "sh") => `(tactic| first | assumption | exact sh_n | exact Sh.num | exact Sh.non | exact sh_role | exact Sh.text (by decide +kernel) | exact sh_ns | exact sh_s | exact sh_m | exact sh_o | exact sh_h | exact sh_t | exact sh_ss | exact sh_ms | exact sh_head | exact sh_L | exact sh_nil | (apply sh_cons <;> walk_at "sh"))
local macro_rules | `(tactic| walk_at "shs") => `(tactic| first | assumption | exact shs_nil | (apply shs_cons; walk_at "sh"; walk_at "shs"))
local macro_rules | `(tactic| walk_at "co") => `(tactic| first
  | ((with_reducible apply co_ixTe); exact rfl; exact rfl)
  | ((with_reducible exact co_ixDl))
  | ((with_reducible apply co_ixL); exact rfl)
  | (with_reducible exact co_lt) | (with_reducible exact co_le) | (with_reducible exact co_gt) | (with_reducible exact co_ge) | (with_reducible exact co_sub)
  | (with_reducible exact co_isN) | (with_reducible exact co_isNotN)
  | ((with_reducible apply co_eq) <;> walk_at "sh") | ((with_reducible apply co_ne) <;> walk_at "sh")
  | (with_reducible exact co_add)
  | ((with_reducible apply co_inTe); exact rfl; walk_at "sh"; walk_at "shs")
  | walk_at "myco")
local macro_rules | `(tactic| walk_at "cc") => `(tactic| first
  | ((with_reducible apply cc_lenTe); exact rfl) | (with_reducible exact cc_lenL) | (with_reducible exact cc_all) | (with_reducible exact cc_any) | (with_reducible exact cc_tuple) | (with_reducible exact cc_intI)
  | (with_reducible exact cc_intB) | (with_reducible exact cc_min2) | (with_reducible exact cc_listT)
  | ((with_reducible apply cc_isi); first | exact isi_int rfl | exact isi_bool | exact isi_tuple rfl | exact isi_str rfl)
  | walk_at "mycc")
local macro_rules | `(tactic| walk_at "ca") => `(tactic| first
  | (with_reducible exact ca_nil)
  | ((with_reducible apply ca_cons); walk_at "cm"; walk_at "ca"))
local macro_rules | `(tactic| walk_at "cad") => `(tactic| first
  | (with_reducible exact cad_nil)
  | ((with_reducible apply cad_cons); walk_at "cm"; walk_at "cad")
  | ((with_reducible apply cad_starE); walk_at "cm"; exact rfl; walk_at "cad"))
local macro_rules | `(tactic| walk_at "cm") => `(tactic| first
  | ((with_reducible apply cm_var); exact rfl)
  | (with_reducible exact cm_int) | (with_reducible exact cm_str) | (with_reducible exact cm_non) | (with_reducible exact cm_bl)
  | ((with_reducible apply cm_op); walk_at "cm"; walk_at "cm"; walk_at "co")
  | ((with_reducible apply cm_tupD); walk_at "cad"; walk_at "size")
  | ((with_reducible apply cm_neg); walk_at "cm")
  | ((with_reducible apply cm_call); walk_at "ca"; walk_at "my")
  | walk_at "mycm"
  | ((with_reducible apply cm_cb); walk_at "ca"; walk_at "cc")
  | ((with_reducible apply cm_chain); walk_at "cm"; walk_at "cm"; walk_at "co"; (intro _; walk_at "cm"); walk_at "co")
  | ((with_reducible apply cm_andVF); walk_at "cm"; walk_at "dec0")
  | ((with_reducible apply cm_orVT); walk_at "cm"; walk_at "dec0")
  | ((with_reducible apply cm_ifT); walk_at "ct"; walk_at "dec"; walk_at "cm")
  | ((with_reducible apply cm_ifF); walk_at "ct"; walk_at "dec"; walk_at "cm")
  | ((with_reducible apply cm_andV); walk_at "cm"; (intro _; walk_at "cm"))
  | ((with_reducible apply cm_orV); walk_at "cm"; (intro _; walk_at "cm"))
  | ((with_reducible apply cm_notV); walk_at "cm")
  | (with_reducible exact cm_val))
local macro_rules | `(tactic| walk_at "ct") => `(tactic| first
  | ((with_reducible apply ct_test); walk_at "cm") | ((with_reducible apply ct_B); walk_at "cm") | ((with_reducible apply ct_not); walk_at "ct")
  | ((with_reducible apply ct_andF); walk_at "ct"; walk_at "dec0")
  | ((with_reducible apply ct_orT); walk_at "ct"; walk_at "dec0")
  | ((with_reducible apply ct_and); walk_at "ct"; (intro _; walk_at "ct"))
  | ((with_reducible apply ct_or); walk_at "ct"; (intro _; walk_at "ct")))
local macro_rules | `(tactic| walk_at "size") => `(tactic| focus first | assumption | (simp; done) | (simp; omega) | omega)
local macro_rules | `(tactic| walk_at "dec0") => `(tactic| focus first | rfl | (simp [eHead, eL, eSs, eMs, eS, eM, eT, eN, eNs, eH, eO, rN]; done))
local macro_rules | `(tactic| walk_at "dec") => `(tactic| focus first | rfl | (simp [eHead, eL, eSs, eMs, eS, eM, eT, eN, eNs, eH, eO, rN]; done) | (simp [eHead, eL, eSs, eMs, eS, eM, eT, eN, eNs, eH, eO, rN]; omega) | (simp [eHead, eL, eSs, eMs, eS, eM, eT, eN, eNs, eH, eO, rN, *]; done))
local macro_rules | `(tactic| walk_at "skip") => `(tactic| ((with_reducible apply bs_skip); walk_at "ct"; walk_at "dec"))
local macro_rules | `(tactic| walk_at "take") => `(tactic| (refine bs_seqR ?_; (with_reducible apply bs_ifT); walk_at "ct"; walk_at "dec"))
local macro_rules | `(tactic| walk_at "ret") => `(tactic| (refine bs_ret ?_; (with_reducible apply cm_is); walk_at "cm"))
local macro_rules | `(tactic| walk_at "set") => `(tactic| ((with_reducible apply bs_setS); walk_at "cm"))
local macro_rules | `(tactic| walk_at "drop") => `(tactic| ((with_reducible apply bs_dropS); walk_at "cm"))
local macro_rules | `(tactic| walk_at "norm") => `(tactic| skip)
local macro_rules | `(tactic| walk_at "less") => `(tactic| first | exact less_nil | (apply less_some; walk_at "less") | (apply less_none; walk_at "less"))
local macro_rules | `(tactic| walk_at "flat") => `(tactic| first | exact flat_nil | (refine flat_cons ?_ ?_; (first | exact trivial | exact rfl); walk_at "flat"))
local macro_rules | `(tactic| walk_at "stay") => `(tactic| first | exact stay_nil | (refine stay_cons ?_ ?_; (first | exact stay_none | exact stay_d | exact stay_b | exact stay_v | exact stay_old (by assumption)); walk_at "stay"))
section
variable {P : Program} {w : World} {K : Fg} {mg : Str → Option Value} {base : Heap}

/-! ### plain: layers -/
def Reach (L : Lang) (ms : List Msg) (k : Nat) (p : Pl) : Prop := ∃ xs : List NM.Sign, xs.length = k ∧ (∀ x ∈ xs, x ∈ signs L) ∧ pathS L ms begin0 xs = some p
theorem reach0 {L : Lang} {ms : List Msg} {p : Pl} : Reach L ms 0 p ↔ p = begin0 := by
  constructor
  · rintro ⟨xs, hl, _, hp⟩
    have : xs = [] := List.length_eq_zero_iff.mp hl
    subst this
    simpa [pathS] using hp.symm
  · rintro rfl
    exact ⟨[], rfl, (fun _ h => by cases h), rfl⟩
theorem reachS {L : Lang} {ms : List Msg} {k : Nat} {q : Pl} : Reach L ms (k + 1) q ↔ ∃ p x, Reach L ms k p ∧ x ∈ signs L ∧ behindS L ms p x = some q := by
  constructor
  · rintro ⟨xs, hl, hx, hp⟩
    rcases List.eq_nil_or_concat xs with rfl | ⟨ys, x, rfl⟩
    · simp at hl
    · rw [List.concat_eq_append] at hl hx hp
      rw [path_app] at hp
      cases hy : pathS L ms begin0 ys with
      | none => rw [hy] at hp; cases hp
      | some p =>
        rw [hy] at hp
        simp only [Option.bind_some, pathS] at hp
        refine ⟨p, x, ⟨ys, by simpa using hl, fun y h => hx y (by simp [h]), hy⟩, hx x (by simp), ?_⟩
        cases hb : behindS L ms p x with
        | none => rw [hb] at hp; cases hp
        | some q' => rw [hb] at hp; simpa using hp
  · rintro ⟨p, x, ⟨ys, hl, hy, hp⟩, hx, hb⟩
    refine ⟨ys ++ [x], by simp [hl], fun y h => ?_, ?_⟩
    · rcases List.mem_append.mp h with z | z
      · exact hy y z
      · simp at z
        exact z ▸ hx
    · rw [path_app, hp]
      simp [pathS, hb]
structure Bfs (L : Lang) (ms : List Msg) (ps : List Pl) (d : Nat) (ly kn : List Pl) : Prop where
  lr : ∀ p ∈ ly, p ∈ ps ∧ Reach L ms d p
  kp : ∀ p ∈ kn, p ∈ ps
  nd : kn.Nodup
  kr : ∀ p ∈ kn, ∃ k, k ≤ d ∧ Reach L ms k p
  ki : ∀ k, k ≤ d → ∀ p, Reach L ms k p → p ∈ kn
  la : ∀ p, Reach L ms d p → p ∈ ly ∨ ∃ k, k < d ∧ Reach L ms k p
  no : ∀ k, k < d → ∀ p, Reach L ms k p → p.n ≠ ms.length
theorem bfs0 {L : Lang} {ms : List Msg} {ps : List Pl} (ok : NetOk L ms ps) : Bfs L ms ps 0 [begin0] [begin0] where
  lr := fun p hp => by simp at hp; subst hp; exact ⟨ok.bg, reach0.mpr rfl⟩
  kp := fun p hp => by simp at hp; subst hp; exact ok.bg
  nd := by simp
  kr := fun p hp => by simp at hp; subst hp; exact ⟨0, Nat.le_refl _, reach0.mpr rfl⟩
  ki := fun k hk p hp => by
    have : k = 0 := by omega
    subst this
    simp [reach0.mp hp]
  la := fun p hp => .inl (by simp [reach0.mp hp])
  no := fun k hk => absurd hk (Nat.not_lt_zero _)
/-- what one turn finds -/
structure Found (L : Lang) (ms : List Msg) (ly kn fu : List Pl) : Prop where
  nd : (kn ++ fu).Nodup
  fr : ∀ q ∈ fu, ∃ p ∈ ly, ∃ x ∈ signs L, behindS L ms p x = some q
theorem Bfs.next {L : Lang} {ms : List Msg} {ps : List Pl} (ok : NetOk L ms ps) {d : Nat} {ly kn fu : List Pl} (h : Bfs L ms ps d ly kn) (hn : ∀ p ∈ ly, p.n ≠ ms.length) (f : Found L ms ly kn fu)
    (all : ∀ p ∈ ly, ∀ x ∈ signs L, ∀ q, behindS L ms p x = some q → q ∈ kn ++ fu) : Bfs L ms ps (d + 1) fu (kn ++ fu) where
  lr := fun q hq => by
    obtain ⟨p, hp, x, hx, hb⟩ := f.fr q hq
    obtain ⟨h1, h2⟩ := h.lr p hp
    exact ⟨ok.shut p h1 x hx q hb, reachS.mpr ⟨p, x, h2, hx, hb⟩⟩
  kp := fun q hq => by
    rcases List.mem_append.mp hq with z | z
    · exact h.kp q z
    · obtain ⟨p, hp, x, hx, hb⟩ := f.fr q z
      exact ok.shut p (h.lr p hp).1 x hx q hb
  nd := f.nd
  kr := fun q hq => by
    rcases List.mem_append.mp hq with z | z
    · obtain ⟨k, h1, h2⟩ := h.kr q z
      exact ⟨k, by omega, h2⟩
    · obtain ⟨p, hp, x, hx, hb⟩ := f.fr q z
      exact ⟨d + 1, Nat.le_refl _, reachS.mpr ⟨p, x, (h.lr p hp).2, hx, hb⟩⟩
  ki := fun k hk q hq => by
    by_cases e : k ≤ d
    · exact List.mem_append_left _ (h.ki k e q hq)
    · have : k = d + 1 := by omega
      subst this
      obtain ⟨p, x, hp, hx, hb⟩ := reachS.mp hq
      rcases h.la p hp with z | ⟨k', hk', z⟩
      · exact all p z x hx q hb
      · exact List.mem_append_left _ (h.ki (k' + 1) hk' q (reachS.mpr ⟨p, x, z, hx, hb⟩))
  la := fun q hq => by
    obtain ⟨p, x, hp, hx, hb⟩ := reachS.mp hq
    rcases h.la p hp with z | ⟨k', hk', z⟩
    · rcases List.mem_append.mp (all p z x hx q hb) with y | y
      · obtain ⟨k, h1, h2⟩ := h.kr q y
        exact .inr ⟨k, by omega, h2⟩
      · exact .inl y
    · exact .inr ⟨k' + 1, by omega, reachS.mpr ⟨p, x, z, hx, hb⟩⟩
  no := fun k hk p hp => by
    by_cases e : k < d
    · exact h.no k e p hp
    · have : k = d := by omega
      subst this
      rcases h.la p hp with z | ⟨k', hk', z⟩
      · exact hn p z
      · exact h.no k' hk' p z
theorem Bfs.stuck {L : Lang} {ms : List Msg} {ps : List Pl} {d : Nat} {kn : List Pl} (h : Bfs L ms ps d [] kn) : ∀ k p, Reach L ms k p → ∃ k', k' < d ∧ Reach L ms k' p
  | 0, p, hp => by
    by_cases e : 0 < d
    · exact ⟨0, e, hp⟩
    · have : d = 0 := by omega
      subst this
      rcases h.la p hp with z | z
      · cases z
      · exact z
  | k + 1, q, hq => by
    obtain ⟨p, x, hp, hx, hb⟩ := reachS.mp hq
    obtain ⟨k', h1, h2⟩ := Bfs.stuck h k p hp
    have h3 : Reach L ms (k' + 1) q := reachS.mpr ⟨p, x, h2, hx, hb⟩
    by_cases e : k' + 1 < d
    · exact ⟨k' + 1, e, h3⟩
    · have : d = k' + 1 := by omega
      subst this
      rcases h.la q h3 with z | z
      · cases z
      · exact z
theorem cnt_pos {L : Lang} {ms : List Msg} : ∀ {k : Nat} {p : Pl}, 0 < cntS L ms k p ↔ ∃ xs : List NM.Sign, xs.length = k ∧ (∀ x ∈ xs, x ∈ signs L) ∧ ∃ e, pathS L ms p xs = some e ∧ e.n = ms.length
  | 0, p => by
    constructor
    · intro h
      unfold cntS at h
      by_cases z : p.n = ms.length
      · exact ⟨[], rfl, (fun _ h => by cases h), p, rfl, z⟩
      · rw [if_neg z] at h
        exact absurd h (by decide)
    · rintro ⟨xs, hl, _, e, he, hn⟩
      have : xs = [] := List.length_eq_zero_iff.mp hl
      subst this
      simp only [pathS] at he
      cases he
      simp [cntS, hn]
  | k + 1, p => by
    have hsum : 0 < cntS L ms (k + 1) p ↔ ∃ x ∈ signs L, 0 < cnt1 L ms k p x := by
      rw [cnt_sum]
      generalize signs L = ss
      induction ss with
      | nil => simp
      | cons s ss ih =>
        rw [List.map_cons, List.sum_cons]
        constructor
        · intro h
          by_cases z : 0 < cnt1 L ms k p s
          · exact ⟨s, by simp, z⟩
          · obtain ⟨x, hx, h2⟩ := ih.mp (by omega)
            exact ⟨x, by simp [hx], h2⟩
        · rintro ⟨x, hx, h2⟩
          rcases List.mem_cons.mp hx with rfl | hx
          · omega
          · have := ih.mpr ⟨x, hx, h2⟩
            omega
    rw [hsum]
    constructor
    · rintro ⟨x, hx, h⟩
      cases hb : behindS L ms p x with
      | none => rw [cnt1_none hb] at h; exact absurd h (by decide)
      | some q =>
        rw [cnt1_some hb] at h
        obtain ⟨xs, hl, hxs, e, he, hn⟩ := cnt_pos.mp h
        refine ⟨x :: xs, by simp [hl], fun y hy => ?_, e, by simp [pathS, hb, he], hn⟩
        rcases List.mem_cons.mp hy with rfl | hy
        · exact hx
        · exact hxs y hy
    · rintro ⟨xs, hl, hxs, e, he, hn⟩
      cases xs with
      | nil => simp at hl
      | cons x xs =>
        obtain ⟨q, hb, hq⟩ := path_cons he
        refine ⟨x, hxs x (by simp), ?_⟩
        rw [cnt1_some hb]
        exact cnt_pos.mpr ⟨xs, by simpa using hl, fun y hy => hxs y (by simp [hy]), e, hq, hn⟩
theorem cnt_reach {L : Lang} {ms : List Msg} {k : Nat} : 0 < cntS L ms k begin0 ↔ ∃ e, Reach L ms k e ∧ e.n = ms.length := by
  rw [cnt_pos]
  constructor
  · rintro ⟨xs, h1, h2, e, h3, h4⟩
    exact ⟨e, ⟨xs, h1, h2, h3⟩, h4⟩
  · rintro ⟨e, ⟨xs, h1, h2, h3⟩, h4⟩
    exact ⟨xs, h1, h2, e, h3, h4⟩
/-! ### shortest_size -/
abbrev s_shortest_size : Stmt := top 60
abbrev N_shortest_size : List Str := ["language", "heard", "net", "layer", "known", "size", "here", "further", "there"]
theorem sc_shortest_size : FnScope N_shortest_size ["language", "heard"] (defScope s_shortest_size) := ⟨rfl, rfl, rfl, by decide +kernel, rfl, by decide +kernel, by decide +kernel⟩
def Least (L : Lang) (ms : List Msg) (d : Nat) : Prop := 0 < cntS L ms d begin0 ∧ ∀ k, k < d → cntS L ms k begin0 = 0
def R_shortest (K : Fg) : List W → W → Prop := fun ws u => ∃ L ms, Good L ∧ isHeard L ms ∧ (∃ k, 0 < cntS L ms k begin0) ∧ ws = [.d (eL L), .d (eMs ms)] ∧ u = exW K (Least L ms) fun d => .d (eN d)
theorem r_shortest {L : Lang} {ms : List Msg} (g : Good L) (h : isHeard L ms) (hk : ∃ k, 0 < cntS L ms k begin0) : R_shortest K [.d (eL L), .d (eMs ms)] (exW K (Least L ms) fun d => .d (eN d)) := ⟨L, ms, g, h, hk, rfl, rfl⟩
theorem seq_par3 {i j m : Nat} {ta : TA} {u : TS} {D : Ends} {σ : St} {H : Hp} (h : ta σ H fun vs H1 => ∃ x y z, vs = [x, y, z] ∧ u D (((σ.set i (some x)).set j (some y)).set m (some z)) H1) : tSeq (tPar3 i j m ta) u D σ H := h
structure BSt (K : Fg) (w : World) (H0 : Hp) (a l l2 : Addr) (vs : List V) (ly : List Pl) (r : Sl) (kn fu : List Pl) (σ : St) (H : Hp) : Prop where
  env : EnvOk K r σ H
  same : Same H0 H
  fa : H0 a = none
  fl : H0 l2 = none
  ne : l ≠ l2
  hl : H l = some (.lst vs)
  hr : RpA K H vs (ly.map eB)
  dic : ∃ ep es, H a = some (DNO w a ep es) ∧ KeysOk K H es ∧ Paired (PRel fun (_ : V) (_ : Unit) => True) (kn.map fun p => (eB p, ())) es
  lst : ∃ us, H l2 = some (.lst us) ∧ RpA K H us (fu.map eB)
theorem BSt.go {H0 : Hp} {a l l2 : Addr} {vs : List V} {ly : List Pl} {r r' : Sl} {kn fu : List Pl} {σ σ' : St} {H H' : Hp} (h : BSt K w H0 a l l2 vs ly r kn fu σ H) (s : Same H H') (e : EnvOk K r' σ' H') : BSt K w H0 a l l2 vs ly r' kn fu σ' H' := by
  obtain ⟨ep, es, h1, h2, h3⟩ := h.dic
  obtain ⟨us, h4, h5⟩ := h.lst
  exact ⟨e, h.same.trans s, h.fa, h.fl, h.ne, s _ _ h.hl, RpA.keep (Keep.of s) _ _ h.hr, ⟨ep, es, s _ _ h1, h2.keep (Keep.of s), h3⟩, us, s _ _ h4, RpA.keep (Keep.of s) _ _ h5⟩
theorem BSt.env' {H0 : Hp} {a l l2 : Addr} {vs : List V} {ly : List Pl} {r r' : Sl} {kn fu : List Pl} {σ σ' : St} {H : Hp} (h : BSt K w H0 a l l2 vs ly r kn fu σ H) (e : EnvOk K r' σ' H) : BSt K w H0 a l l2 vs ly r' kn fu σ' H := h.go (Same.refl _) e
theorem BSt.val {H0 : Hp} {a l l2 : Addr} {vs : List V} {ly : List Pl} {r : Sl} {kn fu : List Pl} {σ : St} {H : Hp} (h : BSt K w H0 a l l2 vs ly r kn fu σ H) (p : Pl) : ∃ ep es, H a = some (DNO w a ep es) ∧ KeysOk K H es ∧ (valN es (eB p)).isSome = decide (p ∈ kn) ∧ es.length = kn.length := by
  obtain ⟨ep, es, h1, h2, h3⟩ := h.dic
  refine ⟨ep, es, h1, h2, ?_, by have := Paired.length h3; rw [List.length_map] at this; exact this.symm⟩
  have e0 : valN (kn.map fun p => (eB p, ())) (eB p) = if p ∈ kn then some () else none := valN_map (fun _ => ())
  rcases PRel.find h3 (eB p) with ⟨z1, z2⟩ | ⟨u, c, v, z1, z2, _⟩
  · rw [z2]
    rw [e0] at z1
    by_cases hp : p ∈ kn
    · rw [if_pos hp] at z1; cases z1
    · simp [hp]
  · rw [z2]
    rw [e0] at z1
    by_cases hp : p ∈ kn
    · simp [hp]
    · rw [if_neg hp] at z1; cases z1
/-- a new key -/
theorem BSt.putA {H0 : Hp} {a l l2 : Addr} {vs : List V} {ly : List Pl} {r : Sl} {kn fu : List Pl} {σ : St} {H : Hp} {p : Pl} {b : Addr} {v : V} (h : BSt K w H0 a l l2 vs ly r kn fu σ H) (st : StayS a r) (hp : p ∉ kn) (hb : Rp K H (.ref b) (eB p)) :
    ∃ ep es, H a = some (DNO w a ep es) ∧ KeysOk K H es ∧ KeyAt K H b (eB p) ∧ es.length = kn.length ∧ ∀ ep', Keep H (upd H a (DNO w a ep' (putN es (eB p) b v))) ∧ BSt K w H0 a l l2 vs ly r (kn ++ [p]) fu σ (upd H a (DNO w a ep' (putN es (eB p) b v))) := by
  obtain ⟨ep, es, h1, h2, h3⟩ := h.dic
  obtain ⟨us, h4, h5⟩ := h.lst
  have hl0 := h.hl
  have nt : ∀ xs, H a ≠ some (.tup xs) := fun xs q => by rw [h1] at q; cases q
  have na : l ≠ a := fun q => by rw [q, h1] at hl0; cases hl0
  have na2 : l2 ≠ a := fun q => by rw [q, h1] at h4; cases h4
  have e0 : valN (kn.map fun p => (eB p, ())) (eB p) = none := by
    rw [valN_map (fun _ => ()), if_neg hp]
  have e1 : valN es (eB p) = none := by
    rcases PRel.find h3 (eB p) with ⟨_, z⟩ | ⟨_, _, _, z, _⟩
    · exact z
    · rw [e0] at z; cases z
  refine ⟨ep, es, h1, h2, ⟨hb, dep_B p⟩, by have := Paired.length h3; rw [List.length_map] at this; exact this.symm, fun ep' => ?_⟩
  have k : Keep H (upd H a (DNO w a ep' (putN es (eB p) b v))) := Keep.put nt
  refine ⟨k, h.env.stay st nt, Same.put0 h.same h.fa, h.fa, h.fl, h.ne, by rw [upd_ne na]; exact hl0, RpA.keep k _ _ h.hr, ⟨ep', _, upd_same, (h2.put ⟨hb, dep_B p⟩ v).keep k, ?_⟩, us, by rw [upd_ne na2]; exact h4, RpA.keep k _ _ h5⟩
  rw [putN_new e1, List.map_append]
  exact Paired.snoc h3 ⟨rfl, trivial⟩
/-- put to the list -/
theorem BSt.app {H0 : Hp} {a l l2 : Addr} {vs : List V} {ly : List Pl} {r : Sl} {kn fu : List Pl} {σ : St} {H : Hp} {p : Pl} {y : V} (h : BSt K w H0 a l l2 vs ly r kn fu σ H) (st : StayS l2 r) (hy : Rp K H y (eB p)) :
    ∃ us, H l2 = some (.lst us) ∧ us.length = fu.length ∧ Keep H (upd H l2 (.lst (us ++ [y]))) ∧ BSt K w H0 a l l2 vs ly r kn (fu ++ [p]) σ (upd H l2 (.lst (us ++ [y]))) := by
  obtain ⟨ep, es, h1, h2, h3⟩ := h.dic
  obtain ⟨us, h4, h5⟩ := h.lst
  have nt : ∀ xs, H l2 ≠ some (.tup xs) := fun xs q => by rw [h4] at q; cases q
  have na2 : a ≠ l2 := fun q => by rw [q, h4] at h1; cases h1
  have k : Keep H (upd H l2 (.lst (us ++ [y]))) := Keep.put nt
  refine ⟨us, h4, by rw [h5.length, List.length_map], k, h.env.stay st nt, Same.put0 h.same h.fl, h.fa, h.fl, h.ne, by rw [upd_ne h.ne]; exact h.hl, RpA.keep k _ _ h.hr, ⟨ep, es, by rw [upd_ne na2]; exact h1, h2.keep k, h3⟩, us ++ [y], upd_same, ?_⟩
  rw [List.map_append]
  exact (RpA.keep k _ _ h5).append (.cons (Rp.keep k _ _ hy) .nil)
theorem ok_shortest (T : Txt K mg) (A : DefAt K mg "shortest_size" "shortest_size" s_shortest_size ["language", "heard"]) (C_need_heard : CalF P w K mg base 6 "need_heard" R_need_heard) (C_places_of_fits : CalF P w K mg base 4 "places_of_fits" (R_places_fits K w)) :
    CalF P w K mg base 7 "shortest_size" (R_shortest K) := by
  refine calF A sc_shortest_size (fun ws u h => ?_) (fun f cdv A outer s H E ws u hr h => ?_)
  · obtain ⟨L, ms, _, _, _, rfl, _⟩ := h; rfl
  · obtain ⟨L, ms, g, hh, ⟨kk, hkk⟩, rfl, rfl⟩ := h
    refine ⟨_, (pss_cons (ps_expr (C8.pe_c C_need_heard hr (by decide) rfl (pa_cons (pv 0) (pa_cons (pv 1) pa_nil)))) (pss_cons (ps_set (i := 2) sc_shortest_size.nd rfl (by first | exact Or.inl rfl | exact Or.inr rfl) (C8.pe_c C_places_of_fits hr (by decide) rfl (pa_cons (pv 0) (pa_cons (pv 1) pa_nil)))) (pss_cons (ps_par3 (i := 3) (j := 4) (l := 5) rfl sc_shortest_size.nd rfl rfl rfl (by decide) (by decide) (by decide) rfl rfl rfl (pa_cons (pe_lst (pa_cons (pe_tup (pa_cons (pe_un un_neg pe_int) (pa_cons (pe_tup pa_nil) (pa_cons pe_int pa_nil)))) pa_nil)) (pa_cons (pe_disp1N K w rfl rfl hr (pe_tup (pa_cons (pe_un un_neg pe_int) (pa_cons (pe_tup pa_nil) (pa_cons pe_int pa_nil)))) pe_bl) (pa_cons pe_int pa_nil))) rfl) (pss_cons (ps_while PassesOwn.never (pt_cmpR (neK K rfl hr) (pv 3) (pe_lst pa_nil) (nomark _)) (pss_cons (ps_if (pt_val (pe_callB (anyK K rfl rfl) rfl T.b_any bo_any (pa_cons (pe_lc (own := [("here", 6)]) rfl sc_shortest_size.nd (piLK K rfl (pv 3)) (blkOk_by (own := [("here", 6)]) (N := N_shortest_size) (sc := defScope s_shortest_size) (by decide +kernel)) (fun _ _ _ _ _ => (pg_name (i := 6) sc_shortest_size.nd rfl (by first | exact Or.inl rfl | exact Or.inr rfl))) (fun _ _ _ _ _ => pts_nil) (fun _ _ _ _ _ => (pe_cmpR (eqK K rfl hr) (pe_ix (ixK K rfl) (pv 6) pe_int (fun _ _ => rfl)) (pe_callB (lenK K rfl) rfl T.b_len bo_len (pa_cons (pv 1) pa_nil)) (nomark _)))) pa_nil))) (pss_one ps_break) pss_nil) (pss_cons (ps_par (i := 7) (j := 5) rfl sc_shortest_size.nd rfl rfl (by decide) rfl rfl (pa_cons (pe_lst pa_nil) (pa_cons (pe_op (addK K rfl) (pv 5) pe_int) pa_nil)) rfl) (pss_cons (ps_for PassesOwn.never rfl (piLK K rfl (pv 3)) (pg_name (i := 6) sc_shortest_size.nd rfl (by first | exact Or.inl rfl | exact Or.inr rfl)) (pss_one (ps_for PassesOwn.never rfl (piLK K rfl (pe_dgetN K w rfl rfl hr (pv 2) (pv 6) (fun _ _ => rfl))) (pg_name (i := 8) sc_shortest_size.nd rfl (by first | exact Or.inl rfl | exact Or.inr rfl)) (pss_one (ps_if (PW.pt (pw_and (pt_cmpR op_notN (pv 8) pe_non (nomark _)) (pw_and1 (pt_cmpR (op_notInN K w rfl rfl hr) (pv 8) (pv 4) rfl)))) (pss_cons (ps_dputN K w rfl rfl hr (pv 4) (pv 8) pe_bl rfl) (pss_one (ps_expr (bmK K rfl (pe_bm PySem.F.plainAttrs_list PySem.F.slot_list_append PySem.F.type_list_append mt_append (pv 7) (pa_cons (pv 8) pa_nil)))))) pss_nil))))) (pss_one (ps_set (i := 3) sc_shortest_size.nd rfl (by first | exact Or.inl rfl | exact Or.inr rfl) (pv 7))))))) (pss_one (ps_ret (pv 5))))))), .inl ?_⟩
    refine bs_dropS (cm_call (by walk_at "ca") (r_need_heard g hh)) ?_
    refine bs_exS (cm_call (by walk_at "ca") (r_places_fits g hh)) fun ps ok => ⟨_, _, cg_name, ?_⟩
    intro D σ H e p
    have noAcc : ∀ {d : Nat} {ly kn : List Pl}, Bfs L ms ps d ly kn → ∀ k, k < d → cntS L ms k begin0 = 0 := fun h k hk => by
      cases z : cntS L ms k begin0 with
      | zero => rfl
      | succ n =>
        obtain ⟨e', h1, h2⟩ := cnt_reach.mp (by rw [z]; exact Nat.succ_pos n)
        exact absurd h2 (h.no k hk e' h1)
    let R : Nat → Addr → Addr → Sl := fun d a l => [some (.d (eL L)), some (.d (eMs ms)), some (old K H (netK K w L ms ps)), some (.v (.ref l)), some (.v (.ref a)), some (.d (eN d)), none, none, none]
    have mkB : Cm K (tTup (tCons (tUn (rU fun i => .int (-i)) (tC (.int 1))) (tCons (tTup tNil) (tCons (tC (.int 0)) tNil)))) ((startW N_shortest_size [.d (eL L), .d (eMs ms)]).set 2 (some (netK K w L ms ps))) (.d (eB begin0)) := cm_is (by walk_at "cm") (by rfl)
    refine seq_par3 ?_
    -- the first layer
    refine cn_lst (ds := [eB begin0]) (cad_cons mkB cad_nil) (by simp) σ H _ e fun l H1 vs s1 hl0 hl1 hr1 => ?_
    refine (show ∀ a, H1 a = none → _ from fun a ha => ?_)
    have e2 := e.same (s1.trans (Same.new (o := DNO w a 0 []) ha))
    refine mkB σ _ _ e2 fun yB H2 s2 rB => ?_
    have sa : Same H1 H2 := (Same.new (o := DNO w a 0 []) ha).trans s2
    obtain ⟨b0, _, eb0, _, _⟩ := Rp.tup_inv (show Rp K H2 yB (eB begin0) from rB)
    subst eb0
    refine ⟨s2 _ _ upd_same, b0, eB begin0, rfl, ⟨rB, dep_B begin0⟩, fun ep' => ⟨_, _, _, rfl, ?_⟩⟩
    clear mkB
    have fa : H a = none := s1.free ha
    have k3 : Keep H2 (upd H2 a (DNO w a ep' [(eB begin0, b0, .bl true)])) := Keep.put fun ys q => by rw [s2 _ _ upd_same] at q; cases q
    have same3 : Same H (upd H2 a (DNO w a ep' [(eB begin0, b0, .bl true)])) := Same.put0 (s1.trans sa) fa
    have nal : l ≠ a := fun z => by rw [← z, hl1] at ha; cases ha
    have hl3 : upd H2 a (DNO w a ep' [(eB begin0, b0, .bl true)]) l = some (.lst vs) := by rw [upd_ne nal]; exact sa _ _ hl1
    have env3 : EnvOk K (R 0 a l) (((σ.set 3 (some (.ref l))).set 4 (some (.ref a))).set 5 (some (.int 0))) (upd H2 a (DNO w a ep' [(eB begin0, b0, .bl true)])) := by
      have z := (e.know (i := 2) (w' := old K H (netK K w L ms ps)) rfl fun x hx => old_of (Same.refl H) hx)
      have z2 := (z.same (s1.trans sa)).stay (l := a) (o := DNO w a ep' [(eB begin0, b0, .bl true)]) (by walk_at "stay") fun ys q => by rw [s2 _ _ upd_same] at q; cases q
      exact ((z2.set (i := 3) (w := .v (.ref l)) rfl).set (i := 4) (w := .v (.ref a)) rfl).set (i := 5) (w := .d (eN 0)) (.int 0)
    have hr3 : RpA K (upd H2 a (DNO w a ep' [(eB begin0, b0, .bl true)])) vs (([begin0] : List Pl).map eB) := RpA.keep ((Keep.of sa).trans k3) _ _ hr1
    have dic3 : ∃ ep es, upd H2 a (DNO w a ep' [(eB begin0, b0, .bl true)]) a = some (DNO w a ep es) ∧ KeysOk K (upd H2 a (DNO w a ep' [(eB begin0, b0, .bl true)])) es ∧ Paired (PRel fun (_ : V) (_ : Unit) => True) (([begin0] : List Pl).map fun p => (eB p, ())) es :=
      ⟨ep', _, upd_same, (fun q hq => by simp at hq; subst hq; exact ⟨Rp.keep k3 _ _ rB, dep_B begin0⟩), .cons ⟨rfl, trivial⟩ .nil⟩
    generalize hH3 : upd H2 a (DNO w a ep' [(eB begin0, b0, .bl true)]) = H3 at same3 hl3 env3 hr3 dic3 ⊢
    refine (show tSeq (tWhile _ _) _ D _ H3 from ⟨fun m σ1 H1 => ∃ d l vs ly kn, m = (129 * 21 - kn.length) + ly.length ∧ m ≤ 5000 ∧ Bfs L ms ps d ly kn ∧ EnvOk K (R d a l) σ1 H1 ∧ Same H H1 ∧ H1 l = some (.lst vs) ∧ RpA K H1 vs (ly.map eB) ∧
      ∃ ep es, H1 a = some (DNO w a ep es) ∧ KeysOk K H1 es ∧ Paired (PRel fun (_ : V) (_ : Unit) => True) (kn.map fun p => (eB p, ())) es, ⟨_, 0, l, vs, [begin0], [begin0], rfl, by decide, bfs0 ok, env3, same3, hl3, hr3, dic3⟩, ?_⟩)
    clear dic3 hr3 env3 hl3 same3 hH3 k3 e2 sa
    rintro m σ4 H4 ⟨d, l, vs, ly, kn, rfl, hm5, bf, env4, same4, hl4, hr4, dic4⟩
    have eK := env4.know (i := 3) (w' := .l (ly.map eB)) rfl fun x hx => by
      have hx' : x = .ref l := hx
      subst hx'
      exact ⟨l, vs, rfl, hl4, hr4⟩
    have shB : ∀ d ∈ ly.map eB, Sh 8 d := fun d hd => by obtain ⟨q, _, rfl⟩ := List.mem_map.mp hd; exact sh_B
    refine ct_test (c1 := !decide (ly.map eB = [])) (cm_op (cm_var rfl) (cm_lstD cad_nil (by simp)) (co_neL shB shs_nil)) σ4 H4 _ eK fun H5 s5 => ?_
    have lkn := net_len g hh.2 bf.nd fun p hp => ok.good p (bf.kp p hp)
    by_cases hne : ly = []
    · exfalso
      subst hne
      obtain ⟨e', h1, h2⟩ := cnt_reach.mp hkk
      obtain ⟨k', h3, h4⟩ := bf.stuck kk e' h1
      exact bf.no k' h3 e' h4 h2
    · have c1 : (!decide (ly.map eB = [])) = true := by simp [hne]
      rw [c1]
      refine iteT ⟨fun σ' H' => ∃ d2 l vs ly2 kn2, (129 * 21 - kn2.length) + ly2.length < (129 * 21 - kn.length) + ly.length ∧ Bfs L ms ps d2 ly2 kn2 ∧ EnvOk K (R d2 a l) σ' H' ∧ Same H H' ∧ H' l = some (.lst vs) ∧ RpA K H' vs (ly2.map eB) ∧
        ∃ ep es, H' a = some (DNO w a ep es) ∧ KeysOk K H' es ∧ Paired (PRel fun (_ : V) (_ : Unit) => True) (kn2.map fun p => (eB p, ())) es, fun σ' H' ⟨d2, l, vs, ly2, kn2, h0, h1, h2, h3, h4, h5, h6⟩ => ⟨_, h0, d2, l, vs, ly2, kn2, rfl, by omega, h1, h2, h3, h4, h5, h6⟩, ?_⟩
      have llen : ly.length ≤ 5000 := by omega
      have eK5 := eK.same s5
      have mkA : CmT K (tTest (tCB (rAny K) (tCons (tLc (iList K (tVar 3)) (gName 6) tYes (tOp (rEqD K) (tOp (rIx K) (tVar 6) (tC (.int 2))) (tCB (rLen K) (tCons (tVar 1) tNil))) [6]) tNil)))
          ((R d a l).set 3 (some (.l (ly.map eB)))) ((ly.map fun p => decide (p.n = ms.length)).any id) := by
        refine ct_test (cm_cb (ca_cons (cm_lcb (as := ly) (fun p => .d (eB p)) (fun p => decide (p.n = ms.length)) (ci_lstM eB (cm_var rfl)) (by omega) fun q hq => ⟨_, [6], by simp, cg_name, ?_⟩) ca_nil) cc_any)
        refine cm_is (w' := .b (decide (eN q.n = .num (ms.length : Nat)))) (cm_is (by walk_at "cm") (by simp)) ?_
        rw [d_num]
        congr 1
        exact decide_eq_decide.mpr ⟨fun e => by omega, fun e => by omega⟩
      refine mkA σ4 H5 _ eK5 fun H6 s6 => ?_
      have s56 := s5.trans s6
      by_cases hac : (ly.map fun p => decide (p.n = ms.length)).any id = true
      · rw [hac]
        refine iteT ?_
        obtain ⟨x5, hx5, rx5⟩ := (env4.same s56).at_ 5 _ rfl
        refine (show ∃ x, _ = some (some x) ∧ _ from ⟨_, hx5, p _ H6 (same4.trans s56) (ex_of d ⟨?_, noAcc bf⟩ rx5)⟩)
        have hac2 : ∃ q ∈ ly, q.n = ms.length := by simpa using hac
        obtain ⟨q, hq, hn⟩ := hac2
        exact cnt_reach.mpr ⟨q, (bf.lr q hq).2, hn⟩
      · have hno : ∀ q ∈ ly, q.n ≠ ms.length := fun q hq z => hac (by
          rw [List.any_map, List.any_eq_true]
          exact ⟨q, hq, by simpa using z⟩)
        have hac' : (ly.map fun p => decide (p.n = ms.length)).any id = false := by simpa using hac
        rw [hac']
        refine iteF ?_
        refine (show tSeq (tPar 7 5 (tCons (tLst tNil) (tCons _ tNil))) _ _ σ4 H6 from seq_par ?_)
        refine ⟨(by decide : 0 ≤ sizeLine), fun l2 hl2 => ?_⟩
        have env6 := (env4.same s56).same (Same.new (o := .lst []) hl2)
        refine cm_op (cm_var (i := 5) rfl) (cm_int (i := 1)) co_add σ4 _ _ env6 fun x5 H7 s7 r5 => ⟨_, _, rfl, ?_⟩
        have r5' : Rp K H7 x5 (eN (d + 1)) := by
          have e : ((d + 1 : Nat) : Int) = (d : Int) + 1 := by omega
          show Rp K H7 x5 (.num ((d + 1 : Nat) : Int))
          rw [e]
          exact r5
        have s67 : Same H6 H7 := (Same.new (o := .lst []) hl2).trans s7
        have s47 := s56.trans s67
        let R2 : Sl := [some (.d (eL L)), some (.d (eMs ms)), some (old K H (netK K w L ms ps)), some (.v (.ref l)), some (.v (.ref a)), some (.d (eN (d + 1))), none, some (.v (.ref l2)), none]
        have fl2 : H l2 = none := (same4.trans s56).free hl2
        have st : BSt K w H a l l2 vs ly R2 kn [] ((σ4.set 7 (some (.ref l2))).set 5 (some x5)) H7 := by
          refine ⟨((env6.same s7).set (i := 7) (w := .v (.ref l2)) rfl).set (i := 5) (w := .d (eN (d + 1))) r5', same4.trans s47, fa, fl2, ?_, s47 _ _ hl4, RpA.keep (Keep.of s47) _ _ hr4, ?_, [], s7 _ _ upd_same, .nil⟩
          · intro z
            have := s56 _ _ hl4
            rw [z, hl2] at this
            cases this
          · obtain ⟨ep, es, h1, h2, h3⟩ := dic4
            exact ⟨ep, es, s47 _ _ h1, h2.keep (Keep.of s47), h3⟩
        refine (show tSeq (tFor _ _ _) _ _ _ H7 from for_at (K := K) (c := l) (xs := vs) (fun R' h => ?_) (fun i σ' H' => ∃ fu, Found L ms ly kn fu ∧ (∀ p ∈ ly.take i, ∀ x ∈ signs L, ∀ q, behindS L ms p x = some q → q ∈ kn ++ fu) ∧ BSt K w H a l l2 vs ly R2 (kn ++ fu) fu σ' H')
          ⟨[], ⟨by simpa using bf.nd, fun q h => by cases h⟩, (fun p h => by simp at h), by simpa using st⟩ (fun i σ' H' ⟨fu, _, _, st⟩ => st.hl) (fun i x σ' H' D' hx q0 hnx _ _ => ?_) fun σ' H' q0 => ?_)
        · obtain ⟨x3, hx3, ex3⟩ := st.env.at_ 3 _ rfl
          have ex3' : x3 = .ref l := ex3
          subst ex3'
          exact ⟨_, hx3, l, rfl, ⟨vs, .of st.hl⟩, h⟩
        · obtain ⟨fu, fo, pre, st2⟩ := q0
          have hvl := st2.hr.length
          rw [List.length_map] at hvl
          have hi : i < ly.length := by rw [← hvl]; exact (List.getElem?_eq_some_iff.mp hx).1
          obtain ⟨x', hx', rx'⟩ := st2.hr.get (i := i) (d := eB ly[i]) (by simp [hi])
          rw [hx] at hx'
          cases hx'
          obtain ⟨pl, epl⟩ : ∃ pl, pl = ly[i] := ⟨_, rfl⟩
          rw [← epl] at rx'
          have hply : pl ∈ ly := epl ▸ List.getElem_mem hi
          have hpl : pl ∈ ps := (bf.lr pl hply).1
          obtain ⟨b, _, eb, _, _⟩ := Rp.tup_inv (show Rp K H' x (eB pl) from rx')
          subst eb
          have st3 := st2.env' (st2.env.set (i := 6) (w := .d (eB pl)) rx')
          -- what comes behind stands in the net
          obtain ⟨x2, hx2, rx2⟩ := st3.env.at_ 2 _ rfl
          obtain ⟨s0, rx20⟩ := rx2 H' (Same.refl _)
          obtain ⟨an, epn, esn, rfl, hdn, kon, reln⟩ := dnW_at rx20
          have hvn := val_net (L := L) (ms := ms) hpl
          rcases PRel.find reln (eB pl) with ⟨z, _⟩ | ⟨u', c0, v, z1, z2, z3⟩
          · rw [hvn] at z; cases z
          rw [hvn] at z1
          cases z1
          obtain ⟨c, ys, rfl, hc0, hys⟩ := z3
          have ylen := hys.length
          rw [List.length_map, nextsS, List.length_map] at ylen
          obtain ⟨x6, hx6, ex6⟩ := st3.env.at_ 6 _ rfl
          have l6 : 6 < (σ'.set 6 (some (.ref b))).length := by rw [← st3.env.len, List.length_set]; exact (by decide : 6 < 9)
          have ex6' : x6 = .ref b := by
            rw [List.getElem?_set_self (by simpa using l6)] at hx6
            exact (Option.some.inj (Option.some.inj hx6)).symm
          subst ex6'
          refine (show tFor _ _ _ _ (σ'.set 6 (some (.ref b))) H' from for_at (K := K) (c := c) (xs := ys) (fun R' h => ?_) (fun j σ'' H'' => ∃ fu, Found L ms ly kn fu ∧ (∀ p ∈ ly.take i, ∀ x ∈ signs L, ∀ q, behindS L ms p x = some q → q ∈ kn ++ fu) ∧ (∀ x ∈ (signs L).take j, ∀ q, behindS L ms pl x = some q → q ∈ kn ++ fu) ∧
              BSt K w H a l l2 vs ly (R2.set 6 (some (.d (eB pl)))) (kn ++ fu) fu σ'' H'') ⟨fu, fo, pre, (fun x h => by simp at h), st3⟩ (fun j σ'' H'' ⟨fu, _, _, _, st⟩ => st.same _ _ hc0) (fun j y σ'' H'' D'' hy q1 hnx1 _ _ => ?_) fun σ'' H'' q1 => ?_)
          · exact ⟨_, hx2, _, hx6, an, epn, esn, b, eB pl, c0, _, rfl, s0 _ _ hdn, rfl, kon.keep (Keep.of s0), ⟨rx', dep_B pl⟩, z2, c, rfl, ⟨ys, .of (s0 _ _ hc0)⟩, h⟩
          · obtain ⟨fu1, fo1, pre1, pre2, st4⟩ := q1
            have hj : j < (signs L).length := by rw [← ylen]; exact (List.getElem?_eq_some_iff.mp hy).1
            obtain ⟨y', hy', ry'⟩ := hys.get (i := j) (d := eOB (behindS L ms pl (signs L)[j])) (by simp [nextsS, hj])
            rw [hy] at hy'
            cases hy'
            have ry2 : Rp K H'' y (eOB (behindS L ms pl (signs L)[j])) := Rp.keep (Keep.of st4.same) _ _ ry'
            have st5 := st4.env' (st4.env.set (i := 8) (w := .d (eOB (behindS L ms pl (signs L)[j]))) ry2)
            have l8 : 8 < (σ''.set 8 (some y)).length := by rw [← st5.env.len, List.length_set, List.length_set]; exact (by decide : 8 < 9)
            have hx8 : (σ''.set 8 (some y))[8]? = some (some y) := List.getElem?_set_self (by simpa using l8)
            have more : ∀ fu2, (∀ q, behindS L ms pl (signs L)[j] = some q → q ∈ kn ++ fu2) → (∀ q, q ∈ kn ++ fu1 → q ∈ kn ++ fu2) → (∀ x ∈ (signs L).take (j + 1), ∀ q, behindS L ms pl x = some q → q ∈ kn ++ fu2) := fun fu2 h1 h2 x hx q hq => by
              rw [List.take_succ, List.getElem?_eq_getElem hj] at hx
              rcases List.mem_append.mp hx with z | z
              · exact h2 q (pre2 x z q hq)
              · simp at z
                subst z
                exact h1 q hq
            refine (show tIfS (tAnd (tTest (tOp rIsNotN (tVar 8) (tC .non))) (tTest (tOp (rNotInN K w) (tVar 8) (tVar 4)))) _ _ D'' (σ''.set 8 (some y)) H'' from ?_)
            cases hb : behindS L ms pl (signs L)[j] with
            | none =>
              rw [hb] at ry2
              have ey : y = .non := Rp.non_inv ry2
              subst ey
              refine ⟨_, hx8, rfl, _, rfl, ?_⟩
              refine iteF (iteF (hnx1 _ _ ⟨fu1, fo1, pre1, more fu1 (fun q hq => by rw [hb] at hq; cases hq) fun q h => h, ?_⟩))
              exact st4.env' (st5.env.less (by walk_at "less"))
            | some q =>
              rw [hb] at ry2
              obtain ⟨b8, _, eb8, _, _⟩ := Rp.tup_inv (show Rp K H'' y (eB q) from ry2)
              subst eb8
              refine ⟨_, hx8, rfl, _, rfl, iteT ?_⟩
              obtain ⟨ep, es, hd5, ko5, hval, _⟩ := st5.val q
              obtain ⟨x4, hx4, ex4⟩ := st5.env.at_ 4 _ rfl
              have ex4' : x4 = .ref a := ex4
              subst ex4'
              refine ⟨_, hx8, _, hx4, a, ep, es, b8, eB q, rfl, hd5, rfl, ko5, ⟨ry2, dep_B q⟩, _, rfl, ?_⟩
              rw [hval]
              by_cases hq : q ∈ kn ++ fu1
              · rw [decide_eq_true hq]
                refine iteF (hnx1 _ _ ⟨fu1, fo1, pre1, more fu1 (fun q' hq' => by rw [hb] at hq'; cases hq'; exact hq) fun q h => h, ?_⟩)
                exact st4.env' (st5.env.less (by walk_at "less"))
              · rw [decide_eq_false hq]
                refine iteT ?_
                have st6 := st4.env' (st5.env.less (r' := R2.set 6 (some (.d (eB pl)))) (by walk_at "less"))
                obtain ⟨ep6, es6, hd6, ko6, ka6, hlen6, hput⟩ := st6.putA (p := q) (b := b8) (v := .bl true) (by walk_at "stay") hq ry2
                have lkf : (kn ++ fu1).length ≤ 129 * 21 := net_len g hh.2 fo1.nd fun p' hp' => by
                  rcases List.mem_append.mp hp' with z | z
                  · exact ok.good p' (bf.kp p' z)
                  · obtain ⟨p2, hp2, x', hx', hb'⟩ := fo1.fr p' z
                    exact ok.good p' (ok.shut p2 (bf.lr p2 hp2).1 x' hx' p' hb')
                have sz : (1000000 : Nat) < sizeLine := by decide
                refine (show ∃ x, _ = some (some x) ∧ _ from ⟨_, hx4, ?_⟩)
                refine (show ∃ x, _ = some (some x) ∧ _ from ⟨_, hx8, a, ep6, es6, b8, eB q, rfl, hd6, rfl, ko6, ka6, by omega, fun ep' => ?_⟩)
                obtain ⟨kp7, st7⟩ := hput ep'
                have ry7 := Rp.keep kp7 _ _ ry2
                generalize upd H'' a (DNO w a ep' (putN es6 (eB q) b8 (V.bl true))) = H9 at st7 kp7 ry7 ⊢
                obtain ⟨us8, hu8, hul8, kp8, st8⟩ := st7.app (p := q) (y := .ref b8) (by walk_at "stay") ry7
                obtain ⟨x7, hx7, ex7⟩ := st7.env.at_ 7 _ rfl
                have ex7' : x7 = .ref l2 := ex7
                subst ex7'
                rw [List.length_append] at lkf
                refine (show ∃ x, _ = some (some x) ∧ _ from ⟨_, hx7, .inl ⟨rfl, _, SqL.of hu8⟩, _, hx8, l2, us8, .ref b8, rfl, rfl, hu8, by omega, ?_⟩)
                have ea : (kn ++ fu1) ++ [q] = kn ++ (fu1 ++ [q]) := List.append_assoc _ _ _
                rw [ea] at st8
                refine hnx1 _ _ ⟨fu1 ++ [q], ⟨?_, fun q' hq' => ?_⟩, (fun p' hp' x' hx' q' hq' => ?_), more (fu1 ++ [q]) (fun q' hq' => by rw [hb] at hq'; cases hq'; simp) (fun q' h => ?_), st8⟩
                · rw [← ea, List.nodup_append]
                  exact ⟨fo1.nd, by simp, fun a' ha' b' hb' e' => by simp at hb'; subst hb'; subst e'; exact hq ha'⟩
                · rcases List.mem_append.mp hq' with z | z
                  · exact fo1.fr q' z
                  · simp at z
                    subst z
                    exact ⟨pl, hply, _, List.getElem_mem hj, hb⟩
                · rw [← ea]
                  exact List.mem_append_left _ (pre1 p' hp' x' hx' q' hq')
                · rw [← ea]
                  exact List.mem_append_left _ h
          · obtain ⟨fu1, fo1, pre1, pre2, st4⟩ := q1
            refine hnx _ _ ⟨fu1, fo1, fun p' hp' x' hx' q' hq' => ?_, st4.env' (st4.env.less (r' := R2) (by walk_at "less"))⟩
            rw [List.take_succ, List.getElem?_eq_getElem hi, ← epl] at hp'
            rcases List.mem_append.mp hp' with z | z
            · exact pre1 p' z x' hx' q' hq'
            · simp at z
              subst z
              refine pre2 x' ?_ q' hq'
              rw [ylen, List.take_length]
              exact hx'
        · obtain ⟨fu, fo, pre, st2⟩ := q0
          have hvl := st2.hr.length
          rw [List.length_map] at hvl
          rw [hvl, List.take_length] at pre
          obtain ⟨us, hu, hur⟩ := st2.lst
          obtain ⟨x7, hx7, ex7⟩ := st2.env.at_ 7 _ rfl
          have ex7' : x7 = .ref l2 := ex7
          subst ex7'
          have bf2 := bf.next ok hno fo pre
          have lk2 := net_len g hh.2 bf2.nd fun p' hp' => ok.good p' (bf2.kp p' hp')
          refine (show ∃ x, _ = some (some x) ∧ _ from ⟨_, hx7, d + 1, l2, us, fu, kn ++ fu, ?_, bf2, ?_, st2.same, hu, hur, st2.dic⟩)
          · rw [List.length_append] at lk2 ⊢
            have : 0 < ly.length := List.length_pos_iff.mpr hne
            omega
          · exact (st2.env.set (i := 3) (w := .v (.ref l2)) rfl).less (by walk_at "less")
end
end NW
/-! The module's own tuples WORDS, FIRST; dict(WORDS); digits. -/
namespace NW
open PySem PySem.Spec PyProof.Rows L2 StX NM
def PairK (K : Fg) (b : Addr) (x y : Str) : Prop := ∃ (o : Obj) (n : Nat) (t u : Tok), K.lookup b = some o ∧ o.cls = .type "tuple" ∧ o.data = .seq #[.str x t, .str y u] n
def WordsAt (K : Fg) (a : Addr) : Prop := ∃ (b1 b2 b3 : Addr) (o : Obj) (n : Nat), K.lookup a = some o ∧ o.cls = .type "tuple" ∧ o.dict = none ∧ o.data = .seq #[.ref b1, .ref b2, .ref b3] n ∧ PairK K b1 "head" "h" ∧ PairK K b2 "moment" "m" ∧ PairK K b3 "value" "v"
def eWORDS : D := .tup [.tup [.text "head", .text "h"], .tup [.text "moment", .text "m"], .tup [.text "value", .text "v"]]
structure Txt2 (K : Fg) (mg : Str → Option Value) (aW aF : Addr) : Prop where
  g_WORDS : ∃ u, mg "WORDS" = some u ∧ RelV (.ref aW) u
  words : WordsAt K aW
  g_FIRST : ∃ u, mg "FIRST" = some u ∧ RelV (.ref aF) u
  first : ∀ H, Rp K H (.ref aF) (eT Std.first)
section
variable {K : Fg} {H : Hp} {a b : Addr} {x y : Str}
theorem pairK_rp (h : PairK K b x y) : Rp K H (.ref b) (.tup [.text x, .text y]) := by
  obtain ⟨o, n, t, u, h1, h2, h3⟩ := h
  exact .tup (xs := [.str x, .str y]) (.inr (.inr ⟨o, _, n, h1, h2, h3, (by decide : 2 ≤ sizeLine), .cons ⟨t, rfl⟩ (.cons ⟨u, rfl⟩ .nil)⟩)) (.cons (.str x) (.cons (.str y) .nil))
theorem words_rp (h : WordsAt K a) : Rp K H (.ref a) eWORDS := by
  obtain ⟨b1, b2, b3, o, n, h1, h2, _, h3, p1, p2, p3⟩ := h
  exact .tup (xs := [.ref b1, .ref b2, .ref b3]) (.inr (.inr ⟨o, _, n, h1, h2, h3, (by decide : 3 ≤ sizeLine), .cons rfl (.cons rfl (.cons rfl .nil))⟩)) (.cons (pairK_rp p1) (.cons (pairK_rp p2) (.cons (pairK_rp p3) .nil)))
theorem cm_words {r : Sl} (h : WordsAt K a) : Cm K (tC (.ref a)) r (.d eWORDS) := fun σ H Q e q => q _ H (Same.refl H) (words_rp h)
end
def kvW : List (Key × V) := [(.inr "head", .str "h"), (.inr "moment", .str "m"), (.inr "value", .str "v")]
def rDictW (a : Addr) : List V → Hp → VK → Prop := fun xs H Q => xs = [.ref a] ∧ ∀ p, H p = none → Q (.ref p) (upd H p (.dK (mergeK [] kvW)))
theorem dictWK {X : Cx} {K : Fg} (hK : X.K = K) {a : Addr} (hw : WordsAt K a) (hc : X.calm = true) : CallR X (.type "dict") (rDictW a) := by
  subst hK
  rintro pins s σ H xs us Q I r ⟨rfl, q⟩
  cases r with
  | cons r rr =>
    cases rr
    cases r
    obtain ⟨b1, b2, b3, o, n, h1, h2, hd, h3, ⟨o1, n1, t1, u1, k1, c1, d1⟩, ⟨o2, n2, t2, u2, k2, c2, d2⟩, ⟨o3, n3, t3, u3, k3, c3, d3⟩⟩ := hw
    have kin := I.kIn
    let prs : List (Key × Value) := [(.inr "head", .str "h" u1), (.inr "moment", .str "m" u2), (.inr "value", .str "v" u3)]
    have rel : KV kvW prs := .cons ⟨rfl, ⟨u1, rfl⟩⟩ (.cons ⟨rfl, ⟨u2, rfl⟩⟩ (.cons ⟨rfl, ⟨u3, rfl⟩⟩ .nil))
    refine PySem.call_dict_pairs (knd := mixKind X.prog X.w) (kvs := prs) (PairArg.tuple a #[.ref b1, .ref b2, .ref b3] (fun j => if j = 0 then b1 else if j = 1 then b2 else b3) [(.str "head" t1, .str "h" u1), (.str "moment" t2, .str "m" u2), (.str "value" t3, .str "v" u3)])
      (I.ok.hd hc) ⟨⟨o, n, kin _ _ h1, h2, hd, h3⟩, rfl, ?_⟩ ⟨rfl, ?_⟩ (by decide : 3 ≤ sizeLine) fun h' tk hd' hk => ?_
    · rintro (_ | _ | _ | j) k v hj
      · cases hj
        exact ⟨rfl, .inl ⟨o1, kin _ _ k1, c1, n1, d1⟩⟩
      · cases hj
        exact ⟨rfl, .inl ⟨o2, kin _ _ k2, c2, n2, d2⟩⟩
      · cases hj
        exact ⟨rfl, .inl ⟨o3, kin _ _ k3, c3, n3, d3⟩⟩
      · cases hj
    · rintro (_ | _ | _ | j) k v hj
      · cases hj
        exact ⟨_, rfl, mixKind_str _ _ _ _⟩
      · cases hj
        exact ⟨_, rfl, mixKind_str _ _ _ _⟩
      · cases hj
        exact ⟨_, rfl, mixKind_str _ _ _ _⟩
      · cases hj
    · have hm : (s.heap.objs.size == sysModules) = false := beq_eq_false_iff_ne.mpr (Nat.ne_of_gt I.big)
      exact ⟨.ref s.heap.objs.size, upd H s.heap.objs.size (.dK (mergeK [] kvW)), I.laid (t' := tk) (fun b o e => hk b o (by simp) e) (Nat.le_refl _) (show ObjOk X.prog X.w _ _ _ (.dK (mergeK [] kvW)) from ⟨Nat.le_trans (length_mergeK kvW []) (by decide : 3 ≤ sizeLine), hm, merged [] prs, KV.merge rel .nil, hd'⟩), rfl, q _ (I.hok.fresh (Nat.le_refl _))⟩
theorem cm_word {K : Fg} {r : Sl} {a : Addr} {ty : TE} {k l : Str} (hk : Cm K ty r (.d (.text k))) (hl : valV (mergeK [] kvW) (.inr k) = some (.str l)) : Cm K (tDGet (tCB (rDictW a) (tCons (tC (.ref a)) tNil)) ty) r (.d (.text l)) := fun σ H Q e q => by
  refine ⟨rfl, fun p hp => ?_⟩
  refine hk σ _ _ (e.same (Same.new hp)) fun y H2 s2 ry => ?_
  have ey := Rp.str_inv ry
  subst ey
  refine ⟨p, .str l, rfl, ?_, q _ H2 ((Same.new hp).trans s2) (.str l)⟩
  have := DGet.k (k := .inr k) (s2 _ _ (upd_same (H := H) (a := p) (o := .dK (mergeK [] kvW))))
  rw [hl] at this
  exact this
/-! ### digits -/
def dg (n : Nat) : Str := ⟨#[48 + n]⟩
theorem dg_str : ∀ n : Fin 10, Str.ofString (toString ((n.val : Nat) : Int)) = dg n.val := by decide +kernel
theorem dg_int : ∀ n : Fin 10, PySem.intText? (dg n.val) = some ((n.val : Nat) : Int) := by decide +kernel
theorem dg_in : ∀ n : Fin 10, 48 + n.val ∈ (Str.ofString "0123456789").cps.toList := by decide +kernel
def letS : NM.Sign → Nat
  | .head _ => 104
  | .moment _ => 109
  | .value _ => 118
def idS : NM.Sign → Nat
  | .head n => n
  | .moment n => n
  | .value n => n
def wordS (x : NM.Sign) : Str := ⟨#[letS x, 48 + idS x]⟩
theorem id_lt {L : Lang} (g : Good L) {x : NM.Sign} (h : L.ok x) : idS x < 4 := by
  have h4 := g.h4
  have n4 := g.n4
  have m2 := g.m2
  cases x with
  | head n => exact Nat.lt_of_lt_of_le h h4
  | moment n => exact Nat.lt_of_lt_of_le (Nat.lt_of_lt_of_le h m2) (by decide)
  | value n => exact Nat.lt_of_lt_of_le h n4
theorem cc_int {K : Fg} {z : Str} {n : Int} (h : PySem.intText? z = some n) (hl : z.length ≤ 640) : CmC K (fun xs H Q => ∃ a n, xs = [.str a] ∧ PySem.intText? a = some n ∧ a.length ≤ 640 ∧ Q (.int n) H) [.d (.text z)] (.d (.num n)) := fun xs H Q r q => by
  obtain ⟨x, rfl, rx⟩ := one_inv r
  have e := Rp.str_inv rx
  subst e
  exact ⟨z, n, rfl, h, hl, q _ H (Same.refl H) (.int n)⟩
end NW
/-! texts.py: words -/
namespace NW
open PySem PySem.Spec PyProof.Rows L2 StX NM
local macro_rules | `(tactic| walk_at "my") => `(tactic| fail)
local macro_rules | `(tactic| walk_at "mycm") => `(tactic| fail)
local macro_rules | `(tactic| walk_at "myco") => `(tactic| fail)
local macro_rules | `(tactic| walk_at "mycc") => `(tactic| fail)
local macro_rules | `(tactic| walk_at "sh") => `(tactic| first | assumption | exact sh_n | exact Sh.num | exact Sh.non | exact sh_role | exact Sh.text (by decide +kernel) | exact sh_ns | exact sh_s | exact sh_m | exact sh_o | exact sh_h | exact sh_t | exact sh_ss | exact sh_ms | exact sh_head | exact sh_L | exact sh_nil | (apply sh_cons <;> walk_at "sh"))
local macro_rules | `(tactic| walk_at "shs") => `(tactic| first | assumption | exact shs_nil | (apply shs_cons; walk_at "sh"; walk_at "shs"))
local macro_rules | `(tactic| walk_at "co") => `(tactic| first
  | ((with_reducible apply co_ixTe); exact rfl; exact rfl)
  | ((with_reducible exact co_ixDl))
  | ((with_reducible apply co_ixL); exact rfl)
  | (with_reducible exact co_lt) | (with_reducible exact co_le) | (with_reducible exact co_gt) | (with_reducible exact co_ge) | (with_reducible exact co_sub)
  | (with_reducible exact co_isN) | (with_reducible exact co_isNotN)
  | ((with_reducible apply co_eq) <;> walk_at "sh") | ((with_reducible apply co_ne) <;> walk_at "sh")
  | (with_reducible exact co_add)
  | ((with_reducible apply co_inTe); exact rfl; walk_at "sh"; walk_at "shs")
  | walk_at "myco")
local macro_rules | `(tactic| walk_at "cc") => `(tactic| first
  | ((with_reducible apply cc_lenTe); exact rfl) | (with_reducible exact cc_lenL) | (with_reducible exact cc_all) | (with_reducible exact cc_any) | (with_reducible exact cc_tuple) | (with_reducible exact cc_intI)
  | (with_reducible exact cc_intB) | (with_reducible exact cc_min2) | (with_reducible exact cc_listT)
  | ((with_reducible apply cc_isi); first | exact isi_int rfl | exact isi_bool | exact isi_tuple rfl | exact isi_str rfl)
  | walk_at "mycc")
local macro_rules | `(tactic| walk_at "ca") => `(tactic| first
  | (with_reducible exact ca_nil)
  | ((with_reducible apply ca_cons); walk_at "cm"; walk_at "ca"))
local macro_rules | `(tactic| walk_at "cad") => `(tactic| first
  | (with_reducible exact cad_nil)
  | ((with_reducible apply cad_cons); walk_at "cm"; walk_at "cad")
  | ((with_reducible apply cad_starE); walk_at "cm"; exact rfl; walk_at "cad"))
local macro_rules | `(tactic| walk_at "cm") => `(tactic| first
  | ((with_reducible apply cm_var); exact rfl)
  | (with_reducible exact cm_int) | (with_reducible exact cm_str) | (with_reducible exact cm_non) | (with_reducible exact cm_bl)
  | ((with_reducible apply cm_op); walk_at "cm"; walk_at "cm"; walk_at "co")
  | ((with_reducible apply cm_tupD); walk_at "cad"; walk_at "size")
  | ((with_reducible apply cm_neg); walk_at "cm")
  | ((with_reducible apply cm_call); walk_at "ca"; walk_at "my")
  | walk_at "mycm"
  | ((with_reducible apply cm_cb); walk_at "ca"; walk_at "cc")
  | ((with_reducible apply cm_chain); walk_at "cm"; walk_at "cm"; walk_at "co"; (intro _; walk_at "cm"); walk_at "co")
  | ((with_reducible apply cm_andVF); walk_at "cm"; walk_at "dec0")
  | ((with_reducible apply cm_orVT); walk_at "cm"; walk_at "dec0")
  | ((with_reducible apply cm_ifT); walk_at "ct"; walk_at "dec"; walk_at "cm")
  | ((with_reducible apply cm_ifF); walk_at "ct"; walk_at "dec"; walk_at "cm")
  | ((with_reducible apply cm_andV); walk_at "cm"; (intro _; walk_at "cm"))
  | ((with_reducible apply cm_orV); walk_at "cm"; (intro _; walk_at "cm"))
  | ((with_reducible apply cm_notV); walk_at "cm")
  | (with_reducible exact cm_val))
local macro_rules | `(tactic| walk_at "ct") => `(tactic| first
  | ((with_reducible apply ct_test); walk_at "cm") | ((with_reducible apply ct_B); walk_at "cm") | ((with_reducible apply ct_not); walk_at "ct")
  | ((with_reducible apply ct_andF); walk_at "ct"; walk_at "dec0")
  | ((with_reducible apply ct_orT); walk_at "ct"; walk_at "dec0")
  | ((with_reducible apply ct_and); walk_at "ct"; (intro _; walk_at "ct"))
  | ((with_reducible apply ct_or); walk_at "ct"; (intro _; walk_at "ct")))
local macro_rules | `(tactic| walk_at "size") => `(tactic| focus first | assumption | (simp; done) | (simp; omega) | omega)
local macro_rules | `(tactic| walk_at "dec0") => `(tactic| focus first | rfl | (simp [eHead, eL, eSs, eMs, eS, eM, eT, eN, eNs, eH, eO, rN]; done))
local macro_rules | `(tactic| walk_at "dec") => `(tactic| focus first | rfl | (simp [eHead, eL, eSs, eMs, eS, eM, eT, eN, eNs, eH, eO, rN]; done) | (simp [eHead, eL, eSs, eMs, eS, eM, eT, eN, eNs, eH, eO, rN]; omega) | (simp [eHead, eL, eSs, eMs, eS, eM, eT, eN, eNs, eH, eO, rN, *]; done))
local macro_rules | `(tactic| walk_at "skip") => `(tactic| ((with_reducible apply bs_skip); walk_at "ct"; walk_at "dec"))
local macro_rules | `(tactic| walk_at "take") => `(tactic| (refine bs_seqR ?_; (with_reducible apply bs_ifT); walk_at "ct"; walk_at "dec"))
local macro_rules | `(tactic| walk_at "ret") => `(tactic| (refine bs_ret ?_; (with_reducible apply cm_is); walk_at "cm"))
local macro_rules | `(tactic| walk_at "set") => `(tactic| ((with_reducible apply bs_setS); walk_at "cm"))
local macro_rules | `(tactic| walk_at "drop") => `(tactic| ((with_reducible apply bs_dropS); walk_at "cm"))
local macro_rules | `(tactic| walk_at "norm") => `(tactic| skip)
local macro_rules | `(tactic| walk_at "less") => `(tactic| first | exact less_nil | (apply less_some; walk_at "less") | (apply less_none; walk_at "less"))
local macro_rules | `(tactic| walk_at "flat") => `(tactic| first | exact flat_nil | (refine flat_cons ?_ ?_; (first | exact trivial | exact rfl); walk_at "flat"))
local macro_rules | `(tactic| walk_at "stay") => `(tactic| first | exact stay_nil | (refine stay_cons ?_ ?_; (first | exact stay_none | exact stay_d | exact stay_b | exact stay_v | exact stay_old (by assumption)); walk_at "stay"))
section
variable {P : Program} {w : World} {K : Fg} {mg : Str → Option Value} {base : Heap}

variable {aW aF : Addr}
theorem u1 {k : Nat} {A : Around} (h : Room k A) : A.units + 1 < cLine := by
  have := u64 h
  omega
theorem dg_ok : ∀ n : Fin 10, PyData.strOk (dg n.val) = true := by decide +kernel
/-! ### integer_of -/
abbrev s_integer_of : Stmt := top 68
abbrev N_integer_of : List Str := ["word", "letter"]
theorem sc_integer_of : FnScope N_integer_of ["word"] (defScope s_integer_of) := ⟨rfl, rfl, rfl, by decide +kernel, rfl, by decide +kernel, by decide +kernel⟩
def R_integer_of : List W → W → Prop := fun ws w => ∃ n, n < 10 ∧ ws = [.d (.text (dg n))] ∧ w = .d (eN n)
theorem r_integer_of {n : Nat} (h : n < 10) : R_integer_of [.d (.text (dg n))] (.d (eN n)) := ⟨n, h, rfl, rfl⟩
theorem ok_integer_of (T : Txt K mg) (A : DefAt K mg "integer_of" "integer_of" s_integer_of ["word"]) : CalF P w K mg base 1 "integer_of" R_integer_of := by
  refine calF A sc_integer_of (fun ws u h => ?_) (fun f cdv A outer s H E ws u hr h => ?_)
  · obtain ⟨n, _, rfl, _⟩ := h; rfl
  · obtain ⟨n, hn, rfl, rfl⟩ := h
    refine ⟨_, (pss_cons (ps_if (PW.pt (pw_or (pt_not (pt_chain op_le op_le pe_int (pe_callB (lenK K rfl) rfl T.b_len bo_len (pa_cons (pv 0) pa_nil)) (C8.pe_gc rfl T.g_MOST_FIGURES))) (pw_or1 (pt_not (pt_val (pe_callB (allK K rfl rfl) rfl T.b_all bo_all (pa_cons (pe_lc (own := [("letter", 1)]) rfl sc_integer_of.nd (pi_str (pv 0)) (blkOk_by (own := [("letter", 1)]) (N := N_integer_of) (sc := defScope s_integer_of) (by decide +kernel)) (fun _ _ _ _ _ => (pg_name (i := 1) sc_integer_of.nd rfl (by first | exact Or.inl rfl | exact Or.inr rfl))) (fun _ _ _ _ _ => pts_nil) (fun _ _ _ _ _ => (pe_cmpR (inK K rfl hr) (pv 1) (C8.pe_gc rfl T.g_DIGITS) rfl))) pa_nil))))))) (pss_one (ps_ret pe_non)) pss_nil) (pss_one (ps_ret (pe_ifExp (pt_cmpR (eqK K rfl hr) (pe_callTy call_str_int rfl T.b_str bo_str (pa_cons (pe_callTy call_int_str rfl T.b_int bo_int (pa_cons (pv 0) pa_nil)) pa_nil)) (pv 0) (nomark _)) (pe_callTy call_int_str rfl T.b_int bo_int (pa_cons (pv 0) pa_nil)) pe_non)))), .inl ?_⟩
    have hs := dg_str ⟨n, hn⟩
    have hi := dg_int ⟨n, hn⟩
    have hd := dg_in ⟨n, hn⟩
    simp only at hs hi hd
    have lg : (dg n).length = 1 := rfl
    have hlg : ((n : Nat) : Int).natAbs.log2 < 1920 := Nat.lt_of_le_of_lt (Nat.log2_le_self _) (by omega)
    have mkI : ∀ r : Sl, r[0]? = some (some (.d (.text (dg n)))) → Cm K (tCB (fun xs H Q => ∃ a n, xs = [.str a] ∧ PySem.intText? a = some n ∧ a.length ≤ 640 ∧ Q (.int n) H) (tCons (tVar 0) tNil)) r (.d (eN n)) := fun r h => cm_cb (ca_cons (cm_var h) ca_nil) (cc_int hi (by rw [lg]; decide))
    (with_reducible apply bs_skip)
    · (with_reducible apply ct_or)
      · (with_reducible apply ct_not)
        (with_reducible apply ct_test)
        (with_reducible apply cm_chain)
        · exact cm_int
        · exact cm_cb (ca_cons (cm_var rfl) ca_nil) (cc_lenS (by rw [lg]; decide))
        · exact co_le
        · intro _
          exact cm_int
        · exact co_le
      · intro _
        refine ct_not (ct_B (cm_is (w' := .b (([48 + n].map fun _ => true).all id)) (cm_cb (ca_cons (cm_lcb (as := [48 + n]) (fun c => .d (.text ⟨#[c]⟩)) (fun _ => true) (cmI_is (ci_str (cm_var rfl)) rfl) (by simp) fun c hc => ⟨_, [1], by simp, cg_name, ?_⟩) ca_nil) cc_all) (by rfl)))
        simp at hc
        subst hc
        exact cm_is (cm_op (cm_var rfl) cm_str co_inS) (by rw [decide_eq_true hd])
    · rw [lg]
      rfl
    · refine bs_ret (cm_ifT (c1 := true) ?_ rfl (mkI _ rfl))
      refine ct_test (cm_is (cm_op (a := .d (.text (dg n))) (cm_is (cm_cb (ca_cons (mkI _ rfl) ca_nil) (cc_str hlg)) ?_) (cm_var rfl) (co_eq (.text ?_) (.text ?_))) (by simp))
      · rw [hs]
      · exact dg_ok ⟨n, hn⟩
      · exact dg_ok ⟨n, hn⟩

/-! ### word_of -/
abbrev s_word_of : Stmt := top 69
abbrev N_word_of : List Str := ["sign"]
theorem sc_word_of : FnScope N_word_of ["sign"] (defScope s_word_of) := ⟨rfl, rfl, rfl, by decide +kernel, rfl, by decide +kernel, by decide +kernel⟩
theorem word_app : ∀ n : Fin 10, Str.ofString "h" ++ dg n.val = wordS (.head n.val) ∧ Str.ofString "m" ++ dg n.val = wordS (.moment n.val) ∧ Str.ofString "v" ++ dg n.val = wordS (.value n.val) := by decide +kernel
def R_word_of : List W → W → Prop := fun ws w => ∃ x, idS x < 10 ∧ ws = [.d (eS x)] ∧ w = .d (.text (wordS x))
theorem r_word_of {x : NM.Sign} (h : idS x < 10) : R_word_of [.d (eS x)] (.d (.text (wordS x))) := ⟨x, h, rfl, rfl⟩
theorem ok_word_of (T : Txt K mg) (TW : Txt2 K mg aW aF) (A : DefAt K mg "word_of" "word_of" s_word_of ["sign"]) : CalF P w K mg base 1 "word_of" R_word_of := by
  refine calF A sc_word_of (fun ws u h => ?_) (fun f cdv A outer s H E ws u hr h => ?_)
  · obtain ⟨x, _, rfl, _⟩ := h; rfl
  · obtain ⟨x, hx, rfl, rfl⟩ := h
    refine ⟨_, (pss_one (ps_ret (pe_op (addK K rfl) (pe_dget (u1 hr) (pe_callTy (dictWK (K := K) rfl TW.words rfl) rfl T.b_dict bo_dict (pa_cons (C8.pe_gc rfl TW.g_WORDS) pa_nil)) (pe_ix (ixK K rfl) (pv 0) pe_int (fun _ _ => rfl)) (fun _ _ => rfl)) (pe_callTy call_str_int rfl T.b_str bo_str (pa_cons (pe_ix (ixK K rfl) (pv 0) pe_int (fun _ _ => rfl)) pa_nil))))), .inl ?_⟩
    have hs := dg_str ⟨idS x, hx⟩
    have hw := word_app ⟨idS x, hx⟩
    simp only at hs hw
    have hlg : ((idS x : Nat) : Int).natAbs.log2 < 1920 := Nat.lt_of_le_of_lt (Nat.log2_le_self _) (by omega)
    have key : ∀ (k l : Str), eS x = .tup [.text k, eN (idS x)] → valV (mergeK [] kvW) (.inr k) = some (.str l) → l ++ dg (idS x) = wordS x → l.length ≤ 5 →
        Cm K (tOp (rAddU K) (tDGet (tCB (rDictW aW) (tCons (tC (.ref aW)) tNil)) (tOp (rIx K) (tVar 0) (tC (.int 0)))) (tCB rStrI (tCons (tOp (rIx K) (tVar 0) (tC (.int 1))) tNil))) (startW N_word_of [.d (eS x)]) (.d (.text (wordS x))) := fun k l he hv hl hn => by
      rw [he, ← hl]
      refine cm_op (cm_word (cm_op (cm_var rfl) cm_int (co_ixTe rfl rfl)) hv) (cm_is (w' := .d (.text (toString ((idS x : Nat) : Int)))) (cm_cb (ca_cons (cm_op (cm_var rfl) cm_int (co_ixTe rfl rfl)) ca_nil) (cc_str hlg)) (by rw [hs])) (co_addS ?_)
      have : (dg (idS x)).length = 1 := rfl
      omega
    refine bs_ret ?_
    cases x with
    | head n => exact key "head" "h" rfl rfl hw.1 (by decide)
    | moment n => exact key "moment" "m" rfl rfl hw.2.1 (by decide)
    | value n => exact key "value" "v" rfl rfl hw.2.2 (by decide)

/-! ### sign_by -/
abbrev s_sign_by : Stmt := top 70
abbrev N_sign_by : List Str := ["language", "word", "kind", "letter", "sign"]
theorem sc_sign_by : FnScope N_sign_by ["language", "word"] (defScope s_sign_by) := ⟨rfl, rfl, rfl, by decide +kernel, rfl, by decide +kernel, by decide +kernel⟩
def entW : List (Str × Str) := [("head", "h"), ("moment", "m"), ("value", "v")]
theorem cut_word : ∀ n : Fin 10, ∀ l ∈ [104, 109, 118], cutS (⟨#[l, 48 + n.val]⟩ : Str) none (some 1) = ⟨#[l]⟩ ∧ cutS (⟨#[l, 48 + n.val]⟩ : Str) (some 1) none = dg n.val ∧ PyData.strOk (⟨#[l]⟩ : Str) = true := by decide +kernel
def R_sign_by : List W → W → Prop := fun ws w => ∃ L x, Good L ∧ L.ok x ∧ ws = [.d (eL L), .d (.text (wordS x))] ∧ w = .d (eS x)
theorem r_sign_by {L : Lang} {x : NM.Sign} (g : Good L) (h : L.ok x) : R_sign_by [.d (eL L), .d (.text (wordS x))] (.d (eS x)) := ⟨L, x, g, h, rfl, rfl⟩
theorem ok_sign_by (T : Txt K mg) (TW : Txt2 K mg aW aF) (A : DefAt K mg "sign_by" "sign_by" s_sign_by ["language", "word"]) (C_integer_of : CalF P w K mg base 1 "integer_of" R_integer_of) (C_is_sign : CalF P w K mg base 2 "is_sign" R_is_sign) :
    CalF P w K mg base 3 "sign_by" R_sign_by := by
  refine calF A sc_sign_by (fun ws u h => ?_) (fun f cdv A outer s H E ws u hr h => ?_)
  · obtain ⟨L, x, _, _, rfl, _⟩ := h; rfl
  · obtain ⟨L, x, g, hx, rfl, rfl⟩ := h
    refine ⟨_, (pss_cons (ps_for PassesOwn.never rfl (piTK K rfl (C8.pe_gc rfl TW.g_WORDS)) (pgTK (n := 2) K rfl rfl (pgs_cons (pg_name (i := 2) sc_sign_by.nd rfl (by first | exact Or.inl rfl | exact Or.inr rfl)) (pgs_cons (pg_name (i := 3) sc_sign_by.nd rfl (by first | exact Or.inl rfl | exact Or.inr rfl)) pgs_nil))) (pss_one (ps_if (pt_cmpR (eqK K rfl hr) (pe_slice sl_str (pv 1) po_none (po_some pe_int)) (pv 3) (nomark _)) (pss_cons (ps_set (i := 4) sc_sign_by.nd rfl (by first | exact Or.inl rfl | exact Or.inr rfl) (pe_tup (pa_cons (pv 2) (pa_cons (C8.pe_c C_integer_of hr (by decide) rfl (pa_cons (pe_slice sl_str (pv 1) (po_some pe_int) po_none) pa_nil)) pa_nil)))) (pss_one (ps_ret (pe_ifExp (PW.pt (pw_and (pt_cmpR op_notN (pe_ix (ixK K rfl) (pv 4) pe_int (fun _ _ => rfl)) pe_non (nomark _)) (pw_and1 (pt_val (C8.pe_c C_is_sign hr (by decide) rfl (pa_cons (pv 0) (pa_cons (pv 4) pa_nil))))))) (pv 4) pe_non)))) pss_nil))) (pss_one (ps_ret pe_non))), .inl ?_⟩
    have hid : idS x < 10 := Nat.lt_trans (id_lt g hx) (by decide)
    obtain ⟨c1, c2, c3⟩ := cut_word ⟨idS x, hid⟩ (letS x) (by cases x <;> simp [letS])
    simp only at c1 c2 c3
    have lw : (wordS x).length ≤ 1000000 := (by decide : 2 ≤ 1000000)
    let R : Sl := [some (.d (eL L)), some (.d (.text (wordS x))), none, none, none]
    have key : ∀ (j : Nat) (k l : Str), entW[j]? = some (k, l) → eS x = .tup [.text k, eN (idS x)] → (⟨#[letS x]⟩ : Str) = l → (∀ i k' l', i < j → entW[i]? = some (k', l') → ¬ (⟨#[letS x]⟩ : Str) = l') → (∀ p ∈ entW, PyData.strOk p.2 = true) →
        Bs K (tFor (iTup K (tC (.ref aW))) (gTup K 2 (gCons (gName 2) (gCons (gName 3) gNil))) (tIfS (tTest (tOp (rEqD K) (tSl rSlS (tVar 1) tNoPart (tPart (tC (.int 1)))) (tVar 3)))
          (tSeq (tAsg (tTup (tCons (tVar 2) (tCons (tCall (spF K R_integer_of) [] C8.E0 (tCons (tSl rSlS (tVar 1) (tPart (tC (.int 1))) tNoPart) tNil)) tNil))) (gName 4))
            (tRet (tIf (tAnd (tTest (tOp rIsNotN (tOp (rIx K) (tVar 4) (tC (.int 1))) (tC .non))) (tTest (tCall (spF K R_is_sign) [] C8.E0 (tCons (tVar 0) (tCons (tVar 4) tNil))))) (tVar 4) (tC .non)))) tNext)) R (.rt (.d (eS x))) := fun j k l hj he hl hbef hok => by
      have cmp : ∀ (r : Sl) (k' l' : Str), (k', l') ∈ entW → r[1]? = some (some (.d (.text (wordS x)))) → r[3]? = some (some (.d (.text l'))) → CmT K (tTest (tOp (rEqD K) (tSl rSlS (tVar 1) tNoPart (tPart (tC (.int 1)))) (tVar 3))) r (decide ((⟨#[letS x]⟩ : Str) = l')) := fun r k' l' hm h1 h3 => by
        have := ct_test (cm_op (K := K) (cm_is (w := .d (.text ⟨#[letS x]⟩)) (cm_slS (cm_var h1) cp_no (cp_int cm_int) lw) (by rw [← c1]; rfl)) (cm_var h3) (co_eq (.text c3) (.text (hok _ hm))))
        rw [d_text] at this
        exact this
      have hlen : j < entW.length := (List.getElem?_eq_some_iff.mp hj).1
      refine bs_forR (ws := entW.map fun p => .d (.tup [.text p.1, .text p.2])) (fun _ => R) j (by simpa using hlen) (ci_tupM (fun p : Str × Str => .tup [.text p.1, .text p.2]) (cm_words TW.words) rfl) (fun i w' hi hw' => ?_) fun w' hw' => ?_
      · rw [List.getElem?_map] at hw'
        cases hp : entW[i]? with
        | none => rw [hp] at hw'; cases hw'
        | some p =>
          rw [hp] at hw'
          cases hw'
          obtain ⟨k', l'⟩ := p
          exact ⟨_, _, cg_tupE rfl (cgs_cons cg_name (cgs_cons cg_name cgs_nil)) rfl, bs_lessT (bs_ifF (cmp _ k' l' (List.mem_of_getElem? hp) rfl rfl) (decide_eq_false (hbef i k' l' hi hp)) bs_next) (by walk_at "less")⟩
      · rw [List.getElem?_map, hj] at hw'
        cases hw'
        refine ⟨_, _, cg_tupE rfl (cgs_cons cg_name (cgs_cons cg_name cgs_nil)) rfl, bs_ifT (cmp _ k l (List.mem_of_getElem? hj) rfl rfl) (decide_eq_true hl) ?_⟩
        refine bs_setS (w := .d (eS x)) ?_ ?_
        · rw [he]
          refine cm_tupD (cad_cons (cm_var rfl) (cad_cons (cm_call (ca_cons (cm_is (w := .d (.text (dg (idS x)))) (cm_slS (cm_var rfl) (cp_int cm_int) cp_no lw) (by rw [← c2]; rfl)) ca_nil) (r_integer_of hid)) cad_nil)) (by simp)
        · refine bs_ret (cm_ifT (c1 := true) ?_ rfl (cm_var rfl))
          have t1 : CmT K (tTest (tOp rIsNotN (tOp (rIx K) (tVar 4) (tC (.int 1))) (tC .non))) ((((R.set 2 (some (.d (.text k)))).set 3 (some (.d (.text l)))).set 4 (some (.d (eS x))))) true := ct_test (cm_is (cm_op (cm_op (cm_var rfl) cm_int (co_ixTe he rfl)) cm_non co_isNotN) (by simp))
          have t2 : CmT K (tTest (tCall (spF K R_is_sign) [] C8.E0 (tCons (tVar 0) (tCons (tVar 4) tNil)))) ((((R.set 2 (some (.d (.text k)))).set 3 (some (.d (.text l)))).set 4 (some (.d (eS x))))) true := ct_test (cm_call (ca_cons (cm_var rfl) (ca_cons (cm_var rfl) ca_nil)) (r_is_sign g hx))
          exact ct_and t1 fun _ => t2
    have hok : ∀ p ∈ entW, PyData.strOk p.2 = true := by decide +kernel
    have nb : ∀ (j : Nat), (∀ p ∈ entW.take j, ¬ (⟨#[letS x]⟩ : Str) = p.2) → ∀ i k' l', i < j → entW[i]? = some (k', l') → ¬ (⟨#[letS x]⟩ : Str) = l' := fun j h i k' l' hi hp => h (k', l') (List.mem_of_getElem? (by rw [List.getElem?_take_of_lt hi]; exact hp))
    refine bs_seqR ?_
    cases x with
    | head n => exact key 0 "head" "h" rfl rfl (by simp only [letS]; decide +kernel) (nb 0 (by simp)) hok
    | moment n => exact key 1 "moment" "m" rfl rfl (by simp only [letS]; decide +kernel) (nb 1 (by simp only [letS]; decide +kernel)) hok
    | value n => exact key 2 "value" "v" rfl rfl (by simp only [letS]; decide +kernel) (nb 2 (by simp only [letS]; decide +kernel)) hok
end
end NW
/-! texts.py: texts -/
namespace NW
open PySem PySem.Spec PyProof.Rows L2 StX NM
local macro_rules | `(tactic| walk_at "my") => `(tactic| fail)
local macro_rules | `(tactic| walk_at "mycm") => `(tactic| fail)
local macro_rules | `(tactic| walk_at "myco") => `(tactic| fail)
local macro_rules | `(tactic| walk_at "mycc") => `(tactic| fail)
local macro_rules | `(tactic| walk_at "sh") => `(tactic| first | assumption | exact sh_n | exact Sh.num | exact Sh.non | exact sh_role | exact Sh.text (by decide +kernel) | exact sh_ns | exact sh_s | exact sh_m | exact sh_o | exact sh_h | exact sh_t | exact sh_ss | exact sh_ms | exact sh_head | exact sh_L | exact sh_nil | (apply sh_cons <;> walk_at "sh"))
local macro_rules | `(tactic| walk_at "shs") => `(tactic| first | assumption | exact shs_nil | (apply shs_cons; walk_at "sh"; walk_at "shs"))
local macro_rules | `(tactic| walk_at "co") => `(tactic| first
  | ((with_reducible apply co_ixTe); exact rfl; exact rfl)
  | ((with_reducible exact co_ixDl))
  | ((with_reducible apply co_ixL); exact rfl)
  | (with_reducible exact co_lt) | (with_reducible exact co_le) | (with_reducible exact co_gt) | (with_reducible exact co_ge) | (with_reducible exact co_sub)
  | (with_reducible exact co_isN) | (with_reducible exact co_isNotN)
  | ((with_reducible apply co_eq) <;> walk_at "sh") | ((with_reducible apply co_ne) <;> walk_at "sh")
  | (with_reducible exact co_add)
  | ((with_reducible apply co_inTe); exact rfl; walk_at "sh"; walk_at "shs")
  | walk_at "myco")
local macro_rules | `(tactic| walk_at "cc") => `(tactic| first
  | ((with_reducible apply cc_lenTe); exact rfl) | (with_reducible exact cc_lenL) | (with_reducible exact cc_all) | (with_reducible exact cc_any) | (with_reducible exact cc_tuple) | (with_reducible exact cc_intI)
  | (with_reducible exact cc_intB) | (with_reducible exact cc_min2) | (with_reducible exact cc_listT)
  | ((with_reducible apply cc_isi); first | exact isi_int rfl | exact isi_bool | exact isi_tuple rfl | exact isi_str rfl)
  | walk_at "mycc")
local macro_rules | `(tactic| walk_at "ca") => `(tactic| first
  | (with_reducible exact ca_nil)
  | ((with_reducible apply ca_cons); walk_at "cm"; walk_at "ca"))
local macro_rules | `(tactic| walk_at "cad") => `(tactic| first
  | (with_reducible exact cad_nil)
  | ((with_reducible apply cad_cons); walk_at "cm"; walk_at "cad")
  | ((with_reducible apply cad_starE); walk_at "cm"; exact rfl; walk_at "cad"))
local macro_rules | `(tactic| walk_at "cm") => `(tactic| first
  | ((with_reducible apply cm_var); exact rfl)
  | (with_reducible exact cm_int) | (with_reducible exact cm_str) | (with_reducible exact cm_non) | (with_reducible exact cm_bl)
  | ((with_reducible apply cm_op); walk_at "cm"; walk_at "cm"; walk_at "co")
  | ((with_reducible apply cm_tupD); walk_at "cad"; walk_at "size")
  | ((with_reducible apply cm_neg); walk_at "cm")
  | ((with_reducible apply cm_call); walk_at "ca"; walk_at "my")
  | walk_at "mycm"
  | ((with_reducible apply cm_cb); walk_at "ca"; walk_at "cc")
  | ((with_reducible apply cm_chain); walk_at "cm"; walk_at "cm"; walk_at "co"; (intro _; walk_at "cm"); walk_at "co")
  | ((with_reducible apply cm_andVF); walk_at "cm"; walk_at "dec0")
  | ((with_reducible apply cm_orVT); walk_at "cm"; walk_at "dec0")
  | ((with_reducible apply cm_ifT); walk_at "ct"; walk_at "dec"; walk_at "cm")
  | ((with_reducible apply cm_ifF); walk_at "ct"; walk_at "dec"; walk_at "cm")
  | ((with_reducible apply cm_andV); walk_at "cm"; (intro _; walk_at "cm"))
  | ((with_reducible apply cm_orV); walk_at "cm"; (intro _; walk_at "cm"))
  | ((with_reducible apply cm_notV); walk_at "cm")
  | (with_reducible exact cm_val))
local macro_rules | `(tactic| walk_at "ct") => `(tactic| first
  | ((with_reducible apply ct_test); walk_at "cm") | ((with_reducible apply ct_B); walk_at "cm") | ((with_reducible apply ct_not); walk_at "ct")
  | ((with_reducible apply ct_andF); walk_at "ct"; walk_at "dec0")
  | ((with_reducible apply ct_orT); walk_at "ct"; walk_at "dec0")
  | ((with_reducible apply ct_and); walk_at "ct"; (intro _; walk_at "ct"))
  | ((with_reducible apply ct_or); walk_at "ct"; (intro _; walk_at "ct")))
local macro_rules | `(tactic| walk_at "size") => `(tactic| focus first | assumption | (simp; done) | (simp; omega) | omega)
local macro_rules | `(tactic| walk_at "dec0") => `(tactic| focus first | rfl | (simp [eHead, eL, eSs, eMs, eS, eM, eT, eN, eNs, eH, eO, rN]; done))
local macro_rules | `(tactic| walk_at "dec") => `(tactic| focus first | rfl | (simp [eHead, eL, eSs, eMs, eS, eM, eT, eN, eNs, eH, eO, rN]; done) | (simp [eHead, eL, eSs, eMs, eS, eM, eT, eN, eNs, eH, eO, rN]; omega) | (simp [eHead, eL, eSs, eMs, eS, eM, eT, eN, eNs, eH, eO, rN, *]; done))
local macro_rules | `(tactic| walk_at "skip") => `(tactic| ((with_reducible apply bs_skip); walk_at "ct"; walk_at "dec"))
local macro_rules | `(tactic| walk_at "take") => `(tactic| (refine bs_seqR ?_; (with_reducible apply bs_ifT); walk_at "ct"; walk_at "dec"))
local macro_rules | `(tactic| walk_at "ret") => `(tactic| (refine bs_ret ?_; (with_reducible apply cm_is); walk_at "cm"))
local macro_rules | `(tactic| walk_at "set") => `(tactic| ((with_reducible apply bs_setS); walk_at "cm"))
local macro_rules | `(tactic| walk_at "drop") => `(tactic| ((with_reducible apply bs_dropS); walk_at "cm"))
local macro_rules | `(tactic| walk_at "norm") => `(tactic| skip)
local macro_rules | `(tactic| walk_at "less") => `(tactic| first | exact less_nil | (apply less_some; walk_at "less") | (apply less_none; walk_at "less"))
local macro_rules | `(tactic| walk_at "flat") => `(tactic| first | exact flat_nil | (refine flat_cons ?_ ?_; (first | exact trivial | exact rfl); walk_at "flat"))
local macro_rules | `(tactic| walk_at "stay") => `(tactic| first | exact stay_nil | (refine stay_cons ?_ ?_; (first | exact stay_none | exact stay_d | exact stay_b | exact stay_v | exact stay_old (by assumption)); walk_at "stay"))
section
variable {P : Program} {w : World} {K : Fg} {mg : Str → Option Value} {base : Heap}

variable {aW aF : Addr}
open TL (tl joinL tl_join join_eq len_tl)
/-! ### plain: joined texts -/
def textS (xs : List NM.Sign) : Str := Txt.join " " (xs.map wordS)
def rowS (m : Msg) : Str := Txt.join " " ((m.1 :: m.2).map dg)
def msgS (ms : List Msg) : Str := Txt.join "\n" (ms.map rowS)
theorem mem_joinL {S : List Nat} {c : Nat} : ∀ {ps : List (List Nat)}, c ∈ joinL S ps → c ∈ S ∨ ∃ p ∈ ps, c ∈ p
  | [], h => by cases h
  | [p], h => .inr ⟨p, by simp, h⟩
  | p :: q :: r, h => by
    have h' : c ∈ p ++ (S ++ joinL S (q :: r)) := h
    rcases List.mem_append.mp h' with z | z
    · exact .inr ⟨p, by simp, z⟩
    · rcases List.mem_append.mp z with z | z
      · exact .inl z
      · rcases mem_joinL z with y | ⟨p', hp, y⟩
        · exact .inl y
        · exact .inr ⟨p', List.mem_cons_of_mem _ hp, y⟩
theorem len_joinL {S : List Nat} {n : Nat} : ∀ {ps : List (List Nat)}, (∀ p ∈ ps, p.length ≤ n) → (joinL S ps).length ≤ ps.length * (n + S.length)
  | [], _ => by simp [joinL]
  | [p], h => by
    have := h p (by simp)
    show p.length ≤ 1 * (n + S.length)
    omega
  | p :: q :: r, h => by
    have h1 := h p (by simp)
    have h2 := len_joinL (S := S) (n := n) (ps := q :: r) fun p' hp => h p' (List.mem_cons_of_mem _ hp)
    show (p ++ (S ++ joinL S (q :: r))).length ≤ _
    rw [List.length_append, List.length_append, List.length_cons, Nat.add_mul]
    omega
theorem tl_txt (y : Str) (parts : List Str) : tl (Txt.join y parts) = joinL (tl y) (parts.map tl) := by rw [join_eq, tl_join]
theorem tl_sp : tl (" " : Str) = [32] := by decide +kernel
theorem tl_nl : tl ("\n" : Str) = [10] := by decide +kernel
theorem strOk_tl {x : Str} (h : ∀ c ∈ tl x, c < 256) : PyData.strOk x = true := by
  unfold PyData.strOk
  rw [← Array.all_toList, List.all_eq_true]
  intro c hc
  have := h c hc
  exact decide_eq_true (by omega)
theorem tl_word (x : NM.Sign) : tl (wordS x) = [letS x, 48 + idS x] := rfl
theorem tl_dg (n : Nat) : tl (dg n) = [48 + n] := rfl
theorem let_lt (x : NM.Sign) : 100 < letS x ∧ letS x < 120 := by cases x <;> simp [letS]
theorem text_mem {xs : List NM.Sign} (h : ∀ x ∈ xs, idS x < 10) {c : Nat} (hc : c ∈ tl (textS xs)) : c < 256 := by
  unfold textS at hc
  rw [tl_txt, tl_sp] at hc
  rcases mem_joinL hc with z | ⟨p, hp, z⟩
  · simp at z; omega
  · obtain ⟨y, hy, rfl⟩ := List.mem_map.mp hp
    obtain ⟨x, hx, rfl⟩ := List.mem_map.mp hy
    rw [tl_word] at z
    have := let_lt x
    have := h x hx
    simp at z
    omega
theorem text_len (xs : List NM.Sign) : (textS xs).length ≤ xs.length * 3 := by
  rw [len_tl]
  unfold textS
  rw [tl_txt, tl_sp]
  have := len_joinL (S := [32]) (n := 2) (ps := (xs.map wordS).map tl) fun p hp => by
    obtain ⟨y, hy, rfl⟩ := List.mem_map.mp hp
    obtain ⟨x, hx, rfl⟩ := List.mem_map.mp hy
    rw [tl_word]
    exact Nat.le_refl _
  simpa using this
theorem text_split {xs : List NM.Sign} (h : ∀ x ∈ xs, idS x < 10) (hne : xs ≠ []) : Txt.split (textS xs) " " = xs.map wordS := by
  refine TL.split_join (s := 32) (S := []) tl_sp (by decide +kernel) (by simpa using hne) fun p hp => ?_
  obtain ⟨x, hx, rfl⟩ := List.mem_map.mp hp
  rw [tl_word]
  have := let_lt x
  have := h x hx
  simp
  omega
theorem text_ne {xs : List NM.Sign} (hne : xs ≠ []) : textS xs ≠ "" := fun z => by
  have h1 : tl (textS xs) = tl ("" : Str) := by rw [z]
  have h2 : tl ("" : Str) = [] := by decide +kernel
  unfold textS at h1
  rw [tl_txt, tl_sp, h2] at h1
  cases xs with
  | nil => exact hne rfl
  | cons x xs =>
    cases xs with
    | nil =>
      have : tl (wordS x) = [] := h1
      rw [tl_word] at this
      cases this
    | cons y ys =>
      have : tl (wordS x) ++ ([32] ++ joinL [32] (((y :: ys).map wordS).map tl)) = [] := h1
      rw [tl_word] at this
      cases this
/-! ### stream_by -/
abbrev s_stream_by : Stmt := top 71
abbrev N_stream_by : List Str := ["language", "words", "found", "word"]
theorem sc_stream_by : FnScope N_stream_by ["language", "words"] (defScope s_stream_by) := ⟨rfl, rfl, rfl, by decide +kernel, rfl, by decide +kernel, by decide +kernel⟩
def R_stream_by : List W → W → Prop := fun ws w => ∃ L xs, Good L ∧ isGood L xs ∧ ws = [.d (eL L), .l ((xs.map wordS).map .text)] ∧ w = .d (eSs xs)
theorem r_stream_by {L : Lang} {xs : List NM.Sign} (g : Good L) (h : isGood L xs) : R_stream_by [.d (eL L), .l ((xs.map wordS).map .text)] (.d (eSs xs)) := ⟨L, xs, g, h, rfl, rfl⟩
theorem ok_stream_by (T : Txt K mg) (A : DefAt K mg "stream_by" "stream_by" s_stream_by ["language", "words"]) (C_sign_by : CalF P w K mg base 3 "sign_by" R_sign_by) : CalF P w K mg base 4 "stream_by" R_stream_by := by
  refine calF A sc_stream_by (fun ws u h => ?_) (fun f cdv A outer s H E ws u hr h => ?_)
  · obtain ⟨L, xs, _, _, rfl, _⟩ := h; rfl
  · obtain ⟨L, xs, g, ⟨hx, hl⟩, rfl, rfl⟩ := h
    refine ⟨_, (pss_cons (ps_set (i := 2) sc_stream_by.nd rfl (by first | exact Or.inl rfl | exact Or.inr rfl) (pe_callTy (tupleK K rfl) rfl T.b_tuple bo_tuple (pa_cons (pe_lc (own := [("word", 3)]) rfl sc_stream_by.nd (piLK K rfl (pv 1)) (blkOk_by (own := [("word", 3)]) (N := N_stream_by) (sc := defScope s_stream_by) (by decide +kernel)) (fun _ _ _ _ _ => (pg_name (i := 3) sc_stream_by.nd rfl (by first | exact Or.inl rfl | exact Or.inr rfl))) (fun _ _ _ _ _ => pts_nil) (fun _ _ _ _ _ => (C8.pe_c C_sign_by hr (by decide) rfl (pa_cons (pv 0) (pa_cons (pv 3) pa_nil))))) pa_nil))) (pss_one (ps_ret (pe_ifExp (pt_cmpR (inK K rfl hr) pe_non (pv 2) rfl) pe_non (pv 2))))), .inl ?_⟩
    refine bs_setS (w := .d (eSs xs)) (cm_cb (ca_cons (cm_lcm (as := xs) (fun x => .d (.text (wordS x))) eS ?_ (by omega) fun x hx' => ⟨_, [3], by simp, cg_name, cm_call (ca_cons (cm_var rfl) (ca_cons (cm_var rfl) ca_nil)) (r_sign_by g (hx x hx'))⟩) ca_nil) cc_tuple) ?_
    · have := ci_lstM (K := K) (as := xs) (tl := tVar 1) (r := startW N_stream_by [.d (eL L), .l ((xs.map wordS).map .text)]) (fun x => (.text (wordS x) : D)) (cm_var (by simp [startW]))
      exact this
    · refine bs_ret (cm_ifF (c1 := false) (ct_test (cm_is (cm_op cm_non (cm_var rfl) (co_inTe rfl .non fun d hd => by obtain ⟨x, _, rfl⟩ := List.mem_map.mp hd; exact sh_s)) ?_)) rfl (cm_var rfl))
      congr 1
      refine decide_eq_false fun z => ?_
      obtain ⟨x, _, hx'⟩ := List.mem_map.mp z
      cases x <;> simp [eS] at hx'
/-! ### stream_text -/
abbrev s_stream_text : Stmt := top 72
abbrev N_stream_text : List Str := ["language", "stream", "sign"]
theorem sc_stream_text : FnScope N_stream_text ["language", "stream"] (defScope s_stream_text) := ⟨rfl, rfl, rfl, by decide +kernel, rfl, by decide +kernel, by decide +kernel⟩
def R_stream_text : List W → W → Prop := fun ws w => ∃ L xs, Good L ∧ isGood L xs ∧ ws = [.d (eL L), .d (eSs xs)] ∧ w = .d (.text (textS xs))
theorem r_stream_text {L : Lang} {xs : List NM.Sign} (g : Good L) (h : isGood L xs) : R_stream_text [.d (eL L), .d (eSs xs)] (.d (.text (textS xs))) := ⟨L, xs, g, h, rfl, rfl⟩
theorem sum_le {α : Type} (f : α → Nat) (n : Nat) : ∀ xs : List α, (∀ x ∈ xs, f x ≤ n) → (xs.map f).sum ≤ xs.length * n
  | [], _ => by simp
  | x :: xs, h => by
    have h1 := h x (by simp)
    have h2 := sum_le f n xs fun y hy => h y (by simp [hy])
    simp only [List.map_cons, List.sum_cons, List.length_cons, Nat.add_mul]
    omega
theorem ok_stream_text (T : Txt K mg) (A : DefAt K mg "stream_text" "stream_text" s_stream_text ["language", "stream"]) (C_need_stream : CalF P w K mg base 4 "need_stream" R_need_stream) (C_word_of : CalF P w K mg base 1 "word_of" R_word_of) : CalF P w K mg base 5 "stream_text" R_stream_text := by
  refine calF A sc_stream_text (fun ws u h => ?_) (fun f cdv A outer s H E ws u hr h => ?_)
  · obtain ⟨L, xs, _, _, rfl, _⟩ := h; rfl
  · obtain ⟨L, xs, g, ⟨hx, hl⟩, rfl, rfl⟩ := h
    refine ⟨_, (pss_cons (ps_expr (C8.pe_c C_need_stream hr (by decide) rfl (pa_cons (pv 0) (pa_cons (pv 1) pa_nil)))) (pss_one (ps_ret (joinK K rfl (C8.pe_gc rfl T.g_BLANK) (pe_lc (own := [("sign", 2)]) rfl sc_stream_text.nd (piTK K rfl (pv 1)) (blkOk_by (own := [("sign", 2)]) (N := N_stream_text) (sc := defScope s_stream_text) (by decide +kernel)) (fun _ _ _ _ _ => (pg_name (i := 2) sc_stream_text.nd rfl (by first | exact Or.inl rfl | exact Or.inr rfl))) (fun _ _ _ _ _ => pts_nil) (fun _ _ _ _ _ => (C8.pe_c C_word_of hr (by decide) rfl (pa_cons (pv 2) pa_nil)))))))), .inl ?_⟩
    refine bs_dropS (cm_call (by walk_at "ca") (r_need_stream g hx hl)) ?_
    refine bs_ret (cm_join (ys := xs.map wordS) cm_str (cm_is (w' := .l (xs.map fun x => .text (wordS x))) (cm_lcm (as := xs) (fun x => .d (eS x)) (fun x => .text (wordS x)) (ci_tupM eS (cm_var rfl) rfl) (by omega) fun x hx' => ⟨_, [2], by simp, cg_name, cm_call (ca_cons (cm_var rfl) ca_nil) (r_word_of (Nat.lt_trans (id_lt g (hx x hx')) (by decide)))⟩) (by rw [List.map_map]; rfl)) ?_)
    rw [List.map_map, List.length_map]
    have h1 := sum_le ((·.length) ∘ wordS) 2 xs fun x _ => Nat.le_refl _
    have h2 : (" " : Str).length = 1 := by decide +kernel
    rw [h2]
    omega
/-! ### read_stream -/
abbrev s_read_stream : Stmt := top 73
abbrev N_read_stream : List Str := ["language", "string", "found"]
theorem sc_read_stream : FnScope N_read_stream ["language", "string"] (defScope s_read_stream) := ⟨rfl, rfl, rfl, by decide +kernel, rfl, by decide +kernel, by decide +kernel⟩
def R_read_stream : List W → W → Prop := fun ws w => ∃ L xs, Good L ∧ isGood L xs ∧ ws = [.d (eL L), .d (.text (textS xs))] ∧ w = .d (eSs xs)
theorem r_read_stream {L : Lang} {xs : List NM.Sign} (g : Good L) (h : isGood L xs) : R_read_stream [.d (eL L), .d (.text (textS xs))] (.d (eSs xs)) := ⟨L, xs, g, h, rfl, rfl⟩
local macro_rules | `(tactic| walk_at "my") => `(tactic| first | exact r_need_language (by assumption))
theorem ok_read_stream (T : Txt K mg) (A : DefAt K mg "read_stream" "read_stream" s_read_stream ["language", "string"]) (C_need_language : CalF P w K mg base 3 "need_language" R_need_language) (C_stream_by : CalF P w K mg base 4 "stream_by" R_stream_by) : CalF P w K mg base 5 "read_stream" R_read_stream := by
  refine calF A sc_read_stream (fun ws u h => ?_) (fun f cdv A outer s H E ws u hr h => ?_)
  · obtain ⟨L, xs, _, _, rfl, _⟩ := h; rfl
  · obtain ⟨L, xs, g, hg, rfl, rfl⟩ := h
    have hg' := hg
    obtain ⟨hx, hl⟩ := hg'
    have hid : ∀ x ∈ xs, idS x < 10 := fun x hx' => Nat.lt_trans (id_lt g (hx x hx')) (by decide)
    refine ⟨_, (pss_cons (ps_expr (C8.pe_c C_need_language hr (by decide) rfl (pa_cons (pv 0) pa_nil))) (pss_cons (ps_if (pt_not (pt_val (pe_callB (isiK K rfl) rfl T.b_isinstance bo_isinstance (pa_cons (pv 1) (pa_cons (pe_bltn (v := .ty "str") rfl T.b_str bo_str rfl) pa_nil))))) pss_never pss_nil) (pss_cons (ps_set (i := 2) sc_read_stream.nd rfl (by first | exact Or.inl rfl | exact Or.inr rfl) (pe_ifExp (pt_cmpR (neK K rfl hr) (pv 1) pe_str (nomark _)) (C8.pe_c C_stream_by hr (by decide) rfl (pa_cons (pv 0) (pa_cons (pe_split (pv 1) (C8.pe_gc rfl T.g_BLANK)) pa_nil))) (pe_tup pa_nil))) (pss_cons (ps_if (PW.pt (pw_or (pt_cmpR op_isN (pv 2) pe_non (nomark _)) (pw_or1 (pt_cmpR op_gt (pe_callB (lenK K rfl) rfl T.b_len bo_len (pa_cons (pv 2) pa_nil)) (C8.pe_gc rfl T.g_MOST_SIGNS) (nomark _))))) pss_never pss_nil) (pss_one (ps_ret (pv 2))))))), .inl ?_⟩
    walk_at "drop"
    refine bs_skip (ct_not (ct_B (cm_cb (ca_cons (cm_var rfl) (ca_cons cm_val ca_nil)) (cc_isi (isi_str (b := true) rfl))))) rfl ?_
    have tst : CmT K (tTest (tOp (rNeD K) (tVar 1) (tC (.str "")))) (startW N_read_stream [.d (eL L), .d (.text (textS xs))]) (!decide (textS xs = "")) := by
      have := ct_test (cm_op (K := K) (cm_var (i := 1) (r := startW N_read_stream [.d (eL L), .d (.text (textS xs))]) rfl) (cm_str (z := "")) (co_ne (.text (strOk_tl fun c hc => text_mem hid hc)) (.text (by decide +kernel))))
      rw [d_text] at this
      exact this
    refine bs_setS (w := .d (eSs xs)) ?_ ?_
    · by_cases hne : xs = []
      · subst hne
        refine cm_ifF tst (by decide +kernel) (cm_is (cm_tupD cad_nil (by simp)) rfl)
      · refine cm_ifT tst (by simp [text_ne hne]) (cm_call (ca_cons (cm_var rfl) (ca_cons (cm_is (cm_split (cm_var rfl) cm_str (by decide +kernel) (by have := text_len xs; omega)) (by rw [text_split hid hne])) ca_nil)) (r_stream_by g hg))
    · refine bs_skip (ct_or (ct_test (cm_op (cm_var rfl) cm_non co_isN)) fun _ => ct_test (cm_op (cm_cb (ca_cons (cm_var rfl) ca_nil) (cc_lenTe rfl)) cm_int co_gt)) ?_ (bs_ret (cm_var rfl))
      simp [eSs]
      omega
/-! ### row_text, messages_text -/
abbrev s_row_text : Stmt := top 74
abbrev N_row_text : List Str := ["message", "one"]
theorem sc_row_text : FnScope N_row_text ["message"] (defScope s_row_text) := ⟨rfl, rfl, rfl, by decide +kernel, rfl, by decide +kernel, by decide +kernel⟩
def R_row_text : List W → W → Prop := fun ws w => ∃ m : Msg, (∀ n ∈ m.1 :: m.2, n < 10) ∧ m.2.length ≤ 2 ∧ ws = [.d (eM m)] ∧ w = .d (.text (rowS m))
theorem r_row_text {m : Msg} (h : ∀ n ∈ m.1 :: m.2, n < 10) (hl : m.2.length ≤ 2) : R_row_text [.d (eM m)] (.d (.text (rowS m))) := ⟨m, h, hl, rfl, rfl⟩
theorem ok_row_text (T : Txt K mg) (A : DefAt K mg "row_text" "row_text" s_row_text ["message"]) : CalF P w K mg base 1 "row_text" R_row_text := by
  refine calF A sc_row_text (fun ws u h => ?_) (fun f cdv A outer s H E ws u hr h => ?_)
  · obtain ⟨m, _, _, rfl, _⟩ := h; rfl
  · obtain ⟨m, hm, hl, rfl, rfl⟩ := h
    refine ⟨_, (pss_one (ps_ret (joinK K rfl (C8.pe_gc rfl T.g_BLANK) (pe_lc (own := [("one", 1)]) rfl sc_row_text.nd (piTK K rfl (pe_tup (pa_cons (pe_ix (ixK K rfl) (pv 0) pe_int (fun _ _ => rfl)) (starK K rfl (pe_ix (ixK K rfl) (pv 0) pe_int (fun _ _ => rfl)) pa_nil)))) (blkOk_by (own := [("one", 1)]) (N := N_row_text) (sc := defScope s_row_text) (by decide +kernel)) (fun _ _ _ _ _ => (pg_name (i := 1) sc_row_text.nd rfl (by first | exact Or.inl rfl | exact Or.inr rfl))) (fun _ _ _ _ _ => pts_nil) (fun _ _ _ _ _ => (pe_callTy call_str_int rfl T.b_str bo_str (pa_cons (pv 1) pa_nil))))))), .inl ?_⟩
    refine bs_ret (cm_join (ys := (m.1 :: m.2).map dg) cm_str (cm_is (w' := .l ((m.1 :: m.2).map fun n => .text (dg n))) (cm_lcm (as := m.1 :: m.2) (fun n => .d (eN n)) (fun n => .text (dg n)) (ci_tupM (a := .tup (eN m.1 :: (m.2.map eN ++ []))) eN ?_ (by simp)) (by simp; omega) fun n hn => ⟨_, [1], by simp, cg_name, ?_⟩) (by rw [List.map_map]; rfl)) ?_)
    · exact cm_tupD (cad_cons (cm_op (cm_var rfl) cm_int (co_ixTe rfl rfl)) (cad_starE (cm_op (cm_var rfl) cm_int (co_ixTe rfl rfl)) rfl cad_nil)) (by simp; omega)
    · have hn10 := hm n hn
      have hs := dg_str ⟨n, hn10⟩
      simp only at hs
      have hlg : ((n : Nat) : Int).natAbs.log2 < 1920 := Nat.lt_of_le_of_lt (Nat.log2_le_self _) (by omega)
      exact cm_is (cm_cb (ca_cons (cm_var rfl) ca_nil) (cc_str hlg)) (by rw [hs])
    · rw [List.map_map, List.length_map]
      have h1 := sum_le ((·.length) ∘ dg) 1 (m.1 :: m.2) fun x _ => Nat.le_refl _
      have h2 : (" " : Str).length = 1 := by decide +kernel
      rw [h2]
      simp only [List.length_cons] at h1 ⊢
      omega
theorem goodM_dg {L : Lang} (g : Good L) {m : Msg} (h : GoodM L m) : (∀ n ∈ m.1 :: m.2, n < 10) ∧ m.2.length ≤ 2 := by
  have h4 := g.h4
  have n4 := g.n4
  have hle := g.long_le m.1
  refine ⟨fun n hn => ?_, by rw [h.ln]; exact hle⟩
  rcases List.mem_cons.mp hn with rfl | hn
  · exact Nat.lt_of_lt_of_le h.hl (by omega)
  · have := h.vs n hn
    omega
theorem row_len {m : Msg} (h : m.2.length ≤ 2) : (rowS m).length ≤ 6 := by
  rw [len_tl]
  unfold rowS
  rw [tl_txt, tl_sp]
  have := len_joinL (S := [32]) (n := 1) (ps := ((m.1 :: m.2).map dg).map tl) fun p hp => by
    obtain ⟨y, hy, rfl⟩ := List.mem_map.mp hp
    obtain ⟨x, hx, rfl⟩ := List.mem_map.mp hy
    rw [tl_dg]
    exact Nat.le_refl _
  simp only [List.length_map, List.length_cons, List.length_nil] at this
  simp only [List.length_cons, List.length_nil, List.map_cons] at this ⊢
  omega
abbrev s_messages_text : Stmt := top 75
abbrev N_messages_text : List Str := ["language", "heard", "message"]
theorem sc_messages_text : FnScope N_messages_text ["language", "heard"] (defScope s_messages_text) := ⟨rfl, rfl, rfl, by decide +kernel, rfl, by decide +kernel, by decide +kernel⟩
def R_messages_text : List W → W → Prop := fun ws w => ∃ L ms, Good L ∧ isHeard L ms ∧ ws = [.d (eL L), .d (eMs ms)] ∧ w = .d (.text (msgS ms))
theorem r_messages_text {L : Lang} {ms : List Msg} (g : Good L) (h : isHeard L ms) : R_messages_text [.d (eL L), .d (eMs ms)] (.d (.text (msgS ms))) := ⟨L, ms, g, h, rfl, rfl⟩
theorem ok_messages_text (T : Txt K mg) (A : DefAt K mg "messages_text" "messages_text" s_messages_text ["language", "heard"]) (C_need_language : CalF P w K mg base 3 "need_language" R_need_language) (C_is_heard : CalF P w K mg base 5 "is_heard" R_is_heard) (C_row_text : CalF P w K mg base 1 "row_text" R_row_text) :
    CalF P w K mg base 6 "messages_text" R_messages_text := by
  refine calF A sc_messages_text (fun ws u h => ?_) (fun f cdv A outer s H E ws u hr h => ?_)
  · obtain ⟨L, ms, _, _, rfl, _⟩ := h; rfl
  · obtain ⟨L, ms, g, hh, rfl, rfl⟩ := h
    have hh' := hh
    obtain ⟨hm, hl⟩ := hh'
    refine ⟨_, (pss_cons (ps_expr (C8.pe_c C_need_language hr (by decide) rfl (pa_cons (pv 0) pa_nil))) (pss_cons (ps_if (pt_not (pt_val (C8.pe_c C_is_heard hr (by decide) rfl (pa_cons (pv 0) (pa_cons (pv 1) pa_nil))))) pss_never pss_nil) (pss_one (ps_ret (joinK K rfl (C8.pe_gc rfl T.g_LINE_END) (pe_lc (own := [("message", 2)]) rfl sc_messages_text.nd (piTK K rfl (pv 1)) (blkOk_by (own := [("message", 2)]) (N := N_messages_text) (sc := defScope s_messages_text) (by decide +kernel)) (fun _ _ _ _ _ => (pg_name (i := 2) sc_messages_text.nd rfl (by first | exact Or.inl rfl | exact Or.inr rfl))) (fun _ _ _ _ _ => pts_nil) (fun _ _ _ _ _ => (C8.pe_c C_row_text hr (by decide) rfl (pa_cons (pv 2) pa_nil))))))))), .inl ?_⟩
    walk_at "drop"
    refine bs_skip (ct_not (ct_test (cm_call (by walk_at "ca") (r_is_heard g hh)))) rfl ?_
    refine bs_ret (cm_join (ys := ms.map rowS) cm_str (cm_is (w' := .l (ms.map fun m => .text (rowS m))) (cm_lcm (as := ms) (fun m => .d (eM m)) (fun m => .text (rowS m)) (ci_tupM eM (cm_var rfl) rfl) (by omega) fun m hm' => ⟨_, [2], by simp, cg_name, cm_call (ca_cons (cm_var rfl) ca_nil) (r_row_text (goodM_dg g (hm m hm')).1 (goodM_dg g (hm m hm')).2)⟩) (by rw [List.map_map]; rfl)) ?_)
    rw [List.map_map, List.length_map]
    have h1 := sum_le ((fun z : Str => z.length) ∘ rowS) 6 ms fun x hx => row_len (goodM_dg g (hm x hx)).2
    have h2 : ("\n" : Str).length = 1 := by decide +kernel
    rw [h2]
    omega
end
end NW
/-! texts.py: read_messages -/
namespace NW
open PySem PySem.Spec PyProof.Rows L2 StX NM
local macro_rules | `(tactic| walk_at "my") => `(tactic| fail)
local macro_rules | `(tactic| walk_at "mycm") => `(tactic| fail)
local macro_rules | `(tactic| walk_at "myco") => `(tactic| fail)
local macro_rules | `(tactic| walk_at "mycc") => `(tactic| fail)
local macro_rules | `(tactic| walk_at "sh") => `(tactic| first | assumption | exact sh_n | exact Sh.num | exact Sh.non | exact sh_role | exact Sh.text (by decide +kernel) | exact sh_ns | exact sh_s | exact sh_m | exact sh_o | exact sh_h | exact sh_t | exact sh_ss | exact sh_ms | exact sh_head | exact sh_L | exact sh_nil | (apply sh_cons <;> walk_at "sh"))
local macro_rules | `(tactic| walk_at "shs") => `(tactic| first | assumption | exact shs_nil | (apply shs_cons; walk_at "sh"; walk_at "shs"))
local macro_rules | `(tactic| walk_at "co") => `(tactic| first
  | ((with_reducible apply co_ixTe); exact rfl; exact rfl)
  | ((with_reducible exact co_ixDl))
  | ((with_reducible apply co_ixL); exact rfl)
  | (with_reducible exact co_lt) | (with_reducible exact co_le) | (with_reducible exact co_gt) | (with_reducible exact co_ge) | (with_reducible exact co_sub)
  | (with_reducible exact co_isN) | (with_reducible exact co_isNotN)
  | ((with_reducible apply co_eq) <;> walk_at "sh") | ((with_reducible apply co_ne) <;> walk_at "sh")
  | (with_reducible exact co_add)
  | ((with_reducible apply co_inTe); exact rfl; walk_at "sh"; walk_at "shs")
  | walk_at "myco")
local macro_rules | `(tactic| walk_at "cc") => `(tactic| first
  | ((with_reducible apply cc_lenTe); exact rfl) | (with_reducible exact cc_lenL) | (with_reducible exact cc_all) | (with_reducible exact cc_any) | (with_reducible exact cc_tuple) | (with_reducible exact cc_intI)
  | (with_reducible exact cc_intB) | (with_reducible exact cc_min2) | (with_reducible exact cc_listT)
  | ((with_reducible apply cc_isi); first | exact isi_int rfl | exact isi_bool | exact isi_tuple rfl | exact isi_str rfl)
  | walk_at "mycc")
local macro_rules | `(tactic| walk_at "ca") => `(tactic| first
  | (with_reducible exact ca_nil)
  | ((with_reducible apply ca_cons); walk_at "cm"; walk_at "ca"))
local macro_rules | `(tactic| walk_at "cad") => `(tactic| first
  | (with_reducible exact cad_nil)
  | ((with_reducible apply cad_cons); walk_at "cm"; walk_at "cad")
  | ((with_reducible apply cad_starE); walk_at "cm"; exact rfl; walk_at "cad"))
local macro_rules | `(tactic| walk_at "cm") => `(tactic| first
  | ((with_reducible apply cm_var); exact rfl)
  | (with_reducible exact cm_int) | (with_reducible exact cm_str) | (with_reducible exact cm_non) | (with_reducible exact cm_bl)
  | ((with_reducible apply cm_op); walk_at "cm"; walk_at "cm"; walk_at "co")
  | ((with_reducible apply cm_tupD); walk_at "cad"; walk_at "size")
  | ((with_reducible apply cm_neg); walk_at "cm")
  | ((with_reducible apply cm_call); walk_at "ca"; walk_at "my")
  | walk_at "mycm"
  | ((with_reducible apply cm_cb); walk_at "ca"; walk_at "cc")
  | ((with_reducible apply cm_chain); walk_at "cm"; walk_at "cm"; walk_at "co"; (intro _; walk_at "cm"); walk_at "co")
  | ((with_reducible apply cm_andVF); walk_at "cm"; walk_at "dec0")
  | ((with_reducible apply cm_orVT); walk_at "cm"; walk_at "dec0")
  | ((with_reducible apply cm_ifT); walk_at "ct"; walk_at "dec"; walk_at "cm")
  | ((with_reducible apply cm_ifF); walk_at "ct"; walk_at "dec"; walk_at "cm")
  | ((with_reducible apply cm_andV); walk_at "cm"; (intro _; walk_at "cm"))
  | ((with_reducible apply cm_orV); walk_at "cm"; (intro _; walk_at "cm"))
  | ((with_reducible apply cm_notV); walk_at "cm")
  | (with_reducible exact cm_val))
local macro_rules | `(tactic| walk_at "ct") => `(tactic| first
  | ((with_reducible apply ct_test); walk_at "cm") | ((with_reducible apply ct_B); walk_at "cm") | ((with_reducible apply ct_not); walk_at "ct")
  | ((with_reducible apply ct_andF); walk_at "ct"; walk_at "dec0")
  | ((with_reducible apply ct_orT); walk_at "ct"; walk_at "dec0")
  | ((with_reducible apply ct_and); walk_at "ct"; (intro _; walk_at "ct"))
  | ((with_reducible apply ct_or); walk_at "ct"; (intro _; walk_at "ct")))
local macro_rules | `(tactic| walk_at "size") => `(tactic| focus first | assumption | (simp; done) | (simp; omega) | omega)
local macro_rules | `(tactic| walk_at "dec0") => `(tactic| focus first | rfl | (simp [eHead, eL, eSs, eMs, eS, eM, eT, eN, eNs, eH, eO, rN]; done))
local macro_rules | `(tactic| walk_at "dec") => `(tactic| focus first | rfl | (simp [eHead, eL, eSs, eMs, eS, eM, eT, eN, eNs, eH, eO, rN]; done) | (simp [eHead, eL, eSs, eMs, eS, eM, eT, eN, eNs, eH, eO, rN]; omega) | (simp [eHead, eL, eSs, eMs, eS, eM, eT, eN, eNs, eH, eO, rN, *]; done))
local macro_rules | `(tactic| walk_at "skip") => `(tactic| ((with_reducible apply bs_skip); walk_at "ct"; walk_at "dec"))
local macro_rules | `(tactic| walk_at "take") => `(tactic| (refine bs_seqR ?_; (with_reducible apply bs_ifT); walk_at "ct"; walk_at "dec"))
local macro_rules | `(tactic| walk_at "ret") => `(tactic| (refine bs_ret ?_; (with_reducible apply cm_is); walk_at "cm"))
local macro_rules | `(tactic| walk_at "set") => `(tactic| ((with_reducible apply bs_setS); walk_at "cm"))
local macro_rules | `(tactic| walk_at "drop") => `(tactic| ((with_reducible apply bs_dropS); walk_at "cm"))
local macro_rules | `(tactic| walk_at "norm") => `(tactic| skip)
local macro_rules | `(tactic| walk_at "less") => `(tactic| first | exact less_nil | (apply less_some; walk_at "less") | (apply less_none; walk_at "less"))
local macro_rules | `(tactic| walk_at "flat") => `(tactic| first | exact flat_nil | (refine flat_cons ?_ ?_; (first | exact trivial | exact rfl); walk_at "flat"))
local macro_rules | `(tactic| walk_at "stay") => `(tactic| first | exact stay_nil | (refine stay_cons ?_ ?_; (first | exact stay_none | exact stay_d | exact stay_b | exact stay_v | exact stay_old (by assumption)); walk_at "stay"))
section
variable {P : Program} {w : World} {K : Fg} {mg : Str → Option Value} {base : Heap}

variable {aW aF : Addr}
open TL (tl joinL tl_join join_eq len_tl)
theorem row_mem {m : Msg} (h : ∀ n ∈ m.1 :: m.2, n < 10) {c : Nat} (hc : c ∈ tl (rowS m)) : c = 32 ∨ (48 ≤ c ∧ c < 58) := by
  unfold rowS at hc
  rw [tl_txt, tl_sp] at hc
  rcases mem_joinL hc with z | ⟨p, hp, z⟩
  · simp at z; exact .inl z
  · obtain ⟨y, hy, rfl⟩ := List.mem_map.mp hp
    obtain ⟨n, hn, rfl⟩ := List.mem_map.mp hy
    rw [tl_dg] at z
    have := h n hn
    simp at z
    omega
theorem row_split {m : Msg} (h : ∀ n ∈ m.1 :: m.2, n < 10) : Txt.split (rowS m) " " = (m.1 :: m.2).map dg := by
  refine TL.split_join (s := 32) (S := []) tl_sp (by decide +kernel) (by simp) fun p hp => ?_
  obtain ⟨n, hn, rfl⟩ := List.mem_map.mp hp
  rw [tl_dg]
  have := h n hn
  simp
  omega
theorem msg_mem {ms : List Msg} (h : ∀ m ∈ ms, ∀ n ∈ m.1 :: m.2, n < 10) {c : Nat} (hc : c ∈ tl (msgS ms)) : c < 256 := by
  unfold msgS at hc
  rw [tl_txt, tl_nl] at hc
  rcases mem_joinL hc with z | ⟨p, hp, z⟩
  · simp at z; omega
  · obtain ⟨y, hy, rfl⟩ := List.mem_map.mp hp
    obtain ⟨m, hm, rfl⟩ := List.mem_map.mp hy
    have := row_mem (h m hm) z
    omega
theorem msg_len {ms : List Msg} (h : ∀ m ∈ ms, m.2.length ≤ 2) : (msgS ms).length ≤ ms.length * 7 := by
  rw [len_tl]
  unfold msgS
  rw [tl_txt, tl_nl]
  have := len_joinL (S := [10]) (n := 6) (ps := (ms.map rowS).map tl) fun p hp => by
    obtain ⟨y, hy, rfl⟩ := List.mem_map.mp hp
    obtain ⟨m, hm, rfl⟩ := List.mem_map.mp hy
    rw [← len_tl]
    exact row_len (h m hm)
  simpa using this
theorem msg_split {ms : List Msg} (h : ∀ m ∈ ms, ∀ n ∈ m.1 :: m.2, n < 10) (hne : ms ≠ []) : Txt.split (msgS ms) "\n" = ms.map rowS := by
  refine TL.split_join (s := 10) (S := []) tl_nl (by decide +kernel) (by simpa using hne) fun p hp => ?_
  obtain ⟨m, hm, rfl⟩ := List.mem_map.mp hp
  intro z
  have := row_mem (h m hm) z
  omega
theorem row_ne (m : Msg) : tl (rowS m) ≠ [] := fun z => by
  unfold rowS at z
  rw [tl_txt, tl_sp] at z
  obtain ⟨h, vs⟩ := m
  cases vs with
  | nil =>
    have : tl (dg h) = [] := z
    rw [tl_dg] at this
    cases this
  | cons v vs =>
    have : tl (dg h) ++ ([32] ++ joinL [32] (((v :: vs).map dg).map tl)) = [] := z
    rw [tl_dg] at this
    cases this
theorem msg_ne {ms : List Msg} (hne : ms ≠ []) : msgS ms ≠ "" := fun z => by
  have h1 : tl (msgS ms) = tl ("" : Str) := by rw [z]
  have h2 : tl ("" : Str) = [] := by decide +kernel
  unfold msgS at h1
  rw [tl_txt, tl_nl, h2] at h1
  cases ms with
  | nil => exact hne rfl
  | cons x xs =>
    cases xs with
    | nil => exact row_ne x h1
    | cons y ys =>
      have : tl (rowS x) ++ ([10] ++ joinL [10] (((y :: ys).map rowS).map tl)) = [] := h1
      exact row_ne x (List.append_eq_nil_iff.mp this).1
section
variable {r : Sl}
theorem cn_split {to te : TE} {z b : Str} (ho : Cm K to r (.d (.text z))) (he : Cm K te r (.d (.text b))) (hb : (b.length == 0) = false) (hz : z.length ≤ 1000000) :
    CmN K (tM1 (fun x xs H Q => ∃ a b, x = .str a ∧ xs = [.str b] ∧ (b.length == 0) = false ∧ a.length + 2 ≤ sizeLine ∧ rNewStrs (Txt.split a b) H Q) to te) r ((Txt.split z b).map .text) := fun σ H Q e q =>
  ho σ H _ e fun x H1 s1 r1 => ⟨⟨z, Rp.str_inv r1⟩, he σ H1 _ (e.same s1) fun y H2 s2 r2 => by
    refine ⟨z, b, Rp.str_inv r1, by rw [Rp.str_inv r2], hb, ?_, fun p hp => q p _ _ ((s1.trans s2).trans (Same.new hp)) ((s1.trans s2).free hp) upd_same (rpA_ofStrs _)⟩
    have : (1000002 : Nat) ≤ sizeLine := by decide
    omega⟩
theorem cn_ifT {tt : TT} {ta tb : TE} {c : Bool} {ks : List D} (h : CmT K tt r c) (hc : c = true) (ha : CmN K ta r ks) : CmN K (tIf tt ta tb) r ks := fun σ H Q e q => h σ H _ e fun H1 s1 => by
  rw [hc]
  exact iteT (ha σ H1 _ (e.same s1) fun a H2 xs s2 f2 h2 r2 => q a H2 xs (s1.trans s2) (s1.free f2) h2 r2)
theorem cn_ifF {tt : TT} {ta tb : TE} {c : Bool} {ks : List D} (h : CmT K tt r c) (hc : c = false) (hb : CmN K tb r ks) : CmN K (tIf tt ta tb) r ks := fun σ H Q e q => h σ H _ e fun H1 s1 => by
  rw [hc]
  exact iteF (hb σ H1 _ (e.same s1) fun a H2 xs s2 f2 h2 r2 => q a H2 xs (s1.trans s2) (s1.free f2) h2 r2)
end
theorem walk_en {c : Addr} {zs : List V} : Walk (Ite K c) zs.length (fun H => SqL K H c zs) (fun i H v H' => ∃ T x, v = .ref T ∧ H T = none ∧ H' = upd H T (.tup [.int (i : Nat), x]) ∧ zs[i]? = some x) :=
  ⟨fun i _ hi q => ⟨zs, zs[i], q, by simp [hi]⟩, fun _ q => ⟨zs, q, Nat.le_refl _⟩, fun i H v H' _ q ⟨T, x, h1, h2, h3, h4⟩ => ⟨T, x, h1, h2, h3, h4 zs q⟩⟩
abbrev s_read_messages : Stmt := top 76
abbrev N_read_messages : List Str := ["language", "string", "found", "number", "row", "numbers", "word"]
theorem sc_read_messages : FnScope N_read_messages ["language", "string"] (defScope s_read_messages) := ⟨rfl, rfl, rfl, by decide +kernel, rfl, by decide +kernel, by decide +kernel⟩
def R_read_messages : List W → W → Prop := fun ws w => ∃ L ms, Good L ∧ isHeard L ms ∧ ws = [.d (eL L), .d (.text (msgS ms))] ∧ w = .d (eMs ms)
theorem r_read_messages {L : Lang} {ms : List Msg} (g : Good L) (h : isHeard L ms) : R_read_messages [.d (eL L), .d (.text (msgS ms))] (.d (eMs ms)) := ⟨L, ms, g, h, rfl, rfl⟩
local macro_rules | `(tactic| walk_at "my") => `(tactic| first | exact r_need_language (by assumption))
theorem ok_read_messages (T : Txt K mg) (A : DefAt K mg "read_messages" "read_messages" s_read_messages ["language", "string"]) (C_need_language : CalF P w K mg base 3 "need_language" R_need_language) (C_integer_of : CalF P w K mg base 1 "integer_of" R_integer_of)
    (C_is_message : CalF P w K mg base 4 "is_message" R_is_message) : CalF P w K mg base 5 "read_messages" R_read_messages := by
  refine calF A sc_read_messages (fun ws u h => ?_) (fun f cdv A outer s H E ws u hr h => ?_)
  · obtain ⟨L, ms, _, _, rfl, _⟩ := h; rfl
  · obtain ⟨L, ms, g, ⟨hm, hl⟩, rfl, rfl⟩ := h
    have hdg : ∀ m ∈ ms, ∀ n ∈ m.1 :: m.2, n < 10 := fun m h => (goodM_dg g (hm m h)).1
    have hl2 : ∀ m ∈ ms, m.2.length ≤ 2 := fun m h => (goodM_dg g (hm m h)).2
    refine ⟨_, (pss_cons (ps_expr (C8.pe_c C_need_language hr (by decide) rfl (pa_cons (pv 0) pa_nil))) (pss_cons (ps_if (pt_not (pt_val (pe_callB (isiK K rfl) rfl T.b_isinstance bo_isinstance (pa_cons (pv 1) (pa_cons (pe_bltn (v := .ty "str") rfl T.b_str bo_str rfl) pa_nil))))) pss_never pss_nil) (pss_cons (ps_set (i := 2) sc_read_messages.nd rfl (by first | exact Or.inl rfl | exact Or.inr rfl) (pe_lst pa_nil)) (pss_cons (ps_for PassesOwn.never rfl (enumLK K rfl rfl T.b_enumerate (pa_cons (pe_ifExp (pt_cmpR (neK K rfl hr) (pv 1) pe_str (nomark _)) (pe_split (pv 1) (C8.pe_gc rfl T.g_LINE_END)) (pe_lst pa_nil)) pa_nil)) (pgTK (n := 2) K rfl rfl (pgs_cons (pg_name (i := 3) sc_read_messages.nd rfl (by first | exact Or.inl rfl | exact Or.inr rfl)) (pgs_cons (pg_name (i := 4) sc_read_messages.nd rfl (by first | exact Or.inl rfl | exact Or.inr rfl)) pgs_nil))) (pss_cons (ps_set (i := 5) sc_read_messages.nd rfl (by first | exact Or.inl rfl | exact Or.inr rfl) (pe_callTy (tupleK K rfl) rfl T.b_tuple bo_tuple (pa_cons (pe_lc (own := [("word", 6)]) rfl sc_read_messages.nd (piLK K rfl (pe_split (pv 4) (C8.pe_gc rfl T.g_BLANK))) (blkOk_by (own := [("word", 6)]) (N := N_read_messages) (sc := defScope s_read_messages) (by decide +kernel)) (fun _ _ _ _ _ => (pg_name (i := 6) sc_read_messages.nd rfl (by first | exact Or.inl rfl | exact Or.inr rfl))) (fun _ _ _ _ _ => pts_nil) (fun _ _ _ _ _ => (C8.pe_c C_integer_of hr (by decide) rfl (pa_cons (pv 6) pa_nil)))) pa_nil))) (pss_cons (ps_expr (bmK K rfl (pe_bm PySem.F.plainAttrs_list PySem.F.slot_list_append PySem.F.type_list_append mt_append (pv 2) (pa_cons (pe_tup (pa_cons (pe_ix (ixK K rfl) (pv 5) pe_int (fun _ _ => rfl)) (pa_cons (pe_slice (slTK K rfl) (pv 5) (po_some pe_int) po_none) pa_nil))) pa_nil)))) (pss_one (ps_if (PW.pt (pw_or (pt_cmpR op_ge (pv 3) (C8.pe_gc rfl T.g_MOST_HEARD_texts) (nomark _)) (pw_or1 (pt_not (pt_val (C8.pe_c C_is_message hr (by decide) rfl (pa_cons (pv 0) (pa_cons (pe_ix (ixK K rfl) (pv 2) (pe_un un_neg pe_int) (fun _ _ => rfl)) pa_nil)))))))) pss_never pss_nil))))) (pss_one (ps_ret (pe_callTy (tupleK K rfl) rfl T.b_tuple bo_tuple (pa_cons (pv 2) pa_nil)))))))), .inl ?_⟩
    walk_at "drop"
    refine bs_skip (ct_not (ct_B (cm_cb (ca_cons (cm_var rfl) (ca_cons cm_val ca_nil)) (cc_isi (isi_str (b := true) rfl))))) rfl ?_
    intro D σ H e p
    refine seq_lst ⟨(by decide : 0 ≤ sizeLine), fun l hlf => ?_⟩
    let R : Sl := [some (.d (eL L)), some (.d (.text (msgS ms))), some (.v (.ref l)), none, none, none, none]
    have sn := Same.new (o := .lst []) hlf
    have st0 : OSt K H l R (([] : List Msg).map eM) (σ.set 2 (some (.ref l))) (upd H l (.lst [])) := ⟨(e.same sn).set (i := 2) (w := .v (.ref l)) rfl, sn, hlf, [], upd_same, .nil⟩
    -- the rows
    have mkI : CmN K (tIf (tTest (tOp (rNeD K) (tVar 1) (tC (.str "")))) (tM1 (fun x xs H Q => ∃ a b, x = .str a ∧ xs = [.str b] ∧ (b.length == 0) = false ∧ a.length + 2 ≤ sizeLine ∧ rNewStrs (Txt.split a b) H Q) (tVar 1) (tC (.str "\n"))) (tLst tNil)) R ((ms.map rowS).map .text) := by
      have tst : CmT K (tTest (tOp (rNeD K) (tVar 1) (tC (.str "")))) R (!decide (msgS ms = "")) := by
        have := ct_test (cm_op (K := K) (cm_var (i := 1) (r := R) rfl) (cm_str (z := "")) (co_ne (.text (strOk_tl fun c hc => msg_mem hdg hc)) (.text (by decide +kernel))))
        rw [d_text] at this
        exact this
      by_cases hne : ms = []
      · subst hne
        exact cn_ifF tst (by decide +kernel) (cn_lst cad_nil (by simp))
      · have := cn_split (K := K) (r := R) (to := tVar 1) (te := tC (.str "\n")) (cm_var rfl) cm_str (by decide +kernel) (by have := msg_len hl2; omega)
        rw [msg_split hdg hne] at this
        exact cn_ifT tst (by simp [msg_ne hne]) this
    refine (show tSeq (tFor (iEnum K (tCons _ tNil)) _ _) _ D _ _ from mkI _ _ _ st0.env fun c H1 zs s1 fc hc1 hz1 => ?_)
    have cl : c ≠ l := fun z => by rw [z, upd_same] at fc; cases fc
    have zl := hz1.length
    rw [List.length_map, List.length_map] at zl
    refine ⟨c, zs, rfl, .of hc1, for_it walk_en (fun i σ' H' => OSt K H l R ((ms.take i).map eM) σ' H' ∧ H' c = some (.lst zs) ∧ Keep H1 H') ⟨st0.go s1 (st0.env.same s1), hc1, Keep.refl _⟩ (fun i σ' H' _ q => .of q.2.1) (fun i x σ' H' H2 hi q y => ?_) fun σ' H' q => ?_⟩
    · obtain ⟨st, hc, kp⟩ := q
      obtain ⟨T', v, rfl, hT, rfl, hv⟩ := y
      have hi' : i < ms.length := by omega
      obtain ⟨m, em⟩ : ∃ m, m = ms[i] := ⟨_, rfl⟩
      have hmi : ms[i]? = some m := by rw [em]; exact List.getElem?_eq_getElem hi'
      have hmm : m ∈ ms := em ▸ List.getElem_mem hi'
      obtain ⟨v', hv', rv'⟩ := hz1.get (i := i) (d := .text (rowS m)) (by simp [hmi])
      rw [hv] at hv'
      cases hv'
      have sT := Same.new (o := .tup [.int (i : Nat), v]) hT
      have st2 := st.go sT (st.env.same sT)
      have hrw : Rw K (upd H' T' (.tup [.int (i : Nat), v])) (.ref T') (.d (.tup [.num (i : Nat), .text (rowS m)])) := .tup (.inl upd_same) (.cons (.int _) (.cons (Rp.keep (kp.trans (Keep.of sT)) _ _ rv') .nil))
      have hcg : CmG K (gTup K 2 (gCons (gName 3) (gCons (gName 4) gNil))) R (.d (.tup [.num (i : Nat), .text (rowS m)])) ((R.set 3 (some (.d (.num (i : Nat))))).set 4 (some (.d (.text (rowS m))))) _ := cg_tupE rfl (cgs_cons cg_name (cgs_cons cg_name cgs_nil)) rfl
      refine hcg _ _ _ _ st2.env hrw fun σ3 e3 _ => ?_
      have st3 := st2.go (Same.refl _) e3
      have hc3 : upd H' T' (.tup [.int (i : Nat), v]) c = some (.lst zs) := sT _ _ hc
      have kp3 := kp.trans (Keep.of sT)
      generalize upd H' T' (HO.tup [V.int (i : Nat), v]) = H3 at st3 hc3 kp3 ⊢
      -- the numbers of the row
      have mkN : Cm K (tCB (rTupOf K) (tCons (tLc (iList K (tM1 (fun x xs H Q => ∃ a b, x = .str a ∧ xs = [.str b] ∧ (b.length == 0) = false ∧ a.length + 2 ≤ sizeLine ∧ rNewStrs (Txt.split a b) H Q) (tVar 4) (tC (.str " ")))) (gName 6) tYes (tCall (spF K R_integer_of) [] C8.E0 (tCons (tVar 6) tNil)) [6]) tNil))
          ((R.set 3 (some (.d (.num (i : Nat))))).set 4 (some (.d (.text (rowS m))))) (.d (.tup ((m.1 :: m.2).map eN))) := by
        have sp := cm_split (K := K) (r := (R.set 3 (some (.d (.num (i : Nat))))).set 4 (some (.d (.text (rowS m))))) (to := tVar 4) (te := tC (.str " ")) (cm_var rfl) cm_str (by decide +kernel) (by have := row_len (hl2 m hmm); omega)
        rw [row_split (hdg m hmm), List.map_map] at sp
        refine cm_cb (ca_cons (cm_lcm (as := m.1 :: m.2) (fun n => .d (.text (dg n))) eN (ci_lstM (fun n => NestedKey.text (dg n)) sp) (by have := hl2 m hmm; simp; omega) fun n hn => ⟨_, [6], by simp, cg_name, cm_call (ca_cons (cm_var rfl) ca_nil) (r_integer_of (hdg m hmm n hn))⟩) ca_nil) cc_tuple
      refine mkN σ3 H3 _ st3.env fun y4 H4 s4 r4 => ?_
      have st4 := st3.go s4 ((st3.env.same s4).set (i := 5) r4)
      obtain ⟨x2, hx2, ex2⟩ := st4.env.at_ 2 _ rfl
      have ex2' : x2 = .ref l := ex2
      subst ex2'
      obtain ⟨us4, hus4, _⟩ := st4.lst
      have mkM : Cm K (tTup (tCons (tOp (rIx K) (tVar 5) (tC (.int 0))) (tCons (tSl (rSlA K) (tVar 5) (tPart (tC (.int 1))) tNoPart) tNil))) (((R.set 3 (some (.d (.num (i : Nat))))).set 4 (some (.d (.text (rowS m))))).set 5 (some (.d (.tup ((m.1 :: m.2).map eN))))) (.d (eM m)) := by
        refine cm_is (w' := .d (.tup [eN m.1, .tup (cutD ((m.1 :: m.2).map eN) (some 1) none)])) (cm_tupD (cad_cons (cm_op (cm_var rfl) cm_int (co_ixTe (i := 0) rfl (atI_nat (j := 0) rfl))) (cad_cons (cm_slT (cm_var rfl) (cp_int cm_int) cp_no) cad_nil)) (by simp)) ?_
        rw [cut_drop]
        rfl
      refine (show ∃ x, _ = some (some x) ∧ _ from ⟨_, hx2, .inl ⟨rfl, _, SqL.of hus4⟩, ?_⟩)
      refine mkM _ H4 _ st4.env fun y5 H5 s5 r5 => ?_
      have st5 := (st4.go s5 (st4.env.same s5)).go (Same.refl _) ((st4.env.same s5).less (r' := R.set 3 (some (.d (.num (i : Nat))))) (by walk_at "less"))
      obtain ⟨us, hus, hul, kp6, st6⟩ := st5.app (by walk_at "stay") r5
      have sz : (100000 : Nat) < sizeLine := by decide
      refine ⟨l, us, y5, rfl, rfl, hus, by rw [hul, List.length_map, List.length_take]; omega, ?_⟩
      have hc6 : upd H5 l (.lst (us ++ [y5])) c = some (.lst zs) := by rw [upd_ne cl]; exact s5 _ _ (s4 _ _ hc3)
      have kp7 := ((kp3.trans (Keep.of (s4.trans s5))).trans kp6)
      have et : (ms.take i).map eM ++ [eM m] = (ms.take (i + 1)).map eM := by rw [List.take_succ, hmi]; simp
      generalize upd H5 l (HO.lst (us ++ [y5])) = H6 at st6 hc6 kp7 ⊢
      have e7 := st6.env.know (i := 2) (w' := .l ((ms.take i).map eM ++ [eM m])) rfl fun x hx => by
        have hx' : x = .ref l := hx
        subst hx'
        obtain ⟨us', z1, z2⟩ := st6.lst
        exact ⟨l, us', rfl, z1, z2⟩
      have mkT : CmT K (tOr (tTest (tOp rGe (tVar 3) (tC (.int 20)))) (tNot (tTest (tCall (spF K R_is_message) [] C8.E0 (tCons (tVar 0) (tCons (tOp (rIx K) (tVar 2) (tUn (rU fun i => .int (-i)) (tC (.int 1)))) tNil)))))) ((R.set 3 (some (.d (.num (i : Nat))))).set 2 (some (.l ((ms.take i).map eM ++ [eM m])))) (decide ((20 : Int) ≤ (i : Nat)) || !true) :=
        ct_or (ct_test (cm_op (cm_var rfl) cm_int co_ge)) fun _ => ct_not (ct_test (cm_call (ca_cons (cm_var rfl) (ca_cons (cm_op (cm_var rfl) (cm_neg cm_int) (co_ixL (L2.atI_last _ _))) ca_nil)) (r_is_message g (hm m hmm))))
      have cF : (decide ((20 : Int) ≤ (i : Nat)) || !true) = false := by simp; omega
      rw [cF] at mkT
      refine mkT _ H6 _ e7 fun H7 s7 => iteF ?_
      rw [et] at st6
      exact ⟨(st6.go s7 (st6.env.same s7)).go (Same.refl _) ((st6.env.same s7).less (r' := R) (by walk_at "less")), s7 _ _ hc6, kp7.trans (Keep.of s7)⟩
    · obtain ⟨st, _, _⟩ := q
      rw [zl, List.take_length] at st
      obtain ⟨x2, hx2, ex2⟩ := st.env.at_ 2 _ rfl
      have ex2' : x2 = .ref l := ex2
      subst ex2'
      obtain ⟨vs, hv, hr7⟩ := st.lst
      refine (show ∃ x, _ = some (some x) ∧ _ from ⟨_, hx2, l, vs, rfl, .inl ⟨.of hv, fun b hb => p _ _ (st.same.trans (Same.new hb)) ?_⟩⟩)
      exact .tup (.inl upd_same) (RpA.keep (Keep.of (Same.new hb)) _ _ hr7)
end
end NW
/-! wires.py: the wire -/
namespace NW
open PySem PySem.Spec PyProof.Rows L2 StX NM
local macro_rules | `(tactic| walk_at "my") => `(tactic| fail)
local macro_rules | `(tactic| walk_at "mycm") => `(tactic| fail)
local macro_rules | `(tactic| walk_at "myco") => `(tactic| fail)
local macro_rules | `(tactic| walk_at "mycc") => `(tactic| fail)
local macro_rules | `(tactic| walk_at "sh") => `(tactic| first | assumption | exact sh_n | exact Sh.num | exact Sh.non | exact sh_role | exact Sh.text (by decide +kernel) | exact sh_ns | exact sh_s | exact sh_m | exact sh_o | exact sh_h | exact sh_t | exact sh_ss | exact sh_ms | exact sh_head | exact sh_L | exact sh_nil | (apply sh_cons <;> walk_at "sh"))
local macro_rules | `(tactic| walk_at "shs") => `(tactic| first | assumption | exact shs_nil | (apply shs_cons; walk_at "sh"; walk_at "shs"))
local macro_rules | `(tactic| walk_at "co") => `(tactic| first
  | ((with_reducible apply co_ixTe); exact rfl; exact rfl)
  | ((with_reducible exact co_ixDl))
  | ((with_reducible apply co_ixL); exact rfl)
  | (with_reducible exact co_lt) | (with_reducible exact co_le) | (with_reducible exact co_gt) | (with_reducible exact co_ge) | (with_reducible exact co_sub)
  | (with_reducible exact co_isN) | (with_reducible exact co_isNotN)
  | ((with_reducible apply co_eq) <;> walk_at "sh") | ((with_reducible apply co_ne) <;> walk_at "sh")
  | (with_reducible exact co_add)
  | ((with_reducible apply co_inTe); exact rfl; walk_at "sh"; walk_at "shs")
  | walk_at "myco")
local macro_rules | `(tactic| walk_at "cc") => `(tactic| first
  | ((with_reducible apply cc_lenTe); exact rfl) | (with_reducible exact cc_lenL) | (with_reducible exact cc_all) | (with_reducible exact cc_any) | (with_reducible exact cc_tuple) | (with_reducible exact cc_intI)
  | (with_reducible exact cc_intB) | (with_reducible exact cc_min2) | (with_reducible exact cc_listT)
  | ((with_reducible apply cc_isi); first | exact isi_int rfl | exact isi_bool | exact isi_tuple rfl | exact isi_str rfl)
  | walk_at "mycc")
local macro_rules | `(tactic| walk_at "ca") => `(tactic| first
  | (with_reducible exact ca_nil)
  | ((with_reducible apply ca_cons); walk_at "cm"; walk_at "ca"))
local macro_rules | `(tactic| walk_at "cad") => `(tactic| first
  | (with_reducible exact cad_nil)
  | ((with_reducible apply cad_cons); walk_at "cm"; walk_at "cad")
  | ((with_reducible apply cad_starE); walk_at "cm"; exact rfl; walk_at "cad"))
local macro_rules | `(tactic| walk_at "cm") => `(tactic| first
  | ((with_reducible apply cm_var); exact rfl)
  | (with_reducible exact cm_int) | (with_reducible exact cm_str) | (with_reducible exact cm_non) | (with_reducible exact cm_bl)
  | ((with_reducible apply cm_op); walk_at "cm"; walk_at "cm"; walk_at "co")
  | ((with_reducible apply cm_tupD); walk_at "cad"; walk_at "size")
  | ((with_reducible apply cm_neg); walk_at "cm")
  | ((with_reducible apply cm_call); walk_at "ca"; walk_at "my")
  | walk_at "mycm"
  | ((with_reducible apply cm_cb); walk_at "ca"; walk_at "cc")
  | ((with_reducible apply cm_chain); walk_at "cm"; walk_at "cm"; walk_at "co"; (intro _; walk_at "cm"); walk_at "co")
  | ((with_reducible apply cm_andVF); walk_at "cm"; walk_at "dec0")
  | ((with_reducible apply cm_orVT); walk_at "cm"; walk_at "dec0")
  | ((with_reducible apply cm_ifT); walk_at "ct"; walk_at "dec"; walk_at "cm")
  | ((with_reducible apply cm_ifF); walk_at "ct"; walk_at "dec"; walk_at "cm")
  | ((with_reducible apply cm_andV); walk_at "cm"; (intro _; walk_at "cm"))
  | ((with_reducible apply cm_orV); walk_at "cm"; (intro _; walk_at "cm"))
  | ((with_reducible apply cm_notV); walk_at "cm")
  | (with_reducible exact cm_val))
local macro_rules | `(tactic| walk_at "ct") => `(tactic| first
  | ((with_reducible apply ct_test); walk_at "cm") | ((with_reducible apply ct_B); walk_at "cm") | ((with_reducible apply ct_not); walk_at "ct")
  | ((with_reducible apply ct_andF); walk_at "ct"; walk_at "dec0")
  | ((with_reducible apply ct_orT); walk_at "ct"; walk_at "dec0")
  | ((with_reducible apply ct_and); walk_at "ct"; (intro _; walk_at "ct"))
  | ((with_reducible apply ct_or); walk_at "ct"; (intro _; walk_at "ct")))
local macro_rules | `(tactic| walk_at "size") => `(tactic| focus first | assumption | (simp; done) | (simp; omega) | omega)
local macro_rules | `(tactic| walk_at "dec0") => `(tactic| focus first | rfl | (simp [eHead, eL, eSs, eMs, eS, eM, eT, eN, eNs, eH, eO, rN]; done))
local macro_rules | `(tactic| walk_at "dec") => `(tactic| focus first | rfl | (simp [eHead, eL, eSs, eMs, eS, eM, eT, eN, eNs, eH, eO, rN]; done) | (simp [eHead, eL, eSs, eMs, eS, eM, eT, eN, eNs, eH, eO, rN]; omega) | (simp [eHead, eL, eSs, eMs, eS, eM, eT, eN, eNs, eH, eO, rN, *]; done))
local macro_rules | `(tactic| walk_at "skip") => `(tactic| ((with_reducible apply bs_skip); walk_at "ct"; walk_at "dec"))
local macro_rules | `(tactic| walk_at "take") => `(tactic| (refine bs_seqR ?_; (with_reducible apply bs_ifT); walk_at "ct"; walk_at "dec"))
local macro_rules | `(tactic| walk_at "ret") => `(tactic| (refine bs_ret ?_; (with_reducible apply cm_is); walk_at "cm"))
local macro_rules | `(tactic| walk_at "set") => `(tactic| ((with_reducible apply bs_setS); walk_at "cm"))
local macro_rules | `(tactic| walk_at "drop") => `(tactic| ((with_reducible apply bs_dropS); walk_at "cm"))
local macro_rules | `(tactic| walk_at "norm") => `(tactic| skip)
local macro_rules | `(tactic| walk_at "less") => `(tactic| first | exact less_nil | (apply less_some; walk_at "less") | (apply less_none; walk_at "less"))
local macro_rules | `(tactic| walk_at "flat") => `(tactic| first | exact flat_nil | (refine flat_cons ?_ ?_; (first | exact trivial | exact rfl); walk_at "flat"))
local macro_rules | `(tactic| walk_at "stay") => `(tactic| first | exact stay_nil | (refine stay_cons ?_ ?_; (first | exact stay_none | exact stay_d | exact stay_b | exact stay_v | exact stay_old (by assumption)); walk_at "stay"))
section
variable {P : Program} {w : World} {K : Fg} {mg : Str → Option Value} {base : Heap}

variable {aW aF CW CT : Addr}
theorem pe_fldK {X : Cx} (K : Fg) (hK : X.K = K) {e : Expr} {f : Str} {pos : Pos} {ta : TE} (he : PE X e ta) (hb : attributeBase e f X.env (eval e X.env) = eval e X.env) : PE X (.Attribute e f pos) (tFld K ta f) := hK ▸ pe_fld he hb
theorem ps_fldK {X : Cx} (K : Fg) (hK : X.K = K) {o value : Expr} {f : Str} {pos pos' : Pos} {ta tv : TE} (ha : PE X o ta) (hv : PE X value tv) (hs : swapsWith value (some (.Attribute o f pos')) pos.line X.env = pure false) : PS X (.Assign [.Attribute o f pos'] value pos) (sFld K ta tv f) := hK ▸ ps_fld ha hv hs
/-- a property that may be read -/
structure Prp (P : Program) (w : World) (K : Fg) (mg : Str → Option Value) (base : Heap) (k : Nat) (C : Addr) (f : Str) (sp : Sp) : Prop where
  ex : ∃ (p g : Addr) (fd : FuncData) (ps : List Str), Cls K C ∧ PropOf K C f p g ∧ FnOk P w K mg base CX0 k g fd ps sp ∧ Binds K fd ps []
theorem pe_prp {X : Cx} {C : Addr} {f : Str} {k j : Nat} {sp : Sp} {e : Expr} {pos : Pos} {ta : TE} (c : Prp X.prog X.w X.K X.mg X.base k C f sp) (hr : Room j X.A) (hk : k + 1 ≤ j) (he : PE X e ta) (hab : attributeBase e f X.env (eval e X.env) = eval e X.env) : PE X (.Attribute e f pos) (tProp C sp [] C8.E0 ta) := by
  obtain ⟨p, g, fd, ps, hc, hp, F, b⟩ := c.ex
  exact pe_prop he hc hp F (hr.mono hk) b .nil C8.pass0 hab
/-- a def of a class -/
structure DefC (K : Fg) (x qual : Str) (st : Stmt) (ps : List Str) (f : Addr) : Prop where
  ex : ∃ fd, Fun K x qual st f fd ∧ Binds K fd ps []
/-- what the classes must have -/
structure TxtW (K : Fg) (mg : Str → Option Value) (CW CT : Addr) : Prop where
  clsW : Cls K CW
  naL : NoAttr K CW "own_language"
  naP : NoAttr K CW "own_past"
  clsT : Cls K CT
  naH : NoAttr K CT "held_wire"
  naK : NoAttr K CT "kept_past"
/-! ### plain: the past -/
def past0 : D := .tup [.none, eT .first, .tup []]
def entD (L : Lang) (xs : List NM.Sign) (i : Nat) : D := .tup [((xs[i]?).map eS).getD .none, eT (readSo L .first (xs.take (i + 1))).1, eMs (readSo L .first (xs.take (i + 1))).2]
def pastD (L : Lang) (xs : List NM.Sign) : List D := past0 :: (List.range xs.length).map (entD L xs)
theorem past_len (L : Lang) (xs : List NM.Sign) : (pastD L xs).length = xs.length + 1 := by simp [pastD]
theorem past_snoc (L : Lang) (xs : List NM.Sign) (x : NM.Sign) : pastD L (xs ++ [x]) = pastD L xs ++ [.tup [eS x, eT (readSo L .first (xs ++ [x])).1, eMs (readSo L .first (xs ++ [x])).2]] := by
  unfold pastD
  rw [List.length_append, List.length_singleton, List.range_succ, List.map_append, List.cons_append]
  congr 1
  congr 1
  · refine List.map_congr_left fun i hi => ?_
    have hi' : i < xs.length := List.mem_range.mp hi
    unfold entD
    rw [List.getElem?_append_left hi', List.take_append_of_le_length (by omega)]
  · simp [entD, List.take_of_length_le]
theorem past_last (L : Lang) (xs : List NM.Sign) : ∃ o, atI (pastD L xs) (-1) = some (.tup [o, eT (readSo L .first xs).1, eMs (readSo L .first xs).2]) := by
  rcases List.eq_nil_or_concat xs with rfl | ⟨ys, x, rfl⟩
  · exact ⟨.none, L2.atI_last [] _⟩
  · rw [List.concat_eq_append, past_snoc]
    exact ⟨_, L2.atI_last _ _⟩
theorem past_drop (L : Lang) (xs : List NM.Sign) : (pastD L xs).drop 1 = (List.range xs.length).map (entD L xs) := rfl
/-! ### the wire -/
def WireAt (K : Fg) (CW : Addr) (L : Lang) (xs : List NM.Sign) (x dx : Addr) (H : Hp) : Prop := ∃ v1 v2, H x = some (.ins CW dx [("own_language", v1), ("own_past", v2)]) ∧ Rp K H v1 (eL L) ∧ Rp K H v2 (.tup (pastD L xs))
theorem WireAt.same {L : Lang} {xs : List NM.Sign} {x dx : Addr} {H H' : Hp} (s : Same H H') (h : WireAt K CW L xs x dx H) : WireAt K CW L xs x dx H' := by
  obtain ⟨v1, v2, h1, h2, h3⟩ := h
  exact ⟨v1, v2, s _ _ h1, Rp.keep (Keep.of s) _ _ h2, Rp.keep (Keep.of s) _ _ h3⟩
def wireP (K : Fg) (CW : Addr) (L : Lang) (xs : List NM.Sign) (x dx : Addr) : W := .p fun y H => y = .ref x ∧ WireAt K CW L xs x dx H
theorem wireP_of {L : Lang} {xs : List NM.Sign} {x dx : Addr} {H : Hp} (h : WireAt K CW L xs x dx H) : Rw K H (.ref x) (wireP K CW L xs x dx) := fun H' s => ⟨rfl, h.same s⟩
theorem neqP : (("own_past" : Str) == "own_language") = false := by decide +kernel
theorem neqL : ¬ (("own_language" : Str) = "own_past") := by decide +kernel
theorem putP {y a b : V} : putF ("own_past" : Str) y [(("own_language" : Str), a), (("own_past" : Str), b)] = [(("own_language" : Str), a), (("own_past" : Str), y)] := by
  simp only [putF, if_neg neqL, if_true]
theorem lookP {a b : V} : List.lookup ("own_past" : Str) [("own_language", a), ("own_past", b)] = some b := by
  simp only [List.lookup, neqP, beq_self_eq_true]
section
variable {L : Lang} {xs : List NM.Sign} {x dx : Addr} {r : Sl} {te : TE}
theorem cm_fldL (TC : TxtW K mg CW CT) (h : Cm K te r (wireP K CW L xs x dx)) : Cm K (tFld K te "own_language") r (.d (eL L)) := fun σ H Q e q => h σ H _ e fun y H1 s1 r1 => by
  obtain ⟨rfl, v1, v2, h1, h2, h3⟩ := r1 H1 (Same.refl _)
  exact ⟨x, CW, dx, _, v1, rfl, h1, TC.clsW, TC.naL, rfl, q v1 H1 s1 h2⟩
theorem cm_fldP (TC : TxtW K mg CW CT) (h : Cm K te r (wireP K CW L xs x dx)) : Cm K (tFld K te "own_past") r (.d (.tup (pastD L xs))) := fun σ H Q e q => h σ H _ e fun y H1 s1 r1 => by
  obtain ⟨rfl, v1, v2, h1, h2, h3⟩ := r1 H1 (Same.refl _)
  exact ⟨x, CW, dx, _, v2, rfl, h1, TC.clsW, TC.naP, lookP, q v2 H1 s1 h3⟩
theorem cm_prop {f : Str} {R : List W → W → Prop} {u : W} (h : Cm K te r (wireP K CW L xs x dx)) (hr : R [wireP K CW L xs x dx] u) : Cm K (tProp CW (spF K R) [] C8.E0 te) r u := fun σ H Q e q => h σ H _ e fun y H1 s1 r1 => by
  obtain ⟨rfl, wa⟩ := r1 H1 (Same.refl _)
  have wa' := wa
  obtain ⟨v1, v2, h1, _⟩ := wa'
  exact ⟨x, dx, _, rfl, h1, [wireP K CW L xs x dx], u, .cons (wireP_of wa) .nil, hr, fun z H2 s2 r2 => q z H2 (s1.trans s2) r2⟩
end
/-! ### the properties -/
theorem okP {x qual : Str} {st : Stmt} {N ps : List Str} {k : Nat} {C p f : Addr} {R : List W → W → Prop} (hc : Cls K C) (hp : PropOf K C x p f) (A : DefC K x qual st ps f) (S : FnScope N ps (defScope st)) (hl : ∀ ws u, R ws u → ws.length = ps.length)
    (hb : ∀ (cdv : Value) (A : Around) (outer : List Env) (s : Shared) (H : Hp) (E : XK) (ws : List W) (u : W), Room k (A.deeper (envOfC qual (defScope st) s.heap.objs.size f cdv)) → R ws u →
      ∃ t, PSs (cxOf CX0 P w K mg base N qual (defScope st) f cdv A outer s H E).nox (defBody st) t ∧ Ret K t (startW N ws) u) : Prp P w K mg base (k + 1) C x (spF K R) := by
  obtain ⟨fd, F, b⟩ := A.ex
  exact ⟨p, f, fd, ps, hc, hp, okF F S hl hb, b⟩
abbrev s_standing_Wire : Stmt := inClass (top 80) 2
abbrev N_standing_Wire : List Str := ["self"]
theorem sc_standing_Wire : FnScope N_standing_Wire ["self"] (defScope s_standing_Wire) := ⟨rfl, rfl, rfl, by decide +kernel, rfl, by decide +kernel, by decide +kernel⟩
def R_standing (K : Fg) (CW : Addr) : List W → W → Prop := fun ws u => ∃ L xs x dx, ws = [wireP K CW L xs x dx] ∧ u = .d (eT (readSo L .first xs).1)
theorem ok_standing (T : Txt K mg) (TC : TxtW K mg CW CT) {p f : Addr} (hp : PropOf K CW "standing" p f) (A : DefC K "standing" "Wire.standing" s_standing_Wire ["self"] f) : Prp P w K mg base 1 CW "standing" (spF K (R_standing K CW)) := by
  refine okP TC.clsW hp A sc_standing_Wire (fun ws u h => ?_) (fun cdv A outer s H E ws u hr h => ?_)
  · obtain ⟨L, xs, x, dx, rfl, _⟩ := h; rfl
  · obtain ⟨L, xs, x, dx, rfl, rfl⟩ := h
    refine ⟨_, (pss_one (ps_ret (pe_ix (ixK K rfl) (pe_ix (ixK K rfl) (pe_fldK K rfl (pv 0) rfl) (pe_un un_neg pe_int) (fun _ _ => rfl)) pe_int (fun _ _ => rfl)))), .inl ?_⟩
    obtain ⟨o, ho⟩ := past_last L xs
    exact bs_ret (cm_op (cm_op (cm_fldP TC (cm_var rfl)) (cm_neg cm_int) (co_ixTe rfl ho)) cm_int (co_ixTe rfl rfl))
abbrev s_heard_Wire : Stmt := inClass (top 80) 3
abbrev N_heard_Wire : List Str := ["self"]
theorem sc_heard_Wire : FnScope N_heard_Wire ["self"] (defScope s_heard_Wire) := ⟨rfl, rfl, rfl, by decide +kernel, rfl, by decide +kernel, by decide +kernel⟩
def R_heard (K : Fg) (CW : Addr) : List W → W → Prop := fun ws u => ∃ L xs x dx, ws = [wireP K CW L xs x dx] ∧ u = .d (eMs (readSo L .first xs).2)
theorem ok_heard (T : Txt K mg) (TC : TxtW K mg CW CT) {p f : Addr} (hp : PropOf K CW "heard" p f) (A : DefC K "heard" "Wire.heard" s_heard_Wire ["self"] f) : Prp P w K mg base 1 CW "heard" (spF K (R_heard K CW)) := by
  refine okP TC.clsW hp A sc_heard_Wire (fun ws u h => ?_) (fun cdv A outer s H E ws u hr h => ?_)
  · obtain ⟨L, xs, x, dx, rfl, _⟩ := h; rfl
  · obtain ⟨L, xs, x, dx, rfl, rfl⟩ := h
    refine ⟨_, (pss_one (ps_ret (pe_ix (ixK K rfl) (pe_ix (ixK K rfl) (pe_fldK K rfl (pv 0) rfl) (pe_un un_neg pe_int) (fun _ _ => rfl)) pe_int (fun _ _ => rfl)))), .inl ?_⟩
    obtain ⟨o, ho⟩ := past_last L xs
    exact bs_ret (cm_op (cm_op (cm_fldP TC (cm_var rfl)) (cm_neg cm_int) (co_ixTe rfl ho)) cm_int (co_ixTe rfl rfl))
abbrev s_stream_Wire : Stmt := inClass (top 80) 4
abbrev N_stream_Wire : List Str := ["self", "entry"]
theorem sc_stream_Wire : FnScope N_stream_Wire ["self"] (defScope s_stream_Wire) := ⟨rfl, rfl, rfl, by decide +kernel, rfl, by decide +kernel, by decide +kernel⟩
def R_stream (K : Fg) (CW : Addr) : List W → W → Prop := fun ws u => ∃ L xs x dx, xs.length ≤ 400 ∧ ws = [wireP K CW L xs x dx] ∧ u = .d (eSs xs)
theorem ok_stream (T : Txt K mg) (TC : TxtW K mg CW CT) {p f : Addr} (hp : PropOf K CW "stream" p f) (A : DefC K "stream" "Wire.stream" s_stream_Wire ["self"] f) : Prp P w K mg base 1 CW "stream" (spF K (R_stream K CW)) := by
  refine okP TC.clsW hp A sc_stream_Wire (fun ws u h => ?_) (fun cdv A outer s H E ws u hr h => ?_)
  · obtain ⟨L, xs, x, dx, _, rfl, _⟩ := h; rfl
  · obtain ⟨L, xs, x, dx, hl, rfl, rfl⟩ := h
    refine ⟨_, (pss_one (ps_ret (pe_callTy (tupleK K rfl) rfl T.b_tuple bo_tuple (pa_cons (pe_lc (own := [("entry", 1)]) rfl sc_stream_Wire.nd (piTK K rfl (pe_slice (slTK K rfl) (pe_fldK K rfl (pv 0) rfl) (po_some pe_int) po_none)) (blkOk_by (own := [("entry", 1)]) (N := N_stream_Wire) (sc := defScope s_stream_Wire) (by decide +kernel)) (fun _ _ _ _ _ => (pg_name (i := 1) sc_stream_Wire.nd rfl (by first | exact Or.inl rfl | exact Or.inr rfl))) (fun _ _ _ _ _ => pts_nil) (fun _ _ _ _ _ => (pe_ix (ixK K rfl) (pv 1) pe_int (fun _ _ => rfl)))) pa_nil)))), .inl ?_⟩
    have sl := cm_slT (K := K) (r := startW N_stream_Wire [wireP K CW L xs x dx]) (cm_fldP TC (cm_var (i := 0) rfl)) (cp_int (cm_int (i := 1))) cp_no
    rw [cut_drop, past_drop] at sl
    refine bs_ret (cm_is (cm_cb (ca_cons (cm_lcm (as := List.range xs.length) (fun i => .d (entD L xs i)) (fun i => ((xs[i]?).map eS).getD .none) (ci_tupM (entD L xs) sl rfl) (by simp; omega) fun i hi => ⟨_, [1], by simp, cg_name, cm_op (cm_var rfl) cm_int (co_ixTe rfl rfl)⟩) ca_nil) cc_tuple) ?_)
    congr 2
    refine List.ext_getElem? fun i => ?_
    by_cases hi : i < xs.length
    · simp [hi]
    · simp [hi]
/-! ### feed -/
abbrev s_feed_Wire : Stmt := inClass (top 80) 5
abbrev N_feed_Wire : List Str := ["self", "sign", "old", "head", "got", "on", "heard", "message", "more"]
theorem sc_feed_Wire : FnScope N_feed_Wire ["self", "sign"] (defScope s_feed_Wire) := ⟨rfl, rfl, rfl, by decide +kernel, rfl, by decide +kernel, by decide +kernel⟩
theorem seq_bs {t u : TS} {r r1 : Sl} {D : Ends} {σ : St} {H : Hp} (h : Bs K t r (.nx r1)) (e : EnvOk K r σ H) (q : ∀ σ' H', Same H H' → EnvOk K r1 σ' H' → u D σ' H') : tSeq t u D σ H := h _ σ H e q
/-- a sign is fed -/
def spFeed (K : Fg) (CW : Addr) : Sp := fun vs H Q _ => ∃ L xs sg x dx v, Good L ∧ isGood L xs ∧ xs.length < 300 ∧ L.ok sg ∧ vs = [.ref x, v] ∧ WireAt K CW L xs x dx H ∧ Rp K H v (eS sg) ∧
  ∀ y H', SameX x H H' → Keep H H' → WireAt K CW L (xs ++ [sg]) x dx H' → Rp K H' y (eO (step L (readSo L .first xs).1 sg).2) → Q y H'
theorem ok_feed (T : Txt K mg) (TC : TxtW K mg CW CT) {f : Addr} (me : Meth K CW "feed" f) (A : DefC K "feed" "Wire.feed" s_feed_Wire ["self", "sign"] f) (C_is_sign : CalF P w K mg base 2 "is_sign" R_is_sign) (C_taken : CalF P w K mg base 2 "taken" R_taken)
    (C_notes_behind : CalF P w K mg base 1 "notes_behind" R_notes_behind) : C8.Met P w K mg base 3 CW "feed" (spFeed K CW) [] := by
  obtain ⟨fd, F, b⟩ := A.ex
  refine ⟨f, fd, ["self", "sign"], [], TC.clsW, me, F.ok sc_feed_Wire (fun vs H Q E h => ?_) (fun cdv A outer s H vs Q E hr h => ?_), b, .nil⟩
  · obtain ⟨L, xs, sg, x, dx, v, _, _, _, _, rfl, _⟩ := h; rfl
  · obtain ⟨L, xs, sg, x, dx, v, g, ⟨hx, hxl⟩, hl3, hsg, rfl, wa, rv, q⟩ := h
    refine ⟨_, (pss_cons (ps_if (pt_not (pt_val (C8.pe_c C_is_sign hr (by decide) rfl (pa_cons (pe_fldK K rfl (pv 0) rfl) (pa_cons (pv 1) pa_nil))))) pss_never pss_nil) (pss_cons (ps_asg (pe_ix (ixK K rfl) (pe_fldK K rfl (pv 0) rfl) (pe_un un_neg pe_int) (fun _ _ => rfl)) (pgTK (n := 3) K rfl rfl (pgs_cons (pg_name (i := 2) sc_feed_Wire.nd rfl (by first | exact Or.inl rfl | exact Or.inr rfl)) (pgs_cons (pgTK (n := 3) K rfl rfl (pgs_cons (pg_name (i := 3) sc_feed_Wire.nd rfl (by first | exact Or.inl rfl | exact Or.inr rfl)) (pgs_cons (pg_name (i := 4) sc_feed_Wire.nd rfl (by first | exact Or.inl rfl | exact Or.inr rfl)) (pgs_cons (pg_name (i := 5) sc_feed_Wire.nd rfl (by first | exact Or.inl rfl | exact Or.inr rfl)) pgs_nil)))) (pgs_cons (pg_name (i := 6) sc_feed_Wire.nd rfl (by first | exact Or.inl rfl | exact Or.inr rfl)) pgs_nil))))) (pss_cons (ps_asg (C8.pe_c C_taken hr (by decide) rfl (pa_cons (pe_fldK K rfl (pv 0) rfl) (pa_cons (pv 3) (pa_cons (pv 4) (pa_cons (pv 1) pa_nil))))) (pgTK (n := 3) K rfl rfl (pgs_cons (pg_name (i := 3) sc_feed_Wire.nd rfl (by first | exact Or.inl rfl | exact Or.inr rfl)) (pgs_cons (pg_name (i := 4) sc_feed_Wire.nd rfl (by first | exact Or.inl rfl | exact Or.inr rfl)) (pgs_cons (pg_name (i := 7) sc_feed_Wire.nd rfl (by first | exact Or.inl rfl | exact Or.inr rfl)) pgs_nil))))) (pss_cons (ps_set (i := 5) sc_feed_Wire.nd rfl (by first | exact Or.inl rfl | exact Or.inr rfl) (C8.pe_c C_notes_behind hr (by decide) rfl (pa_cons (pe_fldK K rfl (pv 0) rfl) (pa_cons (pv 5) (pa_cons (pv 7) pa_nil))))) (pss_cons (ps_set (i := 8) sc_feed_Wire.nd rfl (by first | exact Or.inl rfl | exact Or.inr rfl) (pe_ifExp (pt_cmpR op_isN (pv 7) pe_non (nomark _)) (pv 6) (pe_tup (starK K rfl (pv 6) (pa_cons (pv 7) pa_nil))))) (pss_cons (ps_fldK K rfl (pv 0) (pe_op (addK K rfl) (pe_fldK K rfl (pv 0) rfl) (pe_tup (pa_cons (pe_tup (pa_cons (pv 1) (pa_cons (pe_tup (pa_cons (pv 3) (pa_cons (pv 4) (pa_cons (pv 5) pa_nil)))) (pa_cons (pv 8) pa_nil)))) pa_nil))) rfl) (pss_one (ps_ret (pv 7))))))))), ?_⟩
    have e0 : EnvOk K (startW N_feed_Wire [wireP K CW L xs x dx, .d (eS sg)]) (start N_feed_Wire [.ref x, v]) H := env_start (.cons (wireP_of wa) (.cons rv .nil))
    obtain ⟨o, ho⟩ := past_last L xs
    obtain ⟨st, est⟩ : ∃ st, st = (readSo L .first xs).1 := ⟨_, rfl⟩
    have gst : GoodT L st := est ▸ (good_read g (good_first L) hx).1
    rw [← est] at ho q
    have p1 := (place_taken gst.pl hsg).2
    refine seq_bs (bs_ifF (r := _) (ct_not (ct_test (cm_call (ca_cons (cm_fldL TC (cm_var rfl)) (ca_cons (cm_var rfl) ca_nil)) (r_is_sign g hsg)))) rfl bs_next) e0 fun σ1 H1 s1 e1 => ?_
    refine seq_bs (bs_asg (w := .d (.tup [o, eT st, eMs (readSo L .first xs).2])) (cm_op (cm_fldP TC (cm_var rfl)) (cm_neg cm_int) (co_ixTe rfl ho)) (cg_tupE rfl (cgs_cons cg_name (cgs_cons (cg_tupE rfl (cgs_cons cg_name (cgs_cons cg_name (cgs_cons cg_name cgs_nil))) rfl) (cgs_cons cg_name cgs_nil))) rfl)) e1 fun σ2 H2 s2 e2 => ?_
    refine seq_bs (bs_asg (w := .d (.tup [eH (NM.taken L st.hd st.got sg).1, eNs (NM.taken L st.hd st.got sg).2.1, eO (NM.taken L st.hd st.got sg).2.2])) (cm_call (ca_cons (cm_fldL TC (cm_var rfl)) (ca_cons (cm_var rfl) (ca_cons (cm_var rfl) (ca_cons (cm_var rfl) ca_nil)))) (r_taken gst.pl g hsg)) (cg_tupE rfl (cgs_cons cg_name (cgs_cons cg_name (cgs_cons cg_name cgs_nil))) rfl)) e2 fun σ3 H3 s3 e3 => ?_
    have onl := on_len g gst
    refine seq_bs (bs_set (w := .d (eNs (notesBehind L st.on (NM.taken L st.hd st.got sg).2.2))) (cm_call (ca_cons (cm_fldL TC (cm_var rfl)) (ca_cons (cm_var rfl) (ca_cons (cm_var rfl) ca_nil))) (r_notes_behind g gst.up (by omega) p1))) e3 fun σ4 H4 s4 e4 => ?_
    have pl := past_len L xs
    -- the messages so far
    obtain ⟨t, et⟩ : ∃ t, t = NM.taken L st.hd st.got sg := ⟨_, rfl⟩
    rw [← et] at e4 p1
    have esn : readSo L .first (xs ++ [sg]) = ((step L st sg).1, (readSo L .first xs).2 ++ (step L st sg).2.toList) := by
      rw [read_app, ← est]
      simp [readSo]
    have estep : step L st sg = (⟨t.1, t.2.1, notesBehind L st.on t.2.2⟩, t.2.2) := by rw [et]; rfl
    have hlen : (readSo L .first xs).2.length ≤ 400 := Nat.le_trans (heard_len L xs _) (by omega)
    have mkM : ∀ r : Sl, r[7]? = some (some (.d (eO t.2.2))) → r[6]? = some (some (.d (eMs (readSo L .first xs).2))) → Cm K (tIf (tTest (tOp rIsN (tVar 7) (tC .non))) (tVar 6) (tTup (tStar K (tVar 6) (tCons (tVar 7) tNil)))) r (.d (eMs (readSo L .first (xs ++ [sg])).2)) := fun r h7 h6 => by
      rw [esn, estep]
      have tst := ct_test (cm_op (K := K) (r := r) (cm_var h7) cm_non co_isN)
      cases hm : t.2.2 with
      | none =>
        rw [hm] at tst h7
        exact cm_ifT tst rfl (cm_is (cm_var h6) (by simp))
      | some m =>
        rw [hm] at tst h7
        refine cm_ifF tst (by simp [eO, eM]) (cm_is (cm_tupD (cad_starE (cm_var h6) rfl (cad_cons (cm_var h7) cad_nil)) (by simp; omega)) ?_)
        simp [eMs, eO]
    refine seq_bs (bs_set (mkM _ rfl rfl)) e4 fun σ5 H5 s5 e5 => ?_
    let R5 : Sl := [some (wireP K CW L xs x dx), some (.d (eS sg)), none, some (.d (eH t.1)), some (.d (eNs t.2.1)), some (.d (eNs (notesBehind L st.on t.2.2))), none, some (.d (eO t.2.2)), some (.d (eMs (readSo L .first (xs ++ [sg])).2))]
    replace e5 : EnvOk K R5 σ5 H5 := e5.less (by walk_at "less")
    have mkP : Cm K (tOp (rAddU K) (tFld K (tVar 0) "own_past") (tTup (tCons (tTup (tCons (tVar 1) (tCons (tTup (tCons (tVar 3) (tCons (tVar 4) (tCons (tVar 5) tNil)))) (tCons (tVar 8) tNil)))) tNil))) R5 (.d (.tup (pastD L (xs ++ [sg])))) := by
      rw [past_snoc]
      exact cm_op (cm_fldP TC (cm_var (i := 0) rfl)) (cm_tupD (cad_cons (cm_tupD (cad_cons (cm_var rfl) (cad_cons (cm_is (cm_tupD (cad_cons (cm_var rfl) (cad_cons (cm_var rfl) (cad_cons (cm_var rfl) cad_nil))) (by simp)) (by rw [esn, estep]; rfl)) (cad_cons (cm_var rfl) cad_nil))) (by simp)) cad_nil) (by simp)) (co_addTe rfl rfl (by simp; omega))
    refine (show tSeq (sFld K (tVar 0) _ "own_past") _ _ σ5 H5 from mkP σ5 H5 _ e5 fun y H6 s6 r6 => ?_)
    have s06 := ((((s1.trans s2).trans s3).trans s4).trans s5).trans s6
    have e6 := e5.same s6
    obtain ⟨x0, hx0, rx0⟩ := e6.at_ 0 _ rfl
    obtain ⟨rfl, v1, v2, hx6, rl6, rp6⟩ := rx0 H6 (Same.refl _)
    obtain ⟨x7, hx7, rx7⟩ := e6.at_ 7 _ rfl
    refine ⟨_, hx0, x, CW, dx, _, rfl, hx6, TC.clsW, TC.naP, (by decide : 2 < 1000), ?_⟩
    have kp : Keep H6 (upd H6 x (.ins CW dx (putF "own_past" y [("own_language", v1), ("own_past", v2)]))) := Keep.put fun ys z => by rw [hx6] at z; cases z
    have ef := putP (y := y) (a := v1) (b := v2)
    rw [ef] at kp ⊢
    refine ⟨_, hx7, q x7 _ (fun a ob na ha => by rw [upd_ne na]; exact s06 _ _ ha) ((Keep.of s06).trans kp) ⟨v1, y, upd_same, Rp.keep kp _ _ rl6, Rp.keep kp _ _ r6⟩ ?_⟩
    rw [estep]
    exact Rp.keep kp _ _ rx7
end
end NW
/-! wires.py: making a wire, a trial -/
namespace NW
open PySem PySem.Spec PyProof.Rows L2 StX NM
local macro_rules | `(tactic| walk_at "my") => `(tactic| fail)
local macro_rules | `(tactic| walk_at "mycm") => `(tactic| fail)
local macro_rules | `(tactic| walk_at "myco") => `(tactic| fail)
local macro_rules | `(tactic| walk_at "mycc") => `(tactic| fail)
local macro_rules | `(tactic| walk_at "sh") => `(tactic| first | assumption | exact sh_n | exact Sh.num | exact Sh.non | exact sh_role | exact Sh.text (by decide +kernel) | exact sh_ns | exact sh_s | exact sh_m | exact sh_o | exact sh_h | exact sh_t | exact sh_ss | exact sh_ms | exact sh_head | exact sh_L | exact sh_nil | (apply sh_cons <;> walk_at "sh"))
local macro_rules | `(tactic| walk_at "shs") => `(tactic| first | assumption | exact shs_nil | (apply shs_cons; walk_at "sh"; walk_at "shs"))
local macro_rules | `(tactic| walk_at "co") => `(tactic| first
  | ((with_reducible apply co_ixTe); exact rfl; exact rfl)
  | ((with_reducible exact co_ixDl))
  | ((with_reducible apply co_ixL); exact rfl)
  | (with_reducible exact co_lt) | (with_reducible exact co_le) | (with_reducible exact co_gt) | (with_reducible exact co_ge) | (with_reducible exact co_sub)
  | (with_reducible exact co_isN) | (with_reducible exact co_isNotN)
  | ((with_reducible apply co_eq) <;> walk_at "sh") | ((with_reducible apply co_ne) <;> walk_at "sh")
  | (with_reducible exact co_add)
  | ((with_reducible apply co_inTe); exact rfl; walk_at "sh"; walk_at "shs")
  | walk_at "myco")
local macro_rules | `(tactic| walk_at "cc") => `(tactic| first
  | ((with_reducible apply cc_lenTe); exact rfl) | (with_reducible exact cc_lenL) | (with_reducible exact cc_all) | (with_reducible exact cc_any) | (with_reducible exact cc_tuple) | (with_reducible exact cc_intI)
  | (with_reducible exact cc_intB) | (with_reducible exact cc_min2) | (with_reducible exact cc_listT)
  | ((with_reducible apply cc_isi); first | exact isi_int rfl | exact isi_bool | exact isi_tuple rfl | exact isi_str rfl)
  | walk_at "mycc")
local macro_rules | `(tactic| walk_at "ca") => `(tactic| first
  | (with_reducible exact ca_nil)
  | ((with_reducible apply ca_cons); walk_at "cm"; walk_at "ca"))
local macro_rules | `(tactic| walk_at "cad") => `(tactic| first
  | (with_reducible exact cad_nil)
  | ((with_reducible apply cad_cons); walk_at "cm"; walk_at "cad")
  | ((with_reducible apply cad_starE); walk_at "cm"; exact rfl; walk_at "cad"))
local macro_rules | `(tactic| walk_at "cm") => `(tactic| first
  | ((with_reducible apply cm_var); exact rfl)
  | (with_reducible exact cm_int) | (with_reducible exact cm_str) | (with_reducible exact cm_non) | (with_reducible exact cm_bl)
  | ((with_reducible apply cm_op); walk_at "cm"; walk_at "cm"; walk_at "co")
  | ((with_reducible apply cm_tupD); walk_at "cad"; walk_at "size")
  | ((with_reducible apply cm_neg); walk_at "cm")
  | ((with_reducible apply cm_call); walk_at "ca"; walk_at "my")
  | walk_at "mycm"
  | ((with_reducible apply cm_cb); walk_at "ca"; walk_at "cc")
  | ((with_reducible apply cm_chain); walk_at "cm"; walk_at "cm"; walk_at "co"; (intro _; walk_at "cm"); walk_at "co")
  | ((with_reducible apply cm_andVF); walk_at "cm"; walk_at "dec0")
  | ((with_reducible apply cm_orVT); walk_at "cm"; walk_at "dec0")
  | ((with_reducible apply cm_ifT); walk_at "ct"; walk_at "dec"; walk_at "cm")
  | ((with_reducible apply cm_ifF); walk_at "ct"; walk_at "dec"; walk_at "cm")
  | ((with_reducible apply cm_andV); walk_at "cm"; (intro _; walk_at "cm"))
  | ((with_reducible apply cm_orV); walk_at "cm"; (intro _; walk_at "cm"))
  | ((with_reducible apply cm_notV); walk_at "cm")
  | (with_reducible exact cm_val))
local macro_rules | `(tactic| walk_at "ct") => `(tactic| first
  | ((with_reducible apply ct_test); walk_at "cm") | ((with_reducible apply ct_B); walk_at "cm") | ((with_reducible apply ct_not); walk_at "ct")
  | ((with_reducible apply ct_andF); walk_at "ct"; walk_at "dec0")
  | ((with_reducible apply ct_orT); walk_at "ct"; walk_at "dec0")
  | ((with_reducible apply ct_and); walk_at "ct"; (intro _; walk_at "ct"))
  | ((with_reducible apply ct_or); walk_at "ct"; (intro _; walk_at "ct")))
local macro_rules | `(tactic| walk_at "size") => `(tactic| focus first | assumption | (simp; done) | (simp; omega) | omega)
local macro_rules | `(tactic| walk_at "dec0") => `(tactic| focus first | rfl | (simp [eHead, eL, eSs, eMs, eS, eM, eT, eN, eNs, eH, eO, rN]; done))
local macro_rules | `(tactic| walk_at "dec") => `(tactic| focus first | rfl | (simp [eHead, eL, eSs, eMs, eS, eM, eT, eN, eNs, eH, eO, rN]; done) | (simp [eHead, eL, eSs, eMs, eS, eM, eT, eN, eNs, eH, eO, rN]; omega) | (simp [eHead, eL, eSs, eMs, eS, eM, eT, eN, eNs, eH, eO, rN, *]; done))
local macro_rules | `(tactic| walk_at "skip") => `(tactic| ((with_reducible apply bs_skip); walk_at "ct"; walk_at "dec"))
local macro_rules | `(tactic| walk_at "take") => `(tactic| (refine bs_seqR ?_; (with_reducible apply bs_ifT); walk_at "ct"; walk_at "dec"))
local macro_rules | `(tactic| walk_at "ret") => `(tactic| (refine bs_ret ?_; (with_reducible apply cm_is); walk_at "cm"))
local macro_rules | `(tactic| walk_at "set") => `(tactic| ((with_reducible apply bs_setS); walk_at "cm"))
local macro_rules | `(tactic| walk_at "drop") => `(tactic| ((with_reducible apply bs_dropS); walk_at "cm"))
local macro_rules | `(tactic| walk_at "norm") => `(tactic| skip)
local macro_rules | `(tactic| walk_at "less") => `(tactic| first | exact less_nil | (apply less_some; walk_at "less") | (apply less_none; walk_at "less"))
local macro_rules | `(tactic| walk_at "flat") => `(tactic| first | exact flat_nil | (refine flat_cons ?_ ?_; (first | exact trivial | exact rfl); walk_at "flat"))
local macro_rules | `(tactic| walk_at "stay") => `(tactic| first | exact stay_nil | (refine stay_cons ?_ ?_; (first | exact stay_none | exact stay_d | exact stay_b | exact stay_v | exact stay_old (by assumption)); walk_at "stay"))
section
variable {P : Program} {w : World} {K : Fg} {mg : Str → Option Value} {base : Heap}

variable {aW aF CW CT : Addr}
/-! ### Wire.__init__ -/
abbrev s_init_Wire : Stmt := inClass (top 80) 0
abbrev N_init_Wire : List Str := ["self", "language"]
theorem sc_init_Wire : FnScope N_init_Wire ["self", "language"] (defScope s_init_Wire) := ⟨rfl, rfl, rfl, by decide +kernel, rfl, by decide +kernel, by decide +kernel⟩
theorem cm_first {r : Sl} (TW : Txt2 K mg aW aF) : Cm K (tC (.ref aF)) r (.d (eT .first)) := fun σ H Q e q => q _ H (Same.refl H) (TW.first H)
theorem putL {y : V} : putF ("own_language" : Str) y [] = [(("own_language" : Str), y)] := rfl
theorem putP0 {y a : V} : putF ("own_past" : Str) y [(("own_language" : Str), a)] = [(("own_language" : Str), a), (("own_past" : Str), y)] := by
  simp only [putF, if_neg neqL]
def spInitW (K : Fg) (CW : Addr) : Sp := fun vs H Q _ => ∃ L x dx v, Good L ∧ vs = [.ref x, v] ∧ H x = some (.ins CW dx []) ∧ Rp K H v (eL L) ∧ ∀ H', SameX x H H' → Keep H H' → WireAt K CW L [] x dx H' → Q .non H'
theorem ok_initW (T : Txt K mg) (TW : Txt2 K mg aW aF) (TC : TxtW K mg CW CT) {f : Addr} (M : Mk K CW f) (hm : mg "Wire" = some (.ref CW)) (A : DefC K "__init__" "Wire.__init__" s_init_Wire ["self", "language"] f) (C_need_language : CalF P w K mg base 3 "need_language" R_need_language) :
    C8.Mak P w K mg base 4 "Wire" CW (spInitW K CW) [] := by
  obtain ⟨fd, F, b⟩ := A.ex
  refine ⟨f, fd, ["self", "language"], [], M, F.ok sc_init_Wire (fun vs H Q E h => ?_) (fun cdv A outer s H vs Q E hr h => ?_), hm, b, .nil⟩
  · obtain ⟨L, x, dx, v, _, rfl, _⟩ := h; rfl
  · obtain ⟨L, x, dx, v, g, rfl, hx, rv, q⟩ := h
    refine ⟨_, (pss_cons (ps_fldK K rfl (pv 0) (C8.pe_c C_need_language hr (by decide) rfl (pa_cons (pv 1) pa_nil)) rfl) (pss_one (ps_fldK K rfl (pv 0) (pe_tup (pa_cons (pe_tup (pa_cons pe_non (pa_cons (C8.pe_gc rfl TW.g_FIRST) (pa_cons (pe_tup pa_nil) pa_nil)))) pa_nil)) rfl))), ?_⟩
    let R : Sl := [some (.v (.ref x)), some (.d (eL L))]
    have e0 : EnvOk K R (start N_init_Wire [.ref x, v]) H := env_start (N := N_init_Wire) (ws := [.v (.ref x), .d (eL L)]) (.cons rfl (.cons rv .nil))
    refine (show tSeq (sFld K (tVar 0) _ "own_language") _ _ _ H from cm_call (ca_cons (cm_var (i := 1) rfl) ca_nil) (r_need_language g) _ H _ e0 fun y H1 s1 r1 => ?_)
    have e1 := e0.same s1
    obtain ⟨x0, hx0, rx0⟩ := e1.at_ 0 _ rfl
    have ex0 : x0 = .ref x := rx0
    subst ex0
    refine ⟨_, hx0, x, CW, dx, [], rfl, s1 _ _ hx, TC.clsW, TC.naL, (by decide : 0 < 1000), ?_⟩
    rw [putL]
    have nt1 : ∀ ys, H1 x ≠ some (.tup ys) := fun ys z => by rw [s1 _ _ hx] at z; cases z
    have k1 : Keep H1 (upd H1 x (.ins CW dx [("own_language", y)])) := Keep.put nt1
    have e2 := e1.stay (l := x) (o := .ins CW dx [("own_language", y)]) (by walk_at "stay") nt1
    have r2 := Rp.keep k1 _ _ r1
    have hx2 : upd H1 x (.ins CW dx [("own_language", y)]) x = some (.ins CW dx [("own_language", y)]) := upd_same
    have sx2 : SameX x H (upd H1 x (.ins CW dx [("own_language", y)])) := fun a ob na ha => by rw [upd_ne na]; exact s1 _ _ ha
    have kk2 : Keep H (upd H1 x (.ins CW dx [("own_language", y)])) := (Keep.of s1).trans k1
    generalize upd H1 x (.ins CW dx [("own_language", y)]) = H2 at e2 r2 hx2 sx2 kk2 ⊢
    have mkT : Cm K (tTup (tCons (tTup (tCons (tC .non) (tCons (tC (.ref aF)) (tCons (tTup tNil) tNil)))) tNil)) R (.d (.tup (pastD L []))) :=
      cm_is (cm_tupD (cad_cons (cm_tupD (cad_cons cm_non (cad_cons (cm_first TW) (cad_cons (cm_tupD cad_nil (by simp)) cad_nil))) (by simp)) cad_nil) (by simp)) rfl
    show sFld K (tVar 0) (tTup (tCons (tTup (tCons (tC .non) (tCons (tC (.ref aF)) (tCons (tTup tNil) tNil)))) tNil)) "own_past" { nx := fun _ H' => Q .non H', rt := Q } _ H2
    unfold sFld
    refine mkT _ H2 _ e2 fun y2 H3 s3 r3 => ?_
    obtain ⟨x0, hx0', rx0'⟩ := (e2.same s3).at_ 0 _ rfl
    have ex0 : x0 = .ref x := rx0'
    subst ex0
    refine ⟨_, hx0', x, CW, dx, _, rfl, s3 _ _ hx2, TC.clsW, TC.naP, (by decide : 1 < 1000), ?_⟩
    rw [putP0]
    have nt3 : ∀ ys, H3 x ≠ some (.tup ys) := fun ys z => by rw [s3 _ _ hx2] at z; cases z
    have k3 : Keep H3 (upd H3 x (.ins CW dx [("own_language", y), ("own_past", y2)])) := Keep.put nt3
    exact q _ (fun a ob na ha => by rw [upd_ne na]; exact s3 _ _ (sx2 a ob na ha)) ((kk2.trans (Keep.of s3)).trans k3) ⟨y, y2, upd_same, Rp.keep ((Keep.of s3).trans k3) _ _ r2, Rp.keep k3 _ _ r3⟩
/-! ### Trial -/
theorem neqH : ¬ (("held_wire" : Str) = "kept_past") := by decide +kernel
theorem neqK : (("kept_past" : Str) == "held_wire") = false := by decide +kernel
def trFs (x v : V) : List (Str × V) := [(("held_wire" : Str), x), (("kept_past" : Str), v)]
theorem putH {y : V} : putF ("held_wire" : Str) y [] = [(("held_wire" : Str), y)] := rfl
theorem putKp0 {y a : V} : putF ("kept_past" : Str) y [(("held_wire" : Str), a)] = trFs a y := by
  simp only [putF, if_neg neqH, trFs]
theorem putKp {y a v : V} : putF ("kept_past" : Str) y (trFs a v) = trFs a y := by
  simp only [trFs, putF, if_neg neqH, if_true]
theorem lookH {a v : V} : (trFs a v).lookup ("held_wire" : Str) = some a := by
  simp only [trFs, List.lookup, beq_self_eq_true]
theorem lookK {a v : V} : (trFs a v).lookup ("kept_past" : Str) = some v := by
  simp only [trFs, List.lookup, neqK, beq_self_eq_true]
abbrev s_init_Trial : Stmt := inClass (top 79) 0
abbrev N_init_Trial : List Str := ["self", "held_wire"]
theorem sc_init_Trial : FnScope N_init_Trial ["self", "held_wire"] (defScope s_init_Trial) := ⟨rfl, rfl, rfl, by decide +kernel, rfl, by decide +kernel, by decide +kernel⟩
def spInitT (CT : Addr) : Sp := fun vs H Q _ => ∃ t dt x, vs = [.ref t, .ref x] ∧ H t = some (.ins CT dt []) ∧ ∀ v0 H', SameX t H H' → H' t = some (.ins CT dt (trFs (.ref x) v0)) → Q .non H'
theorem ok_initT (T : Txt K mg) (TC : TxtW K mg CW CT) {f : Addr} (M : Mk K CT f) (hm : mg "Trial" = some (.ref CT)) (A : DefC K "__init__" "Trial.__init__" s_init_Trial ["self", "held_wire"] f) : C8.Mak P w K mg base 1 "Trial" CT (spInitT CT) [] := by
  obtain ⟨fd, F, b⟩ := A.ex
  refine ⟨f, fd, ["self", "held_wire"], [], M, F.ok sc_init_Trial (fun vs H Q E h => ?_) (fun cdv A outer s H vs Q E hr h => ?_), hm, b, .nil⟩
  · obtain ⟨t, dt, x, rfl, _⟩ := h; rfl
  · obtain ⟨t, dt, x, rfl, ht, q⟩ := h
    refine ⟨_, (pss_cons (ps_fldK K rfl (pv 0) (pv 1) rfl) (pss_one (ps_fldK K rfl (pv 0) (pe_tup pa_nil) rfl))), ?_⟩
    refine (show tSeq (sFld K (tVar 0) (tVar 1) "held_wire") _ _ _ H from ⟨.ref x, rfl, .ref t, rfl, t, CT, dt, [], rfl, ht, TC.clsT, TC.naH, (by decide : 0 < 1000), ?_⟩)
    rw [putH]
    refine (show sFld K (tVar 0) (tTup tNil) "kept_past" _ _ _ from ⟨(by decide : 0 ≤ sizeLine), fun p hp => ⟨.ref t, rfl, t, CT, dt, [(("held_wire" : Str), .ref x)], rfl, ?_, TC.clsT, TC.naK, (by decide : 1 < 1000), ?_⟩⟩)
    · have np : t ≠ p := fun z => by rw [← z, upd_same] at hp; cases hp
      rw [upd_ne np, upd_same]
    · rw [putKp0]
      refine q (.ref p) _ (fun a ob na ha => ?_) upd_same
      rw [upd_ne na]
      have np : a ≠ p := fun z => by rw [← z, upd_ne na, ha] at hp; cases hp
      rw [upd_ne np, upd_ne na]
      exact ha
abbrev s_trial_Wire : Stmt := inClass (top 80) 11
abbrev N_trial_Wire : List Str := ["self"]
theorem sc_trial_Wire : FnScope N_trial_Wire ["self"] (defScope s_trial_Wire) := ⟨rfl, rfl, rfl, by decide +kernel, rfl, by decide +kernel, by decide +kernel⟩
def spTrial (CW CT : Addr) : Sp := fun vs H Q _ => ∃ x dx fs, vs = [.ref x] ∧ H x = some (.ins CW dx fs) ∧ ∀ t dt v0 H', Same H H' → H t = none → H' t = some (.ins CT dt (trFs (.ref x) v0)) → Q (.ref t) H'
theorem ok_trial (T : Txt K mg) (TC : TxtW K mg CW CT) {f : Addr} (me : Meth K CW "trial" f) (A : DefC K "trial" "Wire.trial" s_trial_Wire ["self"] f) (C_Trial : C8.Mak P w K mg base 1 "Trial" CT (spInitT CT) []) : C8.Met P w K mg base 3 CW "trial" (spTrial CW CT) [] := by
  obtain ⟨fd, F, b⟩ := A.ex
  refine ⟨f, fd, ["self"], [], TC.clsW, me, F.ok sc_trial_Wire (fun vs H Q E h => ?_) (fun cdv A outer s H vs Q E hr h => ?_), b, .nil⟩
  · obtain ⟨x, dx, fs, rfl, _⟩ := h; rfl
  · obtain ⟨x, dx, fs, rfl, hx, q⟩ := h
    refine ⟨_, (pss_one (ps_ret (C8.pe_mk C_Trial hr (by decide) rfl (pa_cons (pv 0) pa_nil)))), ?_⟩
    refine (show ∃ x, _ = some (some x) ∧ _ from ⟨.ref x, rfl, fun t dt ht hdt ne => ?_⟩)
    refine ⟨t, dt, x, rfl, upd_same, fun v0 H' sx h' => ⟨rfl, q t dt v0 H' (fun a ob ha => ?_) ht h'⟩⟩
    have na : a ≠ t := fun z => by rw [z, ht] at ha; cases ha
    have nd : a ≠ dt := fun z => by rw [z, hdt] at ha; cases ha
    exact sx a ob na (by rw [upd_ne na, upd_ne nd]; exact ha)
def wiFs (a v : V) : List (Str × V) := [(("own_language" : Str), a), (("own_past" : Str), v)]
abbrev s_enter_Trial : Stmt := inClass (top 79) 1
abbrev N_enter_Trial : List Str := ["self"]
theorem sc_enter_Trial : FnScope N_enter_Trial ["self"] (defScope s_enter_Trial) := ⟨rfl, rfl, rfl, by decide +kernel, rfl, by decide +kernel, by decide +kernel⟩
def spEnter (CW CT : Addr) : Sp := fun vs H Q _ => ∃ t dt x dx v0 v1 v2, vs = [.ref t] ∧ t ≠ x ∧ H t = some (.ins CT dt (trFs (.ref x) v0)) ∧ H x = some (.ins CW dx (wiFs v1 v2)) ∧ Q (.ref x) (upd H t (.ins CT dt (trFs (.ref x) v2)))
theorem ok_enter (T : Txt K mg) (TC : TxtW K mg CW CT) {f : Addr} (A : DefC K "__enter__" "Trial.__enter__" s_enter_Trial ["self"] f) : ∃ fd, FnOk P w K mg base CX0 1 f fd ["self"] (spEnter CW CT) ∧ Binds K fd ["self"] [] := by
  obtain ⟨fd, F, b⟩ := A.ex
  refine ⟨fd, F.ok sc_enter_Trial (fun vs H Q E h => ?_) (fun cdv A outer s H vs Q E hr h => ?_), b⟩
  · obtain ⟨t, dt, x, dx, v0, v1, v2, rfl, _⟩ := h; rfl
  · obtain ⟨t, dt, x, dx, v0, v1, v2, rfl, ne, ht, hx, q⟩ := h
    refine ⟨_, (pss_cons (ps_fldK K rfl (pv 0) (pe_fldK K rfl (pe_fldK K rfl (pv 0) rfl) rfl) rfl) (pss_one (ps_ret (pe_fldK K rfl (pv 0) rfl)))), ?_⟩
    refine (show tSeq (sFld K (tVar 0) (tFld K (tFld K (tVar 0) "held_wire") "own_past") "kept_past") _ _ _ H from
      ⟨.ref t, rfl, t, CT, dt, _, .ref x, rfl, ht, TC.clsT, TC.naH, lookH, x, CW, dx, _, v2, rfl, hx, TC.clsW, TC.naP, lookP, .ref t, rfl, t, CT, dt, _, rfl, ht, TC.clsT, TC.naK, (by decide : 2 < 1000), ?_⟩)
    rw [putKp]
    exact ⟨.ref t, rfl, t, CT, dt, _, .ref x, rfl, upd_same, TC.clsT, TC.naH, lookH, q⟩
abbrev s_exit_Trial : Stmt := inClass (top 79) 2
abbrev N_exit_Trial : List Str := ["self", "kind", "value", "trace"]
theorem sc_exit_Trial : FnScope N_exit_Trial ["self", "kind", "value", "trace"] (defScope s_exit_Trial) := ⟨rfl, rfl, rfl, by decide +kernel, rfl, by decide +kernel, by decide +kernel⟩
def spExit (CW CT : Addr) : Sp := fun vs H Q _ => ∃ t dt x dx v v1 v2 a b c, vs = [.ref t, a, b, c] ∧ H t = some (.ins CT dt (trFs (.ref x) v)) ∧ H x = some (.ins CW dx (wiFs v1 v2)) ∧ Q .non (upd H x (.ins CW dx (wiFs v1 v)))
theorem ok_exit (T : Txt K mg) (TC : TxtW K mg CW CT) {f : Addr} (A : DefC K "__exit__" "Trial.__exit__" s_exit_Trial ["self", "kind", "value", "trace"] f) : ∃ fd, FnOk P w K mg base CX0 1 f fd ["self", "kind", "value", "trace"] (spExit CW CT) ∧ Binds K fd ["self", "kind", "value", "trace"] [] := by
  obtain ⟨fd, F, b⟩ := A.ex
  refine ⟨fd, F.ok sc_exit_Trial (fun vs H Q E h => ?_) (fun cdv A outer s H vs Q E hr h => ?_), b⟩
  · obtain ⟨t, dt, x, dx, v, v1, v2, a, b, c, rfl, _⟩ := h; rfl
  · obtain ⟨t, dt, x, dx, v, v1, v2, a, b, c, rfl, ht, hx, q⟩ := h
    refine ⟨_, (pss_one (ps_fldK K rfl (pe_fldK K rfl (pv 0) rfl) (pe_fldK K rfl (pv 0) rfl) rfl)), ?_⟩
    refine (show sFld K (tFld K (tVar 0) "held_wire") (tFld K (tVar 0) "kept_past") "own_past" _ _ H from
      ⟨.ref t, rfl, t, CT, dt, _, v, rfl, ht, TC.clsT, TC.naK, lookK, .ref t, rfl, t, CT, dt, _, .ref x, rfl, ht, TC.clsT, TC.naH, lookH, x, CW, dx, _, rfl, hx, TC.clsW, TC.naP, (by decide : 2 < 1000), ?_⟩)
    have := putP (y := v) (a := v1) (b := v2)
    unfold wiFs
    rw [this]
    exact q
end
end NW
/-! the law's draws -/
namespace NW
open PySem PySem.Spec PyProof.Rows L2 StX NM
local macro_rules | `(tactic| walk_at "my") => `(tactic| fail)
local macro_rules | `(tactic| walk_at "mycm") => `(tactic| fail)
local macro_rules | `(tactic| walk_at "myco") => `(tactic| fail)
local macro_rules | `(tactic| walk_at "mycc") => `(tactic| fail)
local macro_rules | `(tactic| walk_at "sh") => `(tactic| first | assumption | exact sh_n | exact Sh.num | exact Sh.non | exact sh_role | exact Sh.text (by decide +kernel) | exact sh_ns | exact sh_s | exact sh_m | exact sh_o | exact sh_h | exact sh_t | exact sh_ss | exact sh_ms | exact sh_head | exact sh_L | exact sh_nil | (apply sh_cons <;> walk_at "sh"))
local macro_rules | `(tactic| walk_at "shs") => `(tactic| first | assumption | exact shs_nil | (apply shs_cons; walk_at "sh"; walk_at "shs"))
local macro_rules | `(tactic| walk_at "co") => `(tactic| first
  | ((with_reducible apply co_ixTe); exact rfl; exact rfl)
  | ((with_reducible exact co_ixDl))
  | ((with_reducible apply co_ixL); exact rfl)
  | (with_reducible exact co_lt) | (with_reducible exact co_le) | (with_reducible exact co_gt) | (with_reducible exact co_ge) | (with_reducible exact co_sub)
  | (with_reducible exact co_isN) | (with_reducible exact co_isNotN)
  | ((with_reducible apply co_eq) <;> walk_at "sh") | ((with_reducible apply co_ne) <;> walk_at "sh")
  | (with_reducible exact co_add)
  | ((with_reducible apply co_inTe); exact rfl; walk_at "sh"; walk_at "shs")
  | walk_at "myco")
local macro_rules | `(tactic| walk_at "cc") => `(tactic| first
  | ((with_reducible apply cc_lenTe); exact rfl) | (with_reducible exact cc_lenL) | (with_reducible exact cc_all) | (with_reducible exact cc_any) | (with_reducible exact cc_tuple) | (with_reducible exact cc_intI)
  | (with_reducible exact cc_intB) | (with_reducible exact cc_min2) | (with_reducible exact cc_listT)
  | ((with_reducible apply cc_isi); first | exact isi_int rfl | exact isi_bool | exact isi_tuple rfl | exact isi_str rfl)
  | walk_at "mycc")
local macro_rules | `(tactic| walk_at "ca") => `(tactic| first
  | (with_reducible exact ca_nil)
  | ((with_reducible apply ca_cons); walk_at "cm"; walk_at "ca"))
local macro_rules | `(tactic| walk_at "cad") => `(tactic| first
  | (with_reducible exact cad_nil)
  | ((with_reducible apply cad_cons); walk_at "cm"; walk_at "cad")
  | ((with_reducible apply cad_starE); walk_at "cm"; exact rfl; walk_at "cad"))
local macro_rules | `(tactic| walk_at "cm") => `(tactic| first
  | ((with_reducible apply cm_var); exact rfl)
  | (with_reducible exact cm_int) | (with_reducible exact cm_str) | (with_reducible exact cm_non) | (with_reducible exact cm_bl)
  | ((with_reducible apply cm_op); walk_at "cm"; walk_at "cm"; walk_at "co")
  | ((with_reducible apply cm_tupD); walk_at "cad"; walk_at "size")
  | ((with_reducible apply cm_neg); walk_at "cm")
  | ((with_reducible apply cm_call); walk_at "ca"; walk_at "my")
  | walk_at "mycm"
  | ((with_reducible apply cm_cb); walk_at "ca"; walk_at "cc")
  | ((with_reducible apply cm_chain); walk_at "cm"; walk_at "cm"; walk_at "co"; (intro _; walk_at "cm"); walk_at "co")
  | ((with_reducible apply cm_andVF); walk_at "cm"; walk_at "dec0")
  | ((with_reducible apply cm_orVT); walk_at "cm"; walk_at "dec0")
  | ((with_reducible apply cm_ifT); walk_at "ct"; walk_at "dec"; walk_at "cm")
  | ((with_reducible apply cm_ifF); walk_at "ct"; walk_at "dec"; walk_at "cm")
  | ((with_reducible apply cm_andV); walk_at "cm"; (intro _; walk_at "cm"))
  | ((with_reducible apply cm_orV); walk_at "cm"; (intro _; walk_at "cm"))
  | ((with_reducible apply cm_notV); walk_at "cm")
  | (with_reducible exact cm_val))
local macro_rules | `(tactic| walk_at "ct") => `(tactic| first
  | ((with_reducible apply ct_test); walk_at "cm") | ((with_reducible apply ct_B); walk_at "cm") | ((with_reducible apply ct_not); walk_at "ct")
  | ((with_reducible apply ct_andF); walk_at "ct"; walk_at "dec0")
  | ((with_reducible apply ct_orT); walk_at "ct"; walk_at "dec0")
  | ((with_reducible apply ct_and); walk_at "ct"; (intro _; walk_at "ct"))
  | ((with_reducible apply ct_or); walk_at "ct"; (intro _; walk_at "ct")))
local macro_rules | `(tactic| walk_at "size") => `(tactic| focus first | assumption | (simp; done) | (simp; omega) | omega)
local macro_rules | `(tactic| walk_at "dec0") => `(tactic| focus first | rfl | (simp [eHead, eL, eSs, eMs, eS, eM, eT, eN, eNs, eH, eO, rN]; done))
local macro_rules | `(tactic| walk_at "dec") => `(tactic| focus first | rfl | (simp [eHead, eL, eSs, eMs, eS, eM, eT, eN, eNs, eH, eO, rN]; done) | (simp [eHead, eL, eSs, eMs, eS, eM, eT, eN, eNs, eH, eO, rN]; omega) | (simp [eHead, eL, eSs, eMs, eS, eM, eT, eN, eNs, eH, eO, rN, *]; done))
local macro_rules | `(tactic| walk_at "skip") => `(tactic| ((with_reducible apply bs_skip); walk_at "ct"; walk_at "dec"))
local macro_rules | `(tactic| walk_at "take") => `(tactic| (refine bs_seqR ?_; (with_reducible apply bs_ifT); walk_at "ct"; walk_at "dec"))
local macro_rules | `(tactic| walk_at "ret") => `(tactic| (refine bs_ret ?_; (with_reducible apply cm_is); walk_at "cm"))
local macro_rules | `(tactic| walk_at "set") => `(tactic| ((with_reducible apply bs_setS); walk_at "cm"))
local macro_rules | `(tactic| walk_at "drop") => `(tactic| ((with_reducible apply bs_dropS); walk_at "cm"))
local macro_rules | `(tactic| walk_at "norm") => `(tactic| skip)
local macro_rules | `(tactic| walk_at "less") => `(tactic| first | exact less_nil | (apply less_some; walk_at "less") | (apply less_none; walk_at "less"))
local macro_rules | `(tactic| walk_at "flat") => `(tactic| first | exact flat_nil | (refine flat_cons ?_ ?_; (first | exact trivial | exact rfl); walk_at "flat"))
local macro_rules | `(tactic| walk_at "stay") => `(tactic| first | exact stay_nil | (refine stay_cons ?_ ?_; (first | exact stay_none | exact stay_d | exact stay_b | exact stay_v | exact stay_old (by assumption)); walk_at "stay"))
section
variable {P : Program} {w : World} {K : Fg} {mg : Str → Option Value} {base : Heap}

theorem slLK {X : Cx} (K : Fg) (hK : X.K = K) : SlR X (rSlL K) := hK ▸ sl_list
theorem seq_asg {te : TE} {g : TG} {u : TS} {D : Ends} {σ : St} {H : Hp} (h : te σ H fun x H1 => g x σ H1 fun σ' H' => u D σ' H') : tSeq (tAsg te g) u D σ H := h
/-! ### the machine's dict -/
def dM (c g : Addr) (t s : Int) : List (Key × V) := [(.inr "cells", .ref c), (.inr "great", .ref g), (.inr "turn", .int t), (.inr "sum", .int s)]
structure MRaw (a c g : Addr) (cs gs : List Int) (t s : Int) (H : Hp) : Prop where
  hm : H a = some (.dK (dM c g t s))
  hc : H c = some (.lst (cs.map V.int))
  hg : H g = some (.lst (gs.map V.int))
  cg : c ≠ g
  ce : cs ≠ []
theorem MRaw.same {a c g : Addr} {cs gs : List Int} {t s : Int} {H H' : Hp} (q : Same H H') (h : MRaw a c g cs gs t s H) : MRaw a c g cs gs t s H' := ⟨q _ _ h.hm, q _ _ h.hc, q _ _ h.hg, h.cg, h.ce⟩
def mP (a c g : Addr) (cs gs : List Int) (t s : Int) : W := .p fun y H => y = .ref a ∧ MRaw a c g cs gs t s H
/-- the machine at a -/
def MAt (a g : Addr) (H : Hp) : Prop := ∃ c cs gs t s, MRaw a c g cs gs t s H
section
variable {a c g : Addr} {cs gs : List Int} {t s : Int} {r : Sl} {te : TE}
theorem mP_of {H : Hp} (h : MRaw a c g cs gs t s H) : Rw K H (.ref a) (mP a c g cs gs t s) := fun H' q => ⟨rfl, h.same q⟩
theorem cm_mget {x : Str} {v : V} {u : W} (h : Cm K te r (mP a c g cs gs t s)) (hv : valV (dM c g t s) (.inr x) = some v) (hw : ∀ H, MRaw a c g cs gs t s H → Rw K H v u) : Cm K (tDGet te (tC (.str x))) r u := fun σ H Q e q => h σ H _ e fun y H1 s1 r1 => by
  obtain ⟨rfl, m⟩ := r1 H1 (Same.refl _)
  refine ⟨a, v, rfl, ?_, q v H1 s1 (hw H1 m)⟩
  have := DGet.k (k := .inr x) m.hm
  rw [hv] at this
  exact this
theorem cm_turn (h : Cm K te r (mP a c g cs gs t s)) : Cm K (tDGet te (tC (.str "turn"))) r (.d (.num t)) := cm_mget h rfl fun H _ => .int t
theorem cm_sum (h : Cm K te r (mP a c g cs gs t s)) : Cm K (tDGet te (tC (.str "sum"))) r (.d (.num s)) := cm_mget h rfl fun H _ => .int s
theorem cm_great (h : Cm K te r (mP a c g cs gs t s)) : Cm K (tDGet te (tC (.str "great"))) r (.l (gs.map .num)) := cm_mget h rfl fun H m => ⟨g, _, rfl, m.hg, rpA_ofInts gs⟩
theorem cm_cells (h : Cm K te r (mP a c g cs gs t s)) : Cm K (tDGet te (tC (.str "cells"))) r (.l (cs.map .num)) := cm_mget h rfl fun H m => ⟨c, _, rfl, m.hc, rpA_ofInts cs⟩
theorem m_put {x : Str} {v : V} {k' : List (Key × V)} {H : Hp} (m : MRaw a c g cs gs t s H) (hk : putK (dM c g t s) (.inr x) v = k') : DPut H a (.str x) v (upd H a (.dK k')) := by
  have := DPut.k (k := .inr x) (v := v) m.hm (by decide : 4 < sizeLine)
  rw [hk] at this
  exact this
theorem MRaw.ne {H : Hp} (m : MRaw a c g cs gs t s H) : c ≠ a ∧ g ≠ a := ⟨(fun z => by have h := m.hc; rw [z, m.hm] at h; cases h), (fun z => by have h := m.hg; rw [z, m.hm] at h; cases h)⟩
theorem MRaw.set {H : Hp} (m : MRaw a c g cs gs t s H) (t' s' : Int) : MRaw a c g cs gs t' s' (upd H a (.dK (dM c g t' s'))) := ⟨upd_same, by rw [upd_ne m.ne.1]; exact m.hc, by rw [upd_ne m.ne.2]; exact m.hg, m.cg, m.ce⟩
end
/-- what stands but for the machine -/
def But (a g : Addr) (H H' : Hp) : Prop := ∀ b o, b ≠ a → b ≠ g → H b = some o → H' b = some o
/-- draws -/
def spNext : Sp := fun vs H Q _ => ∃ (a g : Addr) (n : Nat), vs = [.ref a, .int n] ∧ 0 < n ∧ n < 100000 ∧ MAt a g H ∧ ∀ (k : Nat) g' H', k < n → Keep H H' → But a g H H' → (g' = g ∨ H g' = none) → MAt a g' H' → Q (.int k) H'
abbrev s_law_next : Stmt := top 83
abbrev N_law_next : List Str := ["_law_m", "_law_total", "_law_found", "_law_cell"]
theorem sc_law_next : FnScope N_law_next ["_law_m", "_law_total"] (defScope s_law_next) := ⟨rfl, rfl, rfl, by decide +kernel, rfl, by decide +kernel, by decide +kernel⟩
theorem cutV_drop (xs : List V) : cutV xs (some 1) none = xs.drop 1 := by
  unfold cutV
  have e1 : HT.sIx xs.length 0 (some 1) = min 1 xs.length := HT.sIx_nat xs.length 0 1
  rw [e1, HT.sIx_none]
  by_cases h : 1 ≤ xs.length
  · rw [Nat.min_eq_left h]
    exact List.take_of_length_le (by simp)
  · have : xs = [] := List.length_eq_zero_iff.mp (by omega)
    subst this
    rfl
theorem fmod_nat {i : Int} {n : Nat} (h : 0 < n) : ∃ k : Nat, k < n ∧ i.fmod (n : Int) = (k : Int) := by
  have h1 : 0 ≤ i.fmod (n : Int) := by rw [Int.fmod_eq_emod_of_nonneg i (by omega)]; exact Int.emod_nonneg i (by omega)
  have h2 : i.fmod (n : Int) < n := by rw [Int.fmod_eq_emod_of_nonneg i (by omega)]; exact Int.emod_lt_of_pos i (by omega)
  exact ⟨(i.fmod n).toNat, by omega, by omega⟩
theorem ok_next (T : Txt K mg) (A : DefAt K mg "_law_next" "_law_next" s_law_next ["_law_m", "_law_total"]) : C8.Cal P w K mg base 1 "_law_next" spNext [] := by
  obtain ⟨f, fd, F, b, hm⟩ := A.ex
  refine ⟨f, fd, ["_law_m", "_law_total"], [], F.ok sc_law_next (fun vs H Q E h => ?_) (fun cdv A outer s H vs Q E hr h => ?_), hm, F.kp, b, .nil⟩
  · obtain ⟨a, g, n, rfl, _⟩ := h; rfl
  · obtain ⟨a, g, n, rfl, hn, hn2, ⟨c, cs, gs, t, s', m⟩, q⟩ := h
    refine ⟨_, (pss_cons (ps_dput (u1 hr) (pv 0) pe_str (pe_op (addK K rfl) (pe_dget (u1 hr) (pv 0) pe_str (fun _ _ => rfl)) pe_int) rfl) (pss_cons (ps_while PassesOwn.never (PW.pt (pw_and (pt_cmpR (neK K rfl hr) (pe_dget (u1 hr) (pv 0) pe_str (fun _ _ => rfl)) (pe_lst pa_nil) (nomark _)) (pw_and1 (pt_cmpR (eqK K rfl hr) (pe_ix (ixK K rfl) (pe_dget (u1 hr) (pv 0) pe_str (fun _ _ => rfl)) pe_int (fun _ _ => rfl)) pe_int (nomark _))))) (pss_one (ps_dput (u1 hr) (pv 0) pe_str (pe_slice (slLK K rfl) (pe_dget (u1 hr) (pv 0) pe_str (fun _ _ => rfl)) (po_some pe_int) po_none) rfl))) (pss_cons (ps_if (pt_cmpR (neK K rfl hr) (pe_dget (u1 hr) (pv 0) pe_str (fun _ _ => rfl)) (pe_lst pa_nil) (nomark _)) (pss_cons (ps_asg (pe_tup (pa_cons (pe_op op_modN (pe_callTy call_int1 rfl T.b_int bo_int (pa_cons (pe_ix (ixK K rfl) (pe_dget (u1 hr) (pv 0) pe_str (fun _ _ => rfl)) pe_int (fun _ _ => rfl)) pa_nil)) (pv 1)) (pa_cons (pe_op op_fdivN (pe_callTy call_int1 rfl T.b_int bo_int (pa_cons (pe_ix (ixK K rfl) (pe_dget (u1 hr) (pv 0) pe_str (fun _ _ => rfl)) pe_int (fun _ _ => rfl)) pa_nil)) (pv 1)) pa_nil))) (pgTK (n := 2) K rfl rfl (pgs_cons (pg_name (i := 2) sc_law_next.nd rfl (by first | exact Or.inl rfl | exact Or.inr rfl)) (pgs_cons (pg_sub (pe_dget (u1 hr) (pv 0) pe_str (fun _ _ => rfl)) pe_int set_list) pgs_nil)))) (pss_one (ps_ret (pv 2)))) pss_nil) (pss_cons (ps_set (i := 3) sc_law_next.nd rfl (by first | exact Or.inl rfl | exact Or.inr rfl) (pe_ix (ixK K rfl) (pe_dget (u1 hr) (pv 0) pe_str (fun _ _ => rfl)) (pe_op op_modN (pe_callTy call_int1 rfl T.b_int bo_int (pa_cons (pe_dget (u1 hr) (pv 0) pe_str (fun _ _ => rfl)) pa_nil)) (pe_callB (lenK K rfl) rfl T.b_len bo_len (pa_cons (pe_dget (u1 hr) (pv 0) pe_str (fun _ _ => rfl)) pa_nil))) (fun _ _ => rfl))) (pss_cons (ps_dput (u1 hr) (pv 0) pe_str (pe_op op_modN (pe_callTy call_int1 rfl T.b_int bo_int (pa_cons (pe_op (addK K rfl) (pe_op (addK K rfl) (pe_op op_mul (pe_dget (u1 hr) (pv 0) pe_str (fun _ _ => rfl)) pe_int) (pe_op op_modN (pe_callTy call_int1 rfl T.b_int bo_int (pa_cons (pv 3) pa_nil)) pe_int)) (pe_op op_mul pe_int (pe_dget (u1 hr) (pv 0) pe_str (fun _ _ => rfl)))) pa_nil)) pe_int) rfl) (pss_one (ps_ret (pe_op op_modN (pe_op op_fdivN (pe_op op_modN (pe_callTy call_int1 rfl T.b_int bo_int (pa_cons (pe_op (addK K rfl) (pe_op op_mul (pe_dget (u1 hr) (pv 0) pe_str (fun _ _ => rfl)) pe_int) (pe_dget (u1 hr) (pv 0) pe_str (fun _ _ => rfl))) pa_nil)) pe_int) pe_int) (pv 1))))))))), ?_⟩
    let R : Addr → List Int → Int → Int → Sl := fun g gs t s => [some (mP a c g cs gs t s), some (.d (.num n)), none, none]
    have e0 : EnvOk K (R g gs t s') (start N_law_next [.ref a, .int n]) H := env_start (N := N_law_next) (ws := [mP a c g cs gs t s', .d (.num n)]) (.cons (mP_of m) (.cons (.int _) .nil))
    let dT : TE := tDGet (tVar 0) (tC (.str "turn"))
    let dG : TE := tDGet (tVar 0) (tC (.str "great"))
    let σ0 : St := start N_law_next [.ref a, .int n]
    -- the machine's slot again, behind a change
    have back : ∀ {σ : St} {H H' : Hp} {g g' : Addr} {gs gs' : List Int} {t t' s s' : Int} {r : Option W} {r3 : Option W}, EnvOk K [some (mP a c g cs gs t s), some (.d (.num n)), r, r3] σ H → MRaw a c g' cs gs' t' s' H' → EnvOk K (R g' gs' t' s') σ H' := fun {σ H H' g g' gs gs' t t' s s' r r3} e m' => by
      obtain ⟨x0, hx0, rx0⟩ := e.at_ 0 _ rfl
      obtain ⟨ex0, _⟩ := rx0 H (Same.refl _)
      subst ex0
      obtain ⟨x1, hx1, rx1⟩ := e.at_ 1 _ rfl
      have ex1 := Rp.int_inv rx1
      subst ex1
      refine ⟨e.len, fun i w' h => ?_⟩
      rcases i with _ | _ | _ | _ | i
      · cases h
        exact ⟨_, hx0, mP_of m'⟩
      · cases h
        exact ⟨_, hx1, .int _⟩
      · cases h
      · cases h
      · simp [R] at h
    -- the turn is counted
    refine (show tSeq (sDPut (tVar 0) (tC (.str "turn")) (tOp (rAddU K) dT (tC (.int 1)))) _ _ σ0 H from ?_)
    refine cm_op (cm_turn (cm_var (i := 0) rfl)) (cm_int (i := 1)) co_add σ0 H _ e0 fun y H1 s1 r1 => ?_
    have ey := Rp.int_inv r1
    subst ey
    have m1 := m.same s1
    obtain ⟨x0, hx0, rx0⟩ := (e0.same s1).at_ 0 _ rfl
    obtain ⟨ex0, _⟩ := rx0 H1 (Same.refl _)
    subst ex0
    refine ⟨_, hx0, a, _, rfl, m_put m1 (k' := dM c g (t + 1) s') rfl, ?_⟩
    have m2 := m1.set (t + 1) s'
    have e2 := back (e0.same s1) m2
    have k2 : Keep H (upd H1 a (.dK (dM c g (t + 1) s'))) := (Keep.of s1).trans (Keep.put fun ys z => by rw [m1.hm] at z; cases z)
    have b2 : But a g H (upd H1 a (.dK (dM c g (t + 1) s'))) := fun b o na _ ho => by rw [upd_ne na]; exact s1 _ _ ho
    generalize upd H1 a (.dK (dM c g (t + 1) s')) = H2 at m2 e2 k2 b2 ⊢
    generalize t + 1 = t1 at m2 e2 ⊢
    -- the noughts go
    refine (show tSeq (tWhile _ _) _ _ σ0 H2 from ⟨fun μ σ' H' => ∃ g' gs', μ = gs'.length ∧ MRaw a c g' cs gs' t1 s' H' ∧ EnvOk K (R g' gs' t1 s') σ' H' ∧ Keep H H' ∧ But a g H H' ∧ (g' = g ∨ H g' = none) ∧ ∃ o, H' g = some o, ⟨_, g, gs, rfl, m2, e2, k2, b2, .inl rfl, _, m2.hg⟩, ?_⟩)
    rintro μ σ3 H3 ⟨g3, gs3, rfl, m3, e3, k3, b3, f3, og, hog⟩
    have shN : ∀ d ∈ gs3.map NestedKey.num, Sh 8 d := fun d hd => by obtain ⟨i, _, rfl⟩ := List.mem_map.mp hd; exact .num
    have mkC : CmT K (tTest (tOp (rNeD K) dG (tLst tNil))) (R g3 gs3 t1 s') (!decide (gs3.map NestedKey.num = [])) := ct_test (cm_op (cm_great (cm_var rfl)) (cm_lstD cad_nil (by simp)) (co_neL shN shs_nil))
    have sz : (1000 : Nat) < sizeLine := by decide
    -- behind the loop
    have rest : ∀ {g3 : Addr} {gs3 : List Int} {σ3 : St} {H3 : Hp}, (gs3.map NestedKey.num = [] ∨ gs3.map NestedKey.num ≠ []) → MRaw a c g3 cs gs3 t1 s' H3 → EnvOk K (R g3 gs3 t1 s') σ3 H3 → Keep H H3 → But a g H H3 → (g3 = g ∨ H g3 = none) →
        tSeq (tIfS (tTest (tOp (rNeD K) dG (tLst tNil)))
          (tSeq (tAsg (tTup (tCons (tOp (rI (fun _ j => j ≠ 0) fun i j => .int (i.fmod j)) (tCB rInt1 (tCons (tOp (rIx K) dG (tC (.int 0))) tNil)) (tVar 1)) (tCons (tOp (rI CDivN fun i j => .int (i.fdiv j)) (tCB rInt1 (tCons (tOp (rIx K) dG (tC (.int 0))) tNil)) (tVar 1)) tNil))) (gTup K 2 (gCons (gName 2) (gCons (gSub dG (tC (.int 0)) rSetL) gNil)))) (tRet (tVar 2))) tNext)
          (tSeq (tAsg (tOp (rIx K) (tDGet (tVar 0) (tC (.str "cells"))) (tOp (rI (fun _ j => j ≠ 0) fun i j => .int (i.fmod j)) (tCB rInt1 (tCons dT tNil)) (tCB (rLen K) (tCons (tDGet (tVar 0) (tC (.str "cells"))) tNil)))) (gName 3))
            (tSeq (sDPut (tVar 0) (tC (.str "sum")) (tOp (rI (fun _ j => j ≠ 0) fun i j => .int (i.fmod j)) (tCB rInt1 (tCons (tOp (rAddU K) (tOp (rAddU K) (tOp (rI CMul fun i j => .int (i * j)) (tDGet (tVar 0) (tC (.str "sum"))) (tC (.int 75364))) (tOp (rI (fun _ j => j ≠ 0) fun i j => .int (i.fmod j)) (tCB rInt1 (tCons (tVar 3) tNil)) (tC (.int 2147483587)))) (tOp (rI CMul fun i j => .int (i * j)) (tC (.int 977)) dT)) tNil)) (tC (.int 4294967291))))
              (tRet (tOp (rI (fun _ j => j ≠ 0) fun i j => .int (i.fmod j)) (tOp (rI CDivN fun i j => .int (i.fdiv j)) (tOp (rI (fun _ j => j ≠ 0) fun i j => .int (i.fmod j)) (tCB rInt1 (tCons (tOp (rAddU K) (tOp (rI CMul fun i j => .int (i * j)) (tDGet (tVar 0) (tC (.str "sum"))) (tC (.int 40692))) dT) tNil)) (tC (.int 4294967279))) (tC (.int 128))) (tVar 1)))))
          { nx := fun _ H' => Q .non H', rt := Q } σ3 H3 := by
      intro g3 gs3 σ3 H3 _ m3 e3 k3 b3 f3
      have shN : ∀ d ∈ gs3.map NestedKey.num, Sh 8 d := fun d hd => by obtain ⟨i, _, rfl⟩ := List.mem_map.mp hd; exact .num
      have mkC : CmT K (tTest (tOp (rNeD K) dG (tLst tNil))) (R g3 gs3 t1 s') (!decide (gs3.map NestedKey.num = [])) := ct_test (cm_op (cm_great (cm_var rfl)) (cm_lstD cad_nil (by simp)) (co_neL shN shs_nil))
      refine mkC σ3 H3 _ e3 fun H4 s4 => ?_
      have m4 := m3.same s4
      have e4 := e3.same s4
      have k4 := k3.trans (Keep.of s4)
      have b4 : But a g H H4 := fun b o h1 h2 h3 => s4 _ _ (b3 b o h1 h2 h3)
      cases gs3 with
      | cons i gs4 =>
        refine iteT ?_
        have at0 : atI ((i :: gs4).map NestedKey.num) (0 : Int) = some (.num i) := atI_zero
        have i0 : Cm K (tCB rInt1 (tCons (tOp (rIx K) dG (tC (.int 0))) tNil)) (R g3 (i :: gs4) t1 s') (.d (.num i)) := cm_cb (ca_cons (cm_op (cm_great (cm_var rfl)) cm_int (co_ixL at0)) ca_nil) cc_intI
        have nz : (n : Int) ≠ 0 := by omega
        have mkT : Cm K (tTup (tCons (tOp (rI (fun _ j => j ≠ 0) fun i j => .int (i.fmod j)) (tCB rInt1 (tCons (tOp (rIx K) dG (tC (.int 0))) tNil)) (tVar 1)) (tCons (tOp (rI CDivN fun i j => .int (i.fdiv j)) (tCB rInt1 (tCons (tOp (rIx K) dG (tC (.int 0))) tNil)) (tVar 1)) tNil)))
            (R g3 (i :: gs4) t1 s') (.d (.tup [.num (i.fmod n), .num (i.fdiv n)])) := cm_tupD (cad_cons (cm_op i0 (cm_var rfl) (co_mod nz)) (cad_cons (cm_op i0 (cm_var rfl) (co_iC (by exact ⟨nz, by omega⟩) fun _ => .int _)) cad_nil)) (by simp)
        refine seq_asg (mkT σ3 H4 _ e4 fun z H5 s5 r5 => ?_)
        obtain ⟨za, zs, rfl, zt, zr⟩ := Rp.tup_inv r5
        obtain ⟨k, hk, ek⟩ := fmod_nat (i := i) hn
        rw [ek] at zr
        cases zr with
        | cons z1 zr => cases zr with
          | cons z2 zr =>
            cases zr
            have y1 := Rp.int_inv z1
            have y2 := Rp.int_inv z2
            subst y1 y2
            have m5 := m4.same s5
            obtain ⟨x0, hx0, rx0⟩ := (e4.same s5).at_ 0 _ rfl
            obtain ⟨ex0, _⟩ := rx0 H5 (Same.refl _)
            subst ex0
            have l3 : σ3.length = 4 := by rw [← e3.len]; rfl
            have hx0' : (σ3.set 2 (some (V.int (k : Int))))[0]? = some (some (V.ref a)) := by rw [List.getElem?_set_ne (by decide)]; exact hx0
            refine ⟨za, _, rfl, zt.sq, rfl, _, _, rfl, _, _, rfl, _, hx0', a, .ref g3, rfl, DGet.k (k := .inr "great") m5.hm, g3, _, 0, 0, rfl, rfl, m5.hg, ?_, ?_⟩
            · simp [ixN]
            · refine ⟨rfl, ?_⟩
              refine (show ∃ x, _ = some (some x) ∧ _ from ⟨V.int (k : Int), List.getElem?_set_self (by rw [l3]; decide), ?_⟩)
              have k5 : Keep H5 (upd H5 g3 (.lst (((i :: gs4).map V.int).set 0 (V.int (i.fdiv n))))) := Keep.put fun ys z => by rw [m5.hg] at z; cases z
              refine q k g3 _ hk ((k4.trans (Keep.of s5)).trans k5) (fun b o h1 h2 h3 => ?_) f3 ⟨c, cs, i.fdiv n :: gs4, t1, s', by rw [upd_ne (Ne.symm m5.ne.2)]; exact m5.hm, by rw [upd_ne m5.cg]; exact m5.hc, by rw [upd_same]; rfl, m5.cg, m5.ce⟩
              have hb : b ≠ g3 := by
                rcases f3 with z | z
                · rw [z]; exact h2
                · exact ne_of_none h3 z
              rw [upd_ne hb]
              exact s5 _ _ (b4 b o h1 h2 h3)
      | nil =>
        refine iteF ?_
        have lc : 0 < cs.length := List.length_pos_iff.mpr m3.ce
        have lz : ((cs.map NestedKey.num).length : Int) ≠ 0 := by rw [List.length_map]; omega
        obtain ⟨j, hj, ej⟩ := fmod_nat (i := t1) (n := (cs.map NestedKey.num).length) (by rw [List.length_map]; exact lc)
        have hj' : j < cs.length := by rwa [List.length_map] at hj
        have mkL : Cm K (tOp (rIx K) (tDGet (tVar 0) (tC (.str "cells"))) (tOp (rI (fun _ j => j ≠ 0) fun i j => .int (i.fmod j)) (tCB rInt1 (tCons dT tNil)) (tCB (rLen K) (tCons (tDGet (tVar 0) (tC (.str "cells"))) tNil)))) (R g3 [] t1 s') (.d (.num cs[j])) := by
          refine cm_op (b := .d (.num (j : Nat))) (cm_cells (cm_var rfl)) (cm_is (cm_op (cm_cb (ca_cons (cm_turn (cm_var rfl)) ca_nil) cc_intI) (cm_cb (ca_cons (cm_cells (cm_var rfl)) ca_nil) cc_lenL) (co_mod lz)) ?_) (co_ixL (atI_nat (by simp [hj'])))
          rw [ej]
        refine (show tSeq _ _ _ σ3 H4 from seq_asg (mkL σ3 H4 _ e4 fun y5 H5 s5 r5 => ?_))
        have e5 := (e4.same s5).set (i := 3) r5
        have m5 := m4.same s5
        have c1 : CMul s' 75364 := .inr ⟨by decide, by decide⟩
        have c2 : CMul 977 t1 := .inl ⟨by decide, by decide⟩
        have mkS : ∃ s2 : Int, Cm K (tOp (rI (fun _ j => j ≠ 0) fun i j => .int (i.fmod j)) (tCB rInt1 (tCons (tOp (rAddU K) (tOp (rAddU K) (tOp (rI CMul fun i j => .int (i * j)) (tDGet (tVar 0) (tC (.str "sum"))) (tC (.int 75364))) (tOp (rI (fun _ j => j ≠ 0) fun i j => .int (i.fmod j)) (tCB rInt1 (tCons (tVar 3) tNil)) (tC (.int 2147483587)))) (tOp (rI CMul fun i j => .int (i * j)) (tC (.int 977)) dT)) tNil)) (tC (.int 4294967291)))
            ((R g3 [] t1 s').set 3 (some (.d (.num cs[j])))) (.d (.num s2)) :=
          ⟨_, cm_op (cm_cb (ca_cons (cm_op (cm_op (cm_op (cm_sum (cm_var rfl)) cm_int (co_mul c1)) (cm_op (cm_cb (ca_cons (cm_var rfl) ca_nil) cc_intI) cm_int (co_mod (by decide))) co_add) (cm_op cm_int (cm_turn (cm_var rfl)) (co_mul c2)) co_add) ca_nil) cc_intI) cm_int (co_mod (by decide))⟩
        obtain ⟨s2, mkS⟩ := mkS
        refine mkS _ H5 _ e5 fun y6 H6 s6 r6 => ?_
        have ey6 := Rp.int_inv r6
        subst ey6
        have m6 := m5.same s6
        have e6 := e5.same s6
        obtain ⟨x0, hx0, rx0⟩ := e6.at_ 0 _ rfl
        obtain ⟨ex0, _⟩ := rx0 H6 (Same.refl _)
        subst ex0
        refine ⟨_, hx0, a, _, rfl, m_put m6 (k' := dM c g3 t1 s2) rfl, ?_⟩
        have m7 := m6.set t1 s2
        have e7 := back e6 m7
        have k7 : Keep H (upd H6 a (.dK (dM c g3 t1 s2))) := (k4.trans (Keep.of (s5.trans s6))).trans (Keep.put fun ys z => by rw [m6.hm] at z; cases z)
        have b7 : But a g H (upd H6 a (.dK (dM c g3 t1 s2))) := fun b o h1 h2 h3 => by rw [upd_ne h1]; exact s6 _ _ (s5 _ _ (b4 b o h1 h2 h3))
        generalize upd H6 a (HO.dK (dM c g3 t1 s2)) = H7 at m7 e7 k7 b7 ⊢
        have c3 : CMul s2 40692 := .inr ⟨by decide, by decide⟩
        have nz : (n : Int) ≠ 0 := by omega
        have mkR : ∃ k : Nat, k < n ∧ Cm K (tOp (rI (fun _ j => j ≠ 0) fun i j => .int (i.fmod j)) (tOp (rI CDivN fun i j => .int (i.fdiv j)) (tOp (rI (fun _ j => j ≠ 0) fun i j => .int (i.fmod j)) (tCB rInt1 (tCons (tOp (rAddU K) (tOp (rI CMul fun i j => .int (i * j)) (tDGet (tVar 0) (tC (.str "sum"))) (tC (.int 40692))) dT) tNil)) (tC (.int 4294967279))) (tC (.int 128))) (tVar 1)) (R g3 [] t1 s2) (.d (.num (k : Nat))) := by
          have := cm_op (K := K) (r := R g3 [] t1 s2) (cm_op (cm_op (cm_cb (ca_cons (cm_op (cm_op (cm_sum (cm_var (i := 0) rfl)) (cm_int (i := 40692)) (co_mul c3)) (cm_turn (cm_var (i := 0) rfl)) co_add) ca_nil) cc_intI) (cm_int (i := 4294967279)) (co_mod (by decide))) (cm_int (i := 128)) (co_iC (f := fun i j => .int (i.fdiv j)) (C := CDivN) (w := .d (.num _)) ⟨by decide, by decide⟩ fun _ => .int _)) (cm_var (i := 1) rfl) (co_mod nz)
          obtain ⟨k, hk, ek⟩ := fmod_nat (i := ((s2 * 40692 + t1).fmod 4294967279).fdiv 128) hn
          rw [ek] at this
          exact ⟨k, hk, this⟩
        obtain ⟨k, hk, mkR⟩ := mkR
        refine mkR _ H7 _ e7 fun y8 H8 s8 r8 => ?_
        have ey8 := Rp.int_inv r8
        subst ey8
        exact q k g3 H8 hk (k7.trans (Keep.of s8)) (fun b o h1 h2 h3 => s8 _ _ (b7 b o h1 h2 h3)) f3 ⟨c, cs, [], t1, s2, m7.same s8⟩
    -- the loop's turns
    refine mkC σ3 H3 _ e3 fun H4 s4 => ?_
    have m4 := m3.same s4
    have e4 := e3.same s4
    have k4 := k3.trans (Keep.of s4)
    have b4 : But a g H H4 := fun b o h1 h2 h3 => s4 _ _ (b3 b o h1 h2 h3)
    cases gs3 with
    | nil => exact iteF (iteF (rest (.inl rfl) m4 e4 k4 b4 f3))
    | cons i gs4 =>
      refine iteT ?_
      have mkZ : CmT K (tTest (tOp (rEqD K) (tOp (rIx K) dG (tC (.int 0))) (tC (.int 0)))) (R g3 (i :: gs4) t1 s') (decide ((.num i : NestedKey) = .num 0)) := ct_test (cm_op (cm_op (cm_great (cm_var rfl)) cm_int (co_ixL atI_zero)) cm_int (co_eq .num .num))
      refine mkZ σ3 H4 _ e4 fun H5 s5 => ?_
      have m5 := m4.same s5
      have e5 := e4.same s5
      have k5 := k4.trans (Keep.of s5)
      have b5 : But a g H H5 := fun b o h1 h2 h3 => s5 _ _ (b4 b o h1 h2 h3)
      by_cases hi : (.num i : NestedKey) = .num 0
      · rw [decide_eq_true hi]
        refine iteT ⟨fun σ' H' => ∃ g' gs', gs'.length < (i :: gs4).length ∧ MRaw a c g' cs gs' t1 s' H' ∧ EnvOk K (R g' gs' t1 s') σ' H' ∧ Keep H H' ∧ But a g H H' ∧ (g' = g ∨ H g' = none) ∧ ∃ o, H' g = some o, fun σ' H' ⟨g', gs', h0, h1⟩ => ⟨_, h0, g', gs', rfl, h1⟩, ?_⟩
        obtain ⟨x0, hx0, rx0⟩ := e5.at_ 0 _ rfl
        obtain ⟨ex0, _⟩ := rx0 H5 (Same.refl _)
        subst ex0
        have hg := DGet.k (k := .inr "great") m5.hm
        refine (show sDPut (tVar 0) (tC (.str "great")) (tSl (rSlL K) dG (tPart (tC (.int 1))) tNoPart) _ σ3 H5 from ?_)
        refine ⟨_, hx0, a, .ref g3, rfl, hg, 1, rfl, g3, _, rfl, .of m5.hg, fun p hp => ?_⟩
        rw [cutV_drop]
        have sp := Same.new (o := .lst (((i :: gs4).map V.int).drop 1)) hp
        have m6 := m5.same sp
        have gp : c ≠ p := ne_of_none m5.hc hp
        have ap : p ≠ a := Ne.symm (ne_of_none m5.hm hp)
        refine ⟨_, hx0, a, _, rfl, m_put m6 (k' := dM c p t1 s') rfl, ?_⟩
        have m7 : MRaw a c p cs gs4 t1 s' (upd (upd H5 p (.lst (((i :: gs4).map V.int).drop 1))) a (.dK (dM c p t1 s'))) := ⟨upd_same, by rw [upd_ne m6.ne.1]; exact m6.hc, by rw [upd_ne ap, upd_same]; rfl, gp, m6.ce⟩
        refine ⟨p, gs4, by simp, m7, back e5 m7, (k5.trans (Keep.of sp)).trans (Keep.put fun ys z => by rw [m6.hm] at z; cases z), fun b o h1 h2 h3 => ?_, .inr ?_, ?_⟩
        · rw [upd_ne h1]
          exact sp _ _ (b5 b o h1 h2 h3)
        · cases z : H p with
          | none => rfl
          | some o =>
            by_cases hpg : p = g
            · exact absurd (s5 _ _ (s4 _ _ hog)) (by rw [← hpg, hp]; simp)
            · exact absurd (b5 p o ap hpg z) (by rw [hp]; simp)
        · by_cases ga : g = a
          · exact ⟨_, by rw [ga]; exact upd_same⟩
          · exact ⟨og, by rw [upd_ne ga]; exact sp _ _ (s5 _ _ (s4 _ _ hog))⟩
      · rw [decide_eq_false hi]
        exact iteF (rest (.inr (by simp)) m5 e5 k5 b5 f3)
end
end NW
/-! the law's draws: languages, streams -/
namespace NW
open PySem PySem.Spec PyProof.Rows L2 StX NM
local macro_rules | `(tactic| walk_at "my") => `(tactic| fail)
local macro_rules | `(tactic| walk_at "mycm") => `(tactic| fail)
local macro_rules | `(tactic| walk_at "myco") => `(tactic| fail)
local macro_rules | `(tactic| walk_at "mycc") => `(tactic| fail)
local macro_rules | `(tactic| walk_at "sh") => `(tactic| first | assumption | exact sh_n | exact Sh.num | exact Sh.non | exact sh_role | exact Sh.text (by decide +kernel) | exact sh_ns | exact sh_s | exact sh_m | exact sh_o | exact sh_h | exact sh_t | exact sh_ss | exact sh_ms | exact sh_head | exact sh_L | exact sh_nil | (apply sh_cons <;> walk_at "sh"))
local macro_rules | `(tactic| walk_at "shs") => `(tactic| first | assumption | exact shs_nil | (apply shs_cons; walk_at "sh"; walk_at "shs"))
local macro_rules | `(tactic| walk_at "co") => `(tactic| first
  | ((with_reducible apply co_ixTe); exact rfl; exact rfl)
  | ((with_reducible exact co_ixDl))
  | ((with_reducible apply co_ixL); exact rfl)
  | (with_reducible exact co_lt) | (with_reducible exact co_le) | (with_reducible exact co_gt) | (with_reducible exact co_ge) | (with_reducible exact co_sub)
  | (with_reducible exact co_isN) | (with_reducible exact co_isNotN)
  | ((with_reducible apply co_eq) <;> walk_at "sh") | ((with_reducible apply co_ne) <;> walk_at "sh")
  | (with_reducible exact co_add)
  | ((with_reducible apply co_inTe); exact rfl; walk_at "sh"; walk_at "shs")
  | walk_at "myco")
local macro_rules | `(tactic| walk_at "cc") => `(tactic| first
  | ((with_reducible apply cc_lenTe); exact rfl) | (with_reducible exact cc_lenL) | (with_reducible exact cc_all) | (with_reducible exact cc_any) | (with_reducible exact cc_tuple) | (with_reducible exact cc_intI)
  | (with_reducible exact cc_intB) | (with_reducible exact cc_min2) | (with_reducible exact cc_listT)
  | ((with_reducible apply cc_isi); first | exact isi_int rfl | exact isi_bool | exact isi_tuple rfl | exact isi_str rfl)
  | walk_at "mycc")
local macro_rules | `(tactic| walk_at "ca") => `(tactic| first
  | (with_reducible exact ca_nil)
  | ((with_reducible apply ca_cons); walk_at "cm"; walk_at "ca"))
local macro_rules | `(tactic| walk_at "cad") => `(tactic| first
  | (with_reducible exact cad_nil)
  | ((with_reducible apply cad_cons); walk_at "cm"; walk_at "cad")
  | ((with_reducible apply cad_starE); walk_at "cm"; exact rfl; walk_at "cad"))
local macro_rules | `(tactic| walk_at "cm") => `(tactic| first
  | ((with_reducible apply cm_var); exact rfl)
  | (with_reducible exact cm_int) | (with_reducible exact cm_str) | (with_reducible exact cm_non) | (with_reducible exact cm_bl)
  | ((with_reducible apply cm_op); walk_at "cm"; walk_at "cm"; walk_at "co")
  | ((with_reducible apply cm_tupD); walk_at "cad"; walk_at "size")
  | ((with_reducible apply cm_neg); walk_at "cm")
  | ((with_reducible apply cm_call); walk_at "ca"; walk_at "my")
  | walk_at "mycm"
  | ((with_reducible apply cm_cb); walk_at "ca"; walk_at "cc")
  | ((with_reducible apply cm_chain); walk_at "cm"; walk_at "cm"; walk_at "co"; (intro _; walk_at "cm"); walk_at "co")
  | ((with_reducible apply cm_andVF); walk_at "cm"; walk_at "dec0")
  | ((with_reducible apply cm_orVT); walk_at "cm"; walk_at "dec0")
  | ((with_reducible apply cm_ifT); walk_at "ct"; walk_at "dec"; walk_at "cm")
  | ((with_reducible apply cm_ifF); walk_at "ct"; walk_at "dec"; walk_at "cm")
  | ((with_reducible apply cm_andV); walk_at "cm"; (intro _; walk_at "cm"))
  | ((with_reducible apply cm_orV); walk_at "cm"; (intro _; walk_at "cm"))
  | ((with_reducible apply cm_notV); walk_at "cm")
  | (with_reducible exact cm_val))
local macro_rules | `(tactic| walk_at "ct") => `(tactic| first
  | ((with_reducible apply ct_test); walk_at "cm") | ((with_reducible apply ct_B); walk_at "cm") | ((with_reducible apply ct_not); walk_at "ct")
  | ((with_reducible apply ct_andF); walk_at "ct"; walk_at "dec0")
  | ((with_reducible apply ct_orT); walk_at "ct"; walk_at "dec0")
  | ((with_reducible apply ct_and); walk_at "ct"; (intro _; walk_at "ct"))
  | ((with_reducible apply ct_or); walk_at "ct"; (intro _; walk_at "ct")))
local macro_rules | `(tactic| walk_at "size") => `(tactic| focus first | assumption | (simp; done) | (simp; omega) | omega)
local macro_rules | `(tactic| walk_at "dec0") => `(tactic| focus first | rfl | (simp [eHead, eL, eSs, eMs, eS, eM, eT, eN, eNs, eH, eO, rN]; done))
local macro_rules | `(tactic| walk_at "dec") => `(tactic| focus first | rfl | (simp [eHead, eL, eSs, eMs, eS, eM, eT, eN, eNs, eH, eO, rN]; done) | (simp [eHead, eL, eSs, eMs, eS, eM, eT, eN, eNs, eH, eO, rN]; omega) | (simp [eHead, eL, eSs, eMs, eS, eM, eT, eN, eNs, eH, eO, rN, *]; done))
local macro_rules | `(tactic| walk_at "skip") => `(tactic| ((with_reducible apply bs_skip); walk_at "ct"; walk_at "dec"))
local macro_rules | `(tactic| walk_at "take") => `(tactic| (refine bs_seqR ?_; (with_reducible apply bs_ifT); walk_at "ct"; walk_at "dec"))
local macro_rules | `(tactic| walk_at "ret") => `(tactic| (refine bs_ret ?_; (with_reducible apply cm_is); walk_at "cm"))
local macro_rules | `(tactic| walk_at "set") => `(tactic| ((with_reducible apply bs_setS); walk_at "cm"))
local macro_rules | `(tactic| walk_at "drop") => `(tactic| ((with_reducible apply bs_dropS); walk_at "cm"))
local macro_rules | `(tactic| walk_at "norm") => `(tactic| skip)
local macro_rules | `(tactic| walk_at "less") => `(tactic| first | exact less_nil | (apply less_some; walk_at "less") | (apply less_none; walk_at "less"))
local macro_rules | `(tactic| walk_at "flat") => `(tactic| first | exact flat_nil | (refine flat_cons ?_ ?_; (first | exact trivial | exact rfl); walk_at "flat"))
local macro_rules | `(tactic| walk_at "stay") => `(tactic| first | exact stay_nil | (refine stay_cons ?_ ?_; (first | exact stay_none | exact stay_d | exact stay_b | exact stay_v | exact stay_old (by assumption)); walk_at "stay"))
section
variable {P : Program} {w : World} {K : Fg} {mg : Str → Option Value} {base : Heap}

/-! ### what a draw changes -/
structure Ef (a g : Addr) (H : Hp) (g' : Addr) (H' : Hp) : Prop where
  kp : Keep H H'
  bt : But a g H H'
  nw : g' = g ∨ H g' = none
  mt : MAt a g' H'
theorem MAt.same {a g : Addr} {H H' : Hp} (s : Same H H') (m : MAt a g H) : MAt a g H' := let ⟨c, cs, gs, t, s', m⟩ := m; ⟨c, cs, gs, t, s', m.same s⟩
theorem MAt.at {a g : Addr} {H : Hp} (m : MAt a g H) : (∃ o, H a = some o) ∧ ∃ o, H g = some o := let ⟨_, _, _, _, _, m⟩ := m; ⟨⟨_, m.hm⟩, _, m.hg⟩
theorem Ef.refl {a g : Addr} {H : Hp} (m : MAt a g H) : Ef a g H g H := ⟨Keep.refl _, fun _ _ _ _ h => h, .inl rfl, m⟩
theorem Ef.same {a g : Addr} {H H' : Hp} (m : MAt a g H) (s : Same H H') : Ef a g H g H' := ⟨Keep.of s, fun b o _ _ h => s _ _ h, .inl rfl, m.same s⟩
theorem Ef.trans {a g g1 g2 : Addr} {H H1 H2 : Hp} (e1 : Ef a g H g1 H1) (e2 : Ef a g1 H1 g2 H2) : Ef a g H g2 H2 := by
  refine ⟨e1.kp.trans e2.kp, fun b o h1 h2 h3 => ?_, ?_, e2.mt⟩
  · have hb : b ≠ g1 := by
      rcases e1.nw with z | z
      · rw [z]; exact h2
      · exact ne_of_none h3 z
    exact e2.bt b o h1 hb (e1.bt b o h1 h2 h3)
  · rcases e2.nw with z | z
    · rw [z]; exact e1.nw
    · by_cases hg : g2 = g
      · exact .inl hg
      · refine .inr ?_
        cases hz : H g2 with
        | none => rfl
        | some o =>
          have ha : g2 ≠ a := fun q => by
            obtain ⟨⟨o', ho⟩, _⟩ := e1.mt.at
            rw [q, ho] at z
            cases z
          have := e1.bt g2 o ha hg hz
          rw [z] at this
          cases this
/-- a thing of one's own stays -/
theorem Ef.own {a g g' l : Addr} {H H' : Hp} (e : Ef a g H g' H') {o : HO} (h : H l = some o) (h1 : l ≠ a) (h2 : l ≠ g) : H' l = some o ∧ l ≠ g' := ⟨e.bt l o h1 h2 h, by
  rcases e.nw with z | z
  · rw [z]; exact h2
  · exact ne_of_none h z⟩
def FlatV : W → Prop
  | .d _ => True
  | .b _ => True
  | .v _ => True
  | _ => False
def FlatR (r : Sl) : Prop := ∀ w, some w ∈ r → FlatV w
theorem EnvOk.keepV {K : Fg} {r : Sl} {σ : St} {H H' : Hp} (f : FlatR r) (k : Keep H H') (e : EnvOk K r σ H) : EnvOk K r σ H' := ⟨e.len, fun i w h => by
  obtain ⟨x, h1, h2⟩ := e.at_ i w h
  refine ⟨x, h1, ?_⟩
  have hf := f w (List.mem_of_getElem? h)
  cases w with
  | d d => exact Rp.keep k d x h2
  | b c => exact h2
  | v y => exact h2
  | l _ => exact hf.elim
  | lb _ => exact hf.elim
  | dl _ _ => exact hf.elim
  | ll _ _ => exact hf.elim
  | p _ => exact hf.elim⟩
/-- an expression that draws: the datum it gives is one of P -/
def CmX (K : Fg) (a : Addr) (t : TE) (r : Sl) (P : D → Prop) : Prop := ∀ σ H g Q, EnvOk K r σ H → MAt a g H → (∀ y H' g' d, P d → Ef a g H g' H' → EnvOk K r σ H' → Rp K H' y d → Q y H') → t σ H Q
def CaX (K : Fg) (a : Addr) (t : TA) (r : Sl) (P : List D → Prop) : Prop := ∀ σ H g Q, EnvOk K r σ H → MAt a g H → (∀ ys H' g' ds, P ds → Ef a g H g' H' → EnvOk K r σ H' → RpA K H' ys ds → Q ys H') → t σ H Q
section
variable {a : Addr} {r : Sl} {te tb : TE} {ta : TA} {P P1 P2 : D → Prop}
theorem cx_cm {d : D} (h : Cm K te r (.d d)) : CmX K a te r (· = d) := fun σ H g Q e m q => h σ H _ e fun y H' s r => q y H' g d rfl (Ef.same m s) (e.same s) r
theorem cx_mono (h : CmX K a te r P1) (hp : ∀ d, P1 d → P d) : CmX K a te r P := fun σ H g Q e m q => h σ H g _ e m fun y H' g' d hd => q y H' g' d (hp d hd)
theorem cx_next {i : Nat} {n : Nat} (hi : r[i]? = some (some (.v (.ref a)))) (hn : Cm K te r (.d (eN n))) (fl : FlatR r) (h0 : 0 < n) (h1 : n < 100000) : CmX K a (tCall spNext [] C8.E0 (tCons (tVar i) (tCons te tNil))) r (fun d => ∃ k : Nat, k < n ∧ d = eN k) := fun σ H g Q e m q => by
  obtain ⟨x, hx, ex⟩ := e.at_ i _ hi
  have ex' : x = .ref a := ex
  subst ex'
  refine ⟨_, hx, hn σ H _ e fun y H1 s1 r1 => ?_⟩
  have ey := Rp.int_inv r1
  subst ey
  exact ⟨a, g, n, rfl, h0, h1, m.same s1, fun k g' H' hk kp bt nw mt => q _ H' g' (eN k) ⟨k, hk, rfl⟩ ((Ef.same m s1).trans ⟨kp, bt, nw, mt⟩) ((e.same s1).keepV fl kp) (.int _)⟩
theorem cx_op {f : R2} (h1 : CmX K a te r P1) (h2 : CmX K a tb r P2) (hf : ∀ d1 d2, P1 d1 → P2 d2 → ∃ d, P d ∧ CmO K f (.d d1) (.d d2) (.d d)) : CmX K a (tOp f te tb) r P := fun σ H g Q e m q =>
  h1 σ H g _ e m fun y1 H1 g1 d1 p1 e1 env1 r1 => h2 σ H1 g1 _ env1 e1.mt fun y2 H2 g2 d2 p2 e2 env2 r2 => by
    obtain ⟨d, pd, ho⟩ := hf d1 d2 p1 p2
    exact ho y1 y2 H2 Q (Rp.keep e2.kp _ _ r1) r2 fun z H3 s3 r3 => q z H3 g2 d pd ((e1.trans e2).trans (Ef.same e2.mt s3)) (env2.same s3) r3
/-- a new list, then a place in it that is drawn -/
theorem cx_ixN {ks : List D} (h1 : CmN K te r ks) (h2 : CmX K a tb r P2) (hf : ∀ d, P2 d → ∃ k : Nat, d = eN k ∧ ∃ u, ks[k]? = some u ∧ P u) : CmX K a (tOp (rIx K) te tb) r P := fun σ H g Q e m q =>
  h1 σ H _ e fun p H1 xs s1 fp hp rp => h2 σ H1 g _ (e.same s1) (m.same s1) fun y2 H2 g2 d2 p2 e2 env2 r2 => by
    obtain ⟨k, rfl, u, hu, pu⟩ := hf d2 p2
    obtain ⟨⟨oa, ha⟩, og, hg⟩ := m.at
    have hp2 := (e2.own hp (fun z => by rw [z, ha] at fp; cases fp) (fun z => by rw [z, hg] at fp; cases fp)).1
    exact co_ixL (K := K) (atI_nat hu) (.ref p) y2 H2 Q ⟨p, xs, rfl, hp2, RpA.keep e2.kp _ _ rp⟩ r2 fun z H3 s3 r3 => q z H3 g2 u pu (((Ef.same m s1).trans e2).trans (Ef.same e2.mt s3)) (env2.same s3) r3
theorem cax_nil : CaX K a tNil r (· = []) := fun σ H g Q e m q => q [] H g [] rfl (Ef.refl m) e .nil
theorem cax_cons {Ps : List D → Prop} (h1 : CmX K a te r P1) (h2 : CaX K a ta r Ps) : CaX K a (tCons te ta) r (fun ds => ∃ d es, ds = d :: es ∧ P1 d ∧ Ps es) := fun σ H g Q e m q =>
  h1 σ H g _ e m fun y1 H1 g1 d1 p1 e1 env1 r1 => h2 σ H1 g1 _ env1 e1.mt fun ys H2 g2 es p2 e2 env2 r2 => q _ H2 g2 (d1 :: es) ⟨d1, es, rfl, p1, p2⟩ (e1.trans e2) env2 (.cons (Rp.keep e2.kp _ _ r1) r2)
theorem cx_tup {Ps : List D → Prop} (h : CaX K a ta r Ps) (hl : ∀ ds, Ps ds → ds.length ≤ 1000) (hp : ∀ ds, Ps ds → P (.tup ds)) : CmX K a (tTup ta) r P := fun σ H g Q e m q => h σ H g _ e m fun ys H1 g1 ds pd e1 env1 r1 => by
  refine ⟨by rw [r1.length]; exact Nat.le_trans (hl ds pd) (by decide), fun p hp' => ?_⟩
  have s := Same.new (o := .tup ys) hp'
  exact q _ _ g1 (.tup ds) (hp ds pd) (e1.trans (Ef.same e1.mt s)) (env1.same s) (.tup (.inl upd_same) (RpA.keep (Keep.of s) _ _ r1))
end
local macro_rules | `(tactic| walk_at "fl") => `(tactic| (intro w hw; simp only [List.mem_cons, Option.some.injEq, List.mem_nil_iff, reduceCtorEq, or_false, false_or] at hw; rcases hw with rfl | rfl | rfl | rfl | rfl | rfl | rfl <;> trivial))
end
end NW
/-! the law's draws: one of some, languages -/
namespace NW
open PySem PySem.Spec PyProof.Rows L2 StX NM
local macro_rules | `(tactic| walk_at "my") => `(tactic| fail)
local macro_rules | `(tactic| walk_at "mycm") => `(tactic| fail)
local macro_rules | `(tactic| walk_at "myco") => `(tactic| fail)
local macro_rules | `(tactic| walk_at "mycc") => `(tactic| fail)
local macro_rules | `(tactic| walk_at "sh") => `(tactic| first | assumption | exact sh_n | exact Sh.num | exact Sh.non | exact sh_role | exact Sh.text (by decide +kernel) | exact sh_ns | exact sh_s | exact sh_m | exact sh_o | exact sh_h | exact sh_t | exact sh_ss | exact sh_ms | exact sh_head | exact sh_L | exact sh_nil | (apply sh_cons <;> walk_at "sh"))
local macro_rules | `(tactic| walk_at "shs") => `(tactic| first | assumption | exact shs_nil | (apply shs_cons; walk_at "sh"; walk_at "shs"))
local macro_rules | `(tactic| walk_at "co") => `(tactic| first
  | ((with_reducible apply co_ixTe); exact rfl; exact rfl)
  | ((with_reducible exact co_ixDl))
  | ((with_reducible apply co_ixL); exact rfl)
  | (with_reducible exact co_lt) | (with_reducible exact co_le) | (with_reducible exact co_gt) | (with_reducible exact co_ge) | (with_reducible exact co_sub)
  | (with_reducible exact co_isN) | (with_reducible exact co_isNotN)
  | ((with_reducible apply co_eq) <;> walk_at "sh") | ((with_reducible apply co_ne) <;> walk_at "sh")
  | (with_reducible exact co_add)
  | ((with_reducible apply co_inTe); exact rfl; walk_at "sh"; walk_at "shs")
  | walk_at "myco")
local macro_rules | `(tactic| walk_at "cc") => `(tactic| first
  | ((with_reducible apply cc_lenTe); exact rfl) | (with_reducible exact cc_lenL) | (with_reducible exact cc_all) | (with_reducible exact cc_any) | (with_reducible exact cc_tuple) | (with_reducible exact cc_intI)
  | (with_reducible exact cc_intB) | (with_reducible exact cc_min2) | (with_reducible exact cc_listT)
  | ((with_reducible apply cc_isi); first | exact isi_int rfl | exact isi_bool | exact isi_tuple rfl | exact isi_str rfl)
  | walk_at "mycc")
local macro_rules | `(tactic| walk_at "ca") => `(tactic| first
  | (with_reducible exact ca_nil)
  | ((with_reducible apply ca_cons); walk_at "cm"; walk_at "ca"))
local macro_rules | `(tactic| walk_at "cad") => `(tactic| first
  | (with_reducible exact cad_nil)
  | ((with_reducible apply cad_cons); walk_at "cm"; walk_at "cad")
  | ((with_reducible apply cad_starE); walk_at "cm"; exact rfl; walk_at "cad"))
local macro_rules | `(tactic| walk_at "cm") => `(tactic| first
  | ((with_reducible apply cm_var); exact rfl)
  | (with_reducible exact cm_int) | (with_reducible exact cm_str) | (with_reducible exact cm_non) | (with_reducible exact cm_bl)
  | ((with_reducible apply cm_op); walk_at "cm"; walk_at "cm"; walk_at "co")
  | ((with_reducible apply cm_tupD); walk_at "cad"; walk_at "size")
  | ((with_reducible apply cm_neg); walk_at "cm")
  | ((with_reducible apply cm_call); walk_at "ca"; walk_at "my")
  | walk_at "mycm"
  | ((with_reducible apply cm_cb); walk_at "ca"; walk_at "cc")
  | ((with_reducible apply cm_chain); walk_at "cm"; walk_at "cm"; walk_at "co"; (intro _; walk_at "cm"); walk_at "co")
  | ((with_reducible apply cm_andVF); walk_at "cm"; walk_at "dec0")
  | ((with_reducible apply cm_orVT); walk_at "cm"; walk_at "dec0")
  | ((with_reducible apply cm_ifT); walk_at "ct"; walk_at "dec"; walk_at "cm")
  | ((with_reducible apply cm_ifF); walk_at "ct"; walk_at "dec"; walk_at "cm")
  | ((with_reducible apply cm_andV); walk_at "cm"; (intro _; walk_at "cm"))
  | ((with_reducible apply cm_orV); walk_at "cm"; (intro _; walk_at "cm"))
  | ((with_reducible apply cm_notV); walk_at "cm")
  | (with_reducible exact cm_val))
local macro_rules | `(tactic| walk_at "ct") => `(tactic| first
  | ((with_reducible apply ct_test); walk_at "cm") | ((with_reducible apply ct_B); walk_at "cm") | ((with_reducible apply ct_not); walk_at "ct")
  | ((with_reducible apply ct_andF); walk_at "ct"; walk_at "dec0")
  | ((with_reducible apply ct_orT); walk_at "ct"; walk_at "dec0")
  | ((with_reducible apply ct_and); walk_at "ct"; (intro _; walk_at "ct"))
  | ((with_reducible apply ct_or); walk_at "ct"; (intro _; walk_at "ct")))
local macro_rules | `(tactic| walk_at "size") => `(tactic| focus first | assumption | (simp; done) | (simp; omega) | omega)
local macro_rules | `(tactic| walk_at "dec0") => `(tactic| focus first | rfl | (simp [eHead, eL, eSs, eMs, eS, eM, eT, eN, eNs, eH, eO, rN]; done))
local macro_rules | `(tactic| walk_at "dec") => `(tactic| focus first | rfl | (simp [eHead, eL, eSs, eMs, eS, eM, eT, eN, eNs, eH, eO, rN]; done) | (simp [eHead, eL, eSs, eMs, eS, eM, eT, eN, eNs, eH, eO, rN]; omega) | (simp [eHead, eL, eSs, eMs, eS, eM, eT, eN, eNs, eH, eO, rN, *]; done))
local macro_rules | `(tactic| walk_at "skip") => `(tactic| ((with_reducible apply bs_skip); walk_at "ct"; walk_at "dec"))
local macro_rules | `(tactic| walk_at "take") => `(tactic| (refine bs_seqR ?_; (with_reducible apply bs_ifT); walk_at "ct"; walk_at "dec"))
local macro_rules | `(tactic| walk_at "ret") => `(tactic| (refine bs_ret ?_; (with_reducible apply cm_is); walk_at "cm"))
local macro_rules | `(tactic| walk_at "set") => `(tactic| ((with_reducible apply bs_setS); walk_at "cm"))
local macro_rules | `(tactic| walk_at "drop") => `(tactic| ((with_reducible apply bs_dropS); walk_at "cm"))
local macro_rules | `(tactic| walk_at "norm") => `(tactic| skip)
local macro_rules | `(tactic| walk_at "less") => `(tactic| first | exact less_nil | (apply less_some; walk_at "less") | (apply less_none; walk_at "less"))
local macro_rules | `(tactic| walk_at "flat") => `(tactic| first | exact flat_nil | (refine flat_cons ?_ ?_; (first | exact trivial | exact rfl); walk_at "flat"))
local macro_rules | `(tactic| walk_at "stay") => `(tactic| first | exact stay_nil | (refine stay_cons ?_ ?_; (first | exact stay_none | exact stay_d | exact stay_b | exact stay_v | exact stay_old (by assumption)); walk_at "stay"))
section
variable {P : Program} {w : World} {K : Fg} {mg : Str → Option Value} {base : Heap}

theorem seq_lst0 {i : Nat} {u : TS} {D : Ends} {σ : St} {H : Hp} (h : ∀ p, H p = none → u D (σ.set i (some (.ref p))) (upd H p (.lst []))) : tSeq (tAsg (tLst tNil) (gName i)) u D σ H := ⟨(by decide : 0 ≤ sizeLine), h⟩
theorem flatR_nil : FlatR [] := fun _ h => by cases h
theorem flatR_none {r : Sl} (h : FlatR r) : FlatR (none :: r) := fun w hw => by
  rcases List.mem_cons.mp hw with z | z
  · cases z
  · exact h w z
theorem flatR_some {w : W} {r : Sl} (f : FlatV w) (h : FlatR r) : FlatR (some w :: r) := fun u hu => by
  rcases List.mem_cons.mp hu with z | z
  · cases z; exact f
  · exact h u z
local macro_rules | `(tactic| walk_at "fl") => `(tactic| first | exact flatR_nil | (refine flatR_none ?_; walk_at "fl") | (refine flatR_some trivial ?_; walk_at "fl"))
theorem MAt.put {a g l : Addr} {H : Hp} {xs ys : List V} (m : MAt a g H) (hl : H l = some (.lst xs)) (hx : ∀ cs : List Int, cs ≠ [] → xs ≠ cs.map V.int) (la : l ≠ a) (lg : l ≠ g) : MAt a g (upd H l (.lst ys)) := by
  obtain ⟨c, cs, gs, t, s, r⟩ := m
  have lc : c ≠ l := fun z => by
    subst z
    have h := r.hc
    rw [hl] at h
    cases h
    exact hx cs r.ce rfl
  exact ⟨c, cs, gs, t, s, by rw [upd_ne (Ne.symm la)]; exact r.hm, by rw [upd_ne lc]; exact r.hc, by rw [upd_ne (Ne.symm lg)]; exact r.hg, r.cg, r.ce⟩
theorem Ef.put {a g l g' : Addr} {H H' : Hp} {xs ys : List V} (e : Ef a g H g' H') (hl : H l = none) (hc : H' l = some (.lst xs)) (hx : ∀ cs : List Int, cs ≠ [] → xs ≠ cs.map V.int) (la : l ≠ a) (lg : l ≠ g') : Ef a g H g' (upd H' l (.lst ys)) :=
  ⟨e.kp.trans (Keep.put fun ys z => by rw [hc] at z; cases z), fun b o h1 h2 h3 => by rw [upd_ne (ne_of_none h3 hl)]; exact e.bt b o h1 h2 h3, e.nw, e.mt.put hc hx la lg⟩
theorem not_ints {xs : List V} {H : Hp} {ds : List (List D)} (h : RpA K H xs (ds.map NestedKey.tup)) : ∀ cs : List Int, cs ≠ [] → xs ≠ cs.map V.int := fun cs hc z => by
  subst z
  cases cs with
  | nil => exact hc rfl
  | cons c cs =>
    cases ds with
    | nil => cases h
    | cons d ds =>
      cases h with
      | cons h1 h2 =>
        obtain ⟨p, xs, e, _⟩ := Rp.tup_inv h1
        cases e
theorem seq_name {i : Nat} {te : TE} {u : TS} {D : Ends} {σ : St} {H : Hp} (h : te σ H fun x H1 => u D (σ.set i (some x)) H1) : tSeq (tAsg te (gName i)) u D σ H := h
theorem seq_rng {ta : TA} {g : TG} {tb u : TS} {D : Ends} {σ : St} {H : Hp} (h : ta σ H fun vs H1 => ∃ j : Int, vs = [.int j] ∧ -(2 ^ 62) ≤ j ∧ j < 2 ^ 62 ∧ ∃ W : Nat → Nat → St → Hp → Prop, (∃ m, W 0 m σ H1) ∧ ∀ i m σ H, W i m σ H →
    ((Itr 0 j.toNat).stop i H ∧ u D σ H) ∨ ((Itr 0 j.toNat).go i H ∧ ∃ N : St → Hp → Prop, (∀ σ' H', N σ' H' → ∃ m', m' < m ∧ W (i + 1) m' σ' H') ∧ ∀ x H', (Itr 0 j.toNat).yld i H x H' → g x σ H' fun σ2 H2 => tb { D with nx := N, ct := N, bk := fun σ' H' => u D σ' H' } σ2 H2)) :
    tSeq (tFor (iRng1 ta) g tb) u D σ H := h
/-! ### _law_of -/
abbrev s_law_of : Stmt := top 84
abbrev N_law_of : List Str := ["_law_m", "_law_some"]
theorem sc_law_of : FnScope N_law_of ["_law_m", "_law_some"] (defScope s_law_of) := ⟨rfl, rfl, rfl, by decide +kernel, rfl, by decide +kernel, by decide +kernel⟩
def spOf (K : Fg) : Sp := fun vs H Q _ => ∃ a g p xs ds, vs = [.ref a, .ref p] ∧ MAt a g H ∧ H p = some (.lst xs) ∧ RpA K H xs ds ∧ 0 < ds.length ∧ ds.length < 100000 ∧ p ≠ a ∧ p ≠ g ∧ ∀ d y H' g', d ∈ ds → Ef a g H g' H' → Rp K H' y d → Q y H'
theorem ok_of (T : Txt K mg) (A : DefAt K mg "_law_of" "_law_of" s_law_of ["_law_m", "_law_some"]) (C_law_next : C8.Cal P w K mg base 1 "_law_next" spNext []) : C8.Cal P w K mg base 2 "_law_of" (spOf K) [] := by
  obtain ⟨f, fd, F, b, hm⟩ := A.ex
  refine ⟨f, fd, ["_law_m", "_law_some"], [], F.ok sc_law_of (fun vs H Q E h => ?_) (fun cdv A outer s H vs Q E hr h => ?_), hm, F.kp, b, .nil⟩
  · obtain ⟨a, g, p, xs, ds, rfl, _⟩ := h; rfl
  · obtain ⟨a, g, p, xs, ds, rfl, m, hp, rp, l0, l1, pa, pg, q⟩ := h
    refine ⟨_, (pss_one (ps_ret (pe_ix (ixK K rfl) (pv 1) (C8.pe_c C_law_next hr (by decide) rfl (pa_cons (pv 0) (pa_cons (pe_callB (lenK K rfl) rfl T.b_len bo_len (pa_cons (pv 1) pa_nil)) pa_nil))) (fun _ _ => rfl)))), ?_⟩
    let R : Sl := [some (.v (.ref a)), some (.v (.ref p))]
    have e0 : EnvOk K R (start N_law_of [.ref a, .ref p]) H := env_start (N := N_law_of) (ws := [.v (.ref a), .v (.ref p)]) (.cons rfl (.cons rfl .nil))
    refine (show ∃ x, _ = some (some x) ∧ _ from ⟨.ref p, rfl, .ref a, rfl, .ref p, rfl, .ref p, ds.length, rfl, .inl ⟨xs, .of hp, by rw [rp.length]⟩, ?_⟩)
    refine ⟨a, g, ds.length, rfl, l0, l1, m, fun k g' H' hk kp bt nw mt => ?_⟩
    have ef : Ef a g H g' H' := ⟨kp, bt, nw, mt⟩
    have hp' := (ef.own hp pa pg).1
    exact co_ixL (K := K) (d := ds[k]) (atI_nat (by simp [hk])) (.ref p) (.int k) H' Q ⟨p, xs, rfl, hp', RpA.keep kp _ _ rp⟩ (.int _) fun z H3 s3 r3 => q ds[k] z H3 g' (List.getElem_mem hk) (ef.trans (Ef.same mt s3)) r3
/-! ### _law_tongue -/
abbrev s_law_tongue : Stmt := top 85
abbrev N_law_tongue : List Str := ["_law_m", "_law_total", "_law_notes", "_law_rows", "_law_k", "_law_role", "_law_low"]
theorem sc_law_tongue : FnScope N_law_tongue ["_law_m", "_law_total", "_law_notes"] (defScope s_law_tongue) := ⟨rfl, rfl, rfl, by decide +kernel, rfl, by decide +kernel, by decide +kernel⟩
def spTongue (K : Fg) : Sp := fun vs H Q _ => ∃ a g, vs = [.ref a, .int 3, .int 3] ∧ MAt a g H ∧ ∀ L y H' g', Good L → L.heads.length ≤ 3 → L.notes ≤ 3 → Ef a g H g' H' → Rp K H' y (eL L) → Q y H'
def okRow (p : Role × Nat) : Prop := p.2 ≤ 2 ∧ (p.1 = .on ∨ p.1 = .off → 1 ≤ p.2)
def lowN : Role → Nat
  | .on => 1
  | .off => 1
  | _ => 0
theorem ok_tongue (T : Txt K mg) (A : DefAt K mg "_law_tongue" "_law_tongue" s_law_tongue ["_law_m", "_law_total", "_law_notes"]) (C_law_next : C8.Cal P w K mg base 1 "_law_next" spNext []) : C8.Cal P w K mg base 2 "_law_tongue" (spTongue K) [] := by
  obtain ⟨f, fd, F, b, hm⟩ := A.ex
  refine ⟨f, fd, ["_law_m", "_law_total", "_law_notes"], [], F.ok sc_law_tongue (fun vs H Q E h => ?_) (fun cdv A outer s H vs Q E hr h => ?_), hm, F.kp, b, .nil⟩
  · obtain ⟨a, g, rfl, _⟩ := h; rfl
  · obtain ⟨a, g, rfl, m, q⟩ := h
    refine ⟨_, (pss_cons (ps_set (i := 3) sc_law_tongue.nd rfl (by first | exact Or.inl rfl | exact Or.inr rfl) (pe_lst pa_nil)) (pss_cons (ps_for PassesOwn.never rfl (pi_range1 rfl T.b_range (pa_cons (pe_op (addK K rfl) pe_int (C8.pe_c C_law_next hr (by decide) rfl (pa_cons (pv 0) (pa_cons (pv 1) pa_nil)))) pa_nil)) (pg_name (i := 4) sc_law_tongue.nd rfl (by first | exact Or.inl rfl | exact Or.inr rfl)) (pss_cons (ps_set (i := 5) sc_law_tongue.nd rfl (by first | exact Or.inl rfl | exact Or.inr rfl) (pe_ix (ixK K rfl) (pe_lst (pa_cons pe_str (pa_cons pe_str (pa_cons pe_str (pa_cons pe_str pa_nil))))) (C8.pe_c C_law_next hr (by decide) rfl (pa_cons (pv 0) (pa_cons pe_int pa_nil))) (fun _ _ => rfl))) (pss_cons (ps_set (i := 6) sc_law_tongue.nd rfl (by first | exact Or.inl rfl | exact Or.inr rfl) (pe_ifExp (pt_cmpR (inK K rfl hr) (pv 5) (pe_tup (pa_cons pe_str (pa_cons pe_str pa_nil))) rfl) pe_int pe_int)) (pss_one (ps_expr (bmK K rfl (pe_bm PySem.F.plainAttrs_list PySem.F.slot_list_append PySem.F.type_list_append mt_append (pv 3) (pa_cons (pe_tup (pa_cons (pv 5) (pa_cons (pe_op (addK K rfl) (pv 6) (C8.pe_c C_law_next hr (by decide) rfl (pa_cons (pv 0) (pa_cons (pe_op op_sub pe_int (pv 6)) pa_nil)))) pa_nil))) pa_nil)))))))) (pss_one (ps_ret (pe_tup (pa_cons (pe_callTy (tupleK K rfl) rfl T.b_tuple bo_tuple (pa_cons (pv 3) pa_nil)) (pa_cons (pe_op (addK K rfl) pe_int (C8.pe_c C_law_next hr (by decide) rfl (pa_cons (pv 0) (pa_cons (pv 2) pa_nil)))) (pa_cons (C8.pe_c C_law_next hr (by decide) rfl (pa_cons (pv 0) (pa_cons pe_int pa_nil))) pa_nil)))))))), ?_⟩
    refine seq_lst0 fun l hl => ?_
    have sn := Same.new (o := .lst []) hl
    let R : Addr → Sl := fun l => [some (.v (.ref a)), some (.d (eN 3)), some (.d (eN 3)), some (.v (.ref l)), none, none, none]
    have e0 : EnvOk K (R l) ((start N_law_tongue [.ref a, .int 3, .int 3]).set 3 (some (.ref l))) (upd H l (.lst [])) := ((env_start (N := N_law_tongue) (ws := [.v (.ref a), .d (eN 3), .d (eN 3)]) (.cons rfl (.cons (.int _) (.cons (.int _) .nil)))).same sn).set (i := 3) (w := .v (.ref l)) rfl
    obtain ⟨⟨oa, ha⟩, og, hg⟩ := m.at
    have la : l ≠ a := fun z => by rw [z, ha] at hl; cases hl
    have lg : l ≠ g := fun z => by rw [z, hg] at hl; cases hl
    have flR : FlatR (R l) := by walk_at "fl"
    have ef0 := Ef.same m sn
    -- how many heads
    have mkN : CaX K a (tCons (tOp (rAddU K) (tC (.int 1)) (tCall spNext [] C8.E0 (tCons (tVar 0) (tCons (tVar 1) tNil)))) tNil) (R l) (fun ds => ∃ n : Nat, 1 ≤ n ∧ n ≤ 3 ∧ ds = [eN n]) := by
      have h1 := cx_op (K := K) (a := a) (r := R l) (f := rAddU K) (P := fun d => ∃ n : Nat, 1 ≤ n ∧ n ≤ 3 ∧ d = eN n) (cx_cm (cm_int (i := 1))) (cx_next (i := 0) (n := 3) rfl (cm_var (i := 1) rfl) flR (by decide) (by decide)) fun d1 d2 h1 h2 => by
        obtain ⟨k, hk, rfl⟩ := h2
        subst h1
        refine ⟨.num (1 + (k : Int)), ⟨1 + k, by omega, by omega, ?_⟩, co_add⟩
        exact congrArg NestedKey.num (by omega)
      intro σ H g Q e m q
      refine cax_cons h1 cax_nil σ H g Q e m fun ys H' g' ds ⟨d, es, e1, ⟨n, h1, h2, e2⟩, e3⟩ => ?_
      subst e1 e2 e3
      exact q ys H' g' _ ⟨n, h1, h2, rfl⟩
    let NX : TE → TE := fun te => tCall spNext [] C8.E0 (tCons (tVar 0) (tCons te tNil))
    have loop : (∀ n : Nat, 1 ≤ n → n ≤ 3 → True) := fun _ _ _ => trivial
    let Inv : Nat → St → Hp → Prop := fun i σ H' => ∃ g' rows xs, Ef a g H g' H' ∧ EnvOk K (R l) σ H' ∧ H' l = some (.lst xs) ∧ RpA K H' xs ((rows : List (Role × Nat)).map eHead) ∧ l ≠ g' ∧ rows.length = i ∧ ∀ p ∈ rows, okRow p
    refine seq_rng (mkN _ _ g _ e0 ef0.mt fun ys H1 g1 ds ⟨n, n1, n3, eds⟩ ef1 e1 r1 => ?_)
    subst eds
    cases r1 with
    | cons r1 r1' =>
      cases r1'
      have ez := Rp.int_inv r1
      subst ez
      refine ⟨n, rfl, by omega, by omega, ?_⟩
      have lg1 := (ef1.own upd_same la lg)
      refine for_it (D := { nx := _, rt := Q }) walk_range Inv ⟨g1, [], [], ef0.trans ef1, e1, lg1.1, .nil, lg1.2, rfl, by simp⟩ (fun _ _ _ _ _ => trivial) ?_ ?_
      · rintro i x σ1 Hx H2 hi ⟨g2, rows, xs, ef, e, hx, rx, lg2, len, okr⟩ ⟨rfl, rfl⟩
        have shR : ∀ ro : Role, Sh 8 (.text (rN ro)) := fun ro => .text (by cases ro <;> decide +kernel)
        have mkR : ∀ r : Sl, FlatR r → r[0]? = some (some (.v (.ref a))) → CmX K a (tOp (rIx K) (tLst (tCons (tC (.str "on")) (tCons (tC (.str "off")) (tCons (tC (.str "quiet")) (tCons (tC (.str "other")) tNil))))) (NX (tC (.int 4)))) r (fun d => ∃ ro : Role, d = .text (rN ro)) := fun r fl h0 =>
          cx_ixN (ks := [.text "on", .text "off", .text "quiet", .text "other"]) (cn_lst (cad_cons cm_str (cad_cons cm_str (cad_cons cm_str (cad_cons cm_str cad_nil)))) (by simp)) (cx_next (i := 0) (n := 4) h0 (cm_int (i := 4)) fl (by decide) (by decide)) fun d ⟨k, hk, ed⟩ => by
            refine ⟨k, ed, ?_⟩
            rcases k with _ | _ | _ | _ | k
            · exact ⟨_, rfl, .on, rfl⟩
            · exact ⟨_, rfl, .off, rfl⟩
            · exact ⟨_, rfl, .quiet, rfl⟩
            · exact ⟨_, rfl, .other, rfl⟩
            · omega
        let R4 : Sl := [some (.v (.ref a)), some (.d (eN 3)), some (.d (eN 3)), some (.v (.ref l)), some (.d (.num (0 + (i : Int)))), none, none]
        have fl4 : FlatR R4 := by walk_at "fl"
        have e4 : EnvOk K R4 (σ1.set 4 (some (.int (0 + (i : Int))))) H2 := e.set (i := 4) (w := .d (.num (0 + (i : Int)))) (.int _)
        show tSeq _ _ _ (σ1.set 4 (some (.int (0 + (i : Int))))) H2
        generalize σ1.set 4 (some (.int (0 + (i : Int)))) = σ2 at e4 ⊢
        refine seq_name (mkR R4 fl4 rfl _ _ g2 _ e4 ef.mt fun y H3 g3 d ⟨ro, ed⟩ ef3 e5 r3 => ?_)
        subst ed
        have own3 := ef3.own hx la lg2
        let R5 : Sl := [some (.v (.ref a)), some (.d (eN 3)), some (.d (eN 3)), some (.v (.ref l)), some (.d (.num (0 + (i : Int)))), some (.d (.text (rN ro))), none]
        have e6 : EnvOk K R5 (σ2.set 5 (some y)) H3 := e5.set (i := 5) (w := .d (.text (rN ro))) r3
        generalize σ2.set 5 (some y) = σ3 at e6 ⊢
        have mkL : Cm K (tIf (tTest (tOp (rInU K) (tVar 5) (tTup (tCons (tC (.str "on")) (tCons (tC (.str "off")) tNil))))) (tC (.int 1)) (tC (.int 0))) R5 (.d (eN (lowN ro))) := by
          have ct : CmT K (tTest (tOp (rInU K) (tVar 5) (tTup (tCons (tC (.str "on")) (tCons (tC (.str "off")) tNil))))) R5 (decide (NestedKey.text (rN ro) ∈ [NestedKey.text "on", NestedKey.text "off"])) :=
            ct_test (cm_op (cm_var (i := 5) rfl) (cm_tupD (cad_cons cm_str (cad_cons cm_str cad_nil)) (by simp)) (co_inT (shR ro) fun d hd => by
              simp only [List.mem_cons, List.mem_nil_iff, or_false] at hd
              rcases hd with rfl | rfl
              · exact shR .on
              · exact shR .off))
          cases ro with
          | on => exact cm_ifT ct (by decide) cm_int
          | off => exact cm_ifT ct (by decide) cm_int
          | quiet => exact cm_ifF ct (by decide) cm_int
          | other => exact cm_ifF ct (by decide) cm_int
        refine seq_name (mkL _ _ _ e6 fun y2 H4 s4 r4 => ?_)
        let R6 : Sl := [some (.v (.ref a)), some (.d (eN 3)), some (.d (eN 3)), some (.v (.ref l)), some (.d (.num (0 + (i : Int)))), some (.d (.text (rN ro))), some (.d (eN (lowN ro)))]
        have fl6 : FlatR R6 := by walk_at "fl"
        have e7 : EnvOk K R6 (σ3.set 6 (some y2)) H4 := (e6.same s4).set (i := 6) (w := .d (eN (lowN ro))) r4
        generalize σ3.set 6 (some y2) = σ4 at e7 ⊢
        have lo1 : lowN ro ≤ 1 := by cases ro <;> decide
        have lo2 : ro = .on ∨ ro = .off → 1 ≤ lowN ro := by cases ro <;> decide
        have mkT : CmX K a (tTup (tCons (tVar 5) (tCons (tOp (rAddU K) (tVar 6) (NX (tOp (rI0 fun i j => .int (i - j)) (tC (.int 3)) (tVar 6)))) tNil))) R6 (fun d => ∃ k : Nat, d = eHead (ro, k) ∧ okRow (ro, k)) := by
          refine cx_tup (cax_cons (cx_cm (cm_var (i := 5) (w := .d (.text (rN ro))) rfl)) (cax_cons (cx_op (P := fun d => ∃ k : Nat, d = eN k ∧ okRow (ro, k)) (cx_cm (cm_var (i := 6) (w := .d (eN (lowN ro))) rfl)) (cx_next (i := 0) (n := 3 - lowN ro) rfl ?_ fl6 (by omega) (by omega)) ?_) cax_nil)) ?_ ?_
          · have := cm_op (K := K) (r := R6) (cm_int (i := 3)) (cm_var (i := 6) (w := .d (eN (lowN ro))) rfl) (co_sub (i := 3) (j := (lowN ro : Int)))
            have ee : (NestedKey.num (3 - (lowN ro : Int))) = eN (3 - lowN ro) := congrArg NestedKey.num (by omega)
            rw [ee] at this
            exact this
          · rintro d1 d2 rfl ⟨k, hk, rfl⟩
            exact ⟨.num ((lowN ro : Int) + (k : Int)), ⟨lowN ro + k, congrArg NestedKey.num (by omega), (by show lowN ro + k ≤ 2; omega), fun z => by have := lo2 z; show 1 ≤ lowN ro + k; omega⟩, co_add⟩
          · rintro ds ⟨d, es, rfl, _, d', es', rfl, _, rfl⟩
            simp
          · rintro ds ⟨d, es, rfl, rfl, d', es', rfl, ⟨k, rfl, hk⟩, rfl⟩
            exact ⟨k, rfl, hk⟩
        have hx4 := s4 _ _ own3.1
        have mt4 := ef3.mt.same s4
        obtain ⟨x3, hx3, ex3⟩ := e7.at_ 3 _ rfl
        have ex3' : x3 = .ref l := ex3
        subst ex3'
        refine (show ∃ x, _ = some (some x) ∧ _ from ⟨.ref l, hx3, .inl ⟨rfl, _, .of hx4⟩, ?_⟩)
        refine mkT _ _ g3 _ e7 mt4 fun y3 H5 g5 d ⟨k, ed, hk⟩ ef5 e8 r5 => ?_
        subst ed
        have own5 := ef5.own hx4 la own3.2
        refine ⟨l, xs, y3, rfl, rfl, own5.1, ?_, ?_⟩
        · rw [rx.length, List.length_map, len]
          exact Nat.lt_of_lt_of_le (show i < 1000 by simp at hi; omega) (by decide)
        have kk : Keep H2 H5 := (ef3.kp.trans (Keep.of s4)).trans ef5.kp
        have rx5 := RpA.keep kk _ _ rx
        have eff : Ef a g H g5 H5 := (ef.trans ef3).trans ((Ef.same ef3.mt s4).trans ef5)
        have ni := not_ints (K := K) (H := H2) (ds := rows.map fun p => [NestedKey.text (rN p.1), eN p.2]) (xs := xs) (by rw [List.map_map]; exact rx)
        have kq : Keep H5 (upd H5 l (.lst (xs ++ [y3]))) := Keep.put fun ys z => by rw [own5.1] at z; cases z
        refine ⟨g5, rows ++ [(ro, k)], xs ++ [y3], eff.put hl own5.1 ni la own5.2, ?_, upd_same, ?_, own5.2, by simp [len], ?_⟩
        · exact EnvOk.less (r := R6) ⟨rfl, fun i w h => by rcases i with _ | _ | _ | _ | _ | _ | _ | i <;> first | exact h | cases h | simp [R] at h⟩ (e8.keepV fl6 kq)
        · rw [List.map_append]
          exact RpA.append (RpA.keep kq _ _ rx5) (.cons (Rp.keep kq _ _ r5) .nil)
        · intro p hp
          rcases List.mem_append.mp hp with z | z
          · exact okr p z
          · cases List.mem_singleton.mp z
            exact hk
      · rintro σ1 H2 ⟨g2, rows, xs, ef, e, hx, rx, lg2, len, okr⟩
        have eL : EnvOk K [some (.v (.ref a)), some (.d (eN 3)), some (.d (eN 3)), some (.l (rows.map eHead)), none, none, none] σ1 H2 := by
          refine ⟨e.len, fun i w h => ?_⟩
          rcases i with _ | _ | _ | _ | _ | _ | _ | i
          · exact e.at_ 0 w h
          · exact e.at_ 1 w h
          · exact e.at_ 2 w h
          · obtain ⟨x, h1, h2⟩ := e.at_ 3 _ rfl
            have h2' : x = .ref l := h2
            subst h2'
            cases h
            exact ⟨_, h1, l, xs, rfl, hx, rx⟩
          all_goals first | cases h | simp at h
        have mk1 : Cm K (tCB (rTupOf K) (tCons (tVar 3) tNil)) [some (.v (.ref a)), some (.d (eN 3)), some (.d (eN 3)), some (.l (rows.map eHead)), none, none, none] (.d (.tup (rows.map eHead))) := cm_cb (ca_cons (cm_var (i := 3) rfl) ca_nil) cc_tuple
        have mk2 : CaX K a (tCons (tOp (rAddU K) (tC (.int 1)) (NX (tVar 2))) (tCons (NX (tC (.int 3))) tNil)) (R l) (fun ds => ∃ n m : Nat, 1 ≤ n ∧ n ≤ 3 ∧ m ≤ 2 ∧ ds = [eN n, eN m]) := by
          intro σ H g Q e m q
          refine cax_cons (P1 := fun d => ∃ n : Nat, 1 ≤ n ∧ n ≤ 3 ∧ d = eN n) (cx_op (cx_cm (cm_int (i := 1))) (cx_next (i := 0) (n := 3) rfl (cm_var (i := 2) rfl) flR (by decide) (by decide)) ?_) (cax_cons (cx_next (i := 0) (n := 3) rfl (cm_int (i := 3)) flR (by decide) (by decide)) cax_nil) σ H g Q e m ?_
          · rintro d1 d2 rfl ⟨k, hk, rfl⟩
            exact ⟨.num (1 + (k : Int)), ⟨1 + k, by omega, by omega, congrArg NestedKey.num (by omega)⟩, co_add⟩
          · rintro ys H' g' ds ⟨d, es, rfl, ⟨n, h1, h2, rfl⟩, d', es', rfl, ⟨k, hk, rfl⟩, rfl⟩
            exact q ys H' g' _ ⟨n, k, h1, h2, by omega, rfl⟩
        refine tup_cons (mk1 σ1 H2 _ eL fun y1 H3 s3 r3 => ?_)
        refine mk2 σ1 H3 g2 _ (e.same s3) (ef.mt.same s3) fun ys H4 g4 ds ⟨nn, mm, a1, a2, a3, eds⟩ ef4 e4 r4 => ?_
        subst eds
        have ll := r4.length
        refine ⟨by simp only [List.length_cons]; rw [ll]; exact (by decide : 3 ≤ sizeLine), fun p hp => ?_⟩
        have sp := Same.new (o := .tup (y1 :: ys)) hp
        have ef5 : Ef a g H g4 H4 := ef.trans ((Ef.same ef.mt s3).trans ef4)
        refine q ⟨rows, nn, mm⟩ _ _ g4 ⟨by show 1 ≤ rows.length; omega, by show rows.length ≤ 4; omega, fun p hp => okr p hp, a1, by show nn ≤ 4; omega, a3⟩ (by show rows.length ≤ 3; omega) a2 (ef5.trans (Ef.same ef5.mt sp)) ?_
        exact .tup (.inl upd_same) (RpA.keep (Keep.of sp) _ _ (.cons (Rp.keep ef4.kp _ _ r3) r4))
end
end NW
/-! the law's draws: streams -/
namespace NW
open PySem PySem.Spec PyProof.Rows L2 StX NM
local macro_rules | `(tactic| walk_at "my") => `(tactic| fail)
local macro_rules | `(tactic| walk_at "mycm") => `(tactic| fail)
local macro_rules | `(tactic| walk_at "myco") => `(tactic| fail)
local macro_rules | `(tactic| walk_at "mycc") => `(tactic| fail)
local macro_rules | `(tactic| walk_at "sh") => `(tactic| first | assumption | exact sh_n | exact Sh.num | exact Sh.non | exact sh_role | exact Sh.text (by decide +kernel) | exact sh_ns | exact sh_s | exact sh_m | exact sh_o | exact sh_h | exact sh_t | exact sh_ss | exact sh_ms | exact sh_head | exact sh_L | exact sh_nil | (apply sh_cons <;> walk_at "sh"))
local macro_rules | `(tactic| walk_at "shs") => `(tactic| first | assumption | exact shs_nil | (apply shs_cons; walk_at "sh"; walk_at "shs"))
local macro_rules | `(tactic| walk_at "co") => `(tactic| first
  | ((with_reducible apply co_ixTe); exact rfl; exact rfl)
  | ((with_reducible exact co_ixDl))
  | ((with_reducible apply co_ixL); exact rfl)
  | (with_reducible exact co_lt) | (with_reducible exact co_le) | (with_reducible exact co_gt) | (with_reducible exact co_ge) | (with_reducible exact co_sub)
  | (with_reducible exact co_isN) | (with_reducible exact co_isNotN)
  | ((with_reducible apply co_eq) <;> walk_at "sh") | ((with_reducible apply co_ne) <;> walk_at "sh")
  | (with_reducible exact co_add)
  | ((with_reducible apply co_inTe); exact rfl; walk_at "sh"; walk_at "shs")
  | walk_at "myco")
local macro_rules | `(tactic| walk_at "cc") => `(tactic| first
  | ((with_reducible apply cc_lenTe); exact rfl) | (with_reducible exact cc_lenL) | (with_reducible exact cc_all) | (with_reducible exact cc_any) | (with_reducible exact cc_tuple) | (with_reducible exact cc_intI)
  | (with_reducible exact cc_intB) | (with_reducible exact cc_min2) | (with_reducible exact cc_listT)
  | ((with_reducible apply cc_isi); first | exact isi_int rfl | exact isi_bool | exact isi_tuple rfl | exact isi_str rfl)
  | walk_at "mycc")
local macro_rules | `(tactic| walk_at "ca") => `(tactic| first
  | (with_reducible exact ca_nil)
  | ((with_reducible apply ca_cons); walk_at "cm"; walk_at "ca"))
local macro_rules | `(tactic| walk_at "cad") => `(tactic| first
  | (with_reducible exact cad_nil)
  | ((with_reducible apply cad_cons); walk_at "cm"; walk_at "cad")
  | ((with_reducible apply cad_starE); walk_at "cm"; exact rfl; walk_at "cad"))
local macro_rules | `(tactic| walk_at "cm") => `(tactic| first
  | ((with_reducible apply cm_var); exact rfl)
  | (with_reducible exact cm_int) | (with_reducible exact cm_str) | (with_reducible exact cm_non) | (with_reducible exact cm_bl)
  | ((with_reducible apply cm_op); walk_at "cm"; walk_at "cm"; walk_at "co")
  | ((with_reducible apply cm_tupD); walk_at "cad"; walk_at "size")
  | ((with_reducible apply cm_neg); walk_at "cm")
  | ((with_reducible apply cm_call); walk_at "ca"; walk_at "my")
  | walk_at "mycm"
  | ((with_reducible apply cm_cb); walk_at "ca"; walk_at "cc")
  | ((with_reducible apply cm_chain); walk_at "cm"; walk_at "cm"; walk_at "co"; (intro _; walk_at "cm"); walk_at "co")
  | ((with_reducible apply cm_andVF); walk_at "cm"; walk_at "dec0")
  | ((with_reducible apply cm_orVT); walk_at "cm"; walk_at "dec0")
  | ((with_reducible apply cm_ifT); walk_at "ct"; walk_at "dec"; walk_at "cm")
  | ((with_reducible apply cm_ifF); walk_at "ct"; walk_at "dec"; walk_at "cm")
  | ((with_reducible apply cm_andV); walk_at "cm"; (intro _; walk_at "cm"))
  | ((with_reducible apply cm_orV); walk_at "cm"; (intro _; walk_at "cm"))
  | ((with_reducible apply cm_notV); walk_at "cm")
  | (with_reducible exact cm_val))
local macro_rules | `(tactic| walk_at "ct") => `(tactic| first
  | ((with_reducible apply ct_test); walk_at "cm") | ((with_reducible apply ct_B); walk_at "cm") | ((with_reducible apply ct_not); walk_at "ct")
  | ((with_reducible apply ct_andF); walk_at "ct"; walk_at "dec0")
  | ((with_reducible apply ct_orT); walk_at "ct"; walk_at "dec0")
  | ((with_reducible apply ct_and); walk_at "ct"; (intro _; walk_at "ct"))
  | ((with_reducible apply ct_or); walk_at "ct"; (intro _; walk_at "ct")))
local macro_rules | `(tactic| walk_at "size") => `(tactic| focus first | assumption | (simp; done) | (simp; omega) | omega)
local macro_rules | `(tactic| walk_at "dec0") => `(tactic| focus first | rfl | (simp [eHead, eL, eSs, eMs, eS, eM, eT, eN, eNs, eH, eO, rN]; done))
local macro_rules | `(tactic| walk_at "dec") => `(tactic| focus first | rfl | (simp [eHead, eL, eSs, eMs, eS, eM, eT, eN, eNs, eH, eO, rN]; done) | (simp [eHead, eL, eSs, eMs, eS, eM, eT, eN, eNs, eH, eO, rN]; omega) | (simp [eHead, eL, eSs, eMs, eS, eM, eT, eN, eNs, eH, eO, rN, *]; done))
local macro_rules | `(tactic| walk_at "skip") => `(tactic| ((with_reducible apply bs_skip); walk_at "ct"; walk_at "dec"))
local macro_rules | `(tactic| walk_at "take") => `(tactic| (refine bs_seqR ?_; (with_reducible apply bs_ifT); walk_at "ct"; walk_at "dec"))
local macro_rules | `(tactic| walk_at "ret") => `(tactic| (refine bs_ret ?_; (with_reducible apply cm_is); walk_at "cm"))
local macro_rules | `(tactic| walk_at "set") => `(tactic| ((with_reducible apply bs_setS); walk_at "cm"))
local macro_rules | `(tactic| walk_at "drop") => `(tactic| ((with_reducible apply bs_dropS); walk_at "cm"))
local macro_rules | `(tactic| walk_at "norm") => `(tactic| skip)
local macro_rules | `(tactic| walk_at "less") => `(tactic| first | exact less_nil | (apply less_some; walk_at "less") | (apply less_none; walk_at "less"))
local macro_rules | `(tactic| walk_at "flat") => `(tactic| first | exact flat_nil | (refine flat_cons ?_ ?_; (first | exact trivial | exact rfl); walk_at "flat"))
local macro_rules | `(tactic| walk_at "stay") => `(tactic| first | exact stay_nil | (refine stay_cons ?_ ?_; (first | exact stay_none | exact stay_d | exact stay_b | exact stay_v | exact stay_old (by assumption)); walk_at "stay"))
section
variable {P : Program} {w : World} {K : Fg} {mg : Str → Option Value} {base : Heap}
local macro_rules | `(tactic| walk_at "fl") => `(tactic| first | exact flatR_nil | (refine flatR_none ?_; walk_at "fl") | (refine flatR_some trivial ?_; walk_at "fl"))
/-! ### _law_line -/
abbrev s_law_line : Stmt := top 86
abbrev N_law_line : List Str := ["_law_m", "_law_tongue_here", "_law_total", "_law_found", "_law_count", "_law_kinds", "_law_word", "_law_many"]
theorem sc_law_line : FnScope N_law_line ["_law_m", "_law_tongue_here", "_law_total"] (defScope s_law_line) := ⟨rfl, rfl, rfl, by decide +kernel, rfl, by decide +kernel, by decide +kernel⟩
def spLine (K : Fg) : Sp := fun vs H Q _ => ∃ a g t L tot, vs = [.ref a, t, .int ((tot : Nat) : Int)] ∧ Rp K H t (eL L) ∧ Good L ∧ tot ≤ 100 ∧ MAt a g H ∧ ∀ xs y H' g', (∀ x ∈ xs, L.ok x) → xs.length ≤ tot → Ef a g H g' H' → Rp K H' y (eSs xs) → Q y H'
theorem ok_line (T : Txt K mg) (A : DefAt K mg "_law_line" "_law_line" s_law_line ["_law_m", "_law_tongue_here", "_law_total"]) (C_law_next : C8.Cal P w K mg base 1 "_law_next" spNext []) : C8.Cal P w K mg base 2 "_law_line" (spLine K) [] := by
  obtain ⟨f, fd, F, b, hm⟩ := A.ex
  refine ⟨f, fd, ["_law_m", "_law_tongue_here", "_law_total"], [], F.ok sc_law_line (fun vs H Q E h => ?_) (fun cdv A outer s H vs Q E hr h => ?_), hm, F.kp, b, .nil⟩
  · obtain ⟨a, g, t, L, tot, rfl, _⟩ := h; rfl
  · obtain ⟨a, g, t, L, tot, rfl, rt, gd, ht, m, q⟩ := h
    refine ⟨_, (pss_cons (ps_set (i := 3) sc_law_line.nd rfl (by first | exact Or.inl rfl | exact Or.inr rfl) (pe_lst pa_nil)) (pss_cons (ps_for PassesOwn.never rfl (pi_range1 rfl T.b_range (pa_cons (C8.pe_c C_law_next hr (by decide) rfl (pa_cons (pv 0) (pa_cons (pe_op (addK K rfl) (pv 2) pe_int) pa_nil))) pa_nil)) (pg_name (i := 4) sc_law_line.nd rfl (by first | exact Or.inl rfl | exact Or.inr rfl)) (pss_cons (ps_set (i := 5) sc_law_line.nd rfl (by first | exact Or.inl rfl | exact Or.inr rfl) (pe_lst (pa_cons (pe_tup (pa_cons pe_str (pa_cons (pe_callB (lenK K rfl) rfl T.b_len bo_len (pa_cons (pe_ix (ixK K rfl) (pv 1) pe_int (fun _ _ => rfl)) pa_nil)) pa_nil))) (pa_cons (pe_tup (pa_cons pe_str (pa_cons (pe_ix (ixK K rfl) (pv 1) pe_int (fun _ _ => rfl)) pa_nil))) (pa_cons (pe_tup (pa_cons pe_str (pa_cons (pe_ix (ixK K rfl) (pv 1) pe_int (fun _ _ => rfl)) pa_nil))) (pa_cons (pe_tup (pa_cons pe_str (pa_cons (pe_ix (ixK K rfl) (pv 1) pe_int (fun _ _ => rfl)) pa_nil))) pa_nil)))))) (pss_cons (ps_asg (pe_ix (ixK K rfl) (pv 5) (C8.pe_c C_law_next hr (by decide) rfl (pa_cons (pv 0) (pa_cons (pe_op (addK K rfl) pe_int (pe_callB (call_min2 rfl) rfl T.b_min bo_min (pa_cons (pe_ix (ixK K rfl) (pv 1) pe_int (fun _ _ => rfl)) (pa_cons pe_int pa_nil)))) pa_nil))) (fun _ _ => rfl)) (pgTK (n := 2) K rfl rfl (pgs_cons (pg_name (i := 6) sc_law_line.nd rfl (by first | exact Or.inl rfl | exact Or.inr rfl)) (pgs_cons (pg_name (i := 7) sc_law_line.nd rfl (by first | exact Or.inl rfl | exact Or.inr rfl)) pgs_nil)))) (pss_one (ps_expr (bmK K rfl (pe_bm PySem.F.plainAttrs_list PySem.F.slot_list_append PySem.F.type_list_append mt_append (pv 3) (pa_cons (pe_tup (pa_cons (pv 6) (pa_cons (C8.pe_c C_law_next hr (by decide) rfl (pa_cons (pv 0) (pa_cons (pv 7) pa_nil))) pa_nil))) pa_nil)))))))) (pss_one (ps_ret (pe_callTy (tupleK K rfl) rfl T.b_tuple bo_tuple (pa_cons (pv 3) pa_nil)))))), ?_⟩
    refine seq_lst0 fun l hl => ?_
    have sn := Same.new (o := .lst []) hl
    let R : Sl := [some (.v (.ref a)), some (.d (eL L)), some (.d (eN tot)), some (.v (.ref l)), none, none, none, none]
    have e0 : EnvOk K R ((start N_law_line [.ref a, t, .int (tot : Int)]).set 3 (some (.ref l))) (upd H l (.lst [])) := ((env_start (N := N_law_line) (ws := [.v (.ref a), .d (eL L), .d (eN tot)]) (.cons rfl (.cons rt (.cons (.int _) .nil)))).same sn).set (i := 3) (w := .v (.ref l)) rfl
    obtain ⟨⟨oa, ha⟩, og, hg⟩ := m.at
    have la : l ≠ a := fun z => by rw [z, ha] at hl; cases hl
    have lg : l ≠ g := fun z => by rw [z, hg] at hl; cases hl
    have flR : FlatR R := by walk_at "fl"
    have ef0 := Ef.same m sn
    let NX : TE → TE := fun te => tCall spNext [] C8.E0 (tCons (tVar 0) (tCons te tNil))
    have mk1 : Cm K (tOp (rAddU K) (tVar 2) (tC (.int 1))) R (.d (eN (tot + 1))) := cm_op (cm_var (i := 2) (w := .d (eN tot)) rfl) cm_int (co_add (i := (tot : Int)) (j := 1))
    have mkN : CaX K a (tCons (NX (tOp (rAddU K) (tVar 2) (tC (.int 1)))) tNil) R _ := cax_cons (cx_next (i := 0) (n := tot + 1) rfl mk1 flR (by omega) (by omega)) cax_nil
    let Inv : Nat → St → Hp → Prop := fun i σ H' => ∃ g' ss xs, Ef a g H g' H' ∧ EnvOk K R σ H' ∧ H' l = some (.lst xs) ∧ RpA K H' xs ((ss : List Sign).map eS) ∧ l ≠ g' ∧ ss.length = i ∧ ∀ p ∈ ss, L.ok p
    refine seq_rng (mkN _ _ g _ e0 ef0.mt fun ys H1 g1 ds hds ef1 e1 r1 => ?_)
    obtain ⟨d, es, rfl, ⟨n, hn, rfl⟩, rfl⟩ := hds
    cases r1 with
    | cons r1 r1' =>
      cases r1'
      have ez := Rp.int_inv r1
      subst ez
      refine ⟨n, rfl, by omega, by omega, ?_⟩
      have lg1 := (ef1.own upd_same la lg)
      refine for_it (D := { nx := _, rt := Q }) walk_range Inv ⟨g1, [], [], ef0.trans ef1, e1, lg1.1, .nil, lg1.2, rfl, by simp⟩ (fun _ _ _ _ _ => trivial) ?_ ?_
      · rintro i x σ1 Hx H2 hi ⟨g2, ss, xs, ef, e, hx, rx, lg2, len, oks⟩ ⟨rfl, rfl⟩
        let R4 : Sl := [some (.v (.ref a)), some (.d (eL L)), some (.d (eN tot)), some (.v (.ref l)), some (.d (.num (0 + (i : Int)))), none, none, none]
        have fl4 : FlatR R4 := by walk_at "fl"
        have e4 : EnvOk K R4 (σ1.set 4 (some (.int (0 + (i : Int))))) H2 := e.set (i := 4) (w := .d (.num (0 + (i : Int)))) (.int _)
        show tSeq _ _ _ (σ1.set 4 (some (.int (0 + (i : Int))))) H2
        generalize σ1.set 4 (some (.int (0 + (i : Int)))) = σ2 at e4 ⊢
        let kd : List D := [.tup [.text "head", eN L.heads.length], .tup [.text "value", eN L.notes], .tup [.text "value", eN L.notes], .tup [.text "moment", eN L.moments]]
        have v1 : Cm K (tVar 1) R4 (.d (eL L)) := cm_var rfl
        have i0 : Cm K (tOp (rIx K) (tVar 1) (tC (.int 0))) R4 (.d (.tup (L.heads.map eHead))) := cm_op v1 cm_int (co_ixTe rfl rfl)
        have i1 : Cm K (tOp (rIx K) (tVar 1) (tC (.int 1))) R4 (.d (eN L.notes)) := cm_op v1 cm_int (co_ixTe rfl rfl)
        have i2 : Cm K (tOp (rIx K) (tVar 1) (tC (.int 2))) R4 (.d (eN L.moments)) := cm_op v1 cm_int (co_ixTe rfl rfl)
        have ln : Cm K (tCB (rLen K) (tCons (tOp (rIx K) (tVar 1) (tC (.int 0))) tNil)) R4 (.d (eN L.heads.length)) := by
          have := cm_cb (ca_cons i0 ca_nil) (cc_lenT (K := K) (ds := L.heads.map eHead))
          rw [List.length_map] at this
          exact this
        have mkV := cm_tupD (cad_cons (cm_str (K := K) (r := R4) (z := "value")) (cad_cons i1 cad_nil)) (by simp)
        have mkK := cn_lst (cad_cons (cm_tupD (cad_cons (cm_str (z := "head")) (cad_cons ln cad_nil)) (by simp)) (cad_cons mkV (cad_cons mkV (cad_cons (cm_tupD (cad_cons (cm_str (z := "moment")) (cad_cons i2 cad_nil)) (by simp)) cad_nil)))) (by simp)
        refine seq_name (mkK _ _ _ e4 fun p H3 ks s3 hp0 hp3 rk => ?_)
        let R5 : Sl := [some (.v (.ref a)), some (.d (eL L)), some (.d (eN tot)), some (.v (.ref l)), some (.d (.num (0 + (i : Int)))), some (.v (.ref p)), none, none]
        have fl5 : FlatR R5 := by walk_at "fl"
        have e5 : EnvOk K R5 (σ2.set 5 (some (.ref p))) H3 := (e4.same s3).set (i := 5) (w := .v (.ref p)) rfl
        generalize σ2.set 5 (some (.ref p)) = σ3 at e5 ⊢
        have mt3 := ef.mt.same s3
        have hx3 := s3 _ _ hx
        obtain ⟨⟨oa2, ha2⟩, og2, hg2⟩ := ef.mt.at
        have pa : p ≠ a := fun z => by rw [z, ha2] at hp0; cases hp0
        have pg : p ≠ g2 := fun z => by rw [z, hg2] at hp0; cases hp0
        have mkM : Cm K (tOp (rAddU K) (tC (.int 3)) (tCB (fun xs H Q => ∃ i j, xs = [.int i, .int j] ∧ Q (.int (if j < i then j else i)) H) (tCons (tOp (rIx K) (tVar 1) (tC (.int 2))) (tCons (tC (.int 1)) tNil)))) R5 (.d (eN (3 + min L.moments 1))) := by
          have j2 : Cm K (tOp (rIx K) (tVar 1) (tC (.int 2))) R5 (.d (eN L.moments)) := cm_op (cm_var (i := 1) (w := .d (eL L)) rfl) cm_int (co_ixTe rfl rfl)
          have := cm_op (K := K) (r := R5) (cm_int (i := 3)) (cm_cb (ca_cons j2 (ca_cons (cm_int (i := 1)) ca_nil)) cc_min2) co_add
          have ee : NestedKey.num (3 + (if (1 : Int) < (L.moments : Int) then 1 else (L.moments : Int))) = eN (3 + min L.moments 1) := congrArg NestedKey.num (by split <;> omega)
          rw [← ee]
          exact this
        obtain ⟨xp, hxp, exp⟩ := e5.at_ 5 _ rfl
        have exp' : xp = .ref p := exp
        subst exp'
        refine seq_asg (show ∃ x, _ = some (some x) ∧ _ from ⟨.ref p, hxp, ?_⟩)
        refine cx_next (i := 0) (n := 3 + min L.moments 1) rfl mkM fl5 (by omega) (by omega) _ _ g2 _ e5 mt3 fun y H4 g4 d ⟨k, hk, ed⟩ ef4 e6 r4 => ?_
        subst ed
        have own4 := ef4.own hp3 pa pg
        have ownl4 := ef4.own hx3 la lg2
        have h1 := gd.h1
        have h4 := gd.h4
        have n1 := gd.n1
        have n4 := gd.n4
        have m2 := gd.m2
        obtain ⟨wd, n', mkS, hkd, n0, nb, hS⟩ : ∃ (wd : Str) (n' : Nat) (mkS : Nat → Sign), kd[k]? = some (.tup [.text wd, eN n']) ∧ 0 < n' ∧ n' < 100000 ∧ ∀ j, j < n' → L.ok (mkS j) ∧ eS (mkS j) = .tup [.text wd, eN j] := by
          rcases k with _ | _ | _ | _ | k
          · exact ⟨_, _, .head, rfl, by omega, by omega, fun j hj => ⟨hj, rfl⟩⟩
          · exact ⟨_, _, .value, rfl, by omega, by omega, fun j hj => ⟨hj, rfl⟩⟩
          · exact ⟨_, _, .value, rfl, by omega, by omega, fun j hj => ⟨hj, rfl⟩⟩
          · exact ⟨_, _, .moment, rfl, by omega, by omega, fun j hj => ⟨hj, rfl⟩⟩
          · omega
        refine co_ixL (K := K) (atI_nat hkd) (.ref p) y H4 _ ⟨p, ks, rfl, own4.1, RpA.keep ef4.kp _ _ rk⟩ r4 fun z H5 s5 r5 => ?_
        let R7 : Sl := [some (.v (.ref a)), some (.d (eL L)), some (.d (eN tot)), some (.v (.ref l)), some (.d (.num (0 + (i : Int)))), some (.v (.ref p)), some (.d (.text wd)), some (.d (eN n'))]
        have fl7 : FlatR R7 := by walk_at "fl"
        have cg : CmG K (gTup K 2 (gCons (gName 6) (gCons (gName 7) gNil))) R5 (.d (.tup [.text wd, eN n'])) R7 _ := cg_tup (cgs_cons cg_name (cgs_cons cg_name cgs_nil)) rfl
        refine cg z _ H5 _ (e6.same s5) r5 fun σ5 e7 _ => ?_
        have mt5 := ef4.mt.same s5
        have hx5 := s5 _ _ ownl4.1
        have mkT : CmX K a (tTup (tCons (tVar 6) (tCons (NX (tVar 7)) tNil))) R7 (fun d => ∃ x : Sign, d = eS x ∧ L.ok x) := by
          refine cx_tup (cax_cons (cx_cm (cm_var (i := 6) (w := .d (.text wd)) rfl)) (cax_cons (cx_next (i := 0) (n := n') rfl (cm_var (i := 7) (w := .d (eN n')) rfl) fl7 n0 nb) cax_nil)) ?_ ?_
          · rintro ds ⟨d, es, rfl, _, d', es', rfl, _, rfl⟩
            simp
          · rintro ds ⟨d, es, rfl, rfl, d', es', rfl, ⟨j, hj, rfl⟩, rfl⟩
            exact ⟨mkS j, (hS j hj).2.symm, (hS j hj).1⟩
        obtain ⟨x3, hx3', ex3⟩ := e7.at_ 3 _ rfl
        have ex3' : x3 = .ref l := ex3
        subst ex3'
        refine (show ∃ x, _ = some (some x) ∧ _ from ⟨.ref l, hx3', .inl ⟨rfl, _, .of hx5⟩, ?_⟩)
        refine mkT _ _ g4 _ e7 mt5 fun y3 H6 g6 d ⟨x, ed, hk⟩ ef6 e8 r6 => ?_
        subst ed
        have own6 := ef6.own hx5 la ownl4.2
        refine ⟨l, xs, y3, rfl, rfl, own6.1, ?_, ?_⟩
        · rw [rx.length, List.length_map, len]
          exact Nat.lt_of_lt_of_le (show i < 1000 by simp at hi; omega) (by decide)
        have efs : Ef a g2 H2 g6 H6 := (Ef.same ef.mt s3).trans (ef4.trans ((Ef.same ef4.mt s5).trans ef6))
        have rx6 := RpA.keep efs.kp _ _ rx
        have eff : Ef a g H g6 H6 := ef.trans efs
        have tupS : ∀ x : Sign, ∃ ds, eS x = .tup ds := fun x => by cases x <;> exact ⟨_, rfl⟩
        have ni : ∀ cs : List Int, cs ≠ [] → xs ≠ cs.map V.int := by
          have ee : ss.map eS = (ss.map fun x => (tupS x).choose).map NestedKey.tup := by
            rw [List.map_map]
            exact List.map_congr_left fun x _ => (tupS x).choose_spec
          rw [ee] at rx
          exact not_ints rx
        have kq : Keep H6 (upd H6 l (.lst (xs ++ [y3]))) := Keep.put fun ys z => by rw [own6.1] at z; cases z
        refine ⟨g6, ss ++ [x], xs ++ [y3], eff.put hl own6.1 ni la own6.2, ?_, upd_same, ?_, own6.2, by simp [len], ?_⟩
        · exact EnvOk.less (r := R7) ⟨rfl, fun i w h => by rcases i with _ | _ | _ | _ | _ | _ | _ | _ | i <;> first | exact h | cases h | simp [R] at h⟩ (e8.keepV fl7 kq)
        · rw [List.map_append]
          exact RpA.append (RpA.keep kq _ _ rx6) (.cons (Rp.keep kq _ _ r6) .nil)
        · intro p hp
          rcases List.mem_append.mp hp with z | z
          · exact oks p z
          · cases List.mem_singleton.mp z
            exact hk
      · rintro σ1 H2 ⟨g2, ss, xs, ef, e, hx, rx, lg2, len, oks⟩
        have eL : EnvOk K [some (.v (.ref a)), some (.d (eL L)), some (.d (eN tot)), some (.l (ss.map eS)), none, none, none, none] σ1 H2 := by
          refine ⟨e.len, fun i w h => ?_⟩
          rcases i with _ | _ | _ | _ | _ | _ | _ | _ | i
          · exact e.at_ 0 w h
          · exact e.at_ 1 w h
          · exact e.at_ 2 w h
          · obtain ⟨x, h1, h2⟩ := e.at_ 3 _ rfl
            have h2' : x = .ref l := h2
            subst h2'
            cases h
            exact ⟨_, h1, l, xs, rfl, hx, rx⟩
          all_goals first | cases h | simp at h
        have mk1 := cm_cb (K := K) (r := [some (.v (.ref a)), some (.d (NW.eL L)), some (.d (eN tot)), some (.l (ss.map eS)), none, none, none, none]) (ca_cons (cm_var (i := 3) rfl) ca_nil) (cc_tuple (ds := ss.map eS))
        refine (show tCB _ _ _ _ _ from mk1 σ1 H2 _ eL fun y1 H3 s3 r3 => ?_)
        exact q ss y1 H3 g2 oks (by omega) (ef.trans (Ef.same ef.mt s3)) r3
end
end NW
/-! the law's draws: the start -/
namespace NW
open PySem PySem.Spec PyProof.Rows L2 StX NM
local macro_rules | `(tactic| walk_at "my") => `(tactic| fail)
local macro_rules | `(tactic| walk_at "mycm") => `(tactic| fail)
local macro_rules | `(tactic| walk_at "myco") => `(tactic| fail)
local macro_rules | `(tactic| walk_at "mycc") => `(tactic| fail)
local macro_rules | `(tactic| walk_at "sh") => `(tactic| first | assumption | exact sh_n | exact Sh.num | exact Sh.non | exact sh_role | exact Sh.text (by decide +kernel) | exact sh_ns | exact sh_s | exact sh_m | exact sh_o | exact sh_h | exact sh_t | exact sh_ss | exact sh_ms | exact sh_head | exact sh_L | exact sh_nil | (apply sh_cons <;> walk_at "sh"))
local macro_rules | `(tactic| walk_at "shs") => `(tactic| first | assumption | exact shs_nil | (apply shs_cons; walk_at "sh"; walk_at "shs"))
local macro_rules | `(tactic| walk_at "co") => `(tactic| first
  | ((with_reducible apply co_ixTe); exact rfl; exact rfl)
  | ((with_reducible exact co_ixDl))
  | ((with_reducible apply co_ixL); exact rfl)
  | (with_reducible exact co_lt) | (with_reducible exact co_le) | (with_reducible exact co_gt) | (with_reducible exact co_ge) | (with_reducible exact co_sub)
  | (with_reducible exact co_isN) | (with_reducible exact co_isNotN)
  | ((with_reducible apply co_eq) <;> walk_at "sh") | ((with_reducible apply co_ne) <;> walk_at "sh")
  | (with_reducible exact co_add)
  | ((with_reducible apply co_inTe); exact rfl; walk_at "sh"; walk_at "shs")
  | walk_at "myco")
local macro_rules | `(tactic| walk_at "cc") => `(tactic| first
  | ((with_reducible apply cc_lenTe); exact rfl) | (with_reducible exact cc_lenL) | (with_reducible exact cc_all) | (with_reducible exact cc_any) | (with_reducible exact cc_tuple) | (with_reducible exact cc_intI)
  | (with_reducible exact cc_intB) | (with_reducible exact cc_min2) | (with_reducible exact cc_listT)
  | ((with_reducible apply cc_isi); first | exact isi_int rfl | exact isi_bool | exact isi_tuple rfl | exact isi_str rfl)
  | walk_at "mycc")
local macro_rules | `(tactic| walk_at "ca") => `(tactic| first
  | (with_reducible exact ca_nil)
  | ((with_reducible apply ca_cons); walk_at "cm"; walk_at "ca"))
local macro_rules | `(tactic| walk_at "cad") => `(tactic| first
  | (with_reducible exact cad_nil)
  | ((with_reducible apply cad_cons); walk_at "cm"; walk_at "cad")
  | ((with_reducible apply cad_starE); walk_at "cm"; exact rfl; walk_at "cad"))
local macro_rules | `(tactic| walk_at "cm") => `(tactic| first
  | ((with_reducible apply cm_var); exact rfl)
  | (with_reducible exact cm_int) | (with_reducible exact cm_str) | (with_reducible exact cm_non) | (with_reducible exact cm_bl)
  | ((with_reducible apply cm_op); walk_at "cm"; walk_at "cm"; walk_at "co")
  | ((with_reducible apply cm_tupD); walk_at "cad"; walk_at "size")
  | ((with_reducible apply cm_neg); walk_at "cm")
  | ((with_reducible apply cm_call); walk_at "ca"; walk_at "my")
  | walk_at "mycm"
  | ((with_reducible apply cm_cb); walk_at "ca"; walk_at "cc")
  | ((with_reducible apply cm_chain); walk_at "cm"; walk_at "cm"; walk_at "co"; (intro _; walk_at "cm"); walk_at "co")
  | ((with_reducible apply cm_andVF); walk_at "cm"; walk_at "dec0")
  | ((with_reducible apply cm_orVT); walk_at "cm"; walk_at "dec0")
  | ((with_reducible apply cm_ifT); walk_at "ct"; walk_at "dec"; walk_at "cm")
  | ((with_reducible apply cm_ifF); walk_at "ct"; walk_at "dec"; walk_at "cm")
  | ((with_reducible apply cm_andV); walk_at "cm"; (intro _; walk_at "cm"))
  | ((with_reducible apply cm_orV); walk_at "cm"; (intro _; walk_at "cm"))
  | ((with_reducible apply cm_notV); walk_at "cm")
  | (with_reducible exact cm_val))
local macro_rules | `(tactic| walk_at "ct") => `(tactic| first
  | ((with_reducible apply ct_test); walk_at "cm") | ((with_reducible apply ct_B); walk_at "cm") | ((with_reducible apply ct_not); walk_at "ct")
  | ((with_reducible apply ct_andF); walk_at "ct"; walk_at "dec0")
  | ((with_reducible apply ct_orT); walk_at "ct"; walk_at "dec0")
  | ((with_reducible apply ct_and); walk_at "ct"; (intro _; walk_at "ct"))
  | ((with_reducible apply ct_or); walk_at "ct"; (intro _; walk_at "ct")))
local macro_rules | `(tactic| walk_at "size") => `(tactic| focus first | assumption | (simp; done) | (simp; omega) | omega)
local macro_rules | `(tactic| walk_at "dec0") => `(tactic| focus first | rfl | (simp [eHead, eL, eSs, eMs, eS, eM, eT, eN, eNs, eH, eO, rN]; done))
local macro_rules | `(tactic| walk_at "dec") => `(tactic| focus first | rfl | (simp [eHead, eL, eSs, eMs, eS, eM, eT, eN, eNs, eH, eO, rN]; done) | (simp [eHead, eL, eSs, eMs, eS, eM, eT, eN, eNs, eH, eO, rN]; omega) | (simp [eHead, eL, eSs, eMs, eS, eM, eT, eN, eNs, eH, eO, rN, *]; done))
local macro_rules | `(tactic| walk_at "skip") => `(tactic| ((with_reducible apply bs_skip); walk_at "ct"; walk_at "dec"))
local macro_rules | `(tactic| walk_at "take") => `(tactic| (refine bs_seqR ?_; (with_reducible apply bs_ifT); walk_at "ct"; walk_at "dec"))
local macro_rules | `(tactic| walk_at "ret") => `(tactic| (refine bs_ret ?_; (with_reducible apply cm_is); walk_at "cm"))
local macro_rules | `(tactic| walk_at "set") => `(tactic| ((with_reducible apply bs_setS); walk_at "cm"))
local macro_rules | `(tactic| walk_at "drop") => `(tactic| ((with_reducible apply bs_dropS); walk_at "cm"))
local macro_rules | `(tactic| walk_at "norm") => `(tactic| skip)
local macro_rules | `(tactic| walk_at "less") => `(tactic| first | exact less_nil | (apply less_some; walk_at "less") | (apply less_none; walk_at "less"))
local macro_rules | `(tactic| walk_at "flat") => `(tactic| first | exact flat_nil | (refine flat_cons ?_ ?_; (first | exact trivial | exact rfl); walk_at "flat"))
local macro_rules | `(tactic| walk_at "stay") => `(tactic| first | exact stay_nil | (refine stay_cons ?_ ?_; (first | exact stay_none | exact stay_d | exact stay_b | exact stay_v | exact stay_old (by assumption)); walk_at "stay"))
section
variable {P : Program} {w : World} {K : Fg} {mg : Str → Option Value} {base : Heap}
/-! ### _law_start -/
abbrev s_law_start : Stmt := top 82
abbrev N_law_start : List Str := ["_law_script", "_law_cells", "_law_cell"]
theorem sc_law_start : FnScope N_law_start ["_law_script"] (defScope s_law_start) := ⟨rfl, rfl, rfl, by decide +kernel, rfl, by decide +kernel, by decide +kernel⟩
def spStart (K : Fg) : Sp := fun vs H Q _ => ∃ (p : Addr) (is : List Int), vs = [.ref p] ∧ SqL K H p (is.map V.int) ∧ is.length ≤ 100000 ∧ ∀ a g H', Same H H' → H a = none → H g = none → MAt a g H' → Q (.ref a) H'
theorem sqSame {H H' : Hp} {p : Addr} {xs : List V} (s : Same H H') (h : SqL K H p xs) : SqL K H' p xs := by
  rcases h with (h | ⟨o, h⟩) | h
  · exact .inl (.inl (s _ _ h))
  · exact .inl (.inr ⟨o, s _ _ h⟩)
  · exact .inr h
theorem ok_start (T : Txt K mg) (A : DefAt K mg "_law_start" "_law_start" s_law_start ["_law_script"]) : C8.Cal P w K mg base 1 "_law_start" (spStart K) [] := by
  obtain ⟨f, fd, F, b, hm⟩ := A.ex
  refine ⟨f, fd, ["_law_script"], [], F.ok sc_law_start (fun vs H Q E h => ?_) (fun cdv A outer s H vs Q E hr h => ?_), hm, F.kp, b, .nil⟩
  · obtain ⟨p, is, rfl, _⟩ := h; rfl
  · obtain ⟨p, is, rfl, sq, lz, q⟩ := h
    refine ⟨_, (pss_cons (ps_set (i := 1) sc_law_start.nd rfl (by first | exact Or.inl rfl | exact Or.inr rfl) (pe_op (addK K rfl) (pe_callTy (listK K rfl) rfl T.b_list bo_list (pa_cons (pv 0) pa_nil)) (pe_lst (pa_cons pe_int pa_nil)))) (pss_one (ps_ret (pe_disp (pps_cons pe_str (pv 1) (pps_cons pe_str (pe_lc (own := [("_law_cell", 2)]) rfl sc_law_start.nd (piLK K rfl (pv 0)) (blkOk_by (own := [("_law_cell", 2)]) (N := N_law_start) (sc := defScope s_law_start) (by decide +kernel)) (fun _ _ _ _ _ => (pg_name (i := 2) sc_law_start.nd rfl (by first | exact Or.inl rfl | exact Or.inr rfl))) (fun _ _ _ _ _ => pts_one (pt_cmpR op_ge (pv 2) (pe_op op_pow pe_int pe_int) (nomark _))) (fun _ _ _ _ _ => (pv 2))) (pps_cons pe_str pe_int (pps_cons pe_str (pe_callB (lenK K rfl) rfl T.b_len bo_len (pa_cons (pv 1) pa_nil)) pps_nil)))) rfl rfl (by decide) (by decide))))), ?_⟩
    refine seq_name ?_
    refine (show ∃ x, _ = some (some x) ∧ _ from ⟨.ref p, rfl, p, is.map V.int, rfl, .inl sq, fun l hl => ?_⟩)
    have s1 := Same.new (o := .lst (is.map V.int)) hl
    refine ⟨(by decide : 1 ≤ sizeLine), fun p2 hp2 => ?_⟩
    have s2 := Same.new (o := .lst [.int 29]) hp2
    have hl2 : upd (upd H l (.lst (is.map V.int))) p2 (.lst [.int 29]) l = some (.lst (is.map V.int)) := s2 _ _ upd_same
    have s12 := s1.trans s2
    have hp22 : upd (upd H l (.lst (is.map V.int))) p2 (.lst [.int 29]) p2 = some (.lst ([29].map V.int)) := upd_same
    generalize upd (upd H l (.lst (is.map V.int))) p2 (.lst [.int 29]) = H2 at hl2 hp22 s2 s12 ⊢
    refine co_addL (K := K) (as := is.map .num) (bs := [29].map .num) (by simp; omega) (.ref l) (.ref p2) H2 _ ⟨l, _, rfl, hl2, rpA_ofInts is⟩ ⟨p2, _, rfl, hp22, rpA_ofInts [29]⟩ fun z H3 s3 ⟨c, xs, ez, hc, rc⟩ => ?_
    subst ez
    rw [← List.map_append] at rc
    have exs := rpA_ints rc
    subst exs
    have s13 := s12.trans s3
    refine (show tDisp _ _ _ _ from fun a ha => ?_)
    have sa := Same.new (o := .dK []) ha
    have hc1 := sa _ _ hc
    have ha1 : upd H3 a (.dK []) a = some (.dK []) := upd_same
    have sq1 : SqL K (upd H3 a (.dK [])) p (is.map V.int) := sqSame (s13.trans sa) sq
    have ca : c ≠ a := fun z => by rw [z, ha] at hc; cases hc
    generalize upd H3 a (.dK []) = H4 at sa hc1 ha1 sq1 ⊢
    refine (show ∃ x, _ = some (some x) ∧ _ from ⟨.ref c, rfl, ?_⟩)
    refine (show ∃ x, _ = some (some x) ∧ _ from ⟨.ref p, rfl, p, rfl, ⟨_, sq1⟩, fun g hg => ?_⟩)
    have sg : Same H4 (upd H4 g (.lst [])) := Same.new hg
    let σ : St := (start N_law_start [.ref p]).set 1 (some (.ref c))
    have sqX : ∀ H', SameX g H4 H' → SqL K H' p (is.map V.int) := fun H' sx => by
      rcases sq1 with (h | ⟨o, h⟩) | h
      · exact .inl (.inl (sx _ _ (ne_of_none h hg) h))
      · exact .inl (.inr ⟨o, sx _ _ (ne_of_none h hg) h⟩)
      · exact .inr h
    let Pv : Nat → Hp → Prop := fun i H' => ∃ gs : List Int, H' g = some (.lst (gs.map V.int)) ∧ SameX g H4 H' ∧ gs.length ≤ i
    refine lc_it (walk_list (xs := is.map V.int)) Pv ⟨[], upd_same, fun b o n h => by rw [upd_ne n]; exact h, Nat.zero_le _⟩ ?_ ?_ ?_
    · rintro i H' _ ⟨gs, _, sx, _⟩
      exact sqX H' sx
    · rintro i x H5 H' hi ⟨gs, hg5, sx, lg⟩ ⟨rfl, hx⟩
      rw [List.getElem?_map] at hx
      obtain ⟨j, hj, rfl⟩ := Option.map_eq_some_iff.mp hx
      have hi' : i < is.length := by simpa using hi
      refine ⟨(wipe_set (List.mem_singleton.mpr rfl)).trans (wipe_wipe _ _), ?_⟩
      have et : EnvOk K [none, none, some (.d (.num j))] ((wipe σ [2]).set 2 (some (.int j))) H' := ⟨rfl, fun i w h => by
        rcases i with _ | _ | _ | i
        · cases h
        · cases h
        · cases h; exact ⟨_, rfl, .int _⟩
        · simp at h⟩
      have ct : CmT K (tTest (tOp (rI0 fun i j => .bl (decide (j ≤ i))) (tVar 2) (tOp (rI CPow fun i j => .int (i ^ j.toNat)) (tC (.int 10)) (tC (.int 18))))) [none, none, some (.d (.num j))] (decide ((10 : Int) ^ 18 ≤ j)) :=
        ct_test (cm_op (cm_var (i := 2) rfl) (cm_op (cm_int (i := 10)) (cm_int (i := 18)) (co_iC (C := CPow) (f := fun i j => .int (i ^ j.toNat)) (w := .d (.num ((10 : Int) ^ 18))) (by unfold CPow; decide) fun H => .int _)) co_ge)
      refine ct _ _ _ et fun H6 s6 => ?_
      have hg6 := s6 _ _ hg5
      have sx6 : SameX g H4 H6 := fun b o n h => s6 _ _ (sx b o n h)
      by_cases hc : (10 : Int) ^ 18 ≤ j
      · rw [decide_eq_true hc, if_pos rfl]
        refine (show ∃ x, _ = some (some x) ∧ _ from ⟨.int j, rfl, gs.map V.int, hg6, ?_, gs ++ [j], ?_, ?_, ?_⟩)
        · rw [List.length_map]
          exact Nat.lt_of_lt_of_le (show gs.length < 100001 by omega) (by decide)
        · rw [List.map_append]; exact upd_same
        · exact fun b o n h => by rw [upd_ne n]; exact sx6 b o n h
        · simp; exact lg
      · rw [decide_eq_false hc, if_neg (by decide)]
        exact ⟨gs, hg6, sx6, by omega⟩
    · rintro H' ⟨gs, hgs, sx, lg⟩
      have cg : c ≠ g := ne_of_none hc1 hg
      have ag : a ≠ g := ne_of_none ha1 hg
      have hc' := sx _ _ cg hc1
      have ha' := sx _ _ ag ha1
      refine (show ∃ x, _ = some (some x) ∧ _ from ⟨.ref c, rfl, .ref c, (is ++ [29]).length, rfl, .inl ⟨_, .of hc', by rw [List.length_map]⟩, ha', dM c g 0 ((is ++ [29]).length : Nat), rfl, (by show 4 ≤ 15; decide), ?_⟩)
      have hH : ∀ b o, H b = some o → b ≠ a := fun b o h => ne_of_none (s13 _ _ h) ha
      have hHg : ∀ b o, H b = some o → b ≠ g := fun b o h => ne_of_none (sa _ _ (s13 _ _ h)) hg
      refine q a g _ (fun b o h => by rw [upd_ne (hH b o h)]; exact sx _ _ (hHg b o h) (sa _ _ (s13 _ _ h))) ?_ ?_ ⟨c, is ++ [29], gs, 0, ((is ++ [29]).length : Nat), upd_same, by rw [upd_ne ca]; exact hc', by rw [upd_ne (Ne.symm ag)]; exact hgs, cg, by simp⟩
      · cases hz : H a with
        | none => rfl
        | some o => exact absurd rfl (hH a o hz)
      · cases hz : H g with
        | none => rfl
        | some o => exact absurd rfl (hHg g o hz)
end
end NW
/-! defs that know that no repr is under way -/
namespace NW
open PySem PySem.Spec PyProof.Rows L2 StX NM
/-- a def's promise where no repr is under way -/
structure FnG (P : Program) (w : World) (K : Fg) (mg : Str → Option Value) (base : Heap) (k : Nat) (f : Addr) (fd : FuncData) (ps : List Str) (sp : Sp) : Prop where
  len : ∀ vs H Q E, sp vs H Q E → vs.length = ps.length
  run : ∀ (A : Around) (outer : List Env) (s : Shared) (H : Hp) (args : Args) (us : List Value) (vs : List V) (Q : VK) (E : XK), A.guards = some [] → Room k A → Env0 P w K mg base A outer s H → BindsTo s fd args (ps.zip us) → Vals vs us → sp vs H Q E →
    codeAny (model P w) A (.call (.ref f) args) (CR CX0 outer P w H s Q E) s
section
variable {P : Program} {w : World} {K : Fg} {mg : Str → Option Value} {base : Heap}
theorem fnG_of {x qual : Str} {st : Stmt} {f : Addr} {fd : FuncData} {N ps : List Str} {k : Nat} {sp : Sp} (F : Fun K x qual st f fd) (S : FnScope N ps (defScope st)) (len : ∀ vs H Q E, sp vs H Q E → vs.length = ps.length)
    (hbody : ∀ (cdv : Value) (A : Around) (outer : List Env) (s : Shared) (H : Hp) (vs : List V) (Q : VK) (E : XK), A.guards = some [] → Room k (A.deeper (envOfC qual (defScope st) s.heap.objs.size f cdv)) → sp vs H Q E →
      ∃ t, PSs (cxOf CX0 P w K mg base N qual (defScope st) f cdv A outer s H E).nox (defBody st) t ∧ t { nx := fun _ H' => Q .non H', rt := Q } (start N vs) H) : FnG P w K mg base (k + 1) f fd ps sp := by
  refine ⟨len, fun A outer s H args us vs Q E hg hr e0 hb r hsp => ?_⟩
  obtain ⟨oc, od, kV, doc, pm, an, cdv, ct, osl, rfl, lk, hcd⟩ := F.ex
  have KX : K.In s.heap := e0.mod.kin.keeps fun b o e => (e0.bs b o e).1
  have lim : s.heap.NoLimit := e0.mod.nolimit.keeps fun b o e => (e0.bs b o e).1
  refine codeAny_call_function hr.depth (KX _ _ lk) rfl S.co S.gen rfl (PySem.W.codeRec_of KX hcd) (hb _ _ _ _ ?_)
  refine wpAny_newFunctionEnv_cells S.kind (fun y hy => ?_) fun env he s1 xc => ?_
  · rcases S.par y.1 (List.of_mem_zip (show (y.1, y.2) ∈ _ from hy)).1 with q | q
    · exact .inl q
    · exact .inr ⟨q, PySem.W.cellsFrom_some _ _ _ (.inl q)⟩
  subst he
  refine ⟨lim.keeps xc.toInCall.keep, codeAny_func ?_⟩
  obtain ⟨t, ht, hq⟩ := hbody cdv A outer s H vs Q E hg (hr.deeper _) hsp
  have I := inv_start (CX := CX0) (f := f) (cd := cdv) (E := E) S hr.hd e0 (len _ _ _ _ hsp) r xc
  refine wpAny_mono (ht.nox.run [] s1 (start N vs) H _ I hq) (fun fl s' hs => ?_) fun e s' hs => hs
  have done : ∀ {σ' : St} {H' : Hp} {v : V} {u : Value}, Inv (cxOf CX0 P w K mg base N qual (defScope st) f cdv A outer s H E) [] σ' H' s' → RelV v u → Q v H' → CE outer P w H s Q u s' :=
    fun J rv q => ⟨_, _, J.os, J.bare, J.base, J.hok, rv, q⟩
  cases fl with
  | ret u => exact let ⟨_, _, _, J, rv, q⟩ := hs; done J rv q
  | next => exact let ⟨_, _, J, q⟩ := hs; done (v := V.non) (u := Value.none) J rfl q
  | brk => exact let ⟨_, _, _, q⟩ := hs; q.elim
  | cont => exact let ⟨_, _, _, q⟩ := hs; q.elim
/-- a def of the module that may be called where no repr is under way -/
def CalG (P : Program) (w : World) (K : Fg) (mg : Str → Option Value) (base : Heap) (k : Nat) (x : Str) (sp : Sp) : Prop := ∃ (f : Addr) (fd : FuncData) (ps : List Str), FnG P w K mg base k f fd ps sp ∧ mg x = some (.ref f) ∧ PySem.W.keepIn K (.ref f) = true ∧ L2.Binds K fd ps []
theorem pe_cG {X : Cx} {k j : Nat} {x : Str} {sp : Sp} {p pos : Pos} {e : Expr} {es : List Expr} {t : TA} (c : CalG X.prog X.w X.K X.mg X.base k x sp) (hA : X.A.guards = some []) (hr : Room j X.A) (hk : k ≤ j) (hg : Gl X x) (ha : PA X (e :: es) t)
    (hdb : (x == ("__debug__" : Str)) = false := by decide) (he : starEach (e :: es) X.env = (false, eval e X.env) :: starEach es X.env := by rfl) (hpl : (backTo pos (starEach es X.env)).any (·.1) = false := by rfl) :
    PE X (.Call (.Name x p) (e :: es) [] pos) (tCall sp [] C8.E0 t) := by
  obtain ⟨f, fd, ps, F, hm, kp, b⟩ := c
  refine ⟨fun pins s σ H Q I h => ?_⟩
  refine wpAny_Call_Name_kw (ld_glob I hg hm ?_ hdb)
  refine PySem.W.callWith_K (h₀ := X.base) I.ok.mod.kin kp (thn (ha.run pos pins s σ H _ I h) fun us s1 ⟨vs, H1, I1, r, q⟩ => ⟨I1.kIn, ?_⟩) he hpl
  have q : sp (vs ++ []) H1 Q C8.E0 := q
  rw [List.append_nil] at q
  have hl : us.length = ps.length := by rw [← r.length]; exact F.len _ _ _ _ q
  have hb := b s1 us I1.kIn (by rw [List.append_nil]; exact hl)
  rw [List.append_nil] at hb
  refine wpAny_call (codeAny_mono (F.run X.A X.stack s1 H1 ⟨us, []⟩ us vs Q _ hA (hr.mono hk) I1.env0 hb r q) fun r s' hq => ?_)
  cases r with
  | error e => exact hq.elim
  | ok fl =>
    cases fl with
    | ret u => exact I1.after hq
    | next => exact hq.elim
    | brk => exact hq.elim
    | cont => exact hq.elim
end
end NW
/-! the law's own start, where no repr is under way -/
namespace NW
open PySem PySem.Spec PyProof.Rows L2 StX NM LamX
section
variable {P : Program} {w : World} {K : Fg} {mg mb : Str → Option Value} {k : Nat} {fa a : Addr} {cs : List (Addr × Addr)} {fd : FuncData} {x : Str} {sp : Sp} {s₁ : Shared} {vs : List Value} {ns : List Int}
abbrev tblO : Obj := { cls := .none, data := .fields #[] }
abbrev lstO (vs : List Value) : Obj := { cls := .type "list", data := .seq vs.toArray }
def tabs (cs : List (Addr × Addr)) : List Addr := cs.map (·.2)
/-- the heap that the law starts with: its script, unless K holds it, and the tables -/
structure Hid (P : Program) (w : World) (K : Fg) (h : Heap) (cs : List (Addr × Addr)) (a : Addr) (ns : List Int) (H : Hp) : Prop where
  tb : ∀ b ∈ tabs cs, H b = some (.tbl #[])
  lo : ∀ b, b ∉ tabs cs → H b = none ∨ (b = a ∧ K.lookup a = none ∧ ∃ o xs, H b = some (.frz o (.lst xs)))
  sq : SqL K H a (ns.map V.int)
  ok : HOk P w H h
theorem hid_ex (KX : K.In s₁.heap) (hT : ∀ b ∈ tabs cs, s₁.heap.get? b = some tblO) (ha : s₁.heap.get? a = some (lstO vs)) (hi : IntsAre vs ns) (hl : ns.length ≤ sizeLine) : ∃ H, Hid P w K s₁.heap cs a ns H := by
  have rv := vals_ints hi
  have aT : a ∉ tabs cs := fun z => by
    have q := hT a z
    rw [ha] at q
    cases congrArg Obj.data (Option.some.inj q)
  cases hk : K.lookup a with
  | some o =>
    have e := KX a o hk
    rw [ha] at e
    cases e
    refine ⟨fun b => if b ∈ tabs cs then some (.tbl #[]) else none, fun b hb => if_pos hb, fun b hb => .inl (if_neg hb), .inr ⟨_, vs.toArray, _, hk, rfl, rfl, rfl, by rw [List.size_toArray, hi.length]; exact hl, by simpa using rv⟩, fun b u z => ?_⟩
    have z : (if b ∈ tabs cs then some (HO.tbl #[]) else none) = some u := z
    split at z
    · rename_i hb
      cases z
      exact hT b hb
    · cases z
  | none =>
    refine ⟨fun b => if b = a then some (.frz (lstO vs) (.lst (ns.map V.int))) else if b ∈ tabs cs then some (.tbl #[]) else none, fun b hb => ?_, fun b hb => ?_, .inl (.inr ⟨lstO vs, if_pos rfl⟩), fun b u z => ?_⟩
    · exact (if_neg fun z => aT (by rw [← z]; exact hb)).trans (if_pos hb)
    · by_cases e : b = a
      · exact .inr ⟨e, hk, _, _, if_pos e⟩
      · exact .inl ((if_neg e).trans (if_neg hb))
    · have z : (if b = a then some (HO.frz (lstO vs) (.lst (ns.map V.int))) else if b ∈ tabs cs then some (.tbl #[]) else none) = some u := z
      split at z
      · rename_i e
        cases z
        rw [e]
        exact ⟨ha, by rw [List.length_map]; exact hl, vs, _, rv, ha⟩
      · split at z
        · rename_i hb
          cases z
          exact hT b hb
        · cases z
/-- what the law starts with -/
structure AtHead (K : Fg) (mg mb : Str → Option Value) (cs : List (Addr × Addr)) (a : Addr) (vs : List Value) (s₁ : Shared) : Prop where
  kin : K.In s₁.heap
  ns : s₁.heap.Ns mainGlobals mg
  bn : s₁.heap.Ns builtinsNs mb
  bb : ∀ x : Str, x ≠ "__name__" → mb x = bootBuiltins x
  lim : s₁.heap.NoLimit
  gens : s₁.gens = #[]
  tb : ∀ p ∈ cs, s₁.heap.get? p.2 = some tblO
  nk : ∀ p ∈ cs, K.lookup p.2 = none
  code : ∀ p ∈ cs, PySem.W.CodeHd s₁.heap p.1 p.2
  bm : ∃ (bm : Addr) (ob : Obj), mg "__builtins__" = some (.ref bm) ∧ bm ≠ builtinsNs ∧ s₁.heap.get? bm = some ob ∧ ob.cls = .type "module" ∧ ob.dict = some builtinsNs ∧ ob.data = .plain
  sc : s₁.heap.get? a = some (lstO vs)
theorem AtHead.tbs (h : AtHead K mg mb cs a vs s₁) : ∀ b ∈ tabs cs, s₁.heap.get? b = some tblO := fun b hb => by
  obtain ⟨p, hp, rfl⟩ := List.mem_map.mp hb
  exact h.tb p hp
section
variable {H : Hp} (h : AtHead K mg mb cs a vs s₁) (d : Hid P w K s₁.heap cs a ns H)
include h d
theorem AtHead.free {b : Addr} {o : Obj} (e : s₁.heap.get? b = some o) (h1 : o.data ≠ (lstO vs).data) (h2 : o.data ≠ tblO.data) : H b = none := by
  by_cases hb : b ∈ tabs cs
  · rw [h.tbs b hb] at e
    cases e
    exact absurd rfl h2
  · rcases d.lo b hb with z | ⟨rfl, _⟩
    · exact z
    · rw [h.sc] at e
      cases e
      exact absurd rfl h1
theorem AtHead.low {b : Addr} {o : Obj} (e : s₁.heap.get? b = some o) (h1 : o.data ≠ (lstO vs).data) (h2 : o.data ≠ tblO.data) : (hidT s₁.heap H).get? b = some o := hidT_get e (h.free d e h1 h2)
theorem AtHead.nsL {b : Addr} {m : Str → Option Value} (q : s₁.heap.Ns b m) : (hidT s₁.heap H).Ns b m := by
  obtain ⟨o, es, ep, e, hd, r⟩ := q
  exact ⟨o, es, ep, h.low d e (fun z => by rw [hd] at z; cases z) (fun z => by rw [hd] at z; cases z), hd, r⟩
theorem AtHead.kinL : K.In (hidT s₁.heap H) := fun b o e => hidT_get (h.kin b o e) (by
  by_cases hb : b ∈ tabs cs
  · obtain ⟨p, hp, rfl⟩ := List.mem_map.mp hb
    rw [h.nk p hp] at e
    cases e
  · rcases d.lo b hb with z | ⟨rfl, z, _⟩
    · exact z
    · rw [z] at e
      cases e)
theorem AtHead.modL : L2.Mod K mg (hidT s₁.heap H) := ⟨h.kinL d, h.nsL d h.ns, ⟨mb, h.nsL d h.bn, h.bb⟩, let ⟨mc, h1, h2⟩ := h.lim; ⟨mc, h.nsL d h1, h2⟩⟩
theorem AtHead.tabL (p : Addr × Addr) (hp : p ∈ cs) : TabB (hidT s₁.heap H) mg p.1 p.2 := by
  have ht := h.tb p hp
  obtain ⟨o, us, file, tf, flags, tg, inF, text, tt, e1, r1, r2, r3, rr⟩ := h.code p hp
  obtain ⟨bm, ob, b1, b2, b3, b4, b5, b6⟩ := h.bm
  obtain ⟨og, es, ep, eg, hd, _⟩ := h.ns
  refine ⟨⟨o, us, file, tf, flags, tg, inF, text, tt, h.low d e1 (fun z => ?_) (fun z => ?_), r1, r2, r3, rr⟩, ⟨bm, ob, b1, b2, fun z => ?_, fun z => ?_, h.low d b3 (fun z => ?_) (fun z => ?_), b4, b5, b6⟩, fun z => ?_⟩
  · rw [r2] at z; cases z
  · rw [r2] at z; cases z; simp at r3
  · rw [z, eg] at b3; cases b3; rw [hd] at b6; cases b6
  · rw [z, ht] at b3; cases b3; cases b6
  · rw [b6] at z; cases z
  · rw [b6] at z; cases z
  · rw [z, ht] at eg; cases eg; cases hd
theorem AtHead.env : Env0 P w K mg (hidT s₁.heap H) callerA [] s₁ H :=
  ⟨rfl, h.modL d, fun b o e => of_hidT e, Nat.le_of_eq (hidT_size _ _), trivial, fun b hb => absurd (show b ∈ ([] : List Addr) from hb) (by simp), d.ok, .of_eq h.gens⟩
/-- what stood stands behind the law -/
theorem AtHead.old {s' : Shared} {H' : Hp} (un : Un (frs ([] : List Env)) [] H H' s₁.heap s'.heap) (ok' : HOk P w H' s'.heap) : OldK s₁.heap s'.heap := by
  have tbl : ∀ p ∈ cs, ∃ more : Array Value, s'.heap.get? p.2 = some { cls := .none, data := .fields more } := fun p hp => by
    obtain ⟨more, z⟩ := un.tbls p.2 #[] (d.tb p.2 (List.mem_map.mpr ⟨p, hp, rfl⟩))
    exact ⟨_, ok' p.2 _ z⟩
  have oth : ∀ b o, b ∉ tabs cs → s₁.heap.get? b = some o → s'.heap.get? b = some o := fun b o hb e => by
    rcases d.lo b hb with z | ⟨_, _, ob, xs, z⟩
    · exact un.keep b o e z (fun q => absurd (show b ∈ ([] : List Addr) from q) (by simp)) (by simp)
    · obtain ⟨e1, _⟩ := d.ok b _ z
      obtain ⟨e2, _⟩ := ok' b _ (un.frzs b ob _ z)
      rw [e] at e1
      cases e1
      exact e2
  refine ⟨fun b o e => ?_, fun b o e => ?_⟩
  · by_cases hb : b ∈ tabs cs
    · obtain ⟨p, hp, rfl⟩ := List.mem_map.mp hb
      obtain ⟨more, hm⟩ := tbl p hp
      rw [h.tb p hp] at e
      cases e
      exact .inr (.inl ⟨((h.code p hp).tab (h.tb p hp)).isCodeTable, rfl, #[], more, rfl, by rw [Array.empty_append]; exact hm⟩)
    · exact .inl (oth b o hb e)
  · by_cases hb : b ∈ tabs cs
    · obtain ⟨p, hp, rfl⟩ := List.mem_map.mp hb
      exact let ⟨_, hm⟩ := tbl p hp; ⟨_, hm⟩
    · exact ⟨o, oth b o hb e⟩
end
/-- the law is called -/
theorem lawG_call (h : AtHead K mg mb cs a vs s₁) (hi : IntsAre vs ns) (hl : ns.length ≤ sizeLine) (hr : Room k callerA)
    (F : ∀ base : Heap, K.In base → base.Ns mainGlobals mg → (∀ p ∈ cs, TabB base mg p.1 p.2) → FnG P w K mg base k fa fd [x] sp) (hbind : ∀ (s : Shared) (u : Value), BindsTo s fd ⟨[u], []⟩ [(x, u)])
    (hsp : ∀ H : Hp, (∀ p ∈ cs, H p.2 = some (.tbl #[])) → SqL K H a (ns.map V.int) → sp [.ref a] H (fun v _ => v = .bl true) fun _ _ _ => False) :
    codeAny (model P w) callerA (.call (.ref fa) ⟨[.ref a], []⟩) (fun r s' => r = .ok (.ret (.bool true)) ∧ OldK s₁.heap s'.heap ∧ s'.os = s₁.os ∧ AllBare s'.gens) s₁ := by
  obtain ⟨H, d⟩ := hid_ex (P := P) (w := w) h.kin h.tbs h.sc hi hl
  have q := hsp H (fun p hp => d.tb p.2 (List.mem_map.mpr ⟨p, hp, rfl⟩)) d.sq
  refine codeAny_mono ((F _ (h.kinL d) (h.nsL d h.ns) (h.tabL d)).run callerA [] s₁ H ⟨[.ref a], []⟩ [.ref a] [.ref a] _ _ rfl hr (h.env d) (hbind s₁ (.ref a)) (.cons rfl .nil) q) fun r s' z => ?_
  cases r with
  | error e => exact z.elim
  | ok fl =>
    cases fl with
    | next => exact z.elim
    | brk => exact z.elim
    | cont => exact z.elim
    | ret u =>
      obtain ⟨v, H', os, bare, un, ok', r', rfl⟩ := z
      obtain rfl : u = Value.bool true := r'
      exact ⟨rfl, h.old d un ok', os, bare⟩
/-- what is known of the law's promise at the head's heap -/
def LawG (l : PySem.W.OpenLaw) (w : World) (K : Fg) (k n : Nat) (x : Str) (mg : Str → Option Value) (fa : Addr) (h : Heap) : Prop :=
  ∃ (fd : FuncData) (cs : List (Addr × Addr)) (sp : Sp), (∀ p ∈ cs, h.get? p.2 = some tblO) ∧ (∀ p ∈ cs, K.lookup p.2 = none) ∧ (∀ p ∈ cs, PySem.W.CodeHd h p.1 p.2) ∧ (∀ (s : Shared) (u : Value), BindsTo s fd ⟨[u], []⟩ [(x, u)]) ∧
    (∀ (H : Hp) (a : Addr) (ns : List Int), ns.length ≤ n → (∀ p ∈ cs, H p.2 = some (.tbl #[])) → SqL K H a (ns.map V.int) → sp [.ref a] H (fun v _ => v = .bl true) fun _ _ _ => False) ∧
    ∀ base : Heap, K.In base → base.Ns mainGlobals mg → (∀ p ∈ cs, TabB base mg p.1 p.2) → FnG l.prog w K mg base k fa fd [x] sp
theorem walk_ofG {l : PySem.W.OpenLaw} {n k : Nat} {q : Program} {loose : List Str} {XP : (Str → Option Value) → Heap → Prop} {YP : World → Heap → Prop} {d : DefRec} {K : Params → Fg} {x : Str}
    (hn : l.most = some n) (hn2 : n ≤ sizeLine) (hdf : d.params.defaults = []) (hr : Room k callerA) (hY : ∀ (w : World) (h : Heap), YP w h → (K w.params).In h)
    (F : ∀ (w : World) (mg : Str → Option Value) (fa : Addr) (h : Heap), YP w h → (K w.params).In h → h.Ns mainGlobals mg → mg d.name = some (.ref fa) → LawG l w (K w.params) k n x mg fa h) :
    PySem.W.WalkO q loose XP YP l.row.toRowW d [] (fun f vs => PySem.call f vs) := by
  refine Att.attach_callB hn hdf fun w s₀ s₁ mg mb fa o pm cd doc a vs ns G Y ho hd hcd hmg hobj hints hlen hbits hg => ?_
  have KX := hY w _ Y
  obtain ⟨fd, cs, sp, hT, nT, C, hb, hsp, hF⟩ := F w mg fa _ Y KX G.T.g hmg
  exact lawG_call (cs := cs) ⟨KX, G.T.g, G.T.b, G.T.builtins, G.T.nolimit, hg, hT, nT, C, G.T.bmain, hobj⟩ hints (Nat.le_trans hlen hn2) hr hF hb fun H hH hS => hsp H a ns hlen hH hS
end
end NW
/-! repr of data -/
namespace NW
open PySem PySem.Spec PyProof.Rows L2 StX NM
mutual
def pyD : D → PyData
  | .none => .none
  | .num i => .int i
  | .text z => .str z
  | .tup ds => .tuple (pyDs ds)
def pyDs : List D → List PyData
  | [] => []
  | d :: ds => pyD d :: pyDs ds
end
section
variable {X : Cx} {pins : List (Addr × Obj)} {σ : St} {H : Hp} {s : Shared}
mutual
theorem reads_of (I : L2.Inv X pins σ H s) : ∀ (d : D) (x : V) (v : Value), Rp X.K H x d → RelV x v → ∃ as, Reads s.heap v (pyD d) as
  | .none, _, v, h, r => by
    cases h
    obtain rfl : v = Value.none := r
    exact ⟨_, .none⟩
  | .num i, _, v, h, r => by
    cases h
    obtain ⟨t, rfl⟩ := r
    exact ⟨_, .int i t⟩
  | .text z, _, v, h, r => by
    cases h
    obtain ⟨t, rfl⟩ := r
    exact ⟨_, .str z t⟩
  | .tup ds, _, v, h, r => by
    obtain ⟨a, xs, rfl, ta, ra⟩ := h.tup_inv
    obtain ⟨its, rv, it, _⟩ := I.tuple ta.sq
    have ev : v = .ref a := r
    subst ev
    obtain ⟨as, rs⟩ := reads_ofA I ds xs its ra rv
    obtain ⟨o, e, hc, n, hd⟩ := it
    exact ⟨_, .tuple e hc hd (by rw [List.toList_toArray]; exact rs)⟩
theorem reads_ofA (I : L2.Inv X pins σ H s) : ∀ (ds : List D) (xs : List V) (vs : List Value), RpA X.K H xs ds → Vals xs vs → ∃ as, ReadsAll s.heap vs (pyDs ds) as
  | [], _, _, h, r => by
    cases h
    cases r
    exact ⟨_, .nil⟩
  | d :: ds, _, _, h, r => by
    cases h with
    | cons h1 h2 =>
      cases r with
      | cons r1 r2 =>
        obtain ⟨as, q1⟩ := reads_of I d _ _ h1 r1
        obtain ⟨bs, q2⟩ := reads_ofA I ds _ _ h2 r2
        exact ⟨_, .cons q1 q2⟩
end
/-- what may be shown -/
structure ShowOk (d : PyData) : Prop where
  sh : d.showable = true
  nd : d.hasDict = false
  dp : d.depth + 1 ≤ 64
  sz : d.shown.length ≤ sizeLine
def rRepr (K : Fg) : List V → Hp → VK → Prop := fun xs H Q => (xs = [.non] ∧ Q (.str "None") H) ∨ ∃ a, xs = [.ref a] ∧ ((∃ ds, Rp K H (.ref a) (.tup ds) ∧ ShowOk (pyD (.tup ds)) ∧ Q (.str (pyD (.tup ds)).shown) H) ∨
  ∃ vs ds, H a = some (.lst vs) ∧ RpA K H vs ds ∧ ShowOk (.list (pyDs ds)) ∧ Q (.str (PyData.list (pyDs ds)).shown) H)
theorem call_repr (hA : X.A.guards = some []) {k : Nat} (hr : Room k X.A) : CallR X (.builtin "repr") (rRepr X.K) := fun pins s σ H xs us Q I rv h => by
  rcases h with ⟨rfl, q⟩ | ⟨a, rfl, h⟩
  · obtain ⟨u, rfl, ru⟩ := rv.one
    have eu : u = .none := ru
    subst eu
    exact PySem.P.repr_of_none ⟨.str "None", H, I.tok _, ⟨_, rfl⟩, q⟩
  obtain ⟨u, rfl, ru⟩ := rv.one
  have eu : u = .ref a := ru
  subst eu
  have hu := hr.units
  have go : ∀ (d : PyData) (as : List Addr), Reads s.heap (.ref a) d as → ShowOk d → Q (.str d.shown) H → wpAny (model X.prog X.w) X.A (call (.builtin "repr") [.ref a]) (EP X pins σ Q) X.xe s := fun d as rd ok q =>
    repr_of_reads' rd ok.sh (fun z => by rw [ok.nd] at z; cases z) hA (by have := ok.dp; omega) (fun _ _ e => e) (fun h' u tk hk => ⟨.str d.shown, H, I.kept hk, ⟨_, rfl⟩, q⟩) ok.sz
  rcases h with ⟨ds, rp, ok, q⟩ | ⟨vs, ds, hl, ra, ok, q⟩
  · obtain ⟨as, rd⟩ := reads_of I _ _ _ rp (show RelV (.ref a) (.ref a) from rfl)
    exact go _ as rd ok q
  · obtain ⟨z, its, n, r, _, e⟩ := I.lstM hl
    obtain ⟨as, rs⟩ := reads_ofA I ds vs its ra r
    exact go _ _ (.list e rfl rfl (by rw [List.toList_toArray]; exact rs)) ok q
end
end NW
/-! how long what is shown is -/
namespace NW
open PySem PySem.Spec PyProof.Rows L2 StX NM
structure Shw (k n : Nat) (d : PyData) : Prop where
  sh : d.showable = true
  nd : d.hasDict = false
  dp : d.depth ≤ k
  sz : d.shown.length ≤ n
theorem Shw.ok {k n : Nat} {d : PyData} (h : Shw k n d) (hk : k ≤ 60) (hn : n ≤ 1000000) : ShowOk d := ⟨h.sh, h.nd, by have := h.dp; omega, Nat.le_trans (Nat.le_trans h.sz hn) (by decide)⟩
theorem Shw.up {k n k' n' : Nat} {d : PyData} (h : Shw k n d) (hk : k ≤ k') (hn : n ≤ n') : Shw k' n' d := ⟨h.sh, h.nd, Nat.le_trans h.dp hk, Nat.le_trans h.sz hn⟩
theorem shwA {k n : Nat} : ∀ ds : List D, (∀ d ∈ ds, Shw k n (pyD d)) → PyData.showableAll (pyDs ds) = true ∧ PyData.hasDictAll (pyDs ds) = false ∧ PyData.depthAll (pyDs ds) ≤ k ∧ ((PyData.shownAll (pyDs ds)).map (·.length)).sum ≤ n * ds.length ∧ (PyData.shownAll (pyDs ds)).length = ds.length
  | [], _ => by simp [pyDs, PyData.showableAll, PyData.hasDictAll, PyData.depthAll, PyData.shownAll]
  | d :: ds, h => by
    obtain ⟨a1, a2, a3, a4, a5⟩ := shwA ds fun x hx => h x (List.mem_cons_of_mem _ hx)
    have b := h d List.mem_cons_self
    simp only [pyDs, PyData.showableAll, PyData.hasDictAll, PyData.depthAll, PyData.shownAll, List.map_cons, List.sum_cons, List.length_cons]
    refine ⟨by rw [b.sh, a1]; rfl, by rw [b.nd, a2]; rfl, Nat.max_le.mpr ⟨b.dp, a3⟩, ?_, by omega⟩
    have := b.sz
    rw [Nat.mul_add, Nat.mul_one]
    omega
theorem shw_tup {k n : Nat} {ds : List D} (h : ∀ d ∈ ds, Shw k n (pyD d)) : Shw (k + 1) ((n + 2) * ds.length + 3) (pyD (.tup ds)) := by
  obtain ⟨a1, a2, a3, a4, a5⟩ := shwA ds h
  have e : pyD (.tup ds) = .tuple (pyDs ds) := by simp only [pyD]
  rw [e]
  refine ⟨by simp only [PyData.showable]; exact a1, by simp only [PyData.hasDict]; exact a2, by simp only [PyData.depth]; omega, ?_⟩
  have := tupleText_len_le (PyData.shownAll (pyDs ds))
  simp only [PyData.shown]
  rw [Nat.add_mul]
  omega
theorem shw_lst {k n : Nat} {ds : List D} (h : ∀ d ∈ ds, Shw k n (pyD d)) : Shw (k + 1) ((n + 2) * ds.length + 3) (.list (pyDs ds)) := by
  obtain ⟨a1, a2, a3, a4, a5⟩ := shwA ds h
  refine ⟨by simp only [PyData.showable]; exact a1, by simp only [PyData.hasDict]; exact a2, by simp only [PyData.depth]; omega, ?_⟩
  have := listText_len_le (PyData.shownAll (pyDs ds))
  simp only [PyData.shown]
  rw [Nat.add_mul]
  omega
theorem cc_reprT {K : Fg} {ds : List D} (ok : ShowOk (pyD (.tup ds))) : CmC K (rRepr K) [.d (.tup ds)] (.d (.text (pyD (.tup ds)).shown)) := fun xs H Q r q => by
  obtain ⟨x, rfl, rx⟩ := one_inv r
  obtain ⟨a, ys, rfl, _, _⟩ := Rp.tup_inv rx
  exact .inr ⟨a, rfl, .inl ⟨ds, rx, ok, q _ H (Same.refl H) (.str _)⟩⟩
theorem cc_reprL {K : Fg} {ds : List D} (ok : ShowOk (.list (pyDs ds))) : CmC K (rRepr K) [.l ds] (.d (.text (PyData.list (pyDs ds)).shown)) := fun xs H Q r q => by
  obtain ⟨x, rfl, a, ys, rfl, ea, ra⟩ := one_inv r
  exact .inr ⟨a, rfl, .inr ⟨ys, ds, ea, ra, ok, q _ H (Same.refl H) (.str _)⟩⟩
theorem cc_reprN {K : Fg} : CmC K (rRepr K) [.d .none] (.d (.text "None")) := fun xs H Q r q => by
  obtain ⟨x, rfl, rx⟩ := one_inv r
  cases rx
  exact .inl ⟨rfl, q _ H (Same.refl H) (.str _)⟩
end NW
/-! the law's helpers that show: halves -/
namespace NW
open PySem PySem.Spec PyProof.Rows L2 StX NM
local macro_rules | `(tactic| walk_at "my") => `(tactic| fail)
local macro_rules | `(tactic| walk_at "mycm") => `(tactic| fail)
local macro_rules | `(tactic| walk_at "myco") => `(tactic| fail)
local macro_rules | `(tactic| walk_at "mycc") => `(tactic| fail)
local macro_rules | `(tactic| walk_at "sh") => `(tactic| first | assumption | exact sh_n | exact Sh.num | exact Sh.non | exact sh_role | exact Sh.text (by decide +kernel) | exact sh_ns | exact sh_s | exact sh_m | exact sh_o | exact sh_h | exact sh_t | exact sh_ss | exact sh_ms | exact sh_head | exact sh_L | exact sh_nil | (apply sh_cons <;> walk_at "sh"))
local macro_rules | `(tactic| walk_at "shs") => `(tactic| first | assumption | exact shs_nil | (apply shs_cons; walk_at "sh"; walk_at "shs"))
local macro_rules | `(tactic| walk_at "co") => `(tactic| first
  | ((with_reducible apply co_ixTe); exact rfl; exact rfl)
  | ((with_reducible exact co_ixDl))
  | ((with_reducible apply co_ixL); exact rfl)
  | (with_reducible exact co_lt) | (with_reducible exact co_le) | (with_reducible exact co_gt) | (with_reducible exact co_ge) | (with_reducible exact co_sub)
  | (with_reducible exact co_isN) | (with_reducible exact co_isNotN)
  | ((with_reducible apply co_eq) <;> walk_at "sh") | ((with_reducible apply co_ne) <;> walk_at "sh")
  | (with_reducible exact co_add)
  | ((with_reducible apply co_inTe); exact rfl; walk_at "sh"; walk_at "shs")
  | walk_at "myco")
local macro_rules | `(tactic| walk_at "cc") => `(tactic| first
  | ((with_reducible apply cc_lenTe); exact rfl) | (with_reducible exact cc_lenL) | (with_reducible exact cc_all) | (with_reducible exact cc_any) | (with_reducible exact cc_tuple) | (with_reducible exact cc_intI)
  | (with_reducible exact cc_intB) | (with_reducible exact cc_min2) | (with_reducible exact cc_listT)
  | ((with_reducible apply cc_isi); first | exact isi_int rfl | exact isi_bool | exact isi_tuple rfl | exact isi_str rfl)
  | walk_at "mycc")
local macro_rules | `(tactic| walk_at "ca") => `(tactic| first
  | (with_reducible exact ca_nil)
  | ((with_reducible apply ca_cons); walk_at "cm"; walk_at "ca"))
local macro_rules | `(tactic| walk_at "cad") => `(tactic| first
  | (with_reducible exact cad_nil)
  | ((with_reducible apply cad_cons); walk_at "cm"; walk_at "cad")
  | ((with_reducible apply cad_starE); walk_at "cm"; exact rfl; walk_at "cad"))
local macro_rules | `(tactic| walk_at "cm") => `(tactic| first
  | ((with_reducible apply cm_var); exact rfl)
  | (with_reducible exact cm_int) | (with_reducible exact cm_str) | (with_reducible exact cm_non) | (with_reducible exact cm_bl)
  | ((with_reducible apply cm_op); walk_at "cm"; walk_at "cm"; walk_at "co")
  | ((with_reducible apply cm_tupD); walk_at "cad"; walk_at "size")
  | ((with_reducible apply cm_neg); walk_at "cm")
  | ((with_reducible apply cm_call); walk_at "ca"; walk_at "my")
  | walk_at "mycm"
  | ((with_reducible apply cm_cb); walk_at "ca"; walk_at "cc")
  | ((with_reducible apply cm_chain); walk_at "cm"; walk_at "cm"; walk_at "co"; (intro _; walk_at "cm"); walk_at "co")
  | ((with_reducible apply cm_andVF); walk_at "cm"; walk_at "dec0")
  | ((with_reducible apply cm_orVT); walk_at "cm"; walk_at "dec0")
  | ((with_reducible apply cm_ifT); walk_at "ct"; walk_at "dec"; walk_at "cm")
  | ((with_reducible apply cm_ifF); walk_at "ct"; walk_at "dec"; walk_at "cm")
  | ((with_reducible apply cm_andV); walk_at "cm"; (intro _; walk_at "cm"))
  | ((with_reducible apply cm_orV); walk_at "cm"; (intro _; walk_at "cm"))
  | ((with_reducible apply cm_notV); walk_at "cm")
  | (with_reducible exact cm_val))
local macro_rules | `(tactic| walk_at "ct") => `(tactic| first
  | ((with_reducible apply ct_test); walk_at "cm") | ((with_reducible apply ct_B); walk_at "cm") | ((with_reducible apply ct_not); walk_at "ct")
  | ((with_reducible apply ct_andF); walk_at "ct"; walk_at "dec0")
  | ((with_reducible apply ct_orT); walk_at "ct"; walk_at "dec0")
  | ((with_reducible apply ct_and); walk_at "ct"; (intro _; walk_at "ct"))
  | ((with_reducible apply ct_or); walk_at "ct"; (intro _; walk_at "ct")))
local macro_rules | `(tactic| walk_at "size") => `(tactic| focus first | assumption | (simp; done) | (simp; omega) | omega)
local macro_rules | `(tactic| walk_at "dec0") => `(tactic| focus first | rfl | (simp [eHead, eL, eSs, eMs, eS, eM, eT, eN, eNs, eH, eO, rN]; done))
local macro_rules | `(tactic| walk_at "dec") => `(tactic| focus first | rfl | (simp [eHead, eL, eSs, eMs, eS, eM, eT, eN, eNs, eH, eO, rN]; done) | (simp [eHead, eL, eSs, eMs, eS, eM, eT, eN, eNs, eH, eO, rN]; omega) | (simp [eHead, eL, eSs, eMs, eS, eM, eT, eN, eNs, eH, eO, rN, *]; done))
local macro_rules | `(tactic| walk_at "skip") => `(tactic| ((with_reducible apply bs_skip); walk_at "ct"; walk_at "dec"))
local macro_rules | `(tactic| walk_at "take") => `(tactic| (refine bs_seqR ?_; (with_reducible apply bs_ifT); walk_at "ct"; walk_at "dec"))
local macro_rules | `(tactic| walk_at "ret") => `(tactic| (refine bs_ret ?_; (with_reducible apply cm_is); walk_at "cm"))
local macro_rules | `(tactic| walk_at "set") => `(tactic| ((with_reducible apply bs_setS); walk_at "cm"))
local macro_rules | `(tactic| walk_at "drop") => `(tactic| ((with_reducible apply bs_dropS); walk_at "cm"))
local macro_rules | `(tactic| walk_at "norm") => `(tactic| skip)
local macro_rules | `(tactic| walk_at "less") => `(tactic| first | exact less_nil | (apply less_some; walk_at "less") | (apply less_none; walk_at "less"))
local macro_rules | `(tactic| walk_at "flat") => `(tactic| first | exact flat_nil | (refine flat_cons ?_ ?_; (first | exact trivial | exact rfl); walk_at "flat"))
local macro_rules | `(tactic| walk_at "stay") => `(tactic| first | exact stay_nil | (refine stay_cons ?_ ?_; (first | exact stay_none | exact stay_d | exact stay_b | exact stay_v | exact stay_old (by assumption)); walk_at "stay"))
section
variable {P : Program} {w : World} {K : Fg} {mg : Str → Option Value} {base : Heap}
theorem reprK {X : Cx} (hA : X.A.guards = some []) {k : Nat} (hr : Room k X.A) (K : Fg) (hK : X.K = K) : CallR X (.builtin "repr") (rRepr K) := hK ▸ call_repr hA hr
/-- a def's promise on data, where no repr is under way -/
theorem calG {x gx : Str} {st : Stmt} {N ps : List Str} {k : Nat} {R : List W → W → Prop} (A : DefAt K mg x gx st ps) (S : FnScope N ps (defScope st)) (hl : ∀ ws u, R ws u → ws.length = ps.length)
    (hb : ∀ (f : Addr) (cdv : Value) (A : Around) (outer : List Env) (s : Shared) (H : Hp) (E : XK) (ws : List W) (u : W), A.guards = some [] → Room k (A.deeper (envOfC x (defScope st) s.heap.objs.size f cdv)) → R ws u →
      ∃ t, PSs (cxOf CX0 P w K mg base N x (defScope st) f cdv A outer s H E).nox (defBody st) t ∧ Ret K t (startW N ws) u) : CalG P w K mg base (k + 1) gx (spF K R) := by
  obtain ⟨f, fd, F, b, m⟩ := A.ex
  refine ⟨f, fd, ps, fnG_of F S (fun vs H Q E h => ?_) (fun cdv A outer s H vs Q E hA hr h => ?_), m, F.kp, b⟩
  · obtain ⟨ws, u, h1, h2, _⟩ := h
    rw [h1.length]
    exact hl ws u h2
  · obtain ⟨ws, u, h1, h2, q⟩ := h
    obtain ⟨t, h3, h4⟩ := hb f cdv A outer s H E ws u hA hr h2
    refine ⟨t, h3, ?_⟩
    rcases h4 with h4 | ⟨e, r', h4⟩
    · exact h4 _ _ H (env_start h1) fun y H' s' ry => q y H' s' ry
    · subst e
      exact h4 _ _ H (env_start h1) fun σ' H' s' _ => q _ H' s' .non
theorem co_eqS {a b : Str} : CmO K rEq (.d (.text a)) (.d (.text b)) (.b (decide (a = b))) := fun x y H Q rx ry q => by
  cases rx
  cases ry
  exact ⟨rfl, q _ H (Same.refl H) (by show V.bl _ = V.bl _; congr 1; simp)⟩
theorem co_neS {a b : Str} : CmO K rNe (.d (.text a)) (.d (.text b)) (.b (!decide (a = b))) := fun x y H Q rx ry q => by
  cases rx
  cases ry
  exact ⟨rfl, q _ H (Same.refl H) (by show V.bl _ = V.bl _; congr 1; simp)⟩
theorem shw_nat {n : Nat} (h : n < 10) : Shw 0 2 (pyD (eN n)) := by
  have : n = 0 ∨ n = 1 ∨ n = 2 ∨ n = 3 ∨ n = 4 ∨ n = 5 ∨ n = 6 ∨ n = 7 ∨ n = 8 ∨ n = 9 := by omega
  rcases this with rfl | rfl | rfl | rfl | rfl | rfl | rfl | rfl | rfl | rfl <;> exact ⟨by decide +kernel, by decide +kernel, by decide +kernel, by decide +kernel⟩
theorem shw_ns {ns : List Nat} (h : ∀ n ∈ ns, n < 10) (hl : ns.length ≤ 10) : Shw 1 43 (pyD (eNs ns)) := (shw_tup (k := 0) (n := 2) fun d hd => by
  obtain ⟨n, hn, rfl⟩ := List.mem_map.mp hd
  exact shw_nat (h n hn)).up (Nat.le_refl _) (by rw [List.length_map]; omega)
theorem shw_eH {o : Option Nat} (h : ∀ n, o = some n → n < 10) : Shw 0 2 (pyD (eH o)) := by
  cases o with
  | none => exact ⟨by decide +kernel, by decide +kernel, by decide +kernel, by decide +kernel⟩
  | some n => exact shw_nat (h n rfl)
theorem shw_T {L : Lang} (g : Good L) {s : Std} (t : GoodT L s) : Shw 2 138 (pyD (eT s)) := by
  have h4 := g.h4
  have n4 := g.n4
  have gl : s.got.length ≤ 10 := by
    cases hh : s.hd with
    | none => rw [t.pl.no hh]; simp
    | some h => have := (t.pl.hl h hh).2; have := g.long_le h; omega
  have ol := on_len g t
  refine (shw_tup (k := 1) (n := 43) fun d hd => ?_).up (Nat.le_refl _) (by simp)
  simp only [List.mem_cons, List.mem_nil_iff, or_false] at hd
  rcases hd with rfl | rfl | rfl
  · exact (shw_eH fun n hn => by have := (t.pl.hl n hn).1; omega).up (by omega) (by omega)
  · exact shw_ns (fun n hn => by have := t.pl.vs n hn; omega) gl
  · exact shw_ns (fun n hn => by have := t.on n hn; omega) (by omega)
theorem shw_M {L : Lang} (g : Good L) {m : Msg} (h : GoodM L m) : Shw 2 93 (pyD (eM m)) := by
  have h4 := g.h4
  have n4 := g.n4
  refine (shw_tup (k := 1) (n := 43) fun d hd => ?_).up (Nat.le_refl _) (by simp)
  simp only [List.mem_cons, List.mem_nil_iff, or_false] at hd
  rcases hd with rfl | rfl
  · exact (shw_nat (by have := h.hl; omega)).up (by omega) (by omega)
  · exact shw_ns (fun n hn => by have := h.vs n hn; omega) (by rw [h.ln]; have := g.long_le m.1; omega)
theorem shw_Ms {L : Lang} (g : Good L) {ms : List Msg} (h : ∀ m ∈ ms, GoodM L m) (hl : ms.length ≤ 100) : Shw 3 9503 (pyD (eMs ms)) := (shw_tup (k := 2) (n := 93) fun d hd => by
  obtain ⟨m, hm, rfl⟩ := List.mem_map.mp hd
  exact shw_M g (h m hm)).up (Nat.le_refl _) (by rw [List.length_map]; omega)
/-! ### _law_halves_right -/
abbrev s_law_halves_right : Stmt := top 87
abbrev N_law_halves_right : List Str := ["_law_tongue_here", "_law_standing", "_law_one", "_law_two", "_law_here", "_law_heard", "_law_there", "_law_more"]
theorem sc_law_halves_right : FnScope N_law_halves_right ["_law_tongue_here", "_law_standing", "_law_one", "_law_two"] (defScope s_law_halves_right) := ⟨rfl, rfl, rfl, by decide +kernel, rfl, by decide +kernel, by decide +kernel⟩
def R_halves : List W → W → Prop := fun ws w => ∃ L s xs ys, Good L ∧ GoodT L s ∧ (∀ x ∈ xs, L.ok x) ∧ (∀ x ∈ ys, L.ok x) ∧ xs.length ≤ 40 ∧ ys.length ≤ 40 ∧ ws = [.d (eL L), .d (eT s), .d (eSs xs), .d (eSs ys)] ∧ w = .b true
theorem ok_halves (T : Txt K mg) (A : DefAt K mg "_law_halves_right" "_law_halves_right" s_law_halves_right ["_law_tongue_here", "_law_standing", "_law_one", "_law_two"]) (C_read : CalF P w K mg base 5 "read" R_read) : CalG P w K mg base 6 "_law_halves_right" (spF K R_halves) := by
  refine calG A sc_law_halves_right (fun ws u h => ?_) (fun f cdv A outer s H E ws u hA hr h => ?_)
  · obtain ⟨_, _, _, _, _, _, _, _, _, _, rfl, _⟩ := h; rfl
  · obtain ⟨L, s, xs, ys, g, t, hx, hy, lx, ly, rfl, rfl⟩ := h
    refine ⟨_, (pss_cons (ps_asg (C8.pe_c C_read hr (by decide) rfl (pa_cons (pv 0) (pa_cons (pv 1) (pa_cons (pv 2) pa_nil)))) (pgTK (n := 2) K rfl rfl (pgs_cons (pg_name (i := 4) sc_law_halves_right.nd rfl (by first | exact Or.inl rfl | exact Or.inr rfl)) (pgs_cons (pg_name (i := 5) sc_law_halves_right.nd rfl (by first | exact Or.inl rfl | exact Or.inr rfl)) pgs_nil)))) (pss_cons (ps_asg (C8.pe_c C_read hr (by decide) rfl (pa_cons (pv 0) (pa_cons (pv 4) (pa_cons (pv 3) pa_nil)))) (pgTK (n := 2) K rfl rfl (pgs_cons (pg_name (i := 6) sc_law_halves_right.nd rfl (by first | exact Or.inl rfl | exact Or.inr rfl)) (pgs_cons (pg_name (i := 7) sc_law_halves_right.nd rfl (by first | exact Or.inl rfl | exact Or.inr rfl)) pgs_nil)))) (pss_one (ps_ret (pe_cmpR op_eq (pe_callB (reprK hA hr K rfl) rfl T.b_repr bo_repr (pa_cons (C8.pe_c C_read hr (by decide) rfl (pa_cons (pv 0) (pa_cons (pv 1) (pa_cons (pe_op (addK K rfl) (pv 2) (pv 3)) pa_nil)))) pa_nil)) (pe_callB (reprK hA hr K rfl) rfl T.b_repr bo_repr (pa_cons (pe_tup (pa_cons (pv 6) (pa_cons (pe_op (addK K rfl) (pv 5) (pv 7)) pa_nil))) pa_nil)) (nomark _)))))), .inl ?_⟩
    obtain ⟨t1, m1⟩ := good_read g t hx
    obtain ⟨t2, m2⟩ := good_read g t1 hy
    have l1 := heard_len L xs s
    have l2 := heard_len L ys (readSo L s xs).1
    have h12 : ∀ x ∈ xs ++ ys, L.ok x := fun x hx' => by
      rcases List.mem_append.mp hx' with z | z
      · exact hx x z
      · exact hy x z
    refine bs_asgS (w := .d (.tup [eT (readSo L s xs).1, eMs (readSo L s xs).2])) (cm_call (ca_cons (cm_var rfl) (ca_cons (cm_var rfl) (ca_cons (cm_var rfl) ca_nil))) (r_read g t hx (by omega))) (cg_tup (cgs_cons cg_name (cgs_cons cg_name cgs_nil)) rfl) ?_
    refine bs_asgS (w := .d (.tup [eT (readSo L (readSo L s xs).1 ys).1, eMs (readSo L (readSo L s xs).1 ys).2])) (cm_call (ca_cons (cm_var rfl) (ca_cons (cm_var rfl) (ca_cons (cm_var rfl) ca_nil))) (r_read g t1 hy (by omega))) (cg_tup (cgs_cons cg_name (cgs_cons cg_name cgs_nil)) rfl) ?_
    have ap := read_app L xs ys s
    have sw : Shw 4 19013 (pyD (.tup [eT (readSo L (readSo L s xs).1 ys).1, eMs ((readSo L s xs).2 ++ (readSo L (readSo L s xs).1 ys).2)])) := (shw_tup (k := 3) (n := 9503) fun d hd => by
      simp only [List.mem_cons, List.mem_nil_iff, or_false] at hd
      rcases hd with rfl | rfl
      · exact (shw_T g t2).up (by omega) (by omega)
      · exact shw_Ms g (fun m hm => by
          rcases List.mem_append.mp hm with z | z
          · exact m1 m z
          · exact m2 m z) (by rw [List.length_append]; omega)).up (by omega) (by simp)
    have ok := sw.ok (by omega) (by omega)
    have c1 := cm_call (K := K) (R := R_read) (E := C8.E0) (ca_cons (cm_var (r := (((((startW N_law_halves_right [.d (eL L), .d (eT s), .d (eSs xs), .d (eSs ys)]).set 4 (some (.d (eT (readSo L s xs).1)))).set 5 (some (.d (eMs (readSo L s xs).2)))).set 6 (some (.d (eT (readSo L (readSo L s xs).1 ys).1)))).set 7 (some (.d (eMs (readSo L (readSo L s xs).1 ys).2))))) (i := 0) rfl) (ca_cons (cm_var (i := 1) rfl) (ca_cons (cm_op (cm_var (i := 2) rfl) (cm_var (i := 3) rfl) (co_addTe (as := xs.map eS) (bs := ys.map eS) rfl rfl (by simp; omega))) ca_nil))) (by rw [← List.map_append]; exact r_read g t h12 (by simp; omega))
    rw [ap] at c1
    have c2 : Cm K (tTup (tCons (tVar 6) (tCons (tOp (rAddU K) (tVar 5) (tVar 7)) tNil))) (((((startW N_law_halves_right [.d (eL L), .d (eT s), .d (eSs xs), .d (eSs ys)]).set 4 (some (.d (eT (readSo L s xs).1)))).set 5 (some (.d (eMs (readSo L s xs).2)))).set 6 (some (.d (eT (readSo L (readSo L s xs).1 ys).1)))).set 7 (some (.d (eMs (readSo L (readSo L s xs).1 ys).2)))) _ := cm_tupD (cad_cons (cm_var (i := 6) (w := .d (eT (readSo L (readSo L s xs).1 ys).1)) rfl) (cad_cons (cm_op (cm_var (i := 5) rfl) (cm_var (i := 7) rfl) (co_addTe (as := (readSo L s xs).2.map eM) (bs := (readSo L (readSo L s xs).1 ys).2.map eM) rfl rfl (by simp; omega))) cad_nil)) (by simp)
    rw [← List.map_append] at c2
    have c3 := cm_op (cm_cb (ca_cons c1 ca_nil) (cc_reprT ok)) (cm_cb (ca_cons c2 ca_nil) (cc_reprT ok)) co_eqS
    exact bs_ret (cm_is c3 (congrArg W.b (decide_eq_true rfl)))
end
end NW
/-! the plain laws: settling, being alike -/
namespace NW
open PySem PySem.Spec PyProof.Rows L2 StX NM
section
variable {L : Lang} {xs ys zs : List NM.Sign}
def fin (L : Lang) (xs : List NM.Sign) (s : Std) : Std := (readSo L s xs).1
theorem fin_app {s : Std} : fin L (xs ++ ys) s = fin L ys (fin L xs s) := by unfold fin; rw [read_app]
theorem fin_good (g : Good L) (hx : ∀ x ∈ xs, L.ok x) {s : Std} (t : GoodT L s) : GoodT L (fin L xs s) := (good_read g t hx).1
theorem alike_iff : partS L xs ys = none ↔ ∀ s, GoodT L s → fin L xs s = fin L ys s := by
  unfold partS
  rw [List.find?_eq_none]
  constructor
  · intro h s t
    have := h s (mem_stds.mpr t)
    simpa [differ, fin] using this
  · intro h s hs
    have := h s (mem_stds.mp hs)
    simpa [differ, fin] using this
theorem part_symm : partS L xs ys = partS L ys xs := by
  unfold partS
  congr 1
  funext s
  unfold differ
  congr 1
  rw [decide_eq_decide]
  exact eq_comm
theorem putD_new {β : Type} {kvs : List (D × β)} {k : D} {v : β} (h : valN kvs k = none) : putD kvs k v = kvs ++ [(k, v)] := by
  unfold putD
  rw [h]
  rfl
theorem putD_old {β : Type} {kvs : List (D × β)} {k : D} {v w : β} (h : valN kvs k = some w) : (putD kvs k v).length = kvs.length ∧ (putD kvs k v).map Prod.fst = kvs.map Prod.fst := by
  unfold putD
  rw [h]
  refine ⟨by simp, ?_⟩
  show List.map Prod.fst (kvs.map fun p => if p.1 = k then (p.1, v) else p) = _
  rw [List.map_map]
  refine List.map_congr_left fun p _ => ?_
  show (if p.1 = k then (p.1, v) else p).1 = p.1
  split <;> rfl
theorem valN_keys {β : Type} {kvs : List (D × β)} {k : D} : valN kvs k = none ↔ k ∉ kvs.map Prod.fst := by
  unfold valN
  rw [Option.map_eq_none_iff, List.find?_eq_none]
  simp only [decide_eq_true_eq, List.mem_map, not_exists, not_and]
theorem putD_keys {β : Type} (kvs : List (D × β)) (k : D) (v : β) : (∀ q, q ∈ (putD kvs k v).map Prod.fst ↔ q ∈ kvs.map Prod.fst ∨ q = k) ∧ ((kvs.map Prod.fst).Nodup → ((putD kvs k v).map Prod.fst).Nodup) := by
  cases h : valN kvs k with
  | none =>
    rw [putD_new h, List.map_append]
    have hk := valN_keys.mp h
    refine ⟨fun q => by simp, fun nd => ?_⟩
    rw [List.nodup_append]
    exact ⟨nd, by simp, fun a ha b hb => by simp at hb; subst hb; exact fun e => hk (e ▸ ha)⟩
  | some w =>
    rw [(putD_old h).2]
    have hk : k ∈ kvs.map Prod.fst := by
      refine Classical.byContradiction fun z => ?_
      rw [valN_keys.mpr z] at h
      cases h
    exact ⟨fun q => ⟨.inl, fun z => z.elim id fun e => e ▸ hk⟩, id⟩
theorem fold_keys {α β : Type} (fk : α → D) (fv : α → β) : ∀ (as : List α) (acc : List (D × β)), (acc.map Prod.fst).Nodup →
    (∀ q, q ∈ (as.foldl (fun acc a => putD acc (fk a) (fv a)) acc).map Prod.fst ↔ q ∈ acc.map Prod.fst ∨ ∃ a ∈ as, fk a = q) ∧ ((as.foldl (fun acc a => putD acc (fk a) (fv a)) acc).map Prod.fst).Nodup
  | [], acc, nd => ⟨fun q => by simp, nd⟩
  | a :: as, acc, nd => by
    have h := putD_keys acc (fk a) (fv a)
    have ih := fold_keys fk fv as (putD acc (fk a) (fv a)) (h.2 nd)
    refine ⟨fun q => ?_, ih.2⟩
    rw [List.foldl_cons, ih.1 q, h.1 q]
    simp only [List.mem_cons, exists_eq_or_imp]
    constructor
    · rintro ((z | z) | z)
      · exact .inl z
      · exact .inr (.inl z.symm)
      · exact .inr (.inr z)
    · rintro (z | z | z)
      · exact .inl (.inl z)
      · exact .inl (.inr z.symm)
      · exact .inr z
theorem dict_one {α β : Type} {as : List α} {fk : α → D} {fv : α → β} : (dictOf as fk fv).length = 1 ↔ ∃ c, as ≠ [] ∧ ∀ a ∈ as, fk a = c := by
  have h := fold_keys fk fv as [] (by simp)
  have e : (dictOf as fk fv).length = ((dictOf as fk fv).map Prod.fst).length := by rw [List.length_map]
  unfold dictOf at e ⊢
  rw [e]
  generalize (as.foldl (fun acc a => putD acc (fk a) (fv a)) []).map Prod.fst = ks at h
  obtain ⟨h1, h2⟩ := h
  simp only [List.map_nil, List.not_mem_nil, false_or] at h1
  constructor
  · intro hl
    obtain ⟨c, rfl⟩ := List.length_eq_one_iff.mp hl
    obtain ⟨a, ha, _⟩ := (h1 c).mp (by simp)
    exact ⟨c, List.ne_nil_of_mem ha, fun b hb => by simpa using (h1 (fk b)).mpr ⟨b, hb, rfl⟩⟩
  · rintro ⟨c, hn, hc⟩
    obtain ⟨a, ha⟩ := List.exists_mem_of_ne_nil _ hn
    have m : c ∈ ks := (h1 c).mpr ⟨a, ha, hc a ha⟩
    have all : ∀ q ∈ ks, q = c := fun q hq => by
      obtain ⟨b, hb, e⟩ := (h1 q).mp hq
      rw [← e]
      exact hc b hb
    match ks, h2, m, all with
    | [x], _, _, _ => rfl
    | x :: y :: r, nd, _, al =>
      have e1 := al x (by simp)
      have e2 := al y (by simp)
      rw [List.nodup_cons] at nd
      exact absurd (by rw [e1, e2]; simp) nd.1
theorem settle_iff : settleS L xs = true ↔ ∃ c, ∀ s, GoodT L s → fin L xs s = c := by
  unfold settleS
  rw [decide_eq_true_iff, dict_one]
  constructor
  · rintro ⟨c, _, hc⟩
    refine ⟨fin L xs .first, fun s t => ?_⟩
    have e1 := hc s (mem_stds.mpr t)
    have e2 := hc .first (mem_stds.mpr (good_first L))
    exact eT_inj (e1.trans e2.symm)
  · rintro ⟨c, hc⟩
    exact ⟨eT c, List.ne_nil_of_mem (mem_stds.mpr (good_first L)), fun s hs => congrArg eT (hc s (mem_stds.mp hs))⟩
theorem settle_before (g : Good L) (h : settleS L xs = true) : settleS L (xs ++ ys) = true := by
  obtain ⟨c, hc⟩ := settle_iff.mp h
  exact settle_iff.mpr ⟨fin L ys c, fun s t => by rw [fin_app, hc s t]⟩
theorem settle_behind (g : Good L) (hy : ∀ x ∈ ys, L.ok x) (h : settleS L xs = true) : settleS L (ys ++ xs) = true := by
  obtain ⟨c, hc⟩ := settle_iff.mp h
  exact settle_iff.mpr ⟨c, fun s t => by rw [fin_app, hc _ (fin_good g hy t)]⟩
theorem settle_alike1 (g : Good L) (hy : ∀ x ∈ ys, L.ok x) (h : settleS L xs = true) : partS L xs (ys ++ xs) = none := by
  obtain ⟨c, hc⟩ := settle_iff.mp h
  exact alike_iff.mpr fun s t => by rw [fin_app, hc s t, hc _ (fin_good g hy t)]
theorem settle_alike2 (g : Good L) (hx : ∀ x ∈ xs, L.ok x) (hy : ∀ x ∈ ys, L.ok x) (h : settleS L xs = true) : partS L xs (xs ++ ys ++ xs) = none := by
  obtain ⟨c, hc⟩ := settle_iff.mp h
  exact alike_iff.mpr fun s t => by rw [fin_app, fin_app, hc s t, hc _ (fin_good g hy (by rw [← hc s t]; exact fin_good g hx t))]
theorem alike_before (h : partS L xs ys = none) : partS L (xs ++ zs) (ys ++ zs) = none := by
  have h := alike_iff.mp h
  exact alike_iff.mpr fun s t => by rw [fin_app, fin_app, h s t]
theorem alike_behind (g : Good L) (hz : ∀ x ∈ zs, L.ok x) (h : partS L xs ys = none) : partS L (zs ++ xs) (zs ++ ys) = none := by
  have h := alike_iff.mp h
  exact alike_iff.mpr fun s t => by rw [fin_app, fin_app, h _ (fin_good g hz t)]
/-- moments change nothing -/
theorem fin_moment (k : Nat) (s : Std) : readSo L s [.moment k] = (s, []) := by
  simp [readSo, NM.step, NM.taken, notesBehind]
theorem read_moments (k : Nat) (hs : ∀ x ∈ zs, x = .moment k) (s : Std) : readSo L s zs = (s, []) := by
  induction zs with
  | nil => rfl
  | cons z zs ih =>
    obtain rfl := hs z (by simp)
    have e : NM.Sign.moment k :: zs = [.moment k] ++ zs := rfl
    rw [e, read_app, fin_moment, ih fun x hx => hs x (by simp [hx])]
    rfl
theorem read_bent (k : Nat) (hs : ∀ x ∈ zs, x = .moment k) (s : Std) : readSo L s (xs ++ zs ++ ys) = readSo L s (xs ++ ys) := by
  rw [read_app, read_app, read_moments k hs, read_app]
  simp
/-- a head said again -/
theorem fin_head2 (g : Good L) {n : Nat} (hn : n < L.heads.length) (s : Std) : fin L [.head n, .head n] s = fin L [.head n] s := by
  unfold fin
  by_cases h : L.long n = 0
  · have hr : L.role n = .quiet ∨ L.role n = .other := by
      have := (g.hd _ (List.getElem_mem hn)).2
      rw [long_mem hn] at h
      rw [role_mem hn]
      revert this h
      cases (L.heads[n]).1 <;> simp <;> omega
    rcases hr with hr | hr <;> simp [readSo, NM.step, NM.taken, notesBehind, h, hr]
  · simp [readSo, NM.step, NM.taken, notesBehind, h]
theorem alike_heads (g : Good L) {n : Nat} (hn : n < L.heads.length) : partS L (xs ++ [.head n] ++ [.head n]) (xs ++ [.head n]) = none := alike_iff.mpr fun s t => by
  rw [fin_app, fin_app, ← fin_app (xs := [.head n])]
  exact fin_head2 g hn _
end
end NW
/-! the plain laws: streams that fit -/
namespace NW
open PySem PySem.Spec PyProof.Rows L2 StX NM
section
variable {L : Lang} {ms : List Msg}
theorem behind_step (s : Std) (k : Nat) (x : NM.Sign) : behindS L ms ⟨s.hd, s.got, k⟩ x = match (step L s x).2 with
    | none => some ⟨(step L s x).1.hd, (step L s x).1.got, k⟩
    | some m => if ms[k]? = some m then some ⟨(step L s x).1.hd, (step L s x).1.got, k + 1⟩ else none := rfl
theorem path_read : ∀ (xs : List NM.Sign) (s : Std) (k : Nat) (e : Pl), pathS L ms ⟨s.hd, s.got, k⟩ xs = some e ↔ (∃ r, ms.drop k = (readSo L s xs).2 ++ r) ∧ e = ⟨(readSo L s xs).1.hd, (readSo L s xs).1.got, k + (readSo L s xs).2.length⟩
  | [], s, k, e => by
    simp only [pathS, readSo, List.nil_append, List.length_nil, Nat.add_zero, Option.some.injEq]
    exact ⟨fun h => ⟨⟨_, rfl⟩, h.symm⟩, fun h => h.2.symm⟩
  | x :: xs, s, k, e => by
    have hb := behind_step (L := L) (ms := ms) s k x
    have ih := path_read xs (step L s x).1
    simp only [pathS, readSo]
    rw [hb]
    cases hm : (step L s x).2 with
    | none =>
      simp only [Option.bind_some, Option.toList_none, List.nil_append]
      exact ih k e
    | some m =>
      simp only [Option.toList_some, List.cons_append, List.nil_append, List.length_cons]
      by_cases h : ms[k]? = some m
      · rw [if_pos h, Option.bind_some, ih (k + 1) e]
        have hd : ms.drop k = m :: ms.drop (k + 1) := by
          obtain ⟨hk, he⟩ := List.getElem?_eq_some_iff.mp h
          rw [List.drop_eq_getElem_cons hk, he]
        rw [hd]
        simp only [List.cons.injEq, true_and]
        have e2 : ∀ l : Nat, k + 1 + l = k + (l + 1) := fun l => by omega
        rw [e2]
      · rw [if_neg h]
        simp only [Option.bind_none, reduceCtorEq, false_iff, not_and, not_exists]
        intro hr
        obtain ⟨r, hr⟩ := hr
        exfalso
        apply h
        have := congrArg List.head? hr
        simpa [List.head?_drop] using this
/-- what a stream tells it fits -/
theorem fit_path (xs : List NM.Sign) : ∃ e, pathS L (readSo L .first xs).2 begin0 xs = some e ∧ e.n = (readSo L .first xs).2.length :=
  ⟨_, (path_read xs .first 0 _).mpr ⟨⟨[], by simp⟩, rfl⟩, by simp⟩
theorem path_fit {xs : List NM.Sign} {e : Pl} (h : pathS L ms begin0 xs = some e) (hn : e.n = ms.length) : (readSo L .first xs).2 = ms := by
  obtain ⟨⟨r, hr⟩, he⟩ := (path_read xs .first 0 e).mp h
  rw [he] at hn
  simp only [Nat.zero_add] at hn
  rw [List.drop_zero] at hr
  have hl := congrArg List.length hr
  rw [List.length_append] at hl
  have : r = [] := List.length_eq_zero_iff.mp (by omega)
  rw [hr, this, List.append_nil]
theorem bef_all {k : Nat} {p : Pl} : befS L ms k p (signs L).length = cntS L ms (k + 1) p := by
  rw [cnt_sum]
  unfold befS
  rw [List.take_length]
theorem bef_in {k : Nat} {p q : Pl} {j : Nat} {x : NM.Sign} (hj : j < (signs L).length) (hx : (signs L)[j] = x) (hb : behindS L ms p x = some q) : befS L ms k p (j + 1) = befS L ms k p j + cntS L ms k q := by
  rw [befS_succ (y := x) (by rw [List.getElem?_eq_getElem hj, hx]), cnt1_some hb]
/-- its number leads back to it -/
theorem num_at : ∀ {xs : List NM.Sign} {p e : Pl}, pathS L ms p xs = some e → e.n = ms.length → (∀ x ∈ xs, x ∈ signs L) → numS L ms p xs < cntS L ms xs.length p ∧ atS L ms xs.length p (numS L ms p xs) = xs
  | [], p, e, h, hn, _ => by
    simp only [pathS] at h
    cases h
    simp [numS, cntS, hn, atS]
  | x :: xs, p, e, h, hn, hx => by
    obtain ⟨q, hb, hq⟩ := path_cons h
    obtain ⟨h1, h2⟩ := num_at hq hn fun y hy => hx y (List.mem_cons_of_mem _ hy)
    have hm := hx x List.mem_cons_self
    have hj : (signs L).idxOf x < (signs L).length := List.idxOf_lt_length_of_mem hm
    have hxj : (signs L)[(signs L).idxOf x] = x := List.getElem_idxOf hj
    have hbi := bef_in (k := xs.length) hj hxj hb
    have hle := befS_le (L := L) (ms := ms) (k := xs.length) (p := p) (c := (signs L).idxOf x + 1) (d := (signs L).length) hj (Nat.le_refl _)
    rw [bef_all] at hle
    have hnum : numS L ms p (x :: xs) = befS L ms xs.length p ((signs L).idxOf x) + numS L ms q xs := by
      simp only [numS, hb, Option.elim_some]
    rw [hnum, List.length_cons]
    have hlt : befS L ms xs.length p ((signs L).idxOf x) + numS L ms q xs < cntS L ms (xs.length + 1) p := by omega
    refine ⟨hlt, ?_⟩
    obtain ⟨j, x', q', m', hj', hx', hb', hm', hlt', hat⟩ := at_step hlt
    have hbi' := bef_in (k := xs.length) hj' hx' hb'
    have ej : j = (signs L).idxOf x := by
      rcases Nat.lt_trichotomy j ((signs L).idxOf x) with z | z | z
      · have := befS_le (L := L) (ms := ms) (k := xs.length) (p := p) (c := j + 1) (d := (signs L).idxOf x) z (Nat.le_of_lt hj)
        omega
      · exact z
      · have := befS_le (L := L) (ms := ms) (k := xs.length) (p := p) (c := (signs L).idxOf x + 1) (d := j) z (Nat.le_of_lt hj')
        omega
    have ex : x' = x := by
      rw [← hx', ← hxj]
      simp only [ej]
    subst ex
    rw [hb] at hb'
    cases hb'
    have em : m' = numS L ms q xs := by
      rw [ej] at hm'
      omega
    rw [hat, em, h2]
/-- what stands at a number is of that size, made of signs, and leads to the end -/
theorem at_path : ∀ {k : Nat} {p : Pl} {m : Nat}, m < cntS L ms k p → (atS L ms k p m).length = k ∧ (∀ x ∈ atS L ms k p m, x ∈ signs L) ∧ ∃ e, pathS L ms p (atS L ms k p m) = some e ∧ e.n = ms.length
  | 0, p, m, h => by
    unfold cntS at h
    by_cases z : p.n = ms.length
    · exact ⟨rfl, (fun _ h => by cases h), p, rfl, z⟩
    · rw [if_neg z] at h
      exact absurd h (Nat.not_lt_zero _)
  | k + 1, p, m, h => by
    obtain ⟨j, x, q, m', hj, hx, hb, _, hlt, hat⟩ := at_step h
    obtain ⟨h1, h2, e, h3, h4⟩ := at_path hlt
    rw [hat]
    refine ⟨by rw [List.length_cons, h1], fun y hy => ?_, e, by simp [pathS, hb, h3], h4⟩
    rcases List.mem_cons.mp hy with rfl | hy
    · exact hx ▸ List.getElem_mem hj
    · exact h2 y hy
/-! ### order -/
def ltS (x y : NM.Sign) : Bool := PySem.W.dataLt (eS x).data (eS y).data
theorem data_s (x : NM.Sign) : ∃ (z : Str) (n : Nat), (eS x).data = .tuple [.str z, .int n] := by
  cases x <;> exact ⟨_, _, rfl⟩
theorem alike_s (x y : NM.Sign) : PySem.W.alike (eS x).data (eS y).data = true := by
  obtain ⟨z, n, h⟩ := data_s x
  obtain ⟨z', n', h'⟩ := data_s y
  rw [h, h']
  simp [PySem.W.alike, PySem.W.alikeAll]
theorem eqv_s (x y : NM.Sign) : PyData.eqv (eS x).data (eS y).data = decide (x = y) := by
  rw [eqv_data]
  exact decide_eq_decide.mpr ⟨eS_inj, fun h => h ▸ rfl⟩
theorem lt_same (z : Str) (m n : Nat) : PySem.W.dataLt (.tuple [.str z, .int (m : Int)]) (.tuple [.str z, .int (n : Int)]) = decide (m < n) := by
  rw [PySem.W.dataLt_tuple, PySem.W.dataLt_all_yes (by simp [PySem.W.alike]) (by simp [PyData.eqv])]
  by_cases h : m = n
  · subst h
    rw [PySem.W.dataLt_all_yes (by simp [PySem.W.alike]) (by simp [PyData.eqv])]
    simp [PySem.W.keyToksAll, PyProof.Rows.lex_irrefl]
  · rw [PySem.W.dataLt_all_no (by simp [PySem.W.alike]) (by simp [PyData.eqv]; omega), PySem.W.dataLt_int]
    exact decide_eq_decide.mpr (by omega)
theorem lt_other {z z' : Str} (h : z ≠ z') (m n : Nat) : PySem.W.dataLt (.tuple [.str z, .int (m : Int)]) (.tuple [.str z', .int (n : Int)]) = decide (z.cps.toList < z'.cps.toList) := by
  rw [PySem.W.dataLt_tuple, PySem.W.dataLt_all_no (by simp [PySem.W.alike]) (by simp [PyData.eqv, h]), PySem.W.dataLt_str]
theorem lt_hm (m n : Nat) : ltS (.moment m) (.head n) = false := (lt_other (z := "moment") (z' := "head") (by decide +kernel) m n).trans (by decide +kernel)
theorem lt_hv (m n : Nat) : ltS (.value m) (.head n) = false := (lt_other (z := "value") (z' := "head") (by decide +kernel) m n).trans (by decide +kernel)
theorem lt_mv (m n : Nat) : ltS (.value m) (.moment n) = false := (lt_other (z := "value") (z' := "moment") (by decide +kernel) m n).trans (by decide +kernel)
theorem lt_up (mk : Nat → NM.Sign) (z : Str) (hm : ∀ n : Nat, (eS (mk n)).data = .tuple [.str z, .int (n : Int)]) (k : Nat) : ((List.range k).map mk).Pairwise fun a b => ltS b a = false := by
  rw [List.pairwise_map]
  refine List.pairwise_lt_range.imp fun {a b} h => ?_
  unfold ltS
  rw [hm, hm, lt_same]
  exact decide_eq_false (by omega)
/-- signs stand in order -/
theorem signs_up (L : Lang) : (signs L).Pairwise fun a b => ltS b a = false := by
  unfold NM.signs
  rw [List.pairwise_append, List.pairwise_append]
  refine ⟨⟨lt_up .head "head" (fun _ => rfl) _, lt_up .moment "moment" (fun _ => rfl) _, fun a ha b hb => ?_⟩, lt_up .value "value" (fun _ => rfl) _, fun a ha b hb => ?_⟩
  · obtain ⟨i, _, rfl⟩ := List.mem_map.mp ha
    obtain ⟨j, _, rfl⟩ := List.mem_map.mp hb
    exact lt_hm j i
  · obtain ⟨j, _, rfl⟩ := List.mem_map.mp hb
    rcases List.mem_append.mp ha with ha | ha
    · obtain ⟨i, _, rfl⟩ := List.mem_map.mp ha
      exact lt_hv j i
    · obtain ⟨i, _, rfl⟩ := List.mem_map.mp ha
      exact lt_mv j i
theorem datas_map (xs : List NM.Sign) : NestedKey.datas (xs.map eS) = xs.map fun x => (eS x).data := by
  induction xs with
  | nil => rfl
  | cons x xs ih => rw [List.map_cons, List.map_cons, NestedKey.datas, ih]
theorem data_ss (xs : List NM.Sign) : (eSs xs).data = .tuple (xs.map fun x => (eS x).data) := by
  rw [eSs, NestedKey.data, datas_map]
theorem alike_ss : ∀ xs ys : List NM.Sign, PySem.W.alikeAll (xs.map fun x => (eS x).data) (ys.map fun x => (eS x).data) = true
  | [], _ => by simp [PySem.W.alikeAll]
  | x :: xs, [] => by simp [PySem.W.alikeAll]
  | x :: xs, y :: ys => by
    simp only [List.map_cons, PySem.W.alikeAll, Bool.and_eq_true]
    exact ⟨alike_s x y, alike_ss xs ys⟩
def ltSs (xs ys : List NM.Sign) : Bool := PyProof.Rows.lexLt PyProof.Rows.itemOrd (PySem.W.keyToksAll (xs.map fun x => (eS x).data)) (PySem.W.keyToksAll (ys.map fun x => (eS x).data))
theorem lt_ss (xs ys : List NM.Sign) : PySem.W.dataLt (eSs xs).data (eSs ys).data = ltSs xs ys := by
  rw [data_ss, data_ss, PySem.W.dataLt_tuple]
  rfl
theorem lt_cons_same (x : NM.Sign) (xs ys : List NM.Sign) : ltSs (x :: xs) (x :: ys) = ltSs xs ys := PySem.W.dataLt_all_yes (alike_s x x) (by rw [eqv_s]; simp)
theorem lt_cons_other {x y : NM.Sign} (h : x ≠ y) (xs ys : List NM.Sign) : ltSs (x :: xs) (y :: ys) = ltS x y := PySem.W.dataLt_all_no (alike_s x y) (by rw [eqv_s]; exact decide_eq_false h)
theorem nodup_mk (mk : Nat → NM.Sign) (hm : ∀ a b, mk a = mk b → a = b) (k : Nat) : ((List.range k).map mk).Nodup := by
  unfold List.Nodup
  rw [List.pairwise_map]
  refine List.pairwise_lt_range.imp fun {a b} h e => ?_
  have := hm a b e
  omega
theorem signs_nodup (L : Lang) : (NM.signs L).Nodup := by
  unfold NM.signs
  rw [List.nodup_append, List.nodup_append]
  refine ⟨⟨nodup_mk _ (fun a b h => by cases h; rfl) _, nodup_mk _ (fun a b h => by cases h; rfl) _, fun a ha b hb e => ?_⟩, nodup_mk _ (fun a b h => by cases h; rfl) _, fun a ha b hb e => ?_⟩
  · obtain ⟨i, _, rfl⟩ := List.mem_map.mp ha
    obtain ⟨j, _, rfl⟩ := List.mem_map.mp hb
    cases e
  · obtain ⟨j, _, rfl⟩ := List.mem_map.mp hb
    subst e
    rcases List.mem_append.mp ha with ha | ha
    · obtain ⟨i, _, z⟩ := List.mem_map.mp ha
      cases z
    · obtain ⟨i, _, z⟩ := List.mem_map.mp ha
      cases z
/-- a greater number stands for a greater stream -/
theorem at_mono : ∀ {k : Nat} {p : Pl} {m n : Nat}, m ≤ n → n < cntS L ms k p → ltSs (atS L ms k p n) (atS L ms k p m) = false
  | 0, p, m, n, _, _ => by
    simp only [atS, ltSs, List.map_nil]
    exact PyProof.Rows.lex_irrefl _
  | k + 1, p, m, n, hmn, hn => by
    obtain ⟨j, x, q, m', hj, hx, hb, hm', hlt, hat⟩ := at_step (Nat.lt_of_le_of_lt hmn hn)
    obtain ⟨i, y, r, n', hi, hy, hc, hn', hlt', hat'⟩ := at_step hn
    have hbj := bef_in (k := k) hj hx hb
    have hbi := bef_in (k := k) hi hy hc
    have hji : j ≤ i := by
      rcases Nat.lt_or_ge i j with z | z
      · have := befS_le (L := L) (ms := ms) (k := k) (p := p) (c := i + 1) (d := j) z (Nat.le_of_lt hj)
        omega
      · exact z
    rw [hat, hat']
    by_cases e : x = y
    · subst e
      rw [hb] at hc
      cases hc
      rw [lt_cons_same]
      have eij : j = i := by
        rcases Nat.lt_or_ge j i with z | z
        · have nd : (signs L)[j] ≠ (signs L)[i] := fun w => by
            have hnd := signs_nodup L
            rw [List.nodup_iff_pairwise_ne, List.pairwise_iff_getElem] at hnd
            exact hnd j i hj hi z w
          exact absurd (hx.trans hy.symm) nd
        · omega
      refine at_mono ?_ hlt'
      rw [eij] at hm'
      omega
    · rw [lt_cons_other (fun z => e z.symm)]
      have hlt2 : j < i := by
        rcases Nat.lt_or_ge j i with z | z
        · exact z
        · have : j = i := by omega
          subst this
          exact absurd (hx.symm.trans hy) e
      have := List.pairwise_iff_getElem.mp (signs_up L) j i hj hi hlt2
      rw [hx, hy] at this
      exact this
end
end NW
/-! _law_likes_right -/
namespace NW
open PySem PySem.Spec PyProof.Rows L2 StX NM
local macro_rules | `(tactic| walk_at "my") => `(tactic| fail)
local macro_rules | `(tactic| walk_at "mycm") => `(tactic| fail)
local macro_rules | `(tactic| walk_at "myco") => `(tactic| fail)
local macro_rules | `(tactic| walk_at "mycc") => `(tactic| fail)
local macro_rules | `(tactic| walk_at "sh") => `(tactic| first | assumption | exact sh_n | exact Sh.num | exact Sh.non | exact sh_role | exact Sh.text (by decide +kernel) | exact sh_ns | exact sh_s | exact sh_m | exact sh_o | exact sh_h | exact sh_t | exact sh_ss | exact sh_ms | exact sh_head | exact sh_L | exact sh_nil | (apply sh_cons <;> walk_at "sh"))
local macro_rules | `(tactic| walk_at "shs") => `(tactic| first | assumption | exact shs_nil | (apply shs_cons; walk_at "sh"; walk_at "shs"))
local macro_rules | `(tactic| walk_at "co") => `(tactic| first
  | ((with_reducible apply co_ixTe); exact rfl; exact rfl)
  | ((with_reducible exact co_ixDl))
  | ((with_reducible apply co_ixL); exact rfl)
  | (with_reducible exact co_lt) | (with_reducible exact co_le) | (with_reducible exact co_gt) | (with_reducible exact co_ge) | (with_reducible exact co_sub)
  | (with_reducible exact co_isN) | (with_reducible exact co_isNotN)
  | ((with_reducible apply co_eq) <;> walk_at "sh") | ((with_reducible apply co_ne) <;> walk_at "sh")
  | (with_reducible exact co_add)
  | ((with_reducible apply co_inTe); exact rfl; walk_at "sh"; walk_at "shs")
  | walk_at "myco")
local macro_rules | `(tactic| walk_at "cc") => `(tactic| first
  | ((with_reducible apply cc_lenTe); exact rfl) | (with_reducible exact cc_lenL) | (with_reducible exact cc_all) | (with_reducible exact cc_any) | (with_reducible exact cc_tuple) | (with_reducible exact cc_intI)
  | (with_reducible exact cc_intB) | (with_reducible exact cc_min2) | (with_reducible exact cc_listT)
  | ((with_reducible apply cc_isi); first | exact isi_int rfl | exact isi_bool | exact isi_tuple rfl | exact isi_str rfl)
  | walk_at "mycc")
local macro_rules | `(tactic| walk_at "ca") => `(tactic| first
  | (with_reducible exact ca_nil)
  | ((with_reducible apply ca_cons); walk_at "cm"; walk_at "ca"))
local macro_rules | `(tactic| walk_at "cad") => `(tactic| first
  | (with_reducible exact cad_nil)
  | ((with_reducible apply cad_cons); walk_at "cm"; walk_at "cad")
  | ((with_reducible apply cad_starE); walk_at "cm"; exact rfl; walk_at "cad"))
local macro_rules | `(tactic| walk_at "cm") => `(tactic| first
  | ((with_reducible apply cm_var); exact rfl)
  | (with_reducible exact cm_int) | (with_reducible exact cm_str) | (with_reducible exact cm_non) | (with_reducible exact cm_bl)
  | ((with_reducible apply cm_op); walk_at "cm"; walk_at "cm"; walk_at "co")
  | ((with_reducible apply cm_tupD); walk_at "cad"; walk_at "size")
  | ((with_reducible apply cm_neg); walk_at "cm")
  | ((with_reducible apply cm_call); walk_at "ca"; walk_at "my")
  | walk_at "mycm"
  | ((with_reducible apply cm_cb); walk_at "ca"; walk_at "cc")
  | ((with_reducible apply cm_chain); walk_at "cm"; walk_at "cm"; walk_at "co"; (intro _; walk_at "cm"); walk_at "co")
  | ((with_reducible apply cm_andVF); walk_at "cm"; walk_at "dec0")
  | ((with_reducible apply cm_orVT); walk_at "cm"; walk_at "dec0")
  | ((with_reducible apply cm_ifT); walk_at "ct"; walk_at "dec"; walk_at "cm")
  | ((with_reducible apply cm_ifF); walk_at "ct"; walk_at "dec"; walk_at "cm")
  | ((with_reducible apply cm_andV); walk_at "cm"; (intro _; walk_at "cm"))
  | ((with_reducible apply cm_orV); walk_at "cm"; (intro _; walk_at "cm"))
  | ((with_reducible apply cm_notV); walk_at "cm")
  | (with_reducible exact cm_val))
local macro_rules | `(tactic| walk_at "ct") => `(tactic| first
  | ((with_reducible apply ct_test); walk_at "cm") | ((with_reducible apply ct_B); walk_at "cm") | ((with_reducible apply ct_not); walk_at "ct")
  | ((with_reducible apply ct_andF); walk_at "ct"; walk_at "dec0")
  | ((with_reducible apply ct_orT); walk_at "ct"; walk_at "dec0")
  | ((with_reducible apply ct_and); walk_at "ct"; (intro _; walk_at "ct"))
  | ((with_reducible apply ct_or); walk_at "ct"; (intro _; walk_at "ct")))
local macro_rules | `(tactic| walk_at "size") => `(tactic| focus first | assumption | (simp; done) | (simp; omega) | omega)
local macro_rules | `(tactic| walk_at "dec0") => `(tactic| focus first | rfl | (simp [eHead, eL, eSs, eMs, eS, eM, eT, eN, eNs, eH, eO, rN]; done))
local macro_rules | `(tactic| walk_at "dec") => `(tactic| focus first | rfl | (simp [eHead, eL, eSs, eMs, eS, eM, eT, eN, eNs, eH, eO, rN]; done) | (simp [eHead, eL, eSs, eMs, eS, eM, eT, eN, eNs, eH, eO, rN]; omega) | (simp [eHead, eL, eSs, eMs, eS, eM, eT, eN, eNs, eH, eO, rN, *]; done))
local macro_rules | `(tactic| walk_at "skip") => `(tactic| ((with_reducible apply bs_skip); walk_at "ct"; walk_at "dec"))
local macro_rules | `(tactic| walk_at "take") => `(tactic| (refine bs_seqR ?_; (with_reducible apply bs_ifT); walk_at "ct"; walk_at "dec"))
local macro_rules | `(tactic| walk_at "ret") => `(tactic| (refine bs_ret ?_; (with_reducible apply cm_is); walk_at "cm"))
local macro_rules | `(tactic| walk_at "set") => `(tactic| ((with_reducible apply bs_setS); walk_at "cm"))
local macro_rules | `(tactic| walk_at "drop") => `(tactic| ((with_reducible apply bs_dropS); walk_at "cm"))
local macro_rules | `(tactic| walk_at "norm") => `(tactic| skip)
local macro_rules | `(tactic| walk_at "less") => `(tactic| first | exact less_nil | (apply less_some; walk_at "less") | (apply less_none; walk_at "less"))
local macro_rules | `(tactic| walk_at "flat") => `(tactic| first | exact flat_nil | (refine flat_cons ?_ ?_; (first | exact trivial | exact rfl); walk_at "flat"))
local macro_rules | `(tactic| walk_at "stay") => `(tactic| first | exact stay_nil | (refine stay_cons ?_ ?_; (first | exact stay_none | exact stay_d | exact stay_b | exact stay_v | exact stay_old (by assumption)); walk_at "stay"))
section
variable {P : Program} {w : World} {K : Fg} {mg : Str → Option Value} {base : Heap}
theorem co_addSs {xs ys : List NM.Sign} (h : xs.length + ys.length ≤ 1000000) : CmO K (rAddU K) (.d (eSs xs)) (.d (eSs ys)) (.d (eSs (xs ++ ys))) := by
  have := co_addTe (K := K) (a := eSs xs) (b := eSs ys) rfl rfl (by simpa using h)
  rw [← List.map_append] at this
  exact this
theorem co_neBs {a b : Bool} : CmO K rNe (.b a) (.b b) (.b (!decide (a = b))) := fun x y H Q rx ry q => by
  have ex : x = .bl a := rx
  have ey : y = .bl b := ry
  subst ex ey
  exact ⟨rfl, q _ H (Same.refl H) (by show V.bl _ = V.bl _; congr 1; simp)⟩
theorem cc_reprO {L : Lang} (g : Good L) {o : Option Std} (h : ∀ s, o = some s → GoodT L s) : ∃ z, CmC K (rRepr K) [.d (eOT o)] (.d (.text z)) := by
  cases o with
  | none => exact ⟨_, cc_reprN⟩
  | some s => exact ⟨_, cc_reprT ((shw_T g (h s rfl)).ok (by omega) (by omega))⟩
theorem part_good {L : Lang} {xs ys : List NM.Sign} {s : Std} (h : partS L xs ys = some s) : GoodT L s := mem_stds.mp (List.mem_of_find?_eq_some h)
abbrev s_law_likes_right : Stmt := top 90
abbrev N_law_likes_right : List Str := ["_law_tongue_here", "_law_one", "_law_two", "_law_far", "_law_is_so", "_law_spot", "_law_some", "_law_unlike", "_law_here"]
theorem sc_law_likes_right : FnScope N_law_likes_right ["_law_tongue_here", "_law_one", "_law_two", "_law_far"] (defScope s_law_likes_right) := ⟨rfl, rfl, rfl, by decide +kernel, rfl, by decide +kernel, by decide +kernel⟩
def R_likes : List W → W → Prop := fun ws w => ∃ L xs ys zs, Good L ∧ (∀ x ∈ xs, L.ok x) ∧ (∀ x ∈ ys, L.ok x) ∧ (∀ x ∈ zs, L.ok x) ∧ xs.length ≤ 40 ∧ ys.length ≤ 40 ∧ zs.length ≤ 40 ∧ ws = [.d (eL L), .d (eSs xs), .d (eSs ys), .d (eSs zs)] ∧ w = .b true
theorem ok_likes (T : Txt K mg) (A : DefAt K mg "_law_likes_right" "_law_likes_right" s_law_likes_right ["_law_tongue_here", "_law_one", "_law_two", "_law_far"]) (C_read : CalF P w K mg base 5 "read" R_read)
    (C_does_settle : CalF P w K mg base 5 "does_settle" R_does_settle) (C_are_alike : CalF P w K mg base 6 "are_alike" R_are_alike) (C_part : CalF P w K mg base 6 "part" R_parting) (C_standings : CalF P w K mg base 4 "standings" R_standings) : CalG P w K mg base 7 "_law_likes_right" (spF K R_likes) := by
  refine calG A sc_law_likes_right (fun ws u h => ?_) (fun f cdv A outer s H E ws u hA hr h => ?_)
  · obtain ⟨_, _, _, _, _, _, _, _, _, _, _, rfl, _⟩ := h; rfl
  · obtain ⟨L, xs, ys, zs, g, hx, hy, hz, lx, ly, lz, rfl, rfl⟩ := h
    refine ⟨_, (pss_cons (ps_if (pt_val (C8.pe_c C_does_settle hr (by decide) rfl (pa_cons (pv 0) (pa_cons (pv 1) pa_nil)))) (pss_cons (ps_if (PW.pt (pw_or (pt_not (pt_val (C8.pe_c C_does_settle hr (by decide) rfl (pa_cons (pv 0) (pa_cons (pe_op (addK K rfl) (pv 1) (pv 3)) pa_nil))))) (pw_or1 (pt_not (pt_val (C8.pe_c C_does_settle hr (by decide) rfl (pa_cons (pv 0) (pa_cons (pe_op (addK K rfl) (pv 3) (pv 1)) pa_nil)))))))) (pss_one (ps_ret pe_bl)) pss_nil) (pss_one (ps_if (PW.pt (pw_or (pt_not (pt_val (C8.pe_c C_are_alike hr (by decide) rfl (pa_cons (pv 0) (pa_cons (pv 1) (pa_cons (pe_op (addK K rfl) (pv 3) (pv 1)) pa_nil)))))) (pw_or1 (pt_not (pt_val (C8.pe_c C_are_alike hr (by decide) rfl (pa_cons (pv 0) (pa_cons (pv 1) (pa_cons (pe_op (addK K rfl) (pe_op (addK K rfl) (pv 1) (pv 3)) (pv 1)) pa_nil))))))))) (pss_one (ps_ret pe_bl)) pss_nil))) pss_nil) (pss_cons (ps_par (i := 4) (j := 5) rfl sc_law_likes_right.nd rfl rfl (by decide) rfl rfl (pa_cons (C8.pe_c C_are_alike hr (by decide) rfl (pa_cons (pv 0) (pa_cons (pv 1) (pa_cons (pv 2) pa_nil)))) (pa_cons (C8.pe_c C_part hr (by decide) rfl (pa_cons (pv 0) (pa_cons (pv 1) (pa_cons (pv 2) pa_nil)))) pa_nil)) rfl) (pss_cons (ps_if (PW.pt (pw_or (pt_cmpR op_ne (pv 4) (C8.pe_c C_are_alike hr (by decide) rfl (pa_cons (pv 0) (pa_cons (pv 2) (pa_cons (pv 1) pa_nil)))) (nomark _)) (pw_or (pt_cmpR op_ne (pv 4) (pe_cmpR op_isN (pv 5) pe_non (nomark _)) (nomark _)) (pw_or1 (pt_cmpR op_ne (pe_callB (reprK hA hr K rfl) rfl T.b_repr bo_repr (pa_cons (C8.pe_c C_part hr (by decide) rfl (pa_cons (pv 0) (pa_cons (pv 2) (pa_cons (pv 1) pa_nil)))) pa_nil)) (pe_callB (reprK hA hr K rfl) rfl T.b_repr bo_repr (pa_cons (pv 5) pa_nil)) (nomark _)))))) (pss_one (ps_ret pe_bl)) pss_nil) (pss_cons (ps_if (pt_val (pv 4)) (pss_one (ps_ret (pe_and (C8.pe_c C_are_alike hr (by decide) rfl (pa_cons (pv 0) (pa_cons (pe_op (addK K rfl) (pv 1) (pv 3)) (pa_cons (pe_op (addK K rfl) (pv 2) (pv 3)) pa_nil)))) (pe_one (C8.pe_c C_are_alike hr (by decide) rfl (pa_cons (pv 0) (pa_cons (pe_op (addK K rfl) (pv 3) (pv 1)) (pa_cons (pe_op (addK K rfl) (pv 3) (pv 2)) pa_nil)))))))) pss_nil) (pss_cons (ps_set (i := 6) sc_law_likes_right.nd rfl (by first | exact Or.inl rfl | exact Or.inr rfl) (C8.pe_c C_standings hr (by decide) rfl (pa_cons (pv 0) pa_nil))) (pss_cons (ps_setLc (i := 7) (own := [("_law_here", 8)]) rfl sc_law_likes_right.nd rfl rfl (sw_true rfl rfl rfl (by decide +kernel)) (piTK K rfl (pv 6)) (blkOk_by (own := [("_law_here", 8)]) (N := N_law_likes_right) (sc := defScope s_law_likes_right) (by decide +kernel)) (fun _ _ _ _ _ => (pg_name (i := 8) sc_law_likes_right.nd rfl (by first | exact Or.inl rfl | exact Or.inr rfl))) (fun _ _ _ _ _ => pts_one (pt_cmpR (neK K rfl hr) (pe_ix (ixK K rfl) (C8.pe_c C_read hr (by decide) rfl (pa_cons (pv 0) (pa_cons (pv 8) (pa_cons (pv 1) pa_nil)))) pe_int (fun _ _ => rfl)) (pe_ix (ixK K rfl) (C8.pe_c C_read hr (by decide) rfl (pa_cons (pv 0) (pa_cons (pv 8) (pa_cons (pv 2) pa_nil)))) pe_int (fun _ _ => rfl)) (nomark _))) (fun _ _ _ _ _ => (pv 8))) (pss_one (ps_ret (pe_and (pe_cmpR (neK K rfl hr) (pv 7) (pe_lst pa_nil) (nomark _)) (pe_one (pe_cmpR (eqK K rfl hr) (pe_ix (ixK K rfl) (pv 7) pe_int (fun _ _ => rfl)) (pv 5) (nomark _)))))))))))), .inl ?_⟩
    have gx : isGood L xs := ⟨hx, by omega⟩
    have gy : isGood L ys := ⟨hy, by omega⟩
    have gz : isGood L zs := ⟨hz, by omega⟩
    have app : ∀ {as bs : List NM.Sign}, (∀ x ∈ as, L.ok x) → (∀ x ∈ bs, L.ok x) → as.length + bs.length ≤ 400 → isGood L (as ++ bs) := fun h1 h2 h3 => ⟨fun x hx => by
      rcases List.mem_append.mp hx with z | z
      · exact h1 x z
      · exact h2 x z, by simpa using h3⟩
    let R0 : Sl := startW N_law_likes_right [.d (eL L), .d (eSs xs), .d (eSs ys), .d (eSs zs)]
    have v0 : Cm K (tVar 0) R0 (.d (eL L)) := cm_var rfl
    have v1 : Cm K (tVar 1) R0 (.d (eSs xs)) := cm_var rfl
    have v2 : Cm K (tVar 2) R0 (.d (eSs ys)) := cm_var rfl
    have v3 : Cm K (tVar 3) R0 (.d (eSs zs)) := cm_var rfl
    refine bs_seq (r1 := R0) ?_ ?_
    · refine bs_if (ct_B (cm_call (ca_cons v0 (ca_cons v1 ca_nil)) (r_does_settle g gx))) (fun hs => ?_) fun _ => bs_next
      have a13 := cm_op v1 v3 (co_addSs (K := K) (by omega))
      have a31 := cm_op v3 v1 (co_addSs (K := K) (by omega))
      refine bs_skip (ct_or (ct_not (ct_B (cm_call (ca_cons v0 (ca_cons a13 ca_nil)) (r_does_settle g (app hx hz (by omega)))))) fun _ => ct_not (ct_B (cm_call (ca_cons v0 (ca_cons a31 ca_nil)) (r_does_settle g (app hz hx (by omega)))))) ?_ ?_
      · rw [settle_before g hs, settle_behind g hz hs]; rfl
      have a131 := cm_op a13 v1 (co_addSs (K := K) (by simp; omega))
      refine bs_ifF (ct_or (ct_not (ct_B (cm_call (ca_cons v0 (ca_cons v1 (ca_cons a31 ca_nil))) (r_are_alike g gx (app hz hx (by omega)))))) fun _ => ct_not (ct_B (cm_call (ca_cons v0 (ca_cons v1 (ca_cons a131 ca_nil))) (r_are_alike g gx (app (app hx hz (by omega)).1 hx (by simp; omega)))))) ?_ bs_next
      rw [settle_alike1 g hz hs, settle_alike2 g hx hz hs]
      rfl
    have c12 := cm_call (K := K) (E := C8.E0) (ca_cons v0 (ca_cons v1 (ca_cons v2 ca_nil))) (r_are_alike g gx gy)
    have p12 := cm_call (K := K) (E := C8.E0) (ca_cons v0 (ca_cons v1 (ca_cons v2 ca_nil))) (r_parting g gx gy)
    refine bs_seq (bs_par (ca_cons c12 (ca_cons p12 ca_nil))) ?_
    let R1 : Sl := (R0.set 4 (some (.b (decide (partS L xs ys = none))))).set 5 (some (.d (eOT (partS L xs ys))))
    have u0 : Cm K (tVar 0) R1 (.d (eL L)) := cm_var rfl
    have u1 : Cm K (tVar 1) R1 (.d (eSs xs)) := cm_var rfl
    have u2 : Cm K (tVar 2) R1 (.d (eSs ys)) := cm_var rfl
    have u3 : Cm K (tVar 3) R1 (.d (eSs zs)) := cm_var rfl
    have u4 : Cm K (tVar 4) R1 (.b (decide (partS L xs ys = none))) := cm_var rfl
    have u5 : Cm K (tVar 5) R1 (.d (eOT (partS L xs ys))) := cm_var rfl
    have isN : decide (eOT (partS L xs ys) = NestedKey.none) = decide (partS L xs ys = none) := by
      cases partS L xs ys with
      | none => rfl
      | some s => rfl
    obtain ⟨z, cz⟩ := cc_reprO (K := K) g (o := partS L xs ys) fun s h => part_good h
    have c21 := cm_call (K := K) (E := C8.E0) (ca_cons u0 (ca_cons u2 (ca_cons u1 ca_nil))) (r_are_alike g gy gx)
    have p21 := cm_call (K := K) (E := C8.E0) (ca_cons u0 (ca_cons u2 (ca_cons u1 ca_nil))) (r_parting g gy gx)
    rw [part_symm] at c21 p21
    refine bs_skip (ct_or (ct_test (cm_op u4 c21 co_neBs)) fun _ => ct_or (ct_test (cm_op u4 (cm_op u5 cm_non co_isN) co_neBs)) fun _ => ct_test (cm_op (cm_cb (ca_cons p21 ca_nil) cz) (cm_cb (ca_cons u5 ca_nil) cz) co_neS)) ?_ ?_
    · rw [isN]; simp
    refine bs_ifr (ct_B u4) (fun ha => ?_) fun ha => ?_
    · have ha := of_decide_eq_true ha
      have a13 := cm_op u1 u3 (co_addSs (K := K) (by omega))
      have a23 := cm_op u2 u3 (co_addSs (K := K) (by omega))
      have a31 := cm_op u3 u1 (co_addSs (K := K) (by omega))
      have a32 := cm_op u3 u2 (co_addSs (K := K) (by omega))
      refine bs_ret (cm_is (cm_andV (cm_call (ca_cons u0 (ca_cons a13 (ca_cons a23 ca_nil))) (r_are_alike g (app hx hz (by omega)) (app hy hz (by omega)))) fun _ => cm_call (ca_cons u0 (ca_cons a31 (ca_cons a32 ca_nil))) (r_are_alike g (app hz hx (by omega)) (app hz hy (by omega)))) ?_)
      rw [alike_before ha, alike_behind g hz ha]
      rfl
    have hne := of_decide_eq_false ha
    refine bs_setS (cm_call (ca_cons u0 ca_nil) (r_standings g)) ?_
    have ln := stds_len g
    obtain ⟨s0, hs0⟩ : ∃ s0, partS L xs ys = some s0 := Option.ne_none_iff_exists'.mp hne
    obtain ⟨rest, hrest⟩ : ∃ rest, (stds L).filter (differ L xs ys) = s0 :: rest := by
      have h1 : ((stds L).filter (differ L xs ys)).head? = some s0 := by
        rw [List.head?_filter]
        exact hs0
      exact List.head?_eq_some_iff.mp h1
    refine bs_setS (w := .l (((stds L).filter (differ L xs ys)).map eT)) (cm_lcf (as := stds L) (fun s => .d (eT s)) (differ L xs ys) eT (ci_tupM eT (cm_var rfl) rfl) (by omega) fun s hs => ⟨_, [8], by simp, cg_name, ?_, fun _ => cm_var rfl⟩) ?_
    · have t := mem_stds.mp hs
      have e : differ L xs ys s = !decide (eT (readSo L s xs).1 = eT (readSo L s ys).1) := by rw [eT_dec]; rfl
      rw [e]
      exact ct_test (cm_op (cm_op (cm_call (ca_cons (cm_var rfl) (ca_cons (cm_var rfl) (ca_cons (cm_var rfl) ca_nil))) (r_read g t hx (by omega))) cm_int (co_ixTe rfl rfl)) (cm_op (cm_call (ca_cons (cm_var rfl) (ca_cons (cm_var rfl) (ca_cons (cm_var rfl) ca_nil))) (r_read g t hy (by omega))) cm_int (co_ixTe rfl rfl)) (co_ne sh_t sh_t))
    · rw [hrest, hs0]
      have shT : ∀ d ∈ (s0 :: rest).map eT, Sh 8 d := fun d hd => by
        obtain ⟨s, _, rfl⟩ := List.mem_map.mp hd
        exact sh_t
      refine bs_ret (cm_is (cm_andV (cm_op (cm_var rfl) (cm_lstD cad_nil (by simp)) (co_neL shT shs_nil)) fun _ => cm_op (cm_op (cm_var rfl) cm_int (co_ixL (d := eT s0) (by rw [List.map_cons]; exact atI_zero))) (cm_var rfl) (co_eq sh_t sh_oT)) ?_)
      simp [eOT]
end
end NW
/-! _law_fits_right -/
namespace NW
open PySem PySem.Spec PyProof.Rows L2 StX NM
local macro_rules | `(tactic| walk_at "my") => `(tactic| fail)
local macro_rules | `(tactic| walk_at "mycm") => `(tactic| fail)
local macro_rules | `(tactic| walk_at "myco") => `(tactic| fail)
local macro_rules | `(tactic| walk_at "mycc") => `(tactic| fail)
local macro_rules | `(tactic| walk_at "sh") => `(tactic| first | assumption | exact sh_n | exact Sh.num | exact Sh.non | exact sh_role | exact Sh.text (by decide +kernel) | exact sh_ns | exact sh_s | exact sh_m | exact sh_o | exact sh_h | exact sh_t | exact sh_ss | exact sh_ms | exact sh_head | exact sh_L | exact sh_nil | (apply sh_cons <;> walk_at "sh"))
local macro_rules | `(tactic| walk_at "shs") => `(tactic| first | assumption | exact shs_nil | (apply shs_cons; walk_at "sh"; walk_at "shs"))
local macro_rules | `(tactic| walk_at "co") => `(tactic| first
  | ((with_reducible apply co_ixTe); exact rfl; exact rfl)
  | ((with_reducible exact co_ixDl))
  | ((with_reducible apply co_ixL); exact rfl)
  | (with_reducible exact co_lt) | (with_reducible exact co_le) | (with_reducible exact co_gt) | (with_reducible exact co_ge) | (with_reducible exact co_sub)
  | (with_reducible exact co_isN) | (with_reducible exact co_isNotN)
  | ((with_reducible apply co_eq) <;> walk_at "sh") | ((with_reducible apply co_ne) <;> walk_at "sh")
  | (with_reducible exact co_add)
  | ((with_reducible apply co_inTe); exact rfl; walk_at "sh"; walk_at "shs")
  | walk_at "myco")
local macro_rules | `(tactic| walk_at "cc") => `(tactic| first
  | ((with_reducible apply cc_lenTe); exact rfl) | (with_reducible exact cc_lenL) | (with_reducible exact cc_all) | (with_reducible exact cc_any) | (with_reducible exact cc_tuple) | (with_reducible exact cc_intI)
  | (with_reducible exact cc_intB) | (with_reducible exact cc_min2) | (with_reducible exact cc_listT)
  | ((with_reducible apply cc_isi); first | exact isi_int rfl | exact isi_bool | exact isi_tuple rfl | exact isi_str rfl)
  | walk_at "mycc")
local macro_rules | `(tactic| walk_at "ca") => `(tactic| first
  | (with_reducible exact ca_nil)
  | ((with_reducible apply ca_cons); walk_at "cm"; walk_at "ca"))
local macro_rules | `(tactic| walk_at "cad") => `(tactic| first
  | (with_reducible exact cad_nil)
  | ((with_reducible apply cad_cons); walk_at "cm"; walk_at "cad")
  | ((with_reducible apply cad_starE); walk_at "cm"; exact rfl; walk_at "cad"))
local macro_rules | `(tactic| walk_at "cm") => `(tactic| first
  | ((with_reducible apply cm_var); exact rfl)
  | (with_reducible exact cm_int) | (with_reducible exact cm_str) | (with_reducible exact cm_non) | (with_reducible exact cm_bl)
  | ((with_reducible apply cm_op); walk_at "cm"; walk_at "cm"; walk_at "co")
  | ((with_reducible apply cm_tupD); walk_at "cad"; walk_at "size")
  | ((with_reducible apply cm_neg); walk_at "cm")
  | ((with_reducible apply cm_call); walk_at "ca"; walk_at "my")
  | walk_at "mycm"
  | ((with_reducible apply cm_cb); walk_at "ca"; walk_at "cc")
  | ((with_reducible apply cm_chain); walk_at "cm"; walk_at "cm"; walk_at "co"; (intro _; walk_at "cm"); walk_at "co")
  | ((with_reducible apply cm_andVF); walk_at "cm"; walk_at "dec0")
  | ((with_reducible apply cm_orVT); walk_at "cm"; walk_at "dec0")
  | ((with_reducible apply cm_ifT); walk_at "ct"; walk_at "dec"; walk_at "cm")
  | ((with_reducible apply cm_ifF); walk_at "ct"; walk_at "dec"; walk_at "cm")
  | ((with_reducible apply cm_andV); walk_at "cm"; (intro _; walk_at "cm"))
  | ((with_reducible apply cm_orV); walk_at "cm"; (intro _; walk_at "cm"))
  | ((with_reducible apply cm_notV); walk_at "cm")
  | (with_reducible exact cm_val))
local macro_rules | `(tactic| walk_at "ct") => `(tactic| first
  | ((with_reducible apply ct_test); walk_at "cm") | ((with_reducible apply ct_B); walk_at "cm") | ((with_reducible apply ct_not); walk_at "ct")
  | ((with_reducible apply ct_andF); walk_at "ct"; walk_at "dec0")
  | ((with_reducible apply ct_orT); walk_at "ct"; walk_at "dec0")
  | ((with_reducible apply ct_and); walk_at "ct"; (intro _; walk_at "ct"))
  | ((with_reducible apply ct_or); walk_at "ct"; (intro _; walk_at "ct")))
local macro_rules | `(tactic| walk_at "size") => `(tactic| focus first | assumption | (simp; done) | (simp; omega) | omega)
local macro_rules | `(tactic| walk_at "dec0") => `(tactic| focus first | rfl | (simp [eHead, eL, eSs, eMs, eS, eM, eT, eN, eNs, eH, eO, rN]; done))
local macro_rules | `(tactic| walk_at "dec") => `(tactic| focus first | rfl | (simp [eHead, eL, eSs, eMs, eS, eM, eT, eN, eNs, eH, eO, rN]; done) | (simp [eHead, eL, eSs, eMs, eS, eM, eT, eN, eNs, eH, eO, rN]; omega) | (simp [eHead, eL, eSs, eMs, eS, eM, eT, eN, eNs, eH, eO, rN, *]; done))
local macro_rules | `(tactic| walk_at "skip") => `(tactic| ((with_reducible apply bs_skip); walk_at "ct"; walk_at "dec"))
local macro_rules | `(tactic| walk_at "take") => `(tactic| (refine bs_seqR ?_; (with_reducible apply bs_ifT); walk_at "ct"; walk_at "dec"))
local macro_rules | `(tactic| walk_at "ret") => `(tactic| (refine bs_ret ?_; (with_reducible apply cm_is); walk_at "cm"))
local macro_rules | `(tactic| walk_at "set") => `(tactic| ((with_reducible apply bs_setS); walk_at "cm"))
local macro_rules | `(tactic| walk_at "drop") => `(tactic| ((with_reducible apply bs_dropS); walk_at "cm"))
local macro_rules | `(tactic| walk_at "norm") => `(tactic| skip)
local macro_rules | `(tactic| walk_at "less") => `(tactic| first | exact less_nil | (apply less_some; walk_at "less") | (apply less_none; walk_at "less"))
local macro_rules | `(tactic| walk_at "flat") => `(tactic| first | exact flat_nil | (refine flat_cons ?_ ?_; (first | exact trivial | exact rfl); walk_at "flat"))
local macro_rules | `(tactic| walk_at "stay") => `(tactic| first | exact stay_nil | (refine stay_cons ?_ ?_; (first | exact stay_none | exact stay_d | exact stay_b | exact stay_v | exact stay_old (by assumption)); walk_at "stay"))
section
variable {P : Program} {w : World} {K : Fg} {mg : Str → Option Value} {base : Heap}
/-- >= of streams -/
def rGeD (K : Fg) : R2 := fun x y H Q => ∃ xs ys, Rp K H x (eSs xs) ∧ Rp K H y (eSs ys) ∧ Q (.bl (!ltSs xs ys)) H
theorem dep_ss (xs : List NM.Sign) : (eSs xs).data.depth ≤ 2 := Sh.dep _ (sh_ss (k := 0))
theorem op_geD {X : Cx} (hu : X.A.units + 65 < cLine) : OpR X (compareOp .GtE) (rGeD X.K) := by
  rintro pins s σ H x y v u Q I rx ry ⟨xs, ys, hx, hy, q⟩
  obtain ⟨as, r1⟩ := Dp.reads I _ x v (Rp.dp _ x hx) rx
  obtain ⟨bs, r2⟩ := Dp.reads I _ y u (Rp.dp _ y hy) ry
  have d1 := dep_ss xs
  have al : PySem.W.alike (eSs xs).data (eSs ys).data = true := by
    rw [data_ss, data_ss]
    simp only [PySem.W.alike]
    exact alike_ss xs ys
  have nn : (eSs xs).data ≠ .none := by rw [data_ss]; exact fun z => by cases z
  refine PySem.W.ge_data r1 r2 al nn (by omega) ?_
  rw [lt_ss]
  exact ⟨.bl _, H, I, rfl, q⟩
theorem geK {X : Cx} (K : Fg) (h : X.K = K) {k : Nat} (hr : Room k X.A) : OpR X (compareOp .GtE) (rGeD K) := h ▸ op_geD (u65 hr)
theorem co_geD {xs ys : List NM.Sign} : CmO K (rGeD K) (.d (eSs xs)) (.d (eSs ys)) (.b (!ltSs xs ys)) := fun x y H Q rx ry q => ⟨xs, ys, rx, ry, q _ H (Same.refl H) rfl⟩
theorem shw_S {L : Lang} (g : Good L) {x : NM.Sign} (h : L.ok x) : Shw 1 27 (pyD (eS x)) := by
  have hi : idS x < 10 := by have := id_lt g h; omega
  have st : ∀ z : Str, z = "head" ∨ z = "moment" ∨ z = "value" → Shw 0 10 (pyD (.text z)) := by
    rintro z (rfl | rfl | rfl) <;> exact ⟨by decide +kernel, by decide +kernel, by decide +kernel, by decide +kernel⟩
  have mk : ∀ z : Str, z = "head" ∨ z = "moment" ∨ z = "value" → Shw 1 27 (pyD (.tup [.text z, eN (idS x)])) := fun z hz => (shw_tup (k := 0) (n := 10) fun d hd => by
    simp only [List.mem_cons, List.mem_nil_iff, or_false] at hd
    rcases hd with rfl | rfl
    · exact st z hz
    · exact (shw_nat hi).up (Nat.le_refl _) (by omega)).up (Nat.le_refl _) (by simp)
  cases x
  · exact mk "head" (.inl rfl)
  · exact mk "moment" (.inr (.inl rfl))
  · exact mk "value" (.inr (.inr rfl))
theorem shw_Ss {L : Lang} (g : Good L) {xs : List NM.Sign} (h : ∀ x ∈ xs, L.ok x) (hl : xs.length ≤ 400) : Shw 2 11603 (pyD (eSs xs)) := (shw_tup (k := 1) (n := 27) fun d hd => by
  obtain ⟨x, hx, rfl⟩ := List.mem_map.mp hd
  exact shw_S g (h x hx)).up (Nat.le_refl _) (by rw [List.length_map]; omega)
theorem eMs_inj {a b : List Msg} (h : eMs a = eMs b) : a = b := by
  have h' : a.map eM = b.map eM := by
    unfold eMs at h
    injection h
  clear h
  induction a generalizing b with
  | nil => cases b with
    | nil => rfl
    | cons y ys => simp at h'
  | cons x xs ih => cases b with
    | nil => simp at h'
    | cons y ys =>
      rw [List.map_cons, List.map_cons] at h'
      injection h' with h1 h2
      rw [eM_inj h1, ih h2]
abbrev s_law_fits_right : Stmt := top 91
abbrev N_law_fits_right : List Str := ["_law_tongue_here", "_law_line_here", "_law_heard", "_law_size", "_law_many", "_law_number", "_law_least", "_law_far"]
theorem sc_law_fits_right : FnScope N_law_fits_right ["_law_tongue_here", "_law_line_here"] (defScope s_law_fits_right) := ⟨rfl, rfl, rfl, by decide +kernel, rfl, by decide +kernel, by decide +kernel⟩
def R_fitsR : List W → W → Prop := fun ws w => ∃ L xs, Good L ∧ (∀ x ∈ xs, L.ok x) ∧ xs.length ≤ 20 ∧ ws = [.d (eL L), .d (eSs xs)] ∧ w = .b true
theorem ok_fitsR (T : Txt K mg) (A : DefAt K mg "_law_fits_right" "_law_fits_right" s_law_fits_right ["_law_tongue_here", "_law_line_here"]) (C_read : CalF P w K mg base 5 "read" R_read)
    (C_many_streams : CalF P w K mg base 8 "many_streams" R_many_streams) (C_number_of : CalF P w K mg base 8 "number_of" R_number_of) (C_stream_at : CalF P w K mg base 8 "stream_at" R_stream_at) (C_shortest_size : CalF P w K mg base 7 "shortest_size" (R_shortest K)) : CalG P w K mg base 9 "_law_fits_right" (spF K R_fitsR) := by
  refine calG A sc_law_fits_right (fun ws u h => ?_) (fun f cdv A outer s H E ws u hA hr h => ?_)
  · obtain ⟨_, _, _, _, _, rfl, _⟩ := h; rfl
  · obtain ⟨L, xs, g, hx, lx, rfl, rfl⟩ := h
    refine ⟨_, (pss_cons (ps_par (i := 2) (j := 3) rfl sc_law_fits_right.nd rfl rfl (by decide) rfl rfl (pa_cons (pe_ix (ixK K rfl) (C8.pe_c C_read hr (by decide) rfl (pa_cons (pv 0) (pa_cons (pe_tup (pa_cons (pe_un un_neg pe_int) (pa_cons (pe_tup pa_nil) (pa_cons (pe_tup pa_nil) pa_nil)))) (pa_cons (pv 1) pa_nil)))) pe_int (fun _ _ => rfl)) (pa_cons (pe_callB (lenK K rfl) rfl T.b_len bo_len (pa_cons (pv 1) pa_nil)) pa_nil)) rfl) (pss_cons (ps_par (i := 4) (j := 5) rfl sc_law_fits_right.nd rfl rfl (by decide) rfl rfl (pa_cons (C8.pe_c C_many_streams hr (by decide) rfl (pa_cons (pv 0) (pa_cons (pv 2) (pa_cons (pv 3) pa_nil)))) (pa_cons (C8.pe_c C_number_of hr (by decide) rfl (pa_cons (pv 0) (pa_cons (pv 2) (pa_cons (pv 3) (pa_cons (pv 1) pa_nil))))) pa_nil)) rfl) (pss_cons (ps_if (PW.pt (pw_or (pt_not (pt_chain op_le op_lt pe_int (pv 5) (pv 4))) (pw_or1 (pt_cmpR op_ne (pe_callB (reprK hA hr K rfl) rfl T.b_repr bo_repr (pa_cons (C8.pe_c C_stream_at hr (by decide) rfl (pa_cons (pv 0) (pa_cons (pv 2) (pa_cons (pv 3) (pa_cons (pv 5) pa_nil))))) pa_nil)) (pe_callB (reprK hA hr K rfl) rfl T.b_repr bo_repr (pa_cons (pv 1) pa_nil)) (nomark _))))) (pss_one (ps_ret pe_bl)) pss_nil) (pss_cons (ps_set (i := 6) sc_law_fits_right.nd rfl (by first | exact Or.inl rfl | exact Or.inr rfl) (C8.pe_c C_shortest_size hr (by decide) rfl (pa_cons (pv 0) (pa_cons (pv 2) pa_nil)))) (pss_cons (ps_if (PW.pt (pw_or (pt_cmpR op_gt (pv 6) (pv 3) (nomark _)) (pw_or1 (pt_cmpR (eqK K rfl hr) (C8.pe_c C_many_streams hr (by decide) rfl (pa_cons (pv 0) (pa_cons (pv 2) (pa_cons (pv 6) pa_nil)))) pe_int (nomark _))))) (pss_one (ps_ret pe_bl)) pss_nil) (pss_cons (ps_if (PW.pt (pw_and (pt_cmpR op_gt (pv 6) pe_int (nomark _)) (pw_and1 (pt_cmpR op_gt (C8.pe_c C_many_streams hr (by decide) rfl (pa_cons (pv 0) (pa_cons (pv 2) (pa_cons (pe_op op_sub (pv 6) pe_int) pa_nil)))) pe_int (nomark _))))) (pss_one (ps_ret pe_bl)) pss_nil) (pss_cons (ps_set (i := 7) sc_law_fits_right.nd rfl (by first | exact Or.inl rfl | exact Or.inr rfl) (C8.pe_c C_stream_at hr (by decide) rfl (pa_cons (pv 0) (pa_cons (pv 2) (pa_cons (pv 3) (pa_cons (pe_op op_sub (pv 4) pe_int) pa_nil)))))) (pss_one (ps_ret (pe_and (pe_cmpR (geK K rfl hr) (pv 7) (pv 1) (nomark _)) (pe_one (pe_cmpR (eqK K rfl hr) (pe_ix (ixK K rfl) (C8.pe_c C_read hr (by decide) rfl (pa_cons (pv 0) (pa_cons (pe_tup (pa_cons (pe_un un_neg pe_int) (pa_cons (pe_tup pa_nil) (pa_cons (pe_tup pa_nil) pa_nil)))) (pa_cons (pv 7) pa_nil)))) pe_int (fun _ _ => rfl)) (pv 2) (nomark _))))))))))))), .inl ?_⟩
    obtain ⟨ms, ems⟩ : ∃ ms, ms = (readSo L .first xs).2 := ⟨_, rfl⟩
    have gm : ∀ m ∈ ms, GoodM L m := ems ▸ (good_read g (good_first L) hx).2
    have lm : ms.length ≤ 20 := by rw [ems]; exact Nat.le_trans (heard_len L xs _) lx
    have hh : isHeard L ms := ⟨gm, lm⟩
    obtain ⟨e, hp, hn⟩ := fit_path (L := L) xs
    rw [← ems] at hp hn
    have hs : ∀ x ∈ xs, x ∈ NM.signs L := fun x h => mem_signs.mpr (hx x h)
    obtain ⟨hlt, hat⟩ := num_at hp hn hs
    obtain ⟨N, eN'⟩ : ∃ N, N = cntS L ms xs.length begin0 := ⟨_, rfl⟩
    obtain ⟨n, en⟩ : ∃ n, n = numS L ms begin0 xs := ⟨_, rfl⟩
    rw [← eN', ← en] at hlt
    rw [← en] at hat
    have okx : ShowOk (pyD (eSs xs)) := (shw_Ss g hx (by omega)).ok (by omega) (by omega)
    have mkF : ∀ r : Sl, Cm K (tTup (tCons (tUn (rU fun i => .int (-i)) (tC (.int 1))) (tCons (tTup tNil) (tCons (tTup tNil) tNil)))) r (.d (eT .first)) := fun r => cm_is (cm_tupD (cad_cons (cm_neg cm_int) (cad_cons (cm_tupD cad_nil (by simp)) (cad_cons (cm_tupD cad_nil (by simp)) cad_nil))) (by simp)) rfl
    obtain ⟨hfl, hfs, ef, hfp, hfn⟩ := at_path (L := L) (ms := ms) (k := xs.length) (p := begin0) (m := N - 1) (by omega)
    have hmono := at_mono (L := L) (ms := ms) (k := xs.length) (p := begin0) (m := n) (n := N - 1) (by omega) (by omega)
    rw [hat] at hmono
    have hfm := path_fit hfp hfn
    obtain ⟨far, efar⟩ : ∃ far, far = atS L ms xs.length begin0 (N - 1) := ⟨_, rfl⟩
    rw [← efar] at hfl hfs hfm hmono
    have hfo : ∀ x ∈ far, L.ok x := fun x h => mem_signs.mp (hfs x h)
    refine bs_seq (bs_par (a := .d (eMs ms)) (b := .d (eN xs.length)) (ca_cons (cm_op (cm_call (ca_cons (cm_var rfl) (ca_cons (mkF _) (ca_cons (cm_var rfl) ca_nil))) (r_read g (good_first L) hx (by omega))) cm_int (co_ixTe rfl (by rw [ems]; rfl))) (ca_cons (cm_is (cm_cb (ca_cons (cm_var rfl) ca_nil) (cc_lenTe rfl)) (by simp)) ca_nil))) ?_
    refine bs_seq (bs_par (a := .d (eN N)) (b := .d (eN n)) (ca_cons (cm_is (cm_call (ca_cons (cm_var rfl) (ca_cons (cm_var rfl) (ca_cons (cm_var rfl) ca_nil))) (r_many_streams g hh (by omega))) (by rw [eN'])) (ca_cons (cm_is (cm_call (ca_cons (cm_var rfl) (ca_cons (cm_var rfl) (ca_cons (cm_var rfl) (ca_cons (cm_var rfl) ca_nil)))) (r_number_of g hh (by omega) hx hp hn)) (by rw [en])) ca_nil))) ?_
    refine bs_skip (ct_or (ct_not (ct_test (cm_chain (cm_int (i := 0)) (cm_var rfl) co_le (fun _ => cm_var rfl) co_lt))) fun _ => ct_test (cm_op (cm_cb (ca_cons (cm_is (w := .d (eSs xs)) (cm_call (ca_cons (cm_var rfl) (ca_cons (cm_var rfl) (ca_cons (cm_var rfl) (ca_cons (cm_var rfl) ca_nil)))) (r_stream_at g hh (n := xs.length) (m := n) (by omega) (by rw [← eN']; exact hlt))) (by rw [hat])) ca_nil) (cc_reprT okx)) (cm_cb (ca_cons (cm_var rfl) ca_nil) (cc_reprT okx)) co_neS)) ?_ ?_
    · simp
      omega
    refine bs_exS (cm_call (ca_cons (cm_var rfl) (ca_cons (cm_var rfl) ca_nil)) (r_shortest g hh ⟨xs.length, by rw [← eN']; omega⟩)) fun d hd => ⟨_, _, cg_name, ?_⟩
    have hdl : d ≤ xs.length := by
      rcases Nat.lt_or_ge xs.length d with z | z
      · have := hd.2 _ z
        omega
      · exact z
    refine bs_skip (ct_or (ct_test (cm_op (cm_var rfl) (cm_var rfl) co_gt)) fun _ => ct_test (cm_op (cm_call (ca_cons (cm_var rfl) (ca_cons (cm_var rfl) (ca_cons (cm_var rfl) ca_nil))) (r_many_streams g hh (n := d) (by omega))) cm_int (co_eq sh_n .num))) ?_ ?_
    · have := hd.1
      rw [d_num]
      simp
      omega
    refine bs_skip (c := decide ((0 : Int) < (d : Nat)) && decide ((0 : Int) < ((cntS L ms (d - 1) begin0 : Nat) : Int))) (ct_and (ct_test (cm_op (cm_var rfl) cm_int co_gt)) fun hd0 => ct_test (cm_op (cm_call (ca_cons (cm_var rfl) (ca_cons (cm_var rfl) (ca_cons (cm_is (w := .d (eN (d - 1))) (cm_op (cm_var (w := .d (eN d)) rfl) cm_int co_sub) (by
      have := of_decide_eq_true hd0
      have e : ((d : Nat) : Int) - 1 = ((d - 1 : Nat) : Int) := by omega
      rw [e])) ca_nil))) (r_many_streams g hh (n := d - 1) (by omega))) cm_int co_gt)) ?_ ?_
    · by_cases z : d = 0
      · subst z; rfl
      · rw [hd.2 (d - 1) (by omega)]
        simp
    refine bs_setS (w := .d (eSs far)) (cm_is (cm_call (ca_cons (cm_var rfl) (ca_cons (cm_var rfl) (ca_cons (cm_var rfl) (ca_cons (cm_is (w := .d (eN (N - 1))) (cm_op (cm_var (w := .d (eN N)) rfl) cm_int co_sub) (by
      have e : ((N : Nat) : Int) - 1 = ((N - 1 : Nat) : Int) := by omega
      rw [e])) ca_nil)))) (r_stream_at g hh (n := xs.length) (m := N - 1) (by omega) (by omega))) (by rw [efar])) ?_
    refine bs_ret (cm_is (cm_andV (cm_op (cm_var rfl) (cm_var rfl) co_geD) fun _ => cm_op (cm_op (cm_call (ca_cons (cm_var rfl) (ca_cons (mkF _) (ca_cons (cm_var rfl) ca_nil))) (r_read g (good_first L) hfo (by omega))) cm_int (co_ixTe rfl rfl)) (cm_var rfl) (co_eq sh_ms sh_ms)) ?_)
    rw [hmono, hfm]
    simp
end
end NW
/-! _law_all_fed -/
namespace NW
open PySem PySem.Spec PyProof.Rows L2 StX NM
local macro_rules | `(tactic| walk_at "my") => `(tactic| fail)
local macro_rules | `(tactic| walk_at "mycm") => `(tactic| fail)
local macro_rules | `(tactic| walk_at "myco") => `(tactic| fail)
local macro_rules | `(tactic| walk_at "mycc") => `(tactic| fail)
local macro_rules | `(tactic| walk_at "sh") => `(tactic| first | assumption | exact sh_n | exact Sh.num | exact Sh.non | exact sh_role | exact Sh.text (by decide +kernel) | exact sh_ns | exact sh_s | exact sh_m | exact sh_o | exact sh_h | exact sh_t | exact sh_ss | exact sh_ms | exact sh_head | exact sh_L | exact sh_nil | (apply sh_cons <;> walk_at "sh"))
local macro_rules | `(tactic| walk_at "shs") => `(tactic| first | assumption | exact shs_nil | (apply shs_cons; walk_at "sh"; walk_at "shs"))
local macro_rules | `(tactic| walk_at "co") => `(tactic| first
  | ((with_reducible apply co_ixTe); exact rfl; exact rfl)
  | ((with_reducible exact co_ixDl))
  | ((with_reducible apply co_ixL); exact rfl)
  | (with_reducible exact co_lt) | (with_reducible exact co_le) | (with_reducible exact co_gt) | (with_reducible exact co_ge) | (with_reducible exact co_sub)
  | (with_reducible exact co_isN) | (with_reducible exact co_isNotN)
  | ((with_reducible apply co_eq) <;> walk_at "sh") | ((with_reducible apply co_ne) <;> walk_at "sh")
  | (with_reducible exact co_add)
  | ((with_reducible apply co_inTe); exact rfl; walk_at "sh"; walk_at "shs")
  | walk_at "myco")
local macro_rules | `(tactic| walk_at "cc") => `(tactic| first
  | ((with_reducible apply cc_lenTe); exact rfl) | (with_reducible exact cc_lenL) | (with_reducible exact cc_all) | (with_reducible exact cc_any) | (with_reducible exact cc_tuple) | (with_reducible exact cc_intI)
  | (with_reducible exact cc_intB) | (with_reducible exact cc_min2) | (with_reducible exact cc_listT)
  | ((with_reducible apply cc_isi); first | exact isi_int rfl | exact isi_bool | exact isi_tuple rfl | exact isi_str rfl)
  | walk_at "mycc")
local macro_rules | `(tactic| walk_at "ca") => `(tactic| first
  | (with_reducible exact ca_nil)
  | ((with_reducible apply ca_cons); walk_at "cm"; walk_at "ca"))
local macro_rules | `(tactic| walk_at "cad") => `(tactic| first
  | (with_reducible exact cad_nil)
  | ((with_reducible apply cad_cons); walk_at "cm"; walk_at "cad")
  | ((with_reducible apply cad_starE); walk_at "cm"; exact rfl; walk_at "cad"))
local macro_rules | `(tactic| walk_at "cm") => `(tactic| first
  | ((with_reducible apply cm_var); exact rfl)
  | (with_reducible exact cm_int) | (with_reducible exact cm_str) | (with_reducible exact cm_non) | (with_reducible exact cm_bl)
  | ((with_reducible apply cm_op); walk_at "cm"; walk_at "cm"; walk_at "co")
  | ((with_reducible apply cm_tupD); walk_at "cad"; walk_at "size")
  | ((with_reducible apply cm_neg); walk_at "cm")
  | ((with_reducible apply cm_call); walk_at "ca"; walk_at "my")
  | walk_at "mycm"
  | ((with_reducible apply cm_cb); walk_at "ca"; walk_at "cc")
  | ((with_reducible apply cm_chain); walk_at "cm"; walk_at "cm"; walk_at "co"; (intro _; walk_at "cm"); walk_at "co")
  | ((with_reducible apply cm_andVF); walk_at "cm"; walk_at "dec0")
  | ((with_reducible apply cm_orVT); walk_at "cm"; walk_at "dec0")
  | ((with_reducible apply cm_ifT); walk_at "ct"; walk_at "dec"; walk_at "cm")
  | ((with_reducible apply cm_ifF); walk_at "ct"; walk_at "dec"; walk_at "cm")
  | ((with_reducible apply cm_andV); walk_at "cm"; (intro _; walk_at "cm"))
  | ((with_reducible apply cm_orV); walk_at "cm"; (intro _; walk_at "cm"))
  | ((with_reducible apply cm_notV); walk_at "cm")
  | (with_reducible exact cm_val))
local macro_rules | `(tactic| walk_at "ct") => `(tactic| first
  | ((with_reducible apply ct_test); walk_at "cm") | ((with_reducible apply ct_B); walk_at "cm") | ((with_reducible apply ct_not); walk_at "ct")
  | ((with_reducible apply ct_andF); walk_at "ct"; walk_at "dec0")
  | ((with_reducible apply ct_orT); walk_at "ct"; walk_at "dec0")
  | ((with_reducible apply ct_and); walk_at "ct"; (intro _; walk_at "ct"))
  | ((with_reducible apply ct_or); walk_at "ct"; (intro _; walk_at "ct")))
local macro_rules | `(tactic| walk_at "size") => `(tactic| focus first | assumption | (simp; done) | (simp; omega) | omega)
local macro_rules | `(tactic| walk_at "dec0") => `(tactic| focus first | rfl | (simp [eHead, eL, eSs, eMs, eS, eM, eT, eN, eNs, eH, eO, rN]; done))
local macro_rules | `(tactic| walk_at "dec") => `(tactic| focus first | rfl | (simp [eHead, eL, eSs, eMs, eS, eM, eT, eN, eNs, eH, eO, rN]; done) | (simp [eHead, eL, eSs, eMs, eS, eM, eT, eN, eNs, eH, eO, rN]; omega) | (simp [eHead, eL, eSs, eMs, eS, eM, eT, eN, eNs, eH, eO, rN, *]; done))
local macro_rules | `(tactic| walk_at "skip") => `(tactic| ((with_reducible apply bs_skip); walk_at "ct"; walk_at "dec"))
local macro_rules | `(tactic| walk_at "take") => `(tactic| (refine bs_seqR ?_; (with_reducible apply bs_ifT); walk_at "ct"; walk_at "dec"))
local macro_rules | `(tactic| walk_at "ret") => `(tactic| (refine bs_ret ?_; (with_reducible apply cm_is); walk_at "cm"))
local macro_rules | `(tactic| walk_at "set") => `(tactic| ((with_reducible apply bs_setS); walk_at "cm"))
local macro_rules | `(tactic| walk_at "drop") => `(tactic| ((with_reducible apply bs_dropS); walk_at "cm"))
local macro_rules | `(tactic| walk_at "norm") => `(tactic| skip)
local macro_rules | `(tactic| walk_at "less") => `(tactic| first | exact less_nil | (apply less_some; walk_at "less") | (apply less_none; walk_at "less"))
local macro_rules | `(tactic| walk_at "flat") => `(tactic| first | exact flat_nil | (refine flat_cons ?_ ?_; (first | exact trivial | exact rfl); walk_at "flat"))
local macro_rules | `(tactic| walk_at "stay") => `(tactic| first | exact stay_nil | (refine stay_cons ?_ ?_; (first | exact stay_none | exact stay_d | exact stay_b | exact stay_v | exact stay_old (by assumption)); walk_at "stay"))
section
variable {P : Program} {w : World} {K : Fg} {mg : Str → Option Value} {base : Heap}
variable {aW aF CW CT : Addr}
/-- what each sign tells -/
def outsS (L : Lang) : Std → List NM.Sign → List (Option Msg)
  | _, [] => []
  | s, x :: xs => (step L s x).2 :: outsS L (step L s x).1 xs
theorem outs_snoc (L : Lang) (x : NM.Sign) : ∀ (xs : List NM.Sign) (s : Std), outsS L s (xs ++ [x]) = outsS L s xs ++ [(step L (readSo L s xs).1 x).2]
  | [], s => rfl
  | y :: xs, s => by
    simp only [List.cons_append, outsS, readSo]
    rw [outs_snoc L x xs]
theorem outs_heard (L : Lang) : ∀ (xs : List NM.Sign) (s : Std), (outsS L s xs).filterMap id = (readSo L s xs).2
  | [], s => rfl
  | x :: xs, s => by
    simp only [outsS, readSo]
    rw [← outs_heard L xs]
    cases (step L s x).2 <;> simp
theorem outs_len (L : Lang) : ∀ (xs : List NM.Sign) (s : Std), (outsS L s xs).length = xs.length
  | [], s => rfl
  | x :: xs, s => by simp [outsS, outs_len L xs]
theorem lookF {a b : V} : List.lookup ("feed" : Str) [("own_language", a), ("own_past", b)] = none := by
  have e1 : (("feed" : Str) == "own_language") = false := by decide +kernel
  have e2 : (("feed" : Str) == "own_past") = false := by decide +kernel
  simp only [List.lookup, e1, e2]
abbrev s_law_all_fed : Stmt := top 88
abbrev N_law_all_fed : List Str := ["_law_wire", "_law_line_here", "_law_message", "_law_sign"]
theorem sc_law_all_fed : FnScope N_law_all_fed ["_law_wire", "_law_line_here"] (defScope s_law_all_fed) := ⟨rfl, rfl, rfl, by decide +kernel, rfl, by decide +kernel, by decide +kernel⟩
def spAllFed (K : Fg) (CW : Addr) : Sp := fun vs H Q _ => ∃ L xs zs x dx v, Good L ∧ isGood L xs ∧ isGood L zs ∧ xs.length + zs.length ≤ 300 ∧ vs = [.ref x, v] ∧ WireAt K CW L xs x dx H ∧ Rp K H v (eSs zs) ∧
  ∀ y us H', SameX x H H' → Keep H H' → H y = none → H' y = some (.lst us) → RpA K H' us ((readSo L (readSo L .first xs).1 zs).2.map eM) → WireAt K CW L (xs ++ zs) x dx H' → Q (.ref y) H'
theorem ok_allFed (T : Txt K mg) (A : DefAt K mg "_law_all_fed" "_law_all_fed" s_law_all_fed ["_law_wire", "_law_line_here"]) (C_feed : C8.Met P w K mg base 3 CW "feed" (spFeed K CW) []) : C8.Cal P w K mg base 4 "_law_all_fed" (spAllFed K CW) [] := by
  obtain ⟨f, fd, F, b, hm⟩ := A.ex
  refine ⟨f, fd, ["_law_wire", "_law_line_here"], [], F.ok sc_law_all_fed (fun vs H Q E h => ?_) (fun cdv A outer s H vs Q E hr h => ?_), hm, F.kp, b, .nil⟩
  · obtain ⟨L, xs, zs, x, dx, v, _, _, _, _, rfl, _⟩ := h; rfl
  · obtain ⟨L, xs, zs, x, dx, v, g, ⟨hx, _⟩, ⟨hz, _⟩, hl, rfl, wa, rv, q⟩ := h
    refine ⟨_, (pss_one (ps_ret (pe_lc (own := [("_law_message", 2)]) rfl sc_law_all_fed.nd (piLK K rfl (pe_lc (own := [("_law_sign", 3)]) rfl sc_law_all_fed.nd (piTK K rfl (pv 1)) (blkOk_by (own := [("_law_sign", 3)]) (N := N_law_all_fed) (sc := defScope s_law_all_fed) (by decide +kernel)) (fun _ _ _ _ _ => (pg_name (i := 3) sc_law_all_fed.nd rfl (by first | exact Or.inl rfl | exact Or.inr rfl))) (fun _ _ _ _ _ => pts_nil) (fun _ _ _ _ _ => (C8.pe_mt C_feed hr (by decide) (pv 0) (pa_cons (pv 3) pa_nil))))) (blkOk_by (own := [("_law_message", 2)]) (N := N_law_all_fed) (sc := defScope s_law_all_fed) (by decide +kernel)) (fun _ _ _ _ _ => (pg_name (i := 2) sc_law_all_fed.nd rfl (by first | exact Or.inl rfl | exact Or.inr rfl))) (fun _ _ _ _ _ => pts_one (pt_cmpR op_notN (pv 2) pe_non (nomark _))) (fun _ _ _ _ _ => (pv 2))))), ?_⟩
    obtain ⟨a, ys, rfl, ta, ra⟩ := Rp.tup_inv rv
    obtain ⟨v1, v2, hxi, rl, rp⟩ := id wa
    refine (show ∃ x, _ = some (some x) ∧ _ from ⟨.ref a, rfl, a, rfl, ⟨ys, ta.sq⟩, fun D hD => ?_⟩)
    have ylen := ra.length
    rw [List.length_map] at ylen
    have Dx : D ≠ x := fun z => by rw [z, hxi] at hD; cases hD
    obtain ⟨st, est⟩ : ∃ st, st = (readSo L .first xs).1 := ⟨_, rfl⟩
    rw [← est] at q
    let Pv : Nat → Hp → Prop := fun i H' => ∃ us, H' D = some (.lst us) ∧ RpA K H' us ((outsS L st (zs.take i)).map eO) ∧ SameX x H H' ∧ Keep H H' ∧ WireAt K CW L (xs ++ zs.take i) x dx H'
    have nD := Same.new (o := .lst []) hD
    refine lc_it (walk_tup (K := K) (a := a) (xs := ys)) Pv ⟨[], upd_same, .nil, fun b o _ h => nD _ _ h, Keep.of nD, by rw [List.take_zero, List.append_nil]; exact wa.same nD⟩ ?_ ?_ ?_
    · rintro i H' _ ⟨us, _, _, _, kp, _⟩
      exact (show TupAt K H' a ys from ta.elim (fun z => .inl (kp _ _ z)) .inr).sq
    · rintro i y H5 H' hi ⟨us, hD5, rus, sx, kp, wa5⟩ ⟨rfl, hy⟩
      refine ⟨(wipe_set (List.mem_singleton.mpr rfl)).trans (wipe_wipe _ _), ?_⟩
      have hi' : i < zs.length := by omega
      obtain ⟨y', hy', ry⟩ := ra.get (i := i) (d := eS zs[i]) (by simp [hi'])
      rw [hy] at hy'
      cases hy'
      have ry5 := Rp.keep kp _ _ ry
      obtain ⟨w1, w2, hx5, _, _⟩ := id wa5
      have okz : L.ok zs[i] := hz _ (List.getElem_mem hi')
      have tk : zs.take (i + 1) = zs.take i ++ [zs[i]] := by rw [List.take_succ, List.getElem?_eq_getElem hi']; rfl
      refine (show tMeth CW "feed" (spFeed K CW) [] C8.E0 (tVar 0) (tCons (tVar 3) tNil) _ H' _ from ?_)
      refine ⟨.ref x, rfl, x, dx, _, rfl, hx5, lookF, y, rfl, ?_⟩
      have rd : readSo L .first (xs ++ zs.take i) = ((readSo L st (zs.take i)).1, (readSo L .first xs).2 ++ (readSo L st (zs.take i)).2) := by rw [read_app, est]
      refine ⟨L, xs ++ zs.take i, zs[i], x, dx, y, g, ⟨fun z hz' => ?_, by simp; omega⟩, by simp; omega, okz, rfl, wa5, ry5, fun y6 H6 sx6 kp6 wa6 ry6 => ?_⟩
      · rcases List.mem_append.mp hz' with k | k
        · exact hx z k
        · exact hz z (List.mem_of_mem_take k)
      · have hD6 := sx6 _ _ Dx hD5
        have kq : Keep H6 (upd H6 D (.lst (us ++ [y6]))) := Keep.put fun ts z => by rw [hD6] at z; cases z
        have ul := rus.length
        rw [List.length_map, outs_len, List.length_take] at ul
        refine ⟨us, hD6, Nat.lt_of_le_of_lt (show us.length ≤ 1000 by omega) (by decide), us ++ [y6], upd_same, ?_, fun b o nb hb => ?_, (kp.trans kp6).trans kq, ?_⟩
        · rw [tk, outs_snoc, List.map_append]
          rw [rd] at ry6
          exact RpA.append (RpA.keep (kp6.trans kq) _ _ rus) (.cons (Rp.keep kq _ _ ry6) .nil)
        · rw [upd_ne (ne_of_none hb hD)]
          exact sx6 _ _ nb (sx _ _ nb hb)
        · rw [tk, ← List.append_assoc]
          obtain ⟨u1, u2, k1, k2, k3⟩ := wa6
          exact ⟨u1, u2, by rw [upd_ne (Ne.symm Dx)]; exact k1, Rp.keep kq _ _ k2, Rp.keep kq _ _ k3⟩
    · rintro H7 ⟨us, hD7, rus, sx, kp, wa7⟩
      rw [ylen, List.take_length] at rus wa7
      have ul := rus.length
      rw [List.length_map, outs_len] at ul
      refine ⟨D, rfl, ⟨us, .of hD7⟩, fun D2 hD2 => ?_⟩
      have nD2 := Same.new (o := .lst []) hD2
      let Pv2 : Nat → Hp → Prop := fun i H' => ∃ vs, H' D2 = some (.lst vs) ∧ RpA K H' vs ((((outsS L st zs).take i).filterMap id).map eM) ∧ vs.length ≤ i ∧ ∀ b o, H7 b = some o → H' b = some o
      refine lc_it (walk_list (xs := us)) Pv2 ⟨[], upd_same, .nil, Nat.zero_le _, nD2⟩ ?_ ?_ ?_
      · rintro i H' _ ⟨vs, _, _, _, s7⟩
        exact .of (s7 _ _ hD7)
      · rintro i y H8 H' hi ⟨vs, hv, rvs, lv, s7⟩ ⟨rfl, hy⟩
        refine ⟨(wipe_set (List.mem_singleton.mpr rfl)).trans (wipe_wipe _ _), ?_⟩
        have hi' : i < (outsS L st zs).length := by rw [outs_len]; omega
        obtain ⟨y', hy', ry⟩ := rus.get (i := i) (d := eO (outsS L st zs)[i]) (by simp [hi'])
        rw [hy] at hy'
        cases hy'
        obtain ⟨o, eo⟩ : ∃ o, o = (outsS L st zs)[i] := ⟨_, rfl⟩
        rw [← eo] at ry
        have ry8 := Rp.keep (Keep.of (show Same H7 H' from s7)) _ _ ry
        have tk : ((outsS L st zs).take (i + 1)).filterMap id = ((outsS L st zs).take i).filterMap id ++ o.toList := by
          rw [List.take_succ, List.getElem?_eq_getElem hi', List.filterMap_append, eo]
          cases (outsS L st zs)[i] <;> rfl
        have et : EnvOk K [none, none, some (.d (eO o)), none] ((wipe (start N_law_all_fed [.ref x, .ref a]) [2]).set 2 (some y)) H' := ⟨rfl, fun i w h => by
          rcases i with _ | _ | _ | _ | i
          · cases h
          · cases h
          · cases h; exact ⟨_, rfl, ry8⟩
          · cases h
          · simp at h⟩
        have ct : CmT K (tTest (tOp rIsNotN (tVar 2) (tC .non))) [none, none, some (.d (eO o)), none] (!decide (eO o = .none)) := ct_test (cm_op (cm_var (i := 2) rfl) cm_non co_isNotN)
        refine ct _ _ _ et fun H9 s9 => ?_
        have hv9 := s9 _ _ hv
        cases o with
        | none =>
          have e1 : (!decide (eO none = NestedKey.none)) = false := rfl
          rw [e1, if_neg (by decide)]
          refine ⟨vs, hv9, ?_, by omega, fun b o h => s9 _ _ (s7 _ _ h)⟩
          rw [tk]
          simp only [Option.toList_none, List.append_nil]
          exact RpA.keep (Keep.of s9) _ _ rvs
        | some m =>
          have e1 : (!decide (eO (some m) = NestedKey.none)) = true := rfl
          rw [e1, if_pos rfl]
          have kq : Keep H9 (upd H9 D2 (.lst (vs ++ [y]))) := Keep.put fun ts z => by rw [hv9] at z; cases z
          refine (show ∃ x, _ = some (some x) ∧ _ from ⟨y, rfl, vs, hv9, Nat.lt_of_le_of_lt (show vs.length ≤ 1000 by omega) (by decide), vs ++ [y], upd_same, ?_, by simp; exact lv, fun b o h => ?_⟩)
          · rw [tk, List.map_append]
            exact RpA.append (RpA.keep ((Keep.of s9).trans kq) _ _ rvs) (.cons (Rp.keep ((Keep.of s9).trans kq) _ _ ry8) .nil)
          · rw [upd_ne (ne_of_none h hD2)]
            exact s9 _ _ (s7 _ _ h)
      · rintro H' ⟨vs, hv, rvs, _, s7⟩
        have hlen : us.length = (outsS L st zs).length := by rw [outs_len, ul]
        rw [hlen, List.take_length, outs_heard] at rvs
        have fr : H D2 = none := by
          cases z : H D2 with
          | none => rfl
          | some o =>
            have nx : D2 ≠ x := fun k => by
              obtain ⟨_, _, h, _⟩ := wa7
              rw [k, h] at hD2
              cases hD2
            rw [sx _ _ nx z] at hD2
            cases hD2
        exact q D2 vs H' (fun b o nb hb => s7 _ _ (sx _ _ nb hb)) (kp.trans (Keep.of (show Same H7 H' from s7))) fr hv rvs (wa7.same (show Same H7 H' from s7))
end
end NW
/-! with, and a lambda of one parameter that is handed to a def -/
namespace NW
open PySem PySem.Spec PyProof.Rows L2 StX NM LamX
section
variable {X : Cx} {pins : List (Addr × Obj)} {σ : L2.St} {H HZ : Hp} {s s1 : Shared}
/-! ### with -/
def tWith (CT : Addr) (spE spX : Sp) (ti : TE) (i : Nat) (tb : TS) : TS := fun D σ H => ti σ H fun v H1 => ∃ t dt fs, v = .ref t ∧ H1 t = some (.ins CT dt fs) ∧
  spE [.ref t] H1 (fun y H2 => tb { nx := fun σ' H3 => spX [.ref t, .non, .non, .non] H3 (fun _ H4 => D.nx σ' H4) C8.E0, rt := fun _ _ => False } (σ.set i (some y)) H2) C8.E0
theorem ps_with {k i : Nat} {C fe fx : Addr} {fde fdx : FuncData} {pse psx : List Str} {spE spX : Sp} {ctx : Expr} {y : Str} {py pos : Pos} {body : List Stmt} {ti : TE} {tb : TS} (hxe : ∀ e s, X.xe e s → False)
    (he : PySem.W.findIn X.K (.ref C) "__enter__" = some (some (.ref fe))) (hfe : PySem.W.isFn X.K (.ref fe) = true) (hx : PySem.W.findIn X.K (.ref C) "__exit__" = some (some (.ref fx))) (hfx : PySem.W.isFn X.K (.ref fx) = true)
    (FE : FnOk X.prog X.w X.K X.mg X.base C8.CX0 k fe fde pse spE) (bE : Binds X.K fde pse []) (FX : FnOk X.prog X.w X.K X.mg X.base C8.CX0 k fx fdx psx spX) (bX : Binds X.K fdx psx []) (hr : Room k X.A)
    (hi : PE X ctx ti) (hN : X.N.Nodup) (hy : X.N[i]? = some y) (hl : Loc X.env.scope y) (hf : X.fn y = true ∨ X.env.scope.names.lookup y = some .local) (hb : PSs X body tb) : PS X (.With [⟨ctx, some (.Name y py)⟩] body pos) (tWith C spE spX ti i tb) := by
  refine ⟨fun pins s σ H D I h => ?_⟩
  refine PySem.W.kw_execN (thn (hi.run pins s σ H _ I h) fun v s1 ⟨v', H1, I1, r1, t, dt, fs, ev, ht, q1⟩ => ?_)
  subst ev
  obtain rfl : v = Value.ref t := r1
  obtain ⟨mA, OM, _⟩ := ins_get I1.hok ht
  obtain ⟨od, IA, _⟩ := OM.look
  unfold PySem.W.KwIn
  refine PySem.W.kw_core (b := assign (.Name y py) X.env) I1.kIn IA he hfe hx hfx ?_
  refine thn (run_fn (vs := [.ref t]) FE hr bE .nil C8.pass0 I1 (.cons rfl .nil) q1) fun u s2 ⟨y', H2, I2, r2, q2⟩ => ?_
  refine wpAny_mono ((pg_name (pos := py) hN hy hl hf).run pins s2 σ H2 y' u _ I2 r2 q2) (fun _ s3 ⟨σ3, H3, I3, q3⟩ => ?_) fun e s z => hxe e s z
  refine wpAny_mono (hb.run pins s3 σ3 H3 _ I3 q3) (fun f s4 hs => ?_) fun e s z => hxe e s z
  cases f with
  | next =>
    obtain ⟨σ4, H4, I4, q4⟩ := hs
    exact thn (run_fn (vs := [.ref t, .non, .non, .non]) FX hr bX .nil C8.pass0 I4 (.cons rfl (.cons rfl (.cons rfl (.cons rfl .nil)))) q4) fun u s5 ⟨_, H5, I5, _, q5⟩ => ⟨σ4, H5, I5, q5⟩
  | brk => exact let ⟨_, _, _, z⟩ := hs; z.elim
  | cont => exact let ⟨_, _, _, z⟩ := hs; z.elim
  | ret u => exact let ⟨_, _, _, _, _, z⟩ := hs; z.elim
/-! ### a lambda of one parameter -/
structure LamS1 (sc scope : Scope) (p : Str) : Prop where
  kind : scope.kind = .function
  co : scope.isCoroutine = false
  gen : scope.isGenerator = false
  par : scope.names.lookup p = some .local
  nocell : ∀ y ∈ scope.names, y.2 ≠ .cell
  loc : ∀ y ∈ scope.names, y.2 = .local → y.1 = p
  free : ∀ y ∈ scope.names, y.2 = .free → sc.names.lookup y.1 = some .cell ∨ sc.names.lookup y.1 = some .free
def lamS1B (sc scope : Scope) (p : Str) : Bool :=
  decide (scope.kind = .function) && !scope.isCoroutine && !scope.isGenerator && decide (scope.names.lookup p = some .local) && scope.names.all fun y => !decide (y.2 = .cell) && (!decide (y.2 = .local) || decide (y.1 = p)) && (!decide (y.2 = .free) || decide (sc.names.lookup y.1 = some .cell) || decide (sc.names.lookup y.1 = some .free))
theorem lamS1_by {sc scope : Scope} {p : Str} (h : lamS1B sc scope p = true) : LamS1 sc scope p := by
  unfold lamS1B at h
  simp only [Bool.and_eq_true, Bool.or_eq_true, Bool.not_eq_true', decide_eq_true_eq, decide_eq_false_iff_not, List.all_eq_true] at h
  obtain ⟨⟨⟨⟨h1, h2⟩, h3⟩, h4⟩, h5⟩ := h
  refine ⟨h1, h2, h3, h4, fun y hy => (h5 y hy).1.1, fun y hy e => ?_, fun y hy e => ?_⟩
  · rcases (h5 y hy).1.2 with z | z
    · exact absurd e z
    · exact z
  · rcases (h5 y hy).2 with (z | z) | z
    · exact absurd e z
    · exact .inl z
    · exact .inr z
theorem LamS1.has {X : Cx} {scope : Scope} {p : Str} (L : LamS1 X.env.scope scope p) (ok : X.Ok) : ∀ y ∈ scope.names, y.2 = .free → ∃ c, X.env.cells.lookup y.1 = some c := fun y hy e => by
  rcases L.free y hy e with k | k
  · exact ok.has _ (.inl k)
  · exact ok.has _ (.inr k)
/-- the context of the lambda's body -/
def lamCxP (X : Cx) (A : Around) (outer : List Env) (s : Shared) (H : Hp) (scope : Scope) (f c' : Addr) (p : Str) : Cx where
  prog := X.prog
  w := X.w
  K := X.K
  mg := X.mg
  base := X.base
  A := A.deeper (lamEnv X scope s.heap.objs.size f c')
  N := X.N ++ [p]
  s_0 := s
  H_0 := H
  env := lamEnv X scope s.heap.objs.size f c'
  outer := outer
  stack := lamEnv X scope s.heap.objs.size f c' :: outer
  ex := []
  fn := fun _ => false
  calm := true
  pn := []
  xe := fun _ _ => False
theorem lamP_start {A : Around} {outer : List Env} {scope : Scope} {f c' : Addr} {p : Str} {v : V} {u : Value} {h₁ : Heap} {tk : Nat} (I : Inv X pins σ H s) (L : LamS1 X.env.scope scope p) (hp : p ∉ X.N) (rv : RelV v u) (e0 : Env0 X.prog X.w X.K X.mg X.base A outer s1 HZ) (hd : A.handled = none)
    (un : Un (frs X.stack) [] H HZ s.heap s1.heap) (hns : h₁.Ns s1.heap.objs.size fun y => [(p, u)].reverse.lookup y) (kp : ∀ b o, s1.heap.get? b = some o → h₁.get? b = some o) :
    Inv (lamCxP X A outer s1 HZ scope f c' p) [] (σ ++ [some v]) HZ { s1 with heap := h₁, toks := tk } := by
  have hfree := L.has I.ok
  have cm : ∀ {y c}, (cloFrom X.env.cells scope.names []).lookup y = some c → X.env.cells.lookup y = some c := fun {y c} e => by
    rcases cloFrom_mem (PySem.mem_of_lookup e) with hm | ⟨h1, h2⟩
    · cases hm
    · obtain ⟨c1, hc⟩ := hfree _ h1 rfl
      have hc : X.env.cells.lookup y = some c1 := hc
      have e2 : c = c1 := by
        rw [h2, hc] <;> rfl
      rw [e2]
      exact hc
  have look : ∀ {y}, scope.names.lookup y = some .free → ∃ c, (cloFrom X.env.cells scope.names []).lookup y = some c := fun {y} hl => by
    have hy : (y, NameKind.free) ∈ scope.names := PySem.mem_of_lookup hl
    exact mem_lookup (cloFrom_has (cells := X.env.cells) (acc := []) hy)
  have cellK : ∀ {c : Addr} {v : Option Value}, H c = none → s.heap.IsCell c v → h₁.IsCell c v := fun {c v} n ⟨o, ho, hd⟩ => by
    obtain ⟨sl, q⟩ := un.any ho n (by simp)
    exact ⟨_, kp _ _ q, hd⟩
  have noA : ∀ b : Addr, b ∉ (lamCxP X A outer s1 HZ scope f c' p).ex := fun b z => absurd (show b ∈ ([] : List Addr) from z) (by simp)
  refine ⟨⟨e0.mod, L.kind, rfl, rfl, Nat.le_refl _, fun y z c e1 e2 => I.ok.inj y z c (cm e1) (cm e2), fun y hy => ?_, fun y c z _ => ?_, fun _ => hd, Around.frames_deeper e0.frames, .inr ⟨rfl, rfl⟩, fun b z => absurd z (noA b), e0.bs, e0.bsz, fun b _ _ => noA b,
      fun b z => absurd z (noA b), e0.funs, e0.frf⟩,
    rfl, e0.bare, Un.kept kp, ⟨_, hns, fun i y v' e1 e2 e3 => ?_⟩, fun y c e => ?_, e0.hok.fresh (Nat.le_refl _), fun y c e => ?_, fun q hq => absurd (show q ∈ ([] : List (Addr × Obj)) ++ [] from hq) (by simp), e0.hok.kept kp, ?_⟩
  · have hy : scope.names.lookup y = some .cell ∨ scope.names.lookup y = some .free := hy
    rcases hy with hy | hy
    · exact absurd rfl (L.nocell _ (PySem.mem_of_lookup hy))
    · exact look hy
  · have z : false = true := z
    cases z
  · have e3 : Vis scope y := e3
    have en : (X.N ++ [p])[i]? = some y := e1
    clear e1
    have hl := I.len
    by_cases hi : i < X.N.length
    · rw [List.getElem?_append_left hi] at en
      rw [List.getElem?_append_left (by omega)] at e2
      rcases e3 with k | k | k
      · have := L.loc _ (PySem.mem_of_lookup k) rfl
        have z : y = p := this
        subst z
        exact absurd (show y ∈ X.N from List.mem_of_getElem? en) hp
      · exact absurd rfl (L.nocell _ (PySem.mem_of_lookup k))
      · obtain ⟨m, hn, hl⟩ := I.loc
        have hvis : Vis X.env.scope y := (L.free _ (PySem.mem_of_lookup k) rfl).elim (fun k => .inr (.inl k)) (fun k => .inr (.inr k))
        obtain ⟨w', r, q⟩ := hl i y v' en e2 hvis
        obtain ⟨c2, h2⟩ := look k
        refine ⟨w', r, .inr ⟨.inr k, c2, h2, ?_⟩⟩
        have c1 := cm h2
        rcases q with ⟨k', _⟩ | ⟨_, c3, e', z⟩
        · have k' : X.env.scope.names.lookup y = some .local := k'
          rcases L.free _ (PySem.mem_of_lookup k) rfl with k2 | k2 <;> rw [show X.env.scope.names.lookup y = _ from k2] at k' <;> cases k'
        · rw [c1] at e'
          cases e'
          exact cellK (I.freeC y _ c1) z
    · rw [List.getElem?_append_right (by omega)] at en
      rw [List.getElem?_append_right (by omega)] at e2
      have z : i = X.N.length := by
        rcases Nat.lt_or_ge X.N.length i with z | z
        · rw [List.getElem?_eq_none (by simp; omega)] at en
          cases en
        · omega
      subst z
      rw [Nat.sub_self] at en
      rw [hl, Nat.sub_self] at e2
      simp at en e2
      subst en e2
      exact ⟨u, rv, .inl ⟨L.par, by simp⟩⟩
  · obtain ⟨w', z⟩ := I.cell y c (cm e)
    exact ⟨w', cellK (I.freeC y c (cm e)) z⟩
  · obtain ⟨v, o, ho, hd⟩ := I.cell y c (cm e)
    exact un.free c o ho (I.freeC y c (cm e)) (by simp)
  · show (σ ++ [some v]).length = (X.N ++ [p]).length
    rw [List.length_append, List.length_append, I.len]
    rfl
def oneQ (Q : VK) : List V → Hp → Prop
  | [v], H => Q v H
  | _, _ => False
theorem oneQ_inv {Q : VK} : ∀ {vs : List V} {H : Hp}, oneQ Q vs H → ∃ v, vs = [v] ∧ Q v H
  | [], _, h => h.elim
  | [v], _, h => ⟨v, rfl, h⟩
  | _ :: _ :: _, _, h => h.elim
/-- x(e), in the def that got the lambda -/
def tAct (σ : L2.St) (i : Nat) (f c' : Addr) (q : Str) (te tb : TE) : TE := fun σZ HZ Q => σZ[i]? = some (some (.ref f)) ∧ te σZ HZ fun v H1 => H1 c' = some (CodeO c' q) ∧ tb (σ ++ [some v]) H1 Q
theorem pe_act1 {Ng : List Str} {qg : Str} {sg : Scope} {g f c' : Addr} {cdg pm ctv : Value} {params : Arguments} {body e : Expr} {scope : Scope} {k i : Nat} {a p : Str} {te tb : TE} {p1 p2 : Pos}
    (I : Inv X pins σ H s) (L : LamS1 X.env.scope scope p) (hp : p ∉ X.N) (hf : s.heap.get? f = some (PySem.W.kla_obj "<lambda>" (X.env.qual ++ "<lambda>") params body scope (cloFrom X.env.cells scope.names []) pm c' ctv)) (hfn : H f = none) (hfr : f ∉ frs X.stack)
    (hbind : ∀ u : Value, bindArgs (PySem.W.kla_fn "<lambda>" (X.env.qual ++ "<lambda>") params body scope (cloFrom X.env.cells scope.names []) pm (.ref c') ctv) ⟨[u], []⟩ = pure [(p, u)])
    (hr : Room (k + 1) (X.A.deeper (envOfC qg sg s.heap.objs.size g cdg)))
    (hbody : ∀ (A : Around) (outer : List Env) (s : Shared) (H : Hp), Room k (A.deeper (lamEnv X scope s.heap.objs.size f c')) → PE (lamCxP X A outer s H scope f c' p) body tb)
    (hN : Ng[i]? = some a) (hv : Vis sg a) (he : PE (cxOf C8.CX0 X.prog X.w X.K X.mg X.base Ng qg sg g cdg X.A X.stack s H C8.E0).nox e te)
    (hst : starEach [e] (cxOf C8.CX0 X.prog X.w X.K X.mg X.base Ng qg sg g cdg X.A X.stack s H C8.E0).nox.env = [(false, eval e (cxOf C8.CX0 X.prog X.w X.K X.mg X.base Ng qg sg g cdg X.A X.stack s H C8.E0).nox.env)])
    (hd : (a == ("__debug__" : Str)) = false := by decide) (hcd : (a == ("__classdict__" : Str)) = false := by decide) :
    PE (cxOf C8.CX0 X.prog X.w X.K X.mg X.base Ng qg sg g cdg X.A X.stack s H C8.E0).nox (.Call (.Name a p1) [e] [] p2) (tAct σ i f c' (X.env.qual ++ "<lambda>") te tb) := by
  refine ⟨fun pinsZ sZ σZ HZ Q IZ h => ?_⟩
  obtain ⟨hs, ht⟩ := h
  refine wpAny_Call_Name_kw (thn ((pe_var (pos := p1) (i := i) hN hv hd hcd).run pinsZ sZ σZ HZ (fun v H1 => v = .ref f ∧ H1 = HZ) IZ ⟨.ref f, hs, rfl, rfl⟩) fun u s1 ⟨v, H1, I1, r1, q1⟩ => ?_)
  obtain ⟨ev, eH⟩ := q1
  subst ev
  rw [eH] at I1
  obtain rfl : u = Value.ref f := r1
  have of_ : ∀ {σ' : L2.St} {H' : Hp} {s' : Shared}, Inv (cxOf C8.CX0 X.prog X.w X.K X.mg X.base Ng qg sg g cdg X.A X.stack s H C8.E0).nox pinsZ σ' H' s' → s'.heap.get? f = some (PySem.W.kla_obj "<lambda>" (X.env.qual ++ "<lambda>") params body scope (cloFrom X.env.cells scope.names []) pm c' ctv) :=
    fun I' => I'.base.keep f _ hf hfn hfr (fun z => nomatch (show f ∈ ([] : List Addr) from z))
  refine PySem.W.callWith_F (rest := []) ⟨_, _, _, _, of_ I1⟩ ?_ hst rfl
  have pa := pa_cons he pa_nil hst
  refine thn (pa.run p2 pinsZ s1 σZ HZ (oneQ fun v H1 => H1 c' = some (CodeO c' (X.env.qual ++ "<lambda>")) ∧ tb (σ ++ [some v]) H1 Q) I1 ht) fun us s2 ⟨vs, H2, I2, r2, hq⟩ => ⟨⟨_, _, _, _, of_ I2⟩, ?_⟩
  · obtain ⟨v, ev, hc, hb⟩ := oneQ_inv hq
    subst ev
    obtain ⟨u, rfl, ru⟩ := r2.one
    have of2 := of_ I2
    have un : Un (frs X.stack) [] H H2 s.heap s2.heap := I2.base
    obtain ⟨⟨oc, vs, t, hoc, hdc, hvc⟩, _, _⟩ := I2.hok c' _ hc
    have rc : codeAny (model X.prog X.w) (X.A.deeper (envOfC qg sg s.heap.objs.size g cdg)) (.call (.ref f) ⟨[u], []⟩) (CR C8.CX0 (envOfC qg sg s.heap.objs.size g cdg :: X.stack) X.prog X.w H2 s2 Q C8.E0) s2 := by
      refine PySem.W.kla_callFunE hr.depth of2 rfl L.co L.gen rfl ⟨c', oc, vs, t, rfl, hoc, hdc, hvc⟩ ?_
      rw [hbind]
      refine wpAny_pure (wpAny_newFunctionEnv L.nocell (fun y hy => ?_) (fun h₁ hns hsb => ⟨I2.nolimit.fresh _ hsb, ?_⟩) L.kind)
      · simp at hy
        subst hy
        exact L.par
      show codeAny _ _ (.expr body (lamEnv X scope s2.heap.objs.size f c')) _ _
      have kp : ∀ b o, s2.heap.get? b = some o → h₁.get? b = some o := fun b o e => hsb.extBut b o (Nat.ne_of_lt (Heap.lt_size e)) (Heap.get?_push_of_some _ e)
      have J : Inv (lamCxP X (X.A.deeper (envOfC qg sg s.heap.objs.size g cdg)) (envOfC qg sg s.heap.objs.size g cdg :: X.stack) s2 H2 scope f c' p) [] (σ ++ [some v]) H2 { s2 with heap := h₁, toks := s2.toks + [(p, u)].length } :=
        lamP_start I L hp ru I2.env0 hr.hd un hns kp
      refine PySem.W.kla_codeExpr (wpAny_mono ((hbody _ _ s2 H2 (hr.deeper _)).run [] _ _ H2 Q J hb) (fun v s' hq => ?_) fun e s' hq => hq.elim)
      obtain ⟨w', H', J', rv, q⟩ := hq
      exact ⟨w', H', J'.os, J'.bare, J'.base, J'.hok, rv, q⟩
    refine wpAny_call (codeAny_mono rc fun r s' hq => ?_)
    cases r with
    | error e => exact hq.elim
    | ok fl =>
      cases fl with
      | ret u => exact I2.after hq
      | next => exact False.elim hq
      | brk => exact False.elim hq
      | cont => exact False.elim hq
end
end NW
/-! under -/
namespace NW
open PySem PySem.Spec PyProof.Rows L2 StX NM LamX
local macro_rules | `(tactic| walk_at "my") => `(tactic| fail)
local macro_rules | `(tactic| walk_at "mycm") => `(tactic| fail)
local macro_rules | `(tactic| walk_at "myco") => `(tactic| fail)
local macro_rules | `(tactic| walk_at "mycc") => `(tactic| fail)
local macro_rules | `(tactic| walk_at "sh") => `(tactic| first | assumption | exact sh_n | exact Sh.num | exact Sh.non | exact sh_role | exact Sh.text (by decide +kernel) | exact sh_ns | exact sh_s | exact sh_m | exact sh_o | exact sh_h | exact sh_t | exact sh_ss | exact sh_ms | exact sh_head | exact sh_L | exact sh_nil | (apply sh_cons <;> walk_at "sh"))
local macro_rules | `(tactic| walk_at "shs") => `(tactic| first | assumption | exact shs_nil | (apply shs_cons; walk_at "sh"; walk_at "shs"))
local macro_rules | `(tactic| walk_at "co") => `(tactic| first
  | ((with_reducible apply co_ixTe); exact rfl; exact rfl)
  | ((with_reducible exact co_ixDl))
  | ((with_reducible apply co_ixL); exact rfl)
  | (with_reducible exact co_lt) | (with_reducible exact co_le) | (with_reducible exact co_gt) | (with_reducible exact co_ge) | (with_reducible exact co_sub)
  | (with_reducible exact co_isN) | (with_reducible exact co_isNotN)
  | ((with_reducible apply co_eq) <;> walk_at "sh") | ((with_reducible apply co_ne) <;> walk_at "sh")
  | (with_reducible exact co_add)
  | ((with_reducible apply co_inTe); exact rfl; walk_at "sh"; walk_at "shs")
  | walk_at "myco")
local macro_rules | `(tactic| walk_at "cc") => `(tactic| first
  | ((with_reducible apply cc_lenTe); exact rfl) | (with_reducible exact cc_lenL) | (with_reducible exact cc_all) | (with_reducible exact cc_any) | (with_reducible exact cc_tuple) | (with_reducible exact cc_intI)
  | (with_reducible exact cc_intB) | (with_reducible exact cc_min2) | (with_reducible exact cc_listT)
  | ((with_reducible apply cc_isi); first | exact isi_int rfl | exact isi_bool | exact isi_tuple rfl | exact isi_str rfl)
  | walk_at "mycc")
local macro_rules | `(tactic| walk_at "ca") => `(tactic| first
  | (with_reducible exact ca_nil)
  | ((with_reducible apply ca_cons); walk_at "cm"; walk_at "ca"))
local macro_rules | `(tactic| walk_at "cad") => `(tactic| first
  | (with_reducible exact cad_nil)
  | ((with_reducible apply cad_cons); walk_at "cm"; walk_at "cad")
  | ((with_reducible apply cad_starE); walk_at "cm"; exact rfl; walk_at "cad"))
local macro_rules | `(tactic| walk_at "cm") => `(tactic| first
  | ((with_reducible apply cm_var); exact rfl)
  | (with_reducible exact cm_int) | (with_reducible exact cm_str) | (with_reducible exact cm_non) | (with_reducible exact cm_bl)
  | ((with_reducible apply cm_op); walk_at "cm"; walk_at "cm"; walk_at "co")
  | ((with_reducible apply cm_tupD); walk_at "cad"; walk_at "size")
  | ((with_reducible apply cm_neg); walk_at "cm")
  | ((with_reducible apply cm_call); walk_at "ca"; walk_at "my")
  | walk_at "mycm"
  | ((with_reducible apply cm_cb); walk_at "ca"; walk_at "cc")
  | ((with_reducible apply cm_chain); walk_at "cm"; walk_at "cm"; walk_at "co"; (intro _; walk_at "cm"); walk_at "co")
  | ((with_reducible apply cm_andVF); walk_at "cm"; walk_at "dec0")
  | ((with_reducible apply cm_orVT); walk_at "cm"; walk_at "dec0")
  | ((with_reducible apply cm_ifT); walk_at "ct"; walk_at "dec"; walk_at "cm")
  | ((with_reducible apply cm_ifF); walk_at "ct"; walk_at "dec"; walk_at "cm")
  | ((with_reducible apply cm_andV); walk_at "cm"; (intro _; walk_at "cm"))
  | ((with_reducible apply cm_orV); walk_at "cm"; (intro _; walk_at "cm"))
  | ((with_reducible apply cm_notV); walk_at "cm")
  | (with_reducible exact cm_val))
local macro_rules | `(tactic| walk_at "ct") => `(tactic| first
  | ((with_reducible apply ct_test); walk_at "cm") | ((with_reducible apply ct_B); walk_at "cm") | ((with_reducible apply ct_not); walk_at "ct")
  | ((with_reducible apply ct_andF); walk_at "ct"; walk_at "dec0")
  | ((with_reducible apply ct_orT); walk_at "ct"; walk_at "dec0")
  | ((with_reducible apply ct_and); walk_at "ct"; (intro _; walk_at "ct"))
  | ((with_reducible apply ct_or); walk_at "ct"; (intro _; walk_at "ct")))
local macro_rules | `(tactic| walk_at "size") => `(tactic| focus first | assumption | (simp; done) | (simp; omega) | omega)
local macro_rules | `(tactic| walk_at "dec0") => `(tactic| focus first | rfl | (simp [eHead, eL, eSs, eMs, eS, eM, eT, eN, eNs, eH, eO, rN]; done))
local macro_rules | `(tactic| walk_at "dec") => `(tactic| focus first | rfl | (simp [eHead, eL, eSs, eMs, eS, eM, eT, eN, eNs, eH, eO, rN]; done) | (simp [eHead, eL, eSs, eMs, eS, eM, eT, eN, eNs, eH, eO, rN]; omega) | (simp [eHead, eL, eSs, eMs, eS, eM, eT, eN, eNs, eH, eO, rN, *]; done))
local macro_rules | `(tactic| walk_at "skip") => `(tactic| ((with_reducible apply bs_skip); walk_at "ct"; walk_at "dec"))
local macro_rules | `(tactic| walk_at "take") => `(tactic| (refine bs_seqR ?_; (with_reducible apply bs_ifT); walk_at "ct"; walk_at "dec"))
local macro_rules | `(tactic| walk_at "ret") => `(tactic| (refine bs_ret ?_; (with_reducible apply cm_is); walk_at "cm"))
local macro_rules | `(tactic| walk_at "set") => `(tactic| ((with_reducible apply bs_setS); walk_at "cm"))
local macro_rules | `(tactic| walk_at "drop") => `(tactic| ((with_reducible apply bs_dropS); walk_at "cm"))
local macro_rules | `(tactic| walk_at "norm") => `(tactic| skip)
local macro_rules | `(tactic| walk_at "less") => `(tactic| first | exact less_nil | (apply less_some; walk_at "less") | (apply less_none; walk_at "less"))
local macro_rules | `(tactic| walk_at "flat") => `(tactic| first | exact flat_nil | (refine flat_cons ?_ ?_; (first | exact trivial | exact rfl); walk_at "flat"))
local macro_rules | `(tactic| walk_at "stay") => `(tactic| first | exact stay_nil | (refine stay_cons ?_ ?_; (first | exact stay_none | exact stay_d | exact stay_b | exact stay_v | exact stay_old (by assumption)); walk_at "stay"))
section
variable {P : Program} {w : World} {K : Fg} {mg : Str → Option Value} {base : Heap}
variable {CW CT : Addr}
abbrev s_under : Stmt := top 78
abbrev N_under : List Str := ["wire", "deed", "one", "told"]
theorem sc_under : FnScope N_under ["wire", "deed"] (defScope s_under) := ⟨rfl, rfl, rfl, by decide +kernel, rfl, by decide +kernel, by decide +kernel⟩
structure UndAt (P : Program) (w : World) (K : Fg) (mg : Str → Option Value) (base : Heap) (CW CT : Addr) : Prop where
  fn : ∃ g fd, Fun K "under" "under" s_under g fd ∧ Binds K fd ["wire", "deed"] [] ∧ mg "under" = some (.ref g)
  en : ∃ fe fde, PySem.W.findIn K (.ref CT) "__enter__" = some (some (.ref fe)) ∧ PySem.W.isFn K (.ref fe) = true ∧ FnOk P w K mg base C8.CX0 1 fe fde ["self"] (spEnter CW CT) ∧ Binds K fde ["self"] []
  ex : ∃ fx fdx, PySem.W.findIn K (.ref CT) "__exit__" = some (some (.ref fx)) ∧ PySem.W.isFn K (.ref fx) = true ∧ FnOk P w K mg base C8.CX0 1 fx fdx ["self", "kind", "value", "trace"] (spExit CW CT) ∧ Binds K fdx ["self", "kind", "value", "trace"] []
  tr : C8.Met P w K mg base 3 CW "trial" (spTrial CW CT) []
def undK (CW CT t : Addr) (Q : VK) : VK := fun y H4 => spExit CW CT [.ref t, .non, .non, .non] H4 (fun _ H5 => ∃ x, (some (some y) : Option (Option V)) = some (some x) ∧ Q x H5) C8.E0
/-- under(e1, lambda p: ..) -/
def tUnder (T : List (Addr × Str)) (CW CT : Addr) (te1 tb : TE) : TE := fun σ H Q => te1 σ H fun v H1 => ∃ x dx v1 v2, v = .ref x ∧ H1 x = some (.ins CW dx (wiFs v1 v2)) ∧ Tabs T H1 ∧
  ∀ t dt H3, ExtN H1 H3 → Tabs T H3 → t ≠ x → H3 t = some (.ins CT dt (trFs (.ref x) v2)) → tb (σ ++ [some (.ref x)]) H3 (undK CW CT t Q)
theorem lookTr {a b : V} : List.lookup ("trial" : Str) (wiFs a b) = none := by
  have e1 : (("trial" : Str) == "own_language") = false := by decide +kernel
  have e2 : (("trial" : Str) == "own_past") = false := by decide +kernel
  simp only [wiFs, List.lookup, e1, e2]
theorem pe_under {X : Cx} {T : List (Addr × Str)} {c P : Addr} {k : Nat} {params : Arguments} {body e1 : Expr} {scope : Scope} {p : Str} {te1 tb : TE} {ppos lpos pos : Pos} (U : UndAt X.prog X.w X.K X.mg X.base CW CT) (hg : Gl X "under") (hr : Room (k + 1 + 1) X.A) (hk : 3 ≤ k + 1)
    (TB : TabB X.base X.mg c P) (hcode : X.env.code = .ref c) (hmT : (P, X.env.qual ++ "<lambda>") ∈ T) (hu : ∀ p ∈ T, p.1 = P → p.2 = X.env.qual ++ "<lambda>") (L : LamS1 X.env.scope scope p) (hp : p ∉ X.N) (hdef : defaultsOf params X.env = ([], []))
    (hbind : ∀ (q : Str) (cl : List (Str × Addr)) (pm cv ctv u : Value), bindArgs (PySem.W.kla_fn "<lambda>" q params body scope cl pm cv ctv) ⟨[u], []⟩ = pure [(p, u)])
    (he1 : PE X e1 te1) (hbody : ∀ (A : Around) (outer : List Env) (s : Shared) (H : Hp) (f c' : Addr), Room k (A.deeper (lamEnv X scope s.heap.objs.size f c')) → PE (lamCxP X A outer s H scope f c' p) body tb)
    (hst : starEach [e1, .Lambda params body scope lpos] X.env = (false, eval e1 X.env) :: starEach [.Lambda params body scope lpos] X.env := by rfl) :
    PE X (.Call (.Name "under" ppos) [e1, .Lambda params body scope lpos] [] pos) (tUnder T CW CT te1 tb) := by
  obtain ⟨g, fd, FU, bU, hm⟩ := U.fn
  obtain ⟨fe, fde, hen, hfe, FE, bE⟩ := U.en
  obtain ⟨fx, fdx, hex, hfx, FX, bX⟩ := U.ex
  refine ⟨fun pins s σ H Q I h => ?_⟩
  refine wpAny_Call_Name_kw (ld_glob I hg hm ?_ (by decide))
  refine PySem.W.callWith_K (h₀ := X.base) I.ok.mod.kin FU.kp ?_ hst (by rfl)
  rw [hst]
  show wpAny _ _ (spliced ((false, eval e1 X.env) :: backTo pos (starEach [.Lambda params body scope lpos] X.env))) _ _ s
  refine Calls.spliced_cons (thn (he1.run pins s σ H _ I h) fun u1 s1 ⟨v, H1, I1, r1, x, dx, v1, v2, ev, hx, hT, hq⟩ => ?_)
  subst ev
  obtain rfl : u1 = Value.ref x := r1
  show wpAny _ _ (spliced ((false, eval (.Lambda params body scope lpos) X.env) :: backTo pos (starEach [] X.env))) _ _ s1
  refine Calls.spliced_cons (lam_make2 I1 TB hcode hmT hu hT hdef (L.has I1.ok) fun f c' pm' ctv H2 s2 I2 eN T2 hf hfn hfr hco => ?_)
  refine Calls.spliced_nil ⟨I2.kIn, ?_⟩
  obtain ⟨oc, od, kV, doc, pm, an, cdv, ct, osl, rfl, lk, hcd⟩ := FU.ex
  have hx2 : H2 x = some (.ins CW dx (wiFs v1 v2)) := eN _ _ hx fun ps z => by cases z
  have rc : codeAny (model X.prog X.w) X.A (.call (.ref g) ⟨[.ref x, .ref f], []⟩) (CR C8.CX0 X.stack X.prog X.w H2 s2 Q C8.E0) s2 := by
    refine run_ofS (N := N_under) (ps := ["wire", "deed"]) (us := [.ref x, .ref f]) (vs := [.ref x, .ref f]) lk hcd sc_under hr I2.env0 (bU s2 [.ref x, .ref f] I2.kIn rfl) (.cons rfl (.cons rfl .nil)) rfl fun hr' => ?_
    refine ⟨_, PSs.nox (pss_cons (ps_with (i := 2) (fun _ _ z => z) hen hfe hex hfx FE bE FX bX (hr'.mono (by omega)) (C8.pe_mt0 U.tr hr' hk (pv 0)) sc_under.nd rfl (Or.inl rfl) (Or.inr rfl)
      (pss_one (ps_set (i := 3) sc_under.nd rfl (by first | exact Or.inl rfl | exact Or.inr rfl) (pe_act1 (i := 1) I2 L hp hf hfn hfr (hbind _ _ _ _ _) hr' (fun A outer s H hr2 => hbody A outer s H f c' hr2) rfl (Or.inl rfl) (pv 2) rfl)))) (pss_one (ps_ret (pv 3)))), ?_⟩
    refine (show tSeq (tWith CT (spEnter CW CT) (spExit CW CT) (tMeth CW "trial" (spTrial CW CT) [] C8.E0 (tVar 0) tNil) 2 (tAsg (tAct σ 1 f c' _ (tVar 2) tb) (gName 3))) (tRet (tVar 3)) _ _ H2 from ?_)
    refine ⟨.ref x, rfl, x, dx, _, rfl, hx2, lookTr, x, dx, _, rfl, hx2, fun t dt v0 H3 s3 ht0 ht3 => ?_⟩
    have tx : t ≠ x := fun z => by rw [z, hx2] at ht0; cases ht0
    have tc : c' ≠ t := ne_of_none hco ht0
    have s24 : Same H2 (upd H3 t (.ins CT dt (trFs (.ref x) v2))) := fun b o h => by
      rw [upd_ne (ne_of_none h ht0)]
      exact s3 _ _ h
    refine ⟨t, dt, _, rfl, ht3, t, dt, x, dx, v0, v1, v2, rfl, tx, ht3, s3 _ _ hx2, ?_⟩
    exact ⟨rfl, .ref x, rfl, s24 _ _ hco, hq t dt _ (eN.trans (ExtN.of s24)) (T2.ext s24) tx upd_same⟩
  refine wpAny_call (codeAny_mono rc fun r s2 hq => ?_)
  cases r with
  | error e => exact (show False from hq).elim
  | ok fl =>
    cases fl with
    | ret u => exact I2.after hq
    | next => exact False.elim hq
    | brk => exact False.elim hq
    | cont => exact False.elim hq
end
end NW
/-! _law_ways_right -/
namespace NW
open PySem PySem.Spec PyProof.Rows L2 StX NM LamX
local macro_rules | `(tactic| walk_at "my") => `(tactic| fail)
local macro_rules | `(tactic| walk_at "mycm") => `(tactic| fail)
local macro_rules | `(tactic| walk_at "myco") => `(tactic| fail)
local macro_rules | `(tactic| walk_at "mycc") => `(tactic| fail)
local macro_rules | `(tactic| walk_at "sh") => `(tactic| first | assumption | exact sh_n | exact Sh.num | exact Sh.non | exact sh_role | exact Sh.text (by decide +kernel) | exact sh_ns | exact sh_s | exact sh_m | exact sh_o | exact sh_h | exact sh_t | exact sh_ss | exact sh_ms | exact sh_head | exact sh_L | exact sh_nil | (apply sh_cons <;> walk_at "sh"))
local macro_rules | `(tactic| walk_at "shs") => `(tactic| first | assumption | exact shs_nil | (apply shs_cons; walk_at "sh"; walk_at "shs"))
local macro_rules | `(tactic| walk_at "co") => `(tactic| first
  | ((with_reducible apply co_ixTe); exact rfl; exact rfl)
  | ((with_reducible exact co_ixDl))
  | ((with_reducible apply co_ixL); exact rfl)
  | (with_reducible exact co_lt) | (with_reducible exact co_le) | (with_reducible exact co_gt) | (with_reducible exact co_ge) | (with_reducible exact co_sub)
  | (with_reducible exact co_isN) | (with_reducible exact co_isNotN)
  | ((with_reducible apply co_eq) <;> walk_at "sh") | ((with_reducible apply co_ne) <;> walk_at "sh")
  | (with_reducible exact co_add)
  | ((with_reducible apply co_inTe); exact rfl; walk_at "sh"; walk_at "shs")
  | walk_at "myco")
local macro_rules | `(tactic| walk_at "cc") => `(tactic| first
  | ((with_reducible apply cc_lenTe); exact rfl) | (with_reducible exact cc_lenL) | (with_reducible exact cc_all) | (with_reducible exact cc_any) | (with_reducible exact cc_tuple) | (with_reducible exact cc_intI)
  | (with_reducible exact cc_intB) | (with_reducible exact cc_min2) | (with_reducible exact cc_listT)
  | ((with_reducible apply cc_isi); first | exact isi_int rfl | exact isi_bool | exact isi_tuple rfl | exact isi_str rfl)
  | walk_at "mycc")
local macro_rules | `(tactic| walk_at "ca") => `(tactic| first
  | (with_reducible exact ca_nil)
  | ((with_reducible apply ca_cons); walk_at "cm"; walk_at "ca"))
local macro_rules | `(tactic| walk_at "cad") => `(tactic| first
  | (with_reducible exact cad_nil)
  | ((with_reducible apply cad_cons); walk_at "cm"; walk_at "cad")
  | ((with_reducible apply cad_starE); walk_at "cm"; exact rfl; walk_at "cad"))
local macro_rules | `(tactic| walk_at "cm") => `(tactic| first
  | ((with_reducible apply cm_var); exact rfl)
  | (with_reducible exact cm_int) | (with_reducible exact cm_str) | (with_reducible exact cm_non) | (with_reducible exact cm_bl)
  | ((with_reducible apply cm_op); walk_at "cm"; walk_at "cm"; walk_at "co")
  | ((with_reducible apply cm_tupD); walk_at "cad"; walk_at "size")
  | ((with_reducible apply cm_neg); walk_at "cm")
  | ((with_reducible apply cm_call); walk_at "ca"; walk_at "my")
  | walk_at "mycm"
  | ((with_reducible apply cm_cb); walk_at "ca"; walk_at "cc")
  | ((with_reducible apply cm_chain); walk_at "cm"; walk_at "cm"; walk_at "co"; (intro _; walk_at "cm"); walk_at "co")
  | ((with_reducible apply cm_andVF); walk_at "cm"; walk_at "dec0")
  | ((with_reducible apply cm_orVT); walk_at "cm"; walk_at "dec0")
  | ((with_reducible apply cm_ifT); walk_at "ct"; walk_at "dec"; walk_at "cm")
  | ((with_reducible apply cm_ifF); walk_at "ct"; walk_at "dec"; walk_at "cm")
  | ((with_reducible apply cm_andV); walk_at "cm"; (intro _; walk_at "cm"))
  | ((with_reducible apply cm_orV); walk_at "cm"; (intro _; walk_at "cm"))
  | ((with_reducible apply cm_notV); walk_at "cm")
  | (with_reducible exact cm_val))
local macro_rules | `(tactic| walk_at "ct") => `(tactic| first
  | ((with_reducible apply ct_test); walk_at "cm") | ((with_reducible apply ct_B); walk_at "cm") | ((with_reducible apply ct_not); walk_at "ct")
  | ((with_reducible apply ct_andF); walk_at "ct"; walk_at "dec0")
  | ((with_reducible apply ct_orT); walk_at "ct"; walk_at "dec0")
  | ((with_reducible apply ct_and); walk_at "ct"; (intro _; walk_at "ct"))
  | ((with_reducible apply ct_or); walk_at "ct"; (intro _; walk_at "ct")))
local macro_rules | `(tactic| walk_at "size") => `(tactic| focus first | assumption | (simp; done) | (simp; omega) | omega)
local macro_rules | `(tactic| walk_at "dec0") => `(tactic| focus first | rfl | (simp [eHead, eL, eSs, eMs, eS, eM, eT, eN, eNs, eH, eO, rN]; done))
local macro_rules | `(tactic| walk_at "dec") => `(tactic| focus first | rfl | (simp [eHead, eL, eSs, eMs, eS, eM, eT, eN, eNs, eH, eO, rN]; done) | (simp [eHead, eL, eSs, eMs, eS, eM, eT, eN, eNs, eH, eO, rN]; omega) | (simp [eHead, eL, eSs, eMs, eS, eM, eT, eN, eNs, eH, eO, rN, *]; done))
local macro_rules | `(tactic| walk_at "skip") => `(tactic| ((with_reducible apply bs_skip); walk_at "ct"; walk_at "dec"))
local macro_rules | `(tactic| walk_at "take") => `(tactic| (refine bs_seqR ?_; (with_reducible apply bs_ifT); walk_at "ct"; walk_at "dec"))
local macro_rules | `(tactic| walk_at "ret") => `(tactic| (refine bs_ret ?_; (with_reducible apply cm_is); walk_at "cm"))
local macro_rules | `(tactic| walk_at "set") => `(tactic| ((with_reducible apply bs_setS); walk_at "cm"))
local macro_rules | `(tactic| walk_at "drop") => `(tactic| ((with_reducible apply bs_dropS); walk_at "cm"))
local macro_rules | `(tactic| walk_at "norm") => `(tactic| skip)
local macro_rules | `(tactic| walk_at "less") => `(tactic| first | exact less_nil | (apply less_some; walk_at "less") | (apply less_none; walk_at "less"))
local macro_rules | `(tactic| walk_at "flat") => `(tactic| first | exact flat_nil | (refine flat_cons ?_ ?_; (first | exact trivial | exact rfl); walk_at "flat"))
local macro_rules | `(tactic| walk_at "stay") => `(tactic| first | exact stay_nil | (refine stay_cons ?_ ?_; (first | exact stay_none | exact stay_d | exact stay_b | exact stay_v | exact stay_old (by assumption)); walk_at "stay"))
local macro_rules | `(tactic| walk_at "fl") => `(tactic| first | exact flatR_nil | (refine flatR_none ?_; walk_at "fl") | (refine flatR_some trivial ?_; walk_at "fl"))
section
variable {P : Program} {w : World} {K : Fg} {mg : Str → Option Value} {base : Heap}
variable {CW CT : Addr}
/-- a def whose code object is known -/
structure DefL (K : Fg) (mg : Str → Option Value) (x gx : Str) (st : Stmt) (ps : List Str) (c : Addr) : Prop where
  ex : ∃ f fd, Fun K x x st f fd ∧ fd.code = .ref c ∧ Binds K fd ps [] ∧ mg gx = some (.ref f)
theorem fnG_ofC {x qual : Str} {st : Stmt} {f c : Addr} {fd : FuncData} {N ps : List Str} {k : Nat} {sp : Sp} (F : Fun K x qual st f fd) (hc : fd.code = .ref c) (S : FnScope N ps (defScope st)) (len : ∀ vs H Q E, sp vs H Q E → vs.length = ps.length)
    (hbody : ∀ (A : Around) (outer : List Env) (s : Shared) (H : Hp) (vs : List V) (Q : VK) (E : XK), A.guards = some [] → Room k (A.deeper (envOfC qual (defScope st) s.heap.objs.size f (.ref c))) → sp vs H Q E →
      ∃ t, PSs (cxOf CX0 P w K mg base N qual (defScope st) f (.ref c) A outer s H E).nox (defBody st) t ∧ t { nx := fun _ H' => Q .non H', rt := Q } (start N vs) H) : FnG P w K mg base (k + 1) f fd ps sp := by
  refine ⟨len, fun A outer s H args us vs Q E hg hr e0 hb r hsp => ?_⟩
  obtain ⟨oc, od, kV, doc, pm, an, cdv, ct, osl, rfl, lk, hcd⟩ := F.ex
  have hc' : cdv = .ref c := hc
  subst hc'
  have KX : K.In s.heap := e0.mod.kin.keeps fun b o e => (e0.bs b o e).1
  have lim : s.heap.NoLimit := e0.mod.nolimit.keeps fun b o e => (e0.bs b o e).1
  refine codeAny_call_function hr.depth (KX _ _ lk) rfl S.co S.gen rfl (PySem.W.codeRec_of KX hcd) (hb _ _ _ _ ?_)
  refine wpAny_newFunctionEnv_cells S.kind (fun y hy => ?_) fun env he s1 xc => ?_
  · rcases S.par y.1 (List.of_mem_zip (show (y.1, y.2) ∈ _ from hy)).1 with q | q
    · exact .inl q
    · exact .inr ⟨q, PySem.W.cellsFrom_some _ _ _ (.inl q)⟩
  subst he
  refine ⟨lim.keeps xc.toInCall.keep, codeAny_func ?_⟩
  obtain ⟨t, ht, hq⟩ := hbody A outer s H vs Q E hg (hr.deeper _) hsp
  have I := inv_start (CX := CX0) (f := f) (cd := .ref c) (E := E) S hr.hd e0 (len _ _ _ _ hsp) r xc
  refine wpAny_mono (ht.nox.run [] s1 (start N vs) H _ I hq) (fun fl s' hs => ?_) fun e s' hs => hs
  have done : ∀ {σ' : L2.St} {H' : Hp} {v : V} {u : Value}, Inv (cxOf CX0 P w K mg base N qual (defScope st) f (.ref c) A outer s H E) [] σ' H' s' → RelV v u → Q v H' → CE outer P w H s Q u s' :=
    fun J rv q => ⟨_, _, J.os, J.bare, J.base, J.hok, rv, q⟩
  cases fl with
  | ret u => exact let ⟨_, _, _, J, rv, q⟩ := hs; done J rv q
  | next => exact let ⟨_, _, J, q⟩ := hs; done (v := V.non) (u := Value.none) J rfl q
  | brk => exact let ⟨_, _, _, q⟩ := hs; q.elim
  | cont => exact let ⟨_, _, _, q⟩ := hs; q.elim
theorem Tabs.extX {T : List (Addr × Str)} {H H' : Hp} {x C dx : Addr} {fs : List (Str × V)} (t : Tabs T H) (hx : H x = some (.ins C dx fs)) (s : SameX x H H') : Tabs T H' := fun p hp => by
  obtain ⟨ps, h1, h2, h3⟩ := t p hp
  have n1 : p.1 ≠ x := fun z => by rw [z, hx] at h1; cases h1
  refine ⟨ps, s _ _ n1 h1, h2, fun pos cv hc => ?_⟩
  obtain ⟨c, e1, e2⟩ := h3 pos cv hc
  exact ⟨c, e1, s _ _ (fun z => by rw [z, hx] at e2; unfold CodeO at e2; cases e2) e2⟩
theorem Keep.ext {H H' : Hp} (e : ExtN H H') : Keep H H' := fun a xs h => e a _ h fun ps z => by cases z
theorem cut_all {ds : List D} (h : ds.length ≤ 20) : cutD ds none (some 20) = ds := by
  unfold cutD
  have e1 : HT.sIx ds.length ds.length (some 20) = min 20 ds.length := HT.sIx_nat ds.length ds.length 20
  rw [e1, HT.sIx_none, Nat.min_eq_right h]
  simp
/-! ### _law_ways_right -/
abbrev s_law_ways_right : Stmt := top 89
abbrev N_law_ways_right : List Str := ["_law_tongue_here", "_law_one", "_law_two", "_law_wire", "_law_heard", "_law_there", "_law_more", "_law_told", "_law_first", "_law_some"]
theorem sc_law_ways_right : FnScope N_law_ways_right ["_law_tongue_here", "_law_one", "_law_two"] (defScope s_law_ways_right) := ⟨rfl, rfl, rfl, by decide +kernel, rfl, by decide +kernel, by decide +kernel⟩
abbrev lamQ : Str := "_law_ways_right" ++ ".<locals>." ++ "<lambda>"
def spWays (K : Fg) (T : List (Addr × Str)) : Sp := fun vs H Q _ => ∃ L xs ys v0 v1 v2, Good L ∧ (∀ x ∈ xs, L.ok x) ∧ (∀ x ∈ ys, L.ok x) ∧ xs.length + ys.length ≤ 20 ∧ vs = [v0, v1, v2] ∧ Rp K H v0 (eL L) ∧ Rp K H v1 (eSs xs) ∧ Rp K H v2 (eSs ys) ∧ Tabs T H ∧
  ∀ H', ExtN H H' → Tabs T H' → Q (.bl true) H'
theorem ok_ways {c Pt : Addr} (T : Txt K mg) (A : DefL K mg "_law_ways_right" "_law_ways_right" s_law_ways_right ["_law_tongue_here", "_law_one", "_law_two"] c) (TC : TxtW K mg CW CT) (TB : TabB base mg c Pt) (U : UndAt P w K mg base CW CT)
    (C_Wire : C8.Mak P w K mg base 4 "Wire" CW (spInitW K CW) []) (C_law_all_fed : C8.Cal P w K mg base 4 "_law_all_fed" (spAllFed K CW) []) (C_read : CalF P w K mg base 5 "read" R_read)
    (C_standing_Wire : Prp P w K mg base 1 CW "standing" (spF K (R_standing K CW))) (C_heard_Wire : Prp P w K mg base 1 CW "heard" (spF K (R_heard K CW))) (C_stream_Wire : Prp P w K mg base 1 CW "stream" (spF K (R_stream K CW)))
    (C_stream_text : CalF P w K mg base 5 "stream_text" R_stream_text) (C_read_stream : CalF P w K mg base 5 "read_stream" R_read_stream) (C_messages_text : CalF P w K mg base 6 "messages_text" R_messages_text) (C_read_messages : CalF P w K mg base 5 "read_messages" R_read_messages) :
    CalG P w K mg base 7 "_law_ways_right" (spWays K [(Pt, lamQ)]) := by
  obtain ⟨f, fd, F, hcode, b, m⟩ := A.ex
  refine ⟨f, fd, ["_law_tongue_here", "_law_one", "_law_two"], fnG_ofC F hcode sc_law_ways_right (fun vs H Q E h => ?_) (fun A outer s H vs Q E hA hr h => ?_), m, F.kp, b⟩
  · obtain ⟨_, _, _, _, _, _, _, _, _, _, rfl, _⟩ := h; rfl
  · obtain ⟨L, xs, ys, v0, v1, v2, g, hx, hy, hl, rfl, r0, r1, r2, hT, q⟩ := h
    let T1 : List (Addr × Str) := [(Pt, lamQ)]
    have hmT : (Pt, lamQ) ∈ T1 := List.mem_singleton.mpr rfl
    have hu : ∀ p ∈ T1, p.1 = Pt → p.2 = lamQ := fun p hp _ => by
      cases List.mem_singleton.mp hp
      rfl
    refine ⟨_, (pss_cons (ps_set (i := 3) sc_law_ways_right.nd rfl (by first | exact Or.inl rfl | exact Or.inr rfl) (C8.pe_mk C_Wire hr (by decide) rfl (pa_cons (pv 0) pa_nil))) (pss_cons (ps_set (i := 4) sc_law_ways_right.nd rfl (by first | exact Or.inl rfl | exact Or.inr rfl) (C8.pe_c C_law_all_fed hr (by decide) rfl (pa_cons (pv 3) (pa_cons (pv 1) pa_nil)))) (pss_cons (ps_asg (C8.pe_c C_read hr (by decide) rfl (pa_cons (pv 0) (pa_cons (pe_prp C_standing_Wire hr (by decide) (pv 3) rfl) (pa_cons (pv 2) pa_nil)))) (pgTK (n := 2) K rfl rfl (pgs_cons (pg_name (i := 5) sc_law_ways_right.nd rfl (by first | exact Or.inl rfl | exact Or.inr rfl)) (pgs_cons (pg_name (i := 6) sc_law_ways_right.nd rfl (by first | exact Or.inl rfl | exact Or.inr rfl)) pgs_nil)))) (pss_cons (ps_set (i := 7) sc_law_ways_right.nd rfl (by first | exact Or.inl rfl | exact Or.inr rfl) (pe_lst (pa_cons (pe_prp C_standing_Wire hr (by decide) (pv 3) rfl) (pa_cons (pe_callTy (tupleK K rfl) rfl T.b_tuple bo_tuple (pa_cons (pv 4) pa_nil)) (pa_cons (pe_prp C_heard_Wire hr (by decide) (pv 3) rfl) (pa_cons (pe_under (T := T1) (k := 4) (p := "_law_here") U rfl hr (by decide) TB rfl hmT hu (lamS1_by (show lamS1B (defScope s_law_ways_right) _ "_law_here" = true by decide +kernel)) (show ("_law_here" : Str) ∉ N_law_ways_right by decide +kernel) rfl (fun _ _ _ _ _ _ => rfl) (pv 3) (fun A outer s H f c' hr2 => (pe_callTy (tupleK K rfl) rfl T.b_tuple bo_tuple (pa_cons (C8.pe_c C_law_all_fed hr2 (by decide) rfl (pa_cons (pe_var (i := 10) rfl (Or.inl rfl)) (pa_cons (pe_var (i := 2) rfl (Or.inr (Or.inr rfl))) pa_nil))) pa_nil)))) pa_nil)))))) (pss_cons (ps_set (i := 8) sc_law_ways_right.nd rfl (by first | exact Or.inl rfl | exact Or.inr rfl) (C8.pe_c C_read hr (by decide) rfl (pa_cons (pv 0) (pa_cons (pe_tup (pa_cons (pe_un un_neg pe_int) (pa_cons (pe_tup pa_nil) (pa_cons (pe_tup pa_nil) pa_nil)))) (pa_cons (pv 1) pa_nil))))) (pss_cons (ps_if (PW.pt (pw_or (pt_cmpR op_ne (pe_callB (reprK hA hr K rfl) rfl T.b_repr bo_repr (pa_cons (pv 7) pa_nil)) (pe_callB (reprK hA hr K rfl) rfl T.b_repr bo_repr (pa_cons (pe_lst (pa_cons (pe_ix (ixK K rfl) (pv 8) pe_int (fun _ _ => rfl)) (pa_cons (pe_ix (ixK K rfl) (pv 8) pe_int (fun _ _ => rfl)) (pa_cons (pe_ix (ixK K rfl) (pv 8) pe_int (fun _ _ => rfl)) (pa_cons (pv 6) pa_nil))))) pa_nil)) (nomark _)) (pw_or1 (pt_cmpR op_ne (pe_callB (reprK hA hr K rfl) rfl T.b_repr bo_repr (pa_cons (pe_prp C_stream_Wire hr (by decide) (pv 3) rfl) pa_nil)) (pe_callB (reprK hA hr K rfl) rfl T.b_repr bo_repr (pa_cons (pv 1) pa_nil)) (nomark _))))) (pss_one (ps_ret pe_bl)) pss_nil) (pss_cons (ps_if (pt_cmpR op_ne (pe_callB (reprK hA hr K rfl) rfl T.b_repr bo_repr (pa_cons (C8.pe_c C_read_stream hr (by decide) rfl (pa_cons (pv 0) (pa_cons (C8.pe_c C_stream_text hr (by decide) rfl (pa_cons (pv 0) (pa_cons (pe_op (addK K rfl) (pv 1) (pv 2)) pa_nil))) pa_nil))) pa_nil)) (pe_callB (reprK hA hr K rfl) rfl T.b_repr bo_repr (pa_cons (pe_op (addK K rfl) (pv 1) (pv 2)) pa_nil)) (nomark _)) (pss_one (ps_ret pe_bl)) pss_nil) (pss_cons (ps_set (i := 9) sc_law_ways_right.nd rfl (by first | exact Or.inl rfl | exact Or.inr rfl) (pe_slice (slTK K rfl) (pe_op (addK K rfl) (pe_ix (ixK K rfl) (pv 8) pe_int (fun _ _ => rfl)) (pv 6)) po_none (po_some pe_int))) (pss_one (ps_ret (pe_cmpR op_eq (pe_callB (reprK hA hr K rfl) rfl T.b_repr bo_repr (pa_cons (C8.pe_c C_read_messages hr (by decide) rfl (pa_cons (pv 0) (pa_cons (C8.pe_c C_messages_text hr (by decide) rfl (pa_cons (pv 0) (pa_cons (pv 9) pa_nil))) pa_nil))) pa_nil)) (pe_callB (reprK hA hr K rfl) rfl T.b_repr bo_repr (pa_cons (pv 9) pa_nil)) (nomark _)))))))))))), ?_⟩
    have e0 : EnvOk K [some (.d (eL L)), some (.d (eSs xs)), some (.d (eSs ys)), none, none, none, none, none, none, none] (start N_law_ways_right [v0, v1, v2]) H := env_start (N := N_law_ways_right) (ws := [.d (eL L), .d (eSs xs), .d (eSs ys)]) (.cons r0 (.cons r1 (.cons r2 .nil)))
    -- the wire
    refine seq_name (show ∃ x, _ = some (some x) ∧ _ from ⟨v0, rfl, fun x dx fx fdx ndx => ?_⟩)
    have sx0 : Same H (upd (upd H dx (.own x)) x (.ins CW dx [])) := fun b o h => by
      rw [upd_ne (ne_of_none h fx), upd_ne (ne_of_none h fdx)]
      exact h
    refine ⟨L, x, dx, v0, g, rfl, upd_same, Rp.keep (Keep.of sx0) _ _ r0, fun H1 sx1 kp1 wa1 => ⟨rfl, ?_⟩⟩
    have s01 : Same H H1 := fun b o h => sx1 b o (ne_of_none h fx) (sx0 b o h)
    refine seq_name (show ∃ y, _ = some (some y) ∧ _ from ⟨.ref x, rfl, v1, rfl, L, [], xs, x, dx, v1, g, ⟨by simp, by simp⟩, ⟨hx, by omega⟩, by simp; omega, rfl, wa1, Rp.keep (Keep.of s01) _ _ r1, fun y us H2 sx2 kp2 fy hy2 rus wa2 => ?_⟩)
    rw [List.nil_append] at wa2
    have s02 : Same H H2 := fun b o h => sx2 b o (ne_of_none h fx) (s01 b o h)
    have rus' : RpA K H2 us ((readSo L .first xs).2.map eM) := rus
    let R2 : Sl := [some (.d (eL L)), some (.d (eSs xs)), some (.d (eSs ys)), some (wireP K CW L xs x dx), some (.l ((readSo L .first xs).2.map eM)), none, none, none, none, none]
    have e2 : EnvOk K R2 (((start N_law_ways_right [v0, v1, v2]).set 3 (some (.ref x))).set 4 (some (.ref y))) H2 := ((e0.same s02).set (i := 3) (wireP_of wa2)).set (i := 4) (w := .l ((readSo L .first xs).2.map eM)) ⟨y, us, rfl, hy2, rus'⟩
    generalize ((start N_law_ways_right [v0, v1, v2]).set 3 (some (.ref x))).set 4 (some (.ref y)) = σ2 at e2 ⊢
    obtain ⟨t1, m1⟩ := good_read g (good_first L) hx
    obtain ⟨t2, m2⟩ := good_read g t1 hy
    have l1 := heard_len L xs .first
    have l2 := heard_len L ys (readSo L .first xs).1
    refine seq_bs (bs_asg (w := .d (.tup [eT (readSo L (readSo L .first xs).1 ys).1, eMs (readSo L (readSo L .first xs).1 ys).2])) (cm_call (ca_cons (cm_var rfl) (ca_cons (cm_prop (f := "standing") (R := R_standing K CW) (cm_var rfl) ⟨L, xs, x, dx, rfl, rfl⟩) (ca_cons (cm_var rfl) ca_nil))) (r_read g t1 hy (by omega))) (cg_tup (cgs_cons cg_name (cgs_cons cg_name cgs_nil)) rfl)) e2 fun σ3 H3 s3 e3 => ?_
    -- what is told
    refine seq_lst ?_
    refine cm_prop (f := "standing") (R := R_standing K CW) (cm_var (i := 3) rfl) ⟨L, xs, x, dx, rfl, rfl⟩ σ3 H3 _ e3 fun u1 H4 s4 ru1 => ?_
    refine cm_cb (ca_cons (cm_var (i := 4) (w := .l ((readSo L .first xs).2.map eM)) rfl) ca_nil) cc_tuple σ3 H4 _ (e3.same s4) fun u2 H5 s5 ru2 => ?_
    refine cm_prop (f := "heard") (R := R_heard K CW) (cm_var (i := 3) rfl) ⟨L, xs, x, dx, rfl, rfl⟩ σ3 H5 _ (e3.same (s4.trans s5)) fun u3 H6 s6 ru3 => ?_
    have s36 := (s4.trans s5).trans s6
    have e6 := e3.same s36
    have s06 : Same H H6 := (s02.trans s3).trans s36
    obtain ⟨x3, hx3, rx3⟩ := e6.at_ 3 _ rfl
    obtain ⟨ex3, wa6⟩ := rx3 H6 (Same.refl _)
    subst ex3
    obtain ⟨w1, w2, hxi6, rl6, rp6⟩ := id wa6
    refine ⟨.ref x, hx3, x, dx, w1, w2, rfl, hxi6, hT.ext s06, fun t dt H7 eN7 T7 tx ht7 => ?_⟩
    have l10 : σ3.length = 10 := by rw [← e3.len]; rfl
    obtain ⟨x2, hx2, rx2⟩ := e6.at_ 2 _ rfl
    have hv10 : (σ3 ++ [some (V.ref x)])[10]? = some (some (.ref x)) := by rw [List.getElem?_append_right (by omega), l10]; rfl
    have hv2 : (σ3 ++ [some (V.ref x)])[2]? = some (some x2) := by rw [List.getElem?_append_left (by omega)]; exact hx2
    have k67 := Keep.ext eN7
    have hxi7 := eN7 _ _ hxi6 (fun ps z => by cases z)
    have wa7 : WireAt K CW L xs x dx H7 := ⟨w1, w2, hxi7, Rp.keep k67 _ _ rl6, Rp.keep k67 _ _ rp6⟩
    refine (show ∃ y, _ = some (some y) ∧ _ from ⟨.ref x, hv10, x2, hv2, L, xs, ys, x, dx, x2, g, ⟨hx, by omega⟩, ⟨hy, by omega⟩, by omega, rfl, wa7, Rp.keep k67 _ _ rx2, fun y2 us2 H8 sx8 kp8 fy2 hy8 rus2 wa8 => ?_⟩)
    refine ⟨y2, us2, rfl, .inl ⟨.of hy8, fun l hl8 => ?_⟩⟩
    obtain ⟨z1, z2, hxi8, rl8, rp8⟩ := id wa8
    have ht8 := sx8 _ _ tx ht7
    have tl : t ≠ l := ne_of_none ht8 hl8
    have xl : x ≠ l := ne_of_none hxi8 hl8
    refine ⟨t, dt, x, dx, w2, z1, z2, .non, .non, .non, rfl, by rw [upd_ne tl]; exact ht8, by rw [upd_ne xl]; exact hxi8, .ref l, rfl, ?_⟩
    have s8 := Same.new (o := .tup us2) hl8
    have hxi8' := s8 _ _ hxi8
    have hlp : upd H8 l (.tup us2) l = some (.tup us2) := upd_same
    have k8x : Keep (upd H8 l (.tup us2)) (upd (upd H8 l (.tup us2)) x (.ins CW dx (wiFs z1 w2))) := Keep.put fun ts z => by rw [hxi8'] at z; cases z
    have hl9 : upd (upd H8 l (.tup us2)) x (.ins CW dx (wiFs z1 w2)) l = some (.tup us2) := by rw [upd_ne (Ne.symm xl)]; exact hlp
    have hx9 : upd (upd H8 l (.tup us2)) x (.ins CW dx (wiFs z1 w2)) x = some (.ins CW dx (wiFs z1 w2)) := upd_same
    have sx9 : SameX x (upd H8 l (.tup us2)) (upd (upd H8 l (.tup us2)) x (.ins CW dx (wiFs z1 w2))) := fun b o nb h => by rw [upd_ne nb]; exact h
    have T9 : Tabs T1 _ := Tabs.extX (Tabs.ext (Tabs.extX T7 hxi7 sx8) s8) hxi8' sx9
    generalize upd (upd H8 l (.tup us2)) x (.ins CW dx (wiFs z1 w2)) = H9 at k8x hl9 hx9 sx9 T9 ⊢
    have k89 : Keep H8 H9 := (Keep.of s8).trans k8x
    have k69 : Keep H6 H9 := (k67.trans kp8).trans k89
    have wa9 : WireAt K CW L xs x dx H9 := ⟨z1, w2, hx9, Rp.keep k89 _ _ rl8, Rp.keep k69 _ _ rp6⟩
    have x69 : ∀ b o, b ≠ x → H6 b = some o → (∀ ps, o ≠ .tbl ps) → H9 b = some o := fun b o nb h n => sx9 _ _ nb (s8 _ _ (sx8 _ _ nb (eN7 _ _ h n)))
    let R6 : Sl := [some (.d (eL L)), some (.d (eSs xs)), some (.d (eSs ys)), some (.v (.ref x)), none, none, some (.d (eMs (readSo L (readSo L .first xs).1 ys).2)), none, none, none]
    have f6 : FlatR R6 := by walk_at "fl"
    have e6' := (e6.know (i := 3) (w' := .v (.ref x)) rfl fun y hy => (hy H6 (Same.refl _)).1).less (r' := R6) (by walk_at "less")
    have e9 := (e6'.keepV f6 k69).know (i := 3) (w' := wireP K CW L xs x dx) rfl fun y hy => by
      have hy' : y = .ref x := hy
      subst hy'
      exact wireP_of wa9
    refine ⟨(by show 4 ≤ sizeLine; decide), fun p hp9 => ?_⟩
    have sp := Same.new (o := .lst [u1, u2, u3, .ref l]) hp9
    let D7 : List D := [eT (readSo L .first xs).1, eMs (readSo L .first xs).2, eMs (readSo L .first xs).2, eMs (readSo L (readSo L .first xs).1 ys).2]
    let R10 : Sl := [some (.d (eL L)), some (.d (eSs xs)), some (.d (eSs ys)), some (wireP K CW L xs x dx), none, none, some (.d (eMs (readSo L (readSo L .first xs).1 ys).2)), some (.l D7), none, none]
    have kn : Keep H9 (upd H9 p (.lst [u1, u2, u3, .ref l])) := Keep.of sp
    have ru4 : Rp K H9 (.ref l) (eMs (readSo L (readSo L .first xs).1 ys).2) := .tup (.inl hl9) (RpA.keep k89 _ _ rus2)
    have e10 : EnvOk K R10 (σ3.set 7 (some (.ref p))) (upd H9 p (.lst [u1, u2, u3, .ref l])) := (e9.same sp).set (i := 7) (w := .l D7) ⟨p, _, rfl, upd_same,
      .cons (Rp.keep (((Keep.of (s5.trans s6)).trans k69).trans kn) _ _ ru1) (.cons (Rp.keep (((Keep.of s6).trans k69).trans kn) _ _ ru2) (.cons (Rp.keep (k69.trans kn) _ _ ru3) (.cons (Rp.keep kn _ _ ru4) .nil)))⟩
    have T10 : Tabs T1 (upd H9 p (.lst [u1, u2, u3, .ref l])) := Tabs.ext T9 sp
    have x0 : ExtN H (upd H9 p (.lst [u1, u2, u3, .ref l])) := fun b o h n => sp _ _ (x69 b o (ne_of_none h fx) (s06 _ _ h) n)
    generalize upd H9 p (.lst [u1, u2, u3, .ref l]) = H10 at e10 T10 x0 ⊢
    generalize σ3.set 7 (some (.ref p)) = σ10 at e10 ⊢
    -- what is left only asks
    have gxy : isGood L (xs ++ ys) := ⟨fun z hz => by
      rcases List.mem_append.mp hz with k | k
      · exact hx z k
      · exact hy z k, by simp; omega⟩
    have okx : ShowOk (pyD (eSs xs)) := (shw_Ss g hx (by omega)).ok (by omega) (by omega)
    have okxy : ShowOk (pyD (eSs (xs ++ ys))) := (shw_Ss g gxy.1 gxy.2).ok (by omega) (by omega)
    have hm : isHeard L ((readSo L .first xs).2 ++ (readSo L (readSo L .first xs).1 ys).2) := ⟨fun z hz => by
      rcases List.mem_append.mp hz with k | k
      · exact m1 z k
      · exact m2 z k, by rw [List.length_append]; omega⟩
    have okm : ShowOk (pyD (eMs ((readSo L .first xs).2 ++ (readSo L (readSo L .first xs).1 ys).2))) := (shw_Ms g hm.1 (by have := hm.2; omega)).ok (by omega) (by omega)
    have ok7 : ShowOk (.list (pyDs D7)) := (shw_lst (k := 3) (n := 9503) fun d hd => by
      simp only [D7, List.mem_cons, List.mem_nil_iff, or_false] at hd
      rcases hd with rfl | rfl | rfl | rfl
      · exact (shw_T g t1).up (by omega) (by omega)
      · exact shw_Ms g m1 (by omega)
      · exact shw_Ms g m1 (by omega)
      · exact shw_Ms g m2 (by omega)).ok (by omega) (by simp [D7])
    have mkF : ∀ r : Sl, Cm K (tTup (tCons (tUn (rU fun i => .int (-i)) (tC (.int 1))) (tCons (tTup tNil) (tCons (tTup tNil) tNil)))) r (.d (eT .first)) := fun r => cm_is (cm_tupD (cad_cons (cm_neg cm_int) (cad_cons (cm_tupD cad_nil (by simp)) (cad_cons (cm_tupD cad_nil (by simp)) cad_nil))) (by simp)) rfl
    refine (?_ : Bs K _ R10 (.rt (.b true))) _ σ10 H10 e10 fun z H11 s11 rz => ?_
    · refine bs_setS (w := .d (.tup [eT (readSo L .first xs).1, eMs (readSo L .first xs).2])) (cm_call (ca_cons (cm_var rfl) (ca_cons (mkF _) (ca_cons (cm_var rfl) ca_nil))) (r_read g (good_first L) hx (by omega))) ?_
      let R11 : Sl := R10.set 8 (some (.d (.tup [eT (readSo L .first xs).1, eMs (readSo L .first xs).2])))
      have i0 : Cm K (tOp (rIx K) (tVar 8) (tC (.int 0))) R11 (.d (eT (readSo L .first xs).1)) := cm_op (cm_var rfl) cm_int (co_ixTe rfl rfl)
      have i1 : Cm K (tOp (rIx K) (tVar 8) (tC (.int 1))) R11 (.d (eMs (readSo L .first xs).2)) := cm_op (cm_var rfl) cm_int (co_ixTe rfl rfl)
      have ad : Cm K (tOp (rAddU K) (tVar 1) (tVar 2)) R11 (.d (eSs (xs ++ ys))) := cm_op (cm_var rfl) (cm_var rfl) (co_addSs (K := K) (by omega))
      refine bs_skip (ct_or (ct_test (cm_op (cm_cb (ca_cons (cm_var rfl) ca_nil) (cc_reprL ok7)) (cm_cb (ca_cons (cm_lstD (ds := D7) (cad_cons i0 (cad_cons i1 (cad_cons i1 (cad_cons (cm_var rfl) cad_nil)))) (by simp [D7])) ca_nil) (cc_reprL ok7)) co_neS)) fun _ => ct_test (cm_op (cm_cb (ca_cons (cm_prop (f := "stream") (R := R_stream K CW) (cm_var rfl) ⟨L, xs, x, dx, by omega, rfl, rfl⟩) ca_nil) (cc_reprT okx)) (cm_cb (ca_cons (cm_var rfl) ca_nil) (cc_reprT okx)) co_neS)) (by simp) ?_
      refine bs_skip (ct_test (cm_op (cm_cb (ca_cons (cm_call (ca_cons (cm_var rfl) (ca_cons (cm_call (ca_cons (cm_var rfl) (ca_cons ad ca_nil)) (r_stream_text g gxy)) ca_nil)) (r_read_stream g gxy)) ca_nil) (cc_reprT okxy)) (cm_cb (ca_cons ad ca_nil) (cc_reprT okxy)) co_neS)) (by simp) ?_
      refine bs_setS (w := .d (eMs ((readSo L .first xs).2 ++ (readSo L (readSo L .first xs).1 ys).2))) (cm_is (cm_slT (cm_op i1 (cm_var rfl) (co_addTe (as := (readSo L .first xs).2.map eM) (bs := (readSo L (readSo L .first xs).1 ys).2.map eM) rfl rfl (by simp; omega))) cp_no (cp_int cm_int)) ?_) ?_
      · rw [cut_all (by simp; omega), ← List.map_append]
        rfl
      · exact bs_ret (cm_is (cm_op (cm_cb (ca_cons (cm_call (ca_cons (cm_var rfl) (ca_cons (cm_call (ca_cons (cm_var rfl) (ca_cons (cm_var rfl) ca_nil)) (r_messages_text g hm)) ca_nil)) (r_read_messages g hm)) ca_nil) (cc_reprT okm)) (cm_cb (ca_cons (cm_var rfl) ca_nil) (cc_reprT okm)) co_eqS) (congrArg W.b (decide_eq_true rfl)))
    · have ez : z = .bl true := rz
      subst ez
      exact q H11 (x0.trans (ExtN.of s11)) (Tabs.ext T10 s11)
end
end NW
/-! tuple * 0 -/
namespace NW
open PySem PySem.Spec PyProof.Rows L2 StX NM
theorem tuple_mul0 (l : Addr) (items : Array Value) (n : Nat) (dd : Option Addr) (sl : Array (Option Value)) (x : Int) (u : Tok) (c0 : (decide (x < -(2 ^ 63)) || decide (x ≥ 2 ^ 63)) = false) (c1 : (items.isEmpty || x == 1) = false) (c2 : (decide (x ≤ 0) || items.isEmpty) = true) :
    Meets (Builtin.«tuple.__mul__» ⟨[.ref l, .int x u], []⟩) (fun _ R s => s.heap.get? l = some { cls := .type "tuple", dict := dd, data := .seq items n, slots := sl } ∧
      R (.ok (.ret (Value.ref s.heap.objs.size))) { s with heap := s.heap.push { cls := Value.type "tuple", data := Data.seq #[] }, toks := s.toks }) :=
  .of_wp fun prog w A R s h => by
    obtain ⟨hp, g, d, tk, os⟩ := s
    obtain ⟨hl, h⟩ := h
    have f1 := AutoSeq1.idx_int
    wp_walk using wpAny_loadPart' hl
    repeat (first
      | (refine wpAny_ite_false (decide_eq_false (by rw [c0]; exact Bool.false_ne_true)) ?_; wp_walk using wpAny_loadPart' hl)
      | (refine wpAny_ite_false (decide_eq_false (by rw [c1]; exact Bool.false_ne_true)) ?_; wp_walk using wpAny_loadPart' hl)
      | (refine wpAny_ite_true (decide_eq_true c2) ?_; wp_walk using wpAny_loadPart' hl))
    exact ⟨_, rfl, h⟩
def rMul0 (K : Fg) : R2 := fun x y H Q => ∃ l xs, x = .ref l ∧ y = .int 0 ∧ SqT K H l xs ∧ xs ≠ [] ∧ ∀ p, H p = none → Q (.ref p) (upd H p (.tup []))
theorem op_mul0 {X : Cx} : OpR X (binaryOp .Mult) (rMul0 X.K) := by
  intro pins s σ H x y v u Q I rx ry h
  obtain ⟨l, xs, rfl, rfl, hT, hne, q⟩ := h
  cases rx
  obtain ⟨t, rfl⟩ := ry
  obtain ⟨its, r, ⟨⟨cls, dd, data, sl⟩, ho, hc, n, hd⟩, hs⟩ := I.tuple hT
  simp only at hc hd
  subst hc hd
  have hle : its.length = xs.length := r.length.symm
  have hn : its ≠ [] := fun e => hne (by
    rw [e] at hle
    exact List.eq_nil_of_length_eq_zero hle.symm)
  have hi : its.toArray.isEmpty = false := by
    cases its with
    | nil => exact absurd rfl hn
    | cons a b => rfl
  have c0 : (decide ((0 : Int) < -(2 ^ 63)) || decide ((0 : Int) ≥ 2 ^ 63)) = false := by decide
  have c1 : (its.toArray.isEmpty || (0 : Int) == 1) = false := by
    rw [hi]
    rfl
  have c2 : (decide ((0 : Int) ≤ 0) || its.toArray.isEmpty) = true := by simp
  refine wpAny_binaryOp_repeat_ref (T := "tuple") (U := "int") (by decide) ⟨_, ho, rfl⟩ (fun s' => typeIs_int s' 0 t) noFill_tuple_mul F.fills_int_mul F.slot_int_rmul repeat_tuple F.slot_int_index.lookup
    (call_meets F.slot_int_rmul (typeIs_int s 0 t) F.entry_int_rmul (F.args_int_rmul_2 _ _) (int_rmul_tuple 0 t l its.toArray n dd sl)
      ⟨ho, rfl, ⟨_, ho, rfl⟩, call_meets F.slot_tuple_mul ⟨_, ho, rfl⟩ F.entry_tuple_mul (F.args_tuple_mul_2 _ _) (tuple_mul0 l its.toArray n dd sl 0 t c0 c1 c2) ⟨ho, ?_⟩⟩)
  refine ⟨.ref s.heap.objs.size, _, I.laid (t' := s.toks) (o := .tup []) (fun b ob q => Heap.get?_push_of_some _ q) (Nat.le_refl _) ?_, rfl, q _ (I.hok.fresh (Nat.le_refl _))⟩
  exact ⟨by decide, [], .nil, IsTup.new _ _⟩
def rMulT (K : Fg) : R2 := fun x y H Q => rRepT K x y H Q ∨ rMul0 K x y H Q
theorem mulTK {X : Cx} (K : Fg) (h : X.K = K) : OpR X (binaryOp .Mult) (rMulT K) := h ▸ op_repT.or op_mul0
theorem rep_rp {K : Fg} {H : Hp} {xs : List V} {ds : List D} (h : RpA K H xs ds) : ∀ m : Nat, RpA K H (List.replicate m xs).flatten (List.replicate m ds).flatten
  | 0 => .nil
  | m + 1 => by
    rw [List.replicate_succ, List.replicate_succ, List.flatten_cons, List.flatten_cons]
    exact h.append (rep_rp h m)
theorem co_mulT {K : Fg} {ds : List D} {k : Nat} (hk : k = 0 ∨ 2 ≤ k) (hk2 : k ≤ 1000) (hne : ds ≠ []) (hl : ds.length ≤ 1000) : CmO K (rMulT K) (.d (.tup ds)) (.d (eN k)) (.d (.tup (List.replicate k ds).flatten)) := fun x y H Q rx ry q => by
  obtain ⟨a, xs, rfl, ea, ra⟩ := Rp.tup_inv rx
  have ey := Rp.int_inv ry
  subst ey
  have xne : xs ≠ [] := fun z => by
    subst z
    cases ra
    exact hne rfl
  rcases hk with rfl | hk
  · exact .inr ⟨a, xs, rfl, rfl, ea.sq, xne, fun p hp => q _ _ (Same.new hp) (.tup (.inl upd_same) .nil)⟩
  · refine .inl ⟨a, (k : Nat), xs, rfl, rfl, ea.sq, xne, by omega, by omega, by rw [ra.length]; exact hl, fun p hp => q _ _ (Same.new hp) (.tup (.inl upd_same) ?_)⟩
    exact RpA.keep (Keep.of (Same.new hp)) _ _ (rep_rp ra k)
end NW
/-! the law -/
namespace NW
open PySem PySem.Spec PyProof.Rows L2 StX NM LamX
local macro_rules | `(tactic| walk_at "my") => `(tactic| fail)
local macro_rules | `(tactic| walk_at "mycm") => `(tactic| fail)
local macro_rules | `(tactic| walk_at "myco") => `(tactic| fail)
local macro_rules | `(tactic| walk_at "mycc") => `(tactic| fail)
local macro_rules | `(tactic| walk_at "sh") => `(tactic| first | assumption | exact sh_n | exact Sh.num | exact Sh.non | exact sh_role | exact Sh.text (by decide +kernel) | exact sh_ns | exact sh_s | exact sh_m | exact sh_o | exact sh_h | exact sh_t | exact sh_ss | exact sh_ms | exact sh_head | exact sh_L | exact sh_nil | (apply sh_cons <;> walk_at "sh"))
local macro_rules | `(tactic| walk_at "shs") => `(tactic| first | assumption | exact shs_nil | (apply shs_cons; walk_at "sh"; walk_at "shs"))
local macro_rules | `(tactic| walk_at "co") => `(tactic| first
  | ((with_reducible apply co_ixTe); exact rfl; exact rfl)
  | ((with_reducible exact co_ixDl))
  | ((with_reducible apply co_ixL); exact rfl)
  | (with_reducible exact co_lt) | (with_reducible exact co_le) | (with_reducible exact co_gt) | (with_reducible exact co_ge) | (with_reducible exact co_sub)
  | (with_reducible exact co_isN) | (with_reducible exact co_isNotN)
  | ((with_reducible apply co_eq) <;> walk_at "sh") | ((with_reducible apply co_ne) <;> walk_at "sh")
  | (with_reducible exact co_add)
  | ((with_reducible apply co_inTe); exact rfl; walk_at "sh"; walk_at "shs")
  | walk_at "myco")
local macro_rules | `(tactic| walk_at "cc") => `(tactic| first
  | ((with_reducible apply cc_lenTe); exact rfl) | (with_reducible exact cc_lenL) | (with_reducible exact cc_all) | (with_reducible exact cc_any) | (with_reducible exact cc_tuple) | (with_reducible exact cc_intI)
  | (with_reducible exact cc_intB) | (with_reducible exact cc_min2) | (with_reducible exact cc_listT)
  | ((with_reducible apply cc_isi); first | exact isi_int rfl | exact isi_bool | exact isi_tuple rfl | exact isi_str rfl)
  | walk_at "mycc")
local macro_rules | `(tactic| walk_at "ca") => `(tactic| first
  | (with_reducible exact ca_nil)
  | ((with_reducible apply ca_cons); walk_at "cm"; walk_at "ca"))
local macro_rules | `(tactic| walk_at "cad") => `(tactic| first
  | (with_reducible exact cad_nil)
  | ((with_reducible apply cad_cons); walk_at "cm"; walk_at "cad")
  | ((with_reducible apply cad_starE); walk_at "cm"; exact rfl; walk_at "cad"))
local macro_rules | `(tactic| walk_at "cm") => `(tactic| first
  | ((with_reducible apply cm_var); exact rfl)
  | (with_reducible exact cm_int) | (with_reducible exact cm_str) | (with_reducible exact cm_non) | (with_reducible exact cm_bl)
  | ((with_reducible apply cm_op); walk_at "cm"; walk_at "cm"; walk_at "co")
  | ((with_reducible apply cm_tupD); walk_at "cad"; walk_at "size")
  | ((with_reducible apply cm_neg); walk_at "cm")
  | ((with_reducible apply cm_call); walk_at "ca"; walk_at "my")
  | walk_at "mycm"
  | ((with_reducible apply cm_cb); walk_at "ca"; walk_at "cc")
  | ((with_reducible apply cm_chain); walk_at "cm"; walk_at "cm"; walk_at "co"; (intro _; walk_at "cm"); walk_at "co")
  | ((with_reducible apply cm_andVF); walk_at "cm"; walk_at "dec0")
  | ((with_reducible apply cm_orVT); walk_at "cm"; walk_at "dec0")
  | ((with_reducible apply cm_ifT); walk_at "ct"; walk_at "dec"; walk_at "cm")
  | ((with_reducible apply cm_ifF); walk_at "ct"; walk_at "dec"; walk_at "cm")
  | ((with_reducible apply cm_andV); walk_at "cm"; (intro _; walk_at "cm"))
  | ((with_reducible apply cm_orV); walk_at "cm"; (intro _; walk_at "cm"))
  | ((with_reducible apply cm_notV); walk_at "cm")
  | (with_reducible exact cm_val))
local macro_rules | `(tactic| walk_at "ct") => `(tactic| first
  | ((with_reducible apply ct_test); walk_at "cm") | ((with_reducible apply ct_B); walk_at "cm") | ((with_reducible apply ct_not); walk_at "ct")
  | ((with_reducible apply ct_andF); walk_at "ct"; walk_at "dec0")
  | ((with_reducible apply ct_orT); walk_at "ct"; walk_at "dec0")
  | ((with_reducible apply ct_and); walk_at "ct"; (intro _; walk_at "ct"))
  | ((with_reducible apply ct_or); walk_at "ct"; (intro _; walk_at "ct")))
local macro_rules | `(tactic| walk_at "size") => `(tactic| focus first | assumption | (simp; done) | (simp; omega) | omega)
local macro_rules | `(tactic| walk_at "dec0") => `(tactic| focus first | rfl | (simp [eHead, eL, eSs, eMs, eS, eM, eT, eN, eNs, eH, eO, rN]; done))
local macro_rules | `(tactic| walk_at "dec") => `(tactic| focus first | rfl | (simp [eHead, eL, eSs, eMs, eS, eM, eT, eN, eNs, eH, eO, rN]; done) | (simp [eHead, eL, eSs, eMs, eS, eM, eT, eN, eNs, eH, eO, rN]; omega) | (simp [eHead, eL, eSs, eMs, eS, eM, eT, eN, eNs, eH, eO, rN, *]; done))
local macro_rules | `(tactic| walk_at "skip") => `(tactic| ((with_reducible apply bs_skip); walk_at "ct"; walk_at "dec"))
local macro_rules | `(tactic| walk_at "take") => `(tactic| (refine bs_seqR ?_; (with_reducible apply bs_ifT); walk_at "ct"; walk_at "dec"))
local macro_rules | `(tactic| walk_at "ret") => `(tactic| (refine bs_ret ?_; (with_reducible apply cm_is); walk_at "cm"))
local macro_rules | `(tactic| walk_at "set") => `(tactic| ((with_reducible apply bs_setS); walk_at "cm"))
local macro_rules | `(tactic| walk_at "drop") => `(tactic| ((with_reducible apply bs_dropS); walk_at "cm"))
local macro_rules | `(tactic| walk_at "norm") => `(tactic| skip)
local macro_rules | `(tactic| walk_at "less") => `(tactic| first | exact less_nil | (apply less_some; walk_at "less") | (apply less_none; walk_at "less"))
local macro_rules | `(tactic| walk_at "flat") => `(tactic| first | exact flat_nil | (refine flat_cons ?_ ?_; (first | exact trivial | exact rfl); walk_at "flat"))
local macro_rules | `(tactic| walk_at "stay") => `(tactic| first | exact stay_nil | (refine stay_cons ?_ ?_; (first | exact stay_none | exact stay_d | exact stay_b | exact stay_v | exact stay_old (by assumption)); walk_at "stay"))
local macro_rules | `(tactic| walk_at "fl") => `(tactic| first | exact flatR_nil | (refine flatR_none ?_; walk_at "fl") | (refine flatR_some trivial ?_; walk_at "fl"))
section
variable {P : Program} {w : World} {K : Fg} {mg : Str → Option Value} {base : Heap}
variable {CW CT : Addr}
/-! ### what the law knows between its statements -/
theorem MAt.ext {a g : Addr} {H H' : Hp} (m : MAt a g H) (e : ExtN H H') : MAt a g H' := by
  obtain ⟨c, cs, gs, t, s, r⟩ := m
  exact ⟨c, cs, gs, t, s, e _ _ r.hm (fun ps z => by cases z), e _ _ r.hc (fun ps z => by cases z), e _ _ r.hg (fun ps z => by cases z), r.cg, r.ce⟩
theorem Tabs.ef {T : List (Addr × Str)} {a g g' : Addr} {H H' : Hp} (t : Tabs T H) (m : MAt a g H) (e : Ef a g H g' H') : Tabs T H' := fun p hp => by
  obtain ⟨c, cs, gs, tt, s, r⟩ := m
  obtain ⟨ps, h1, h2, h3⟩ := t p hp
  have hm := r.hm
  have hg := r.hg
  refine ⟨ps, e.bt _ _ (fun z => by rw [z, hm] at h1; cases h1) (fun z => by rw [z, hg] at h1; cases h1) h1, h2, fun pos cv hc => ?_⟩
  obtain ⟨c', e1, e2⟩ := h3 pos cv hc
  exact ⟨c', e1, e.bt _ _ (fun z => by rw [z, hm] at e2; unfold CodeO at e2; cases e2) (fun z => by rw [z, hg] at e2; unfold CodeO at e2; cases e2) e2⟩
structure LS (K : Fg) (T : List (Addr × Str)) (a : Addr) (r : Sl) (σ : L2.St) (H : Hp) : Prop where
  env : EnvOk K r σ H
  mt : ∃ g, MAt a g H
  tb : Tabs T H
section
variable {T : List (Addr × Str)} {a : Addr} {r r' : Sl} {σ σ' : L2.St} {H H' : Hp}
theorem LS.same (h : LS K T a r σ H) (s : Same H H') (e : EnvOk K r' σ' H') : LS K T a r' σ' H' := ⟨e, let ⟨g, m⟩ := h.mt; ⟨g, m.same s⟩, h.tb.ext s⟩
theorem LS.less (h : LS K T a r σ H) (l : Less r' r) : LS K T a r' σ H := ⟨h.env.less l, h.mt, h.tb⟩
theorem LS.set {i : Nat} {x : V} {u : W} (h : LS K T a r σ H) (hu : Rw K H x u) : LS K T a (r.set i (some u)) (σ.set i (some x)) H := ⟨h.env.set hu, h.mt, h.tb⟩
theorem LS.ext (h : LS K T a r σ H) (f : FlatR r) (x : ExtN H H') (t : Tabs T H') : LS K T a r σ H' := ⟨h.env.keepV f (Keep.ext x), let ⟨g, m⟩ := h.mt; ⟨g, m.ext x⟩, t⟩
/-- a statement that changes nothing that stood -/
theorem lw_bs {t u : TS} {E : Ends} (h : LS K T a r σ H) (b : Bs K t r (.nx r')) (q : ∀ σ' H', LS K T a r' σ' H' → u E σ' H') : tSeq t u E σ H := b _ σ H h.env fun σ' H' s e => q σ' H' (h.same s e)
theorem lw_draw {i : Nat} {te : TE} {u : TS} {E : Ends} {Pd : D → Prop} (h : LS K T a r σ H) (b : CmX K a te r Pd) (q : ∀ d σ' H', Pd d → LS K T a (r.set i (some (.d d))) σ' H' → u E σ' H') : tSeq (tAsg te (gName i)) u E σ H := by
  obtain ⟨g, m⟩ := h.mt
  exact b σ H g _ h.env m fun y H' g' d hd ef e ry => q d _ H' hd ⟨e.set (i := i) (w := .d d) ry, ⟨g', ef.mt⟩, Tabs.ef h.tb m ef⟩
theorem lw_drawA {te : TA} {Q : List V → Hp → Prop} {Pd : List D → Prop} (h : LS K T a r σ H) (b : CaX K a te r Pd) (q : ∀ ys ds H', Pd ds → LS K T a r σ H' → RpA K H' ys ds → Q ys H') : te σ H Q := by
  obtain ⟨g, m⟩ := h.mt
  exact b σ H g _ h.env m fun ys H' g' ds hd ef e ry => q ys ds H' hd ⟨e, ⟨g', ef.mt⟩, Tabs.ef h.tb m ef⟩ ry
end
/-! ### draws -/
section
variable {a : Addr} {r : Sl} {te : TE} {ta : TA}
theorem cx_tongue {i : Nat} (hi : r[i]? = some (some (.v (.ref a)))) (fl : FlatR r) : CmX K a (tCall (spTongue K) [] C8.E0 (tCons (tVar i) (tCons (tC (.int 3)) (tCons (tC (.int 3)) tNil)))) r (fun d => ∃ L : Lang, d = eL L ∧ Good L ∧ L.heads.length ≤ 3 ∧ L.notes ≤ 3) := fun σ H g Q e m q => by
  obtain ⟨x, hx, ex⟩ := e.at_ i _ hi
  have ex' : x = .ref a := ex
  subst ex'
  exact ⟨_, hx, a, g, rfl, m, fun L y H' g' gd h3 n3 ef ry => q y H' g' (eL L) ⟨L, rfl, gd, h3, n3⟩ ef (e.keepV fl ef.kp) ry⟩
theorem cx_line {i j : Nat} {L : Lang} {tot : Nat} (hi : r[i]? = some (some (.v (.ref a)))) (hj : r[j]? = some (some (.d (eL L)))) (fl : FlatR r) (gd : Good L) (ht : tot ≤ 100) : CmX K a (tCall (spLine K) [] C8.E0 (tCons (tVar i) (tCons (tVar j) (tCons (tC (.int ((tot : Nat) : Int))) tNil)))) r (fun d => ∃ xs : List NM.Sign, d = eSs xs ∧ (∀ x ∈ xs, L.ok x) ∧ xs.length ≤ tot) := fun σ H g Q e m q => by
  obtain ⟨x, hx, ex⟩ := e.at_ i _ hi
  have ex' : x = .ref a := ex
  subst ex'
  obtain ⟨y, hy, ry⟩ := e.at_ j _ hj
  exact ⟨_, hx, _, hy, a, g, y, L, tot, rfl, ry, gd, ht, m, fun xs z H' g' ok len ef rz => q z H' g' (eSs xs) ⟨xs, rfl, ok, len⟩ ef (e.keepV fl ef.kp) rz⟩
theorem cx_of {i : Nat} {ds : List D} (hi : r[i]? = some (some (.v (.ref a)))) (fl : FlatR r) (hn : CmN K te r ds) (h0 : 0 < ds.length) (h1 : ds.length < 100000) : CmX K a (tCall (spOf K) [] C8.E0 (tCons (tVar i) (tCons te tNil))) r (fun d => d ∈ ds) := fun σ H g Q e m q => by
  obtain ⟨x, hx, ex⟩ := e.at_ i _ hi
  have ex' : x = .ref a := ex
  subst ex'
  refine ⟨_, hx, hn σ H _ e fun p H1 xs s1 fp hp rp => ?_⟩
  obtain ⟨⟨oa, ha⟩, og, hg⟩ := m.at
  exact ⟨a, g, p, xs, ds, rfl, m.same s1, hp, rp, h0, h1, (fun z => by rw [z, ha] at fp; cases fp), (fun z => by rw [z, hg] at fp; cases fp), fun d y H' g' hd ef ry => q y H' g' d hd ((Ef.same m s1).trans ef) ((e.same s1).keepV fl ef.kp) ry⟩
theorem cn_list {ds : List D} (h : Cm K te r (.d (.tup ds))) : CmN K (tCB (rListOf K) (tCons te tNil)) r ds := fun σ H Q e q => h σ H _ e fun x H1 s1 rx => by
  obtain ⟨b, ys, rfl, eb, rb⟩ := Rp.tup_inv rx
  refine ⟨b, ys, rfl, .inr eb.sq, fun l hl => ?_⟩
  have sl := Same.new (o := .lst ys) hl
  exact q l _ ys (s1.trans sl) (s1.free hl) upd_same (RpA.keep (Keep.of sl) _ _ rb)
end
/-! ### plain -/
theorem cut_take {ds : List D} {k : Nat} (h : k ≤ ds.length) : cutD ds none (some ((k : Nat) : Int)) = ds.take k := by
  unfold cutD
  have e1 : HT.sIx ds.length ds.length (some ((k : Nat) : Int)) = min k ds.length := HT.sIx_nat ds.length ds.length k
  rw [e1, HT.sIx_none, Nat.min_eq_left h]
  simp
theorem cut_from {ds : List D} {k : Nat} (h : k ≤ ds.length) : cutD ds (some ((k : Nat) : Int)) none = ds.drop k := by
  unfold cutD
  have e1 : HT.sIx ds.length 0 (some ((k : Nat) : Int)) = min k ds.length := HT.sIx_nat ds.length 0 k
  rw [e1, HT.sIx_none, Nat.min_eq_left h]
  exact List.take_of_length_le (by simp)
def L0 : Lang := ⟨[(.quiet, 0), (.on, 1)], 2, 0⟩
theorem good0 : Good L0 := ⟨by decide, by decide, by simp [L0], by decide, by decide, by decide⟩
theorem settle0 : settleS L0 [.head 1, .head 0] = true := settle_iff.mpr ⟨.first, fun s t => by simp [fin, readSo, NM.step, NM.taken, notesBehind, Lang.long, Lang.role, L0, Std.first]⟩
theorem settle1 : settleS L0 [.head 1, .value 0] = false := by
  cases h : settleS L0 [.head 1, .value 0] with
  | false => rfl
  | true =>
    obtain ⟨c, hc⟩ := settle_iff.mp h
    have h1 := hc .first (good_first L0)
    have h2 := hc ⟨none, [], [1]⟩ ⟨⟨fun _ => rfl, (fun _ e => by cases e), by simp⟩, by simp, by simp [L0]⟩
    exact absurd (h1.trans h2.symm) (by decide +kernel)
/-- moments put in -/
def bentS (L : Lang) (k : Nat) (xs : List NM.Sign) : List NM.Sign := xs.take k ++ List.replicate (2 * min L.moments 1) (.moment 0) ++ xs.drop k
theorem bent_ok {L : Lang} {k : Nat} {xs : List NM.Sign} (h : ∀ x ∈ xs, L.ok x) : ∀ x ∈ bentS L k xs, L.ok x := fun x hx => by
  unfold bentS at hx
  rcases List.mem_append.mp hx with hx | hx
  · rcases List.mem_append.mp hx with hx | hx
    · exact h x (List.mem_of_mem_take hx)
    · obtain ⟨hn, rfl⟩ := List.mem_replicate.mp hx
      show 0 < L.moments
      omega
  · exact h x (List.mem_of_mem_drop hx)
theorem bent_len {L : Lang} {k : Nat} {xs : List NM.Sign} : (bentS L k xs).length ≤ xs.length + 2 := by
  unfold bentS
  simp
  omega
theorem bent_read {L : Lang} {k : Nat} {xs : List NM.Sign} (s : Std) : readSo L s (bentS L k xs) = readSo L s xs := by
  unfold bentS
  rw [read_bent 0 (fun x hx => (List.mem_replicate.mp hx).2), List.take_append_drop]
theorem bent_alike {L : Lang} {k : Nat} {xs : List NM.Sign} : partS L xs (bentS L k xs) = none := alike_iff.mpr fun s _ => by
  unfold fin
  rw [bent_read]
theorem bent_map {L : Lang} {k : Nat} {xs : List NM.Sign} : (xs.map eS).take k ++ (List.replicate (2 * min L.moments 1) [NestedKey.tup [.text "moment", eN 0]]).flatten ++ (xs.map eS).drop k = (bentS L k xs).map eS := by
  unfold bentS
  rw [List.map_append, List.map_append, List.map_take, List.map_drop, List.map_replicate]
  congr 2
  generalize 2 * min L.moments 1 = n
  induction n with
  | zero => rfl
  | succ n ih =>
    rw [List.replicate_succ, List.replicate_succ, List.flatten_cons, ih]
    rfl
/-! ### the law -/
abbrev s_law : Stmt := top 92
abbrev N_law : List Str := ["_law_script", "_law_m", "_law_lap", "_law_tongue_here", "_law_one", "_law_two", "_law_far", "_law_standing", "_law_k", "_law_bent", "_law_heads", "_law_near"]
theorem sc_law : FnScope N_law ["_law_script"] (defScope s_law) := ⟨rfl, rfl, rfl, by decide +kernel, rfl, by decide +kernel, by decide +kernel⟩
def spLaw (K : Fg) (T : List (Addr × Str)) : Sp := fun vs H Q _ => ∃ (p : Addr) (ns : List Int), vs = [.ref p] ∧ SqL K H p (ns.map V.int) ∧ ns.length ≤ 63 ∧ Tabs T H ∧ ∀ H', Q (.bl true) H'
theorem ok_law {Ts : List (Addr × Str)} {f : Addr} {fd : FuncData} (T : Txt K mg) (F : Fun K "law" "law" s_law f fd)
    (C_law_start : C8.Cal P w K mg base 1 "_law_start" (spStart K) []) (C_law_next : C8.Cal P w K mg base 1 "_law_next" spNext []) (C_law_of : C8.Cal P w K mg base 2 "_law_of" (spOf K) []) (C_law_tongue : C8.Cal P w K mg base 2 "_law_tongue" (spTongue K) []) (C_law_line : C8.Cal P w K mg base 2 "_law_line" (spLine K) [])
    (C_read : CalF P w K mg base 5 "read" R_read) (C_are_alike : CalF P w K mg base 6 "are_alike" R_are_alike) (C_standings : CalF P w K mg base 4 "standings" R_standings) (C_does_settle : CalF P w K mg base 5 "does_settle" R_does_settle)
    (C_law_halves_right : CalG P w K mg base 6 "_law_halves_right" (spF K R_halves)) (C_law_likes_right : CalG P w K mg base 7 "_law_likes_right" (spF K R_likes)) (C_law_ways_right : CalG P w K mg base 7 "_law_ways_right" (spWays K Ts)) (C_law_fits_right : CalG P w K mg base 9 "_law_fits_right" (spF K R_fitsR)) :
    FnG P w K mg base 10 f fd ["_law_script"] (spLaw K Ts) := by
  refine fnG_of F sc_law (fun vs H Q E h => ?_) (fun cdv A outer s H vs Q E hA hr h => ?_)
  · obtain ⟨_, _, rfl, _⟩ := h; rfl
  · obtain ⟨p, ns, rfl, sq, hl, hT, q⟩ := h
    refine ⟨_, (pss_cons (ps_set (i := 1) sc_law.nd rfl (by first | exact Or.inl rfl | exact Or.inr rfl) (C8.pe_c C_law_start hr (by decide) rfl (pa_cons (pv 0) pa_nil))) (pss_cons (ps_for PassesOwn.never rfl (pi_range1 rfl T.b_range (pa_cons (pe_op (addK K rfl) pe_int (pe_callB (call_min2 rfl) rfl T.b_min bo_min (pa_cons (pe_callB (lenK K rfl) rfl T.b_len bo_len (pa_cons (pv 0) pa_nil)) (pa_cons pe_int pa_nil)))) pa_nil)) (pg_name (i := 2) sc_law.nd rfl (by first | exact Or.inl rfl | exact Or.inr rfl)) (pss_cons (ps_set (i := 3) sc_law.nd rfl (by first | exact Or.inl rfl | exact Or.inr rfl) (C8.pe_c C_law_tongue hr (by decide) rfl (pa_cons (pv 1) (pa_cons pe_int (pa_cons pe_int pa_nil))))) (pss_cons (ps_par3 (i := 4) (j := 5) (l := 6) rfl sc_law.nd rfl rfl rfl (by decide) (by decide) (by decide) rfl rfl rfl (pa_cons (C8.pe_c C_law_line hr (by decide) rfl (pa_cons (pv 1) (pa_cons (pv 3) (pa_cons pe_int pa_nil)))) (pa_cons (C8.pe_c C_law_line hr (by decide) rfl (pa_cons (pv 1) (pa_cons (pv 3) (pa_cons pe_int pa_nil)))) (pa_cons (C8.pe_c C_law_line hr (by decide) rfl (pa_cons (pv 1) (pa_cons (pv 3) (pa_cons pe_int pa_nil)))) pa_nil))) rfl) (pss_cons (ps_for PassesOwn.never rfl (piLK K rfl (pe_lst (pa_cons (pe_tup (pa_cons (pe_un un_neg pe_int) (pa_cons (pe_tup pa_nil) (pa_cons (pe_tup pa_nil) pa_nil)))) (pa_cons (C8.pe_c C_law_of hr (by decide) rfl (pa_cons (pv 1) (pa_cons (pe_callTy (listK K rfl) rfl T.b_list bo_list (pa_cons (C8.pe_c C_standings hr (by decide) rfl (pa_cons (pv 3) pa_nil)) pa_nil)) pa_nil))) pa_nil)))) (pg_name (i := 7) sc_law.nd rfl (by first | exact Or.inl rfl | exact Or.inr rfl)) (pss_one (ps_if (pt_not (pt_val (pe_cG C_law_halves_right hA hr (by decide) rfl (pa_cons (pv 3) (pa_cons (pv 7) (pa_cons (pv 4) (pa_cons (pv 5) pa_nil))))))) (pss_one (ps_ret pe_bl)) pss_nil))) (pss_cons (ps_set (i := 8) sc_law.nd rfl (by first | exact Or.inl rfl | exact Or.inr rfl) (C8.pe_c C_law_next hr (by decide) rfl (pa_cons (pv 1) (pa_cons (pe_op (addK K rfl) (pe_callB (lenK K rfl) rfl T.b_len bo_len (pa_cons (pv 4) pa_nil)) pe_int) pa_nil)))) (pss_cons (ps_set (i := 9) sc_law.nd rfl (by first | exact Or.inl rfl | exact Or.inr rfl) (pe_op (addK K rfl) (pe_op (addK K rfl) (pe_slice (slTK K rfl) (pv 4) po_none (po_some (pv 8))) (pe_op (mulTK K rfl) (pe_tup (pa_cons (pe_tup (pa_cons pe_str (pa_cons pe_int pa_nil))) pa_nil)) (pe_op op_mul pe_int (pe_callB (call_min2 rfl) rfl T.b_min bo_min (pa_cons (pe_ix (ixK K rfl) (pv 3) pe_int (fun _ _ => rfl)) (pa_cons pe_int pa_nil)))))) (pe_slice (slTK K rfl) (pv 4) (po_some (pv 8)) po_none))) (pss_cons (ps_if (PW.pt (pw_or (pt_not (pt_val (C8.pe_c C_are_alike hr (by decide) rfl (pa_cons (pv 3) (pa_cons (pv 4) (pa_cons (pv 9) pa_nil)))))) (pw_or1 (pt_cmpR (neK K rfl hr) (C8.pe_c C_read hr (by decide) rfl (pa_cons (pv 3) (pa_cons (pe_tup (pa_cons (pe_un un_neg pe_int) (pa_cons (pe_tup pa_nil) (pa_cons (pe_tup pa_nil) pa_nil)))) (pa_cons (pv 4) pa_nil)))) (C8.pe_c C_read hr (by decide) rfl (pa_cons (pv 3) (pa_cons (pe_tup (pa_cons (pe_un un_neg pe_int) (pa_cons (pe_tup pa_nil) (pa_cons (pe_tup pa_nil) pa_nil)))) (pa_cons (pv 9) pa_nil)))) (nomark _))))) (pss_one (ps_ret pe_bl)) pss_nil) (pss_cons (ps_set (i := 10) sc_law.nd rfl (by first | exact Or.inl rfl | exact Or.inr rfl) (pe_tup (pa_cons (pe_tup (pa_cons pe_str (pa_cons (C8.pe_c C_law_next hr (by decide) rfl (pa_cons (pv 1) (pa_cons (pe_callB (lenK K rfl) rfl T.b_len bo_len (pa_cons (pe_ix (ixK K rfl) (pv 3) pe_int (fun _ _ => rfl)) pa_nil)) pa_nil))) pa_nil))) pa_nil))) (pss_cons (ps_if (pt_not (pt_val (C8.pe_c C_are_alike hr (by decide) rfl (pa_cons (pv 3) (pa_cons (pe_op (addK K rfl) (pe_op (addK K rfl) (pv 4) (pv 10)) (pv 10)) (pa_cons (pe_op (addK K rfl) (pv 4) (pv 10)) pa_nil)))))) (pss_one (ps_ret pe_bl)) pss_nil) (pss_cons (ps_for PassesOwn.never rfl (piTK K rfl (pe_tup (pa_cons (pv 5) (pa_cons (pv 9) (pa_cons (pe_op (addK K rfl) (pv 10) (pv 4)) (pa_cons (pe_slice (slTK K rfl) (pv 4) (po_some pe_int) po_none) pa_nil)))))) (pg_name (i := 11) sc_law.nd rfl (by first | exact Or.inl rfl | exact Or.inr rfl)) (pss_one (ps_if (pt_not (pt_val (pe_cG C_law_likes_right hA hr (by decide) rfl (pa_cons (pv 3) (pa_cons (pv 4) (pa_cons (pv 11) (pa_cons (pv 6) pa_nil))))))) (pss_one (ps_ret pe_bl)) pss_nil))) (pss_one (ps_if (PW.pt (pw_or (pt_not (pt_val (pe_cG C_law_ways_right hA hr (by decide) rfl (pa_cons (pv 3) (pa_cons (pv 4) (pa_cons (pv 5) pa_nil)))))) (pw_or1 (pt_not (pt_val (pe_cG C_law_fits_right hA hr (by decide) rfl (pa_cons (pv 3) (pa_cons (pv 4) pa_nil)))))))) (pss_one (ps_ret pe_bl)) pss_nil)))))))))))) (pss_cons (ps_set (i := 3) sc_law.nd rfl (by first | exact Or.inl rfl | exact Or.inr rfl) (pe_tup (pa_cons (pe_tup (pa_cons (pe_tup (pa_cons pe_str (pa_cons pe_int pa_nil))) (pa_cons (pe_tup (pa_cons pe_str (pa_cons pe_int pa_nil))) pa_nil))) (pa_cons pe_int (pa_cons pe_int pa_nil))))) (pss_one (ps_ret (pe_and (C8.pe_c C_does_settle hr (by decide) rfl (pa_cons (pv 3) (pa_cons (pe_tup (pa_cons (pe_tup (pa_cons pe_str (pa_cons pe_int pa_nil))) (pa_cons (pe_tup (pa_cons pe_str (pa_cons pe_int pa_nil))) pa_nil))) pa_nil))) (pe_one (pe_not (C8.pe_c C_does_settle hr (by decide) rfl (pa_cons (pv 3) (pa_cons (pe_tup (pa_cons (pe_tup (pa_cons pe_str (pa_cons pe_int pa_nil))) (pa_cons (pe_tup (pa_cons pe_str (pa_cons pe_int pa_nil))) pa_nil))) pa_nil))))))))))), ?_⟩
    refine seq_name (show ∃ x, _ = some (some x) ∧ _ from ⟨.ref p, rfl, p, ns, rfl, sq, by omega, fun a g H1 s1 fa fg m1 => ?_⟩)
    let R1 : Sl := [some (.v (.ref p)), some (.v (.ref a)), none, none, none, none, none, none, none, none, none, none]
    have h1 : LS K Ts a R1 ((start N_law [.ref p]).set 1 (some (.ref a))) H1 := ⟨((env_start (N := N_law) (ws := [.v (.ref p)]) (.cons rfl .nil)).same s1).set (i := 1) (w := .v (.ref a)) rfl, ⟨g, m1⟩, Tabs.ext hT s1⟩
    have sq1 := sqSame s1 sq
    refine seq_rng (show ∃ x, _ = some (some x) ∧ _ from ⟨.ref p, rfl, .ref p, ns.length, rfl, .inl ⟨ns.map V.int, sq1, by simp⟩, (ns.length : Int), 3, rfl, .inl (.inl (.inl ⟨2, _, rfl, rfl, ?_⟩))⟩)
    have mkF : ∀ r : Sl, Cm K (tTup (tCons (tUn (rU fun i => .int (-i)) (tC (.int 1))) (tCons (tTup tNil) (tCons (tTup tNil) tNil)))) r (.d (eT .first)) := fun r => cm_is (cm_tupD (cad_cons (cm_neg cm_int) (cad_cons (cm_tupD cad_nil (by simp)) (cad_cons (cm_tupD cad_nil (by simp)) cad_nil))) (by simp)) rfl
    obtain ⟨j, hj⟩ : ∃ j, j = (2 : Int) + (if (3 : Int) < (ns.length : Int) then 3 else (ns.length : Int)) := ⟨_, rfl⟩
    refine ⟨j, by rw [hj], by rw [hj]; split <;> omega, by rw [hj]; split <;> omega, ?_⟩
    refine for_it (D := { nx := _, rt := Q }) walk_range (fun _ σ H => LS K Ts a R1 σ H) h1 (fun _ _ _ _ _ => trivial) ?_ ?_
    · rintro i x σ1 Hx H2 hi h ⟨rfl, rfl⟩
      have h2 : LS K Ts a R1 (σ1.set 2 (some (.int (0 + (i : Int))))) H2 := (h.set (i := 2) (u := .d (.num (0 + (i : Int)))) (.int _)).less (by walk_at "less")
      show tSeq _ _ _ (σ1.set 2 (some (.int (0 + (i : Int))))) H2
      generalize σ1.set 2 (some (.int (0 + (i : Int)))) = σ2 at h2 ⊢
      -- a language
      refine lw_draw h2 (cx_tongue (i := 1) rfl (by walk_at "fl")) fun d σ3 H3 ⟨L, ed, gd, lh, ln⟩ hA => ?_
      subst ed
      let R3 : Sl := [some (.v (.ref p)), some (.v (.ref a)), none, some (.d (eL L)), none, none, none, none, none, none, none, none]
      replace hA : LS K Ts a R3 σ3 H3 := hA
      have f3 : FlatR R3 := by walk_at "fl"
      -- three streams
      refine seq_par3 (lw_drawA hA (cax_cons (cx_line (i := 1) (j := 3) (tot := 8) rfl rfl f3 gd (by omega)) (cax_cons (cx_line (i := 1) (j := 3) (tot := 8) rfl rfl f3 gd (by omega)) (cax_cons (cx_line (i := 1) (j := 3) (tot := 4) rfl rfl f3 gd (by omega)) cax_nil))) fun ys ds H4 hds hB rys => ?_)
      obtain ⟨_, _, rfl, ⟨one, rfl, ho, lo⟩, _, _, rfl, ⟨two, rfl, ht, lt⟩, _, _, rfl, ⟨far, rfl, hf, lf⟩, rfl⟩ := hds
      cases rys with
      | cons ra rys => cases rys with
        | cons rb rys => cases rys with
          | cons rc rys =>
            cases rys
            refine ⟨_, _, _, rfl, ?_⟩
            let R6 : Sl := [some (.v (.ref p)), some (.v (.ref a)), none, some (.d (eL L)), some (.d (eSs one)), some (.d (eSs two)), some (.d (eSs far)), none, none, none, none, none]
            have f6 : FlatR R6 := by walk_at "fl"
            replace hB : LS K Ts a R6 _ H4 := ((hB.set (i := 4) (u := .d (eSs one)) ra).set (i := 5) (u := .d (eSs two)) rb).set (i := 6) (u := .d (eSs far)) rc
            clear ra rb rc
            generalize ((σ3.set 4 _).set 5 _).set 6 _ = σ4 at hB ⊢
            -- halves
            have sl := stds_len gd
            have sp0 : 0 < ((stds L).map eT).length := by
              rw [List.length_map]
              exact List.length_pos_of_mem (mem_stds.mpr (good_first L))
            refine (show tSeq (tFor _ _ _) _ _ σ4 H4 from lw_drawA hB (cax_cons (cx_cm (mkF _)) (cax_cons (cx_of (i := 1) rfl f6 (cn_list (cm_call (ca_cons (cm_var (i := 3) rfl) ca_nil) (r_standings gd))) sp0 (by rw [List.length_map]; omega)) cax_nil)) fun ys ds H5 hds hC rys => ⟨?_, fun l hl => ⟨l, rfl, ⟨ys, .of upd_same⟩, ?_⟩⟩)
            · obtain ⟨_, _, rfl, _, _, _, rfl, _, rfl⟩ := hds
              rw [rys.length]
              exact (by decide : 2 ≤ sizeLine)
            have sn := Same.new (o := .lst ys) hl
            have two2 : ∀ (i : Nat) (x : V), ys[i]? = some x → ∃ s, GoodT L s ∧ Rp K H5 x (eT s) := fun i x hx => by
              obtain ⟨_, _, rfl, rfl, _, _, rfl, hd, rfl⟩ := hds
              obtain ⟨s0, hs0, rfl⟩ := List.mem_map.mp hd
              cases rys with
              | cons r1 rys => cases rys with
                | cons r2 rys =>
                  cases rys
                  rcases i with _ | _ | i
                  · cases hx
                    exact ⟨.first, good_first L, r1⟩
                  · cases hx
                    exact ⟨s0, mem_stds.mp hs0, r2⟩
                  · simp at hx
            refine for_it (walk_list (xs := ys)) (fun _ σ' H' => LS K Ts a R6 σ' H' ∧ Same (upd H5 l (.lst ys)) H') ⟨hC.same sn (hC.env.same sn), Same.refl _⟩ ?_ ?_ ?_
            · rintro i' σ' H' _ ⟨_, s'⟩
              exact .of (s' _ _ upd_same)
            · rintro i' x' σ' H' H'' hi' ⟨h, s'⟩ ⟨rfl, hx'⟩
              obtain ⟨s0, gs, rx⟩ := two2 i' x' hx'
              have h7 := h.set (i := 7) (u := .d (eT s0)) (Rp.keep (Keep.of (sn.trans s')) _ _ rx)
              have b : Bs K (tIfS (tNot (tB (tCall (spF K R_halves) [] C8.E0 (tCons (tVar 3) (tCons (tVar 7) (tCons (tVar 4) (tCons (tVar 5) tNil))))))) (tRet (tC (.bl false))) tNext) (R6.set 7 (some (.d (eT s0)))) (.nx (R6.set 7 (some (.d (eT s0))))) :=
                bs_ifF (ct_not (ct_B (cm_call (ca_cons (cm_var rfl) (ca_cons (cm_var rfl) (ca_cons (cm_var rfl) (ca_cons (cm_var rfl) ca_nil)))) ⟨L, s0, one, two, gd, gs, ho, ht, by omega, by omega, rfl, rfl⟩))) rfl bs_next
              exact b _ _ _ h7.env fun σ2 H2 s2 e2 => ⟨(h7.same s2 e2).less (by walk_at "less"), s'.trans s2⟩
            · rintro σ5 H6 ⟨hD, _⟩
              have addS : ∀ {ta tb : TE} {r : Sl} {as bs : List NM.Sign}, Cm K ta r (.d (eSs as)) → Cm K tb r (.d (eSs bs)) → as.length + bs.length ≤ 1000 → Cm K (tOp (rAddU K) ta tb) r (.d (eSs (as ++ bs))) := fun h1 h2 h3 => cm_op h1 h2 (co_addSs (K := K) (by omega))
              have okA : ∀ {as bs : List NM.Sign}, (∀ x ∈ as, L.ok x) → (∀ x ∈ bs, L.ok x) → ∀ x ∈ as ++ bs, L.ok x := fun h1 h2 x hx => by
                rcases List.mem_append.mp hx with z | z
                · exact h1 x z
                · exact h2 x z
              -- moments put in
              have mkN : Cm K (tOp (rAddU K) (tCB (rLen K) (tCons (tVar 4) tNil)) (tC (.int 1))) R6 (.d (eN (one.length + 1))) := cm_is (cm_op (cm_cb (ca_cons (cm_var rfl) ca_nil) (cc_lenTe (a := eSs one) rfl)) cm_int co_add) (by simp)
              refine lw_draw hD (cx_next (i := 1) rfl mkN f6 (by omega) (by omega)) fun d σ6 H7 ⟨k, hk, ed⟩ hE => ?_
              subst ed
              let R8 : Sl := [some (.v (.ref p)), some (.v (.ref a)), none, some (.d (eL L)), some (.d (eSs one)), some (.d (eSs two)), some (.d (eSs far)), none, some (.d (eN k)), none, none, none]
              replace hE : LS K Ts a R8 σ6 H7 := hE
              have m2 := gd.m2
              have mk2 : Cm K (tOp (rI CMul fun i j => .int (i * j)) (tC (.int 2)) (tCB (fun xs H Q => ∃ i j, xs = [.int i, .int j] ∧ Q (.int (if j < i then j else i)) H) (tCons (tOp (rIx K) (tVar 3) (tC (.int 2))) (tCons (tC (.int 1)) tNil)))) R8 (.d (eN (2 * min L.moments 1))) := by
                have j2 : Cm K (tOp (rIx K) (tVar 3) (tC (.int 2))) R8 (.d (eN L.moments)) := cm_op (cm_var (i := 3) (w := .d (eL L)) rfl) cm_int (co_ixTe rfl rfl)
                have := cm_op (K := K) (r := R8) (cm_int (i := 2)) (cm_cb (ca_cons j2 (ca_cons (cm_int (i := 1)) ca_nil)) cc_min2) (co_mul (.inl ⟨by decide, by decide⟩))
                have ee : NestedKey.num (2 * (if (1 : Int) < (L.moments : Int) then 1 else (L.moments : Int))) = eN (2 * min L.moments 1) := congrArg NestedKey.num (by split <;> omega)
                rw [← ee]
                exact this
              have mkB : Cm K (tOp (rAddU K) (tOp (rAddU K) (tSl (rSlA K) (tVar 4) tNoPart (tPart (tVar 8))) (tOp (rMulT K) (tTup (tCons (tTup (tCons (tC (.str "moment")) (tCons (tC (.int 0)) tNil))) tNil)) (tOp (rI CMul fun i j => .int (i * j)) (tC (.int 2)) (tCB (fun xs H Q => ∃ i j, xs = [.int i, .int j] ∧ Q (.int (if j < i then j else i)) H) (tCons (tOp (rIx K) (tVar 3) (tC (.int 2))) (tCons (tC (.int 1)) tNil)))))) (tSl (rSlA K) (tVar 4) (tPart (tVar 8)) tNoPart)) R8 (.d (eSs (bentS L k one))) := by
                have lm : (one.map eS).length = one.length := List.length_map _
                have c1 := cm_slT (K := K) (r := R8) (ds := one.map eS) (cm_var (i := 4) rfl) cp_no (cp_int (cm_var (i := 8) (w := .d (.num ((k : Nat) : Int))) rfl))
                have c2 := cm_slT (K := K) (r := R8) (ds := one.map eS) (cm_var (i := 4) rfl) (cp_int (cm_var (i := 8) (w := .d (.num ((k : Nat) : Int))) rfl)) cp_no
                rw [cut_take (by omega)] at c1
                rw [cut_from (by omega)] at c2
                have c3 := cm_op (K := K) (r := R8) (cm_tupD (cad_cons (cm_tupD (cad_cons (cm_str (z := "moment")) (cad_cons (cm_int (i := 0)) cad_nil)) (by simp)) cad_nil) (by simp)) mk2 (co_mulT (ds := [.tup [.text "moment", eN 0]]) (by omega) (by omega) (by simp) (by simp))
                have l3 : (List.replicate (2 * min L.moments 1) [NestedKey.tup [.text "moment", eN 0]]).flatten.length ≤ 2 := by simp; omega
                have c4 := cm_op (cm_op c1 c3 (co_addT (by simp; omega))) c2 (co_addT (by simp; omega))
                rw [bent_map] at c4
                exact c4
              refine lw_bs hE (bs_set mkB) fun σ7 H8 hF => ?_
              obtain ⟨bent, eb⟩ : ∃ bent, bent = bentS L k one := ⟨_, rfl⟩
              have bo : ∀ x ∈ bent, L.ok x := by rw [eb]; exact bent_ok ho
              have bl : bent.length ≤ 10 := by rw [eb]; exact Nat.le_trans bent_len (by omega)
              have ba : partS L one bent = none := by rw [eb]; exact bent_alike
              have br : ∀ s, readSo L s bent = readSo L s one := fun s => by rw [eb]; exact bent_read s
              rw [← eb] at hF
              let R9 : Sl := [some (.v (.ref p)), some (.v (.ref a)), none, some (.d (eL L)), some (.d (eSs one)), some (.d (eSs two)), some (.d (eSs far)), none, none, some (.d (eSs bent)), none, none]
              replace hF : LS K Ts a R9 σ7 H8 := hF.less (by walk_at "less")
              have f9 : FlatR R9 := by walk_at "fl"
              refine lw_bs hF (bs_ifF (ct_or (ct_not (ct_B (cm_call (ca_cons (cm_var rfl) (ca_cons (cm_var rfl) (ca_cons (cm_var rfl) ca_nil))) (r_are_alike gd ⟨ho, by omega⟩ ⟨bo, by omega⟩)))) fun _ => ct_test (cm_op (cm_call (ca_cons (cm_var rfl) (ca_cons (mkF _) (ca_cons (cm_var rfl) ca_nil))) (r_read gd (good_first L) ho (by omega))) (cm_call (ca_cons (cm_var rfl) (ca_cons (mkF _) (ca_cons (cm_var rfl) ca_nil))) (r_read gd (good_first L) bo (by omega))) (co_ne (sh_cons sh_t (sh_cons sh_ms sh_nil)) (sh_cons sh_t (sh_cons sh_ms sh_nil))))) ?_ bs_next) fun σ8 H9 hG => ?_
              · rw [ba, br]
                simp
              -- heads
              have ln : Cm K (tCB (rLen K) (tCons (tOp (rIx K) (tVar 3) (tC (.int 0))) tNil)) R9 (.d (eN L.heads.length)) := by
                have i0 : Cm K (tOp (rIx K) (tVar 3) (tC (.int 0))) R9 (.d (.tup (L.heads.map eHead))) := cm_op (cm_var (i := 3) (w := .d (eL L)) rfl) cm_int (co_ixTe rfl rfl)
                have := cm_cb (ca_cons i0 ca_nil) (cc_lenT (K := K) (ds := L.heads.map eHead))
                rw [List.length_map] at this
                exact this
              have h1' := gd.h1
              have mkH : CmX K a (tTup (tCons (tTup (tCons (tC (.str "head")) (tCons (tCall spNext [] C8.E0 (tCons (tVar 1) (tCons (tCB (rLen K) (tCons (tOp (rIx K) (tVar 3) (tC (.int 0))) tNil)) tNil))) tNil))) tNil)) R9 (fun d => ∃ n, n < L.heads.length ∧ d = eSs [.head n]) := by
                refine cx_tup (cax_cons (P1 := fun d => ∃ n, n < L.heads.length ∧ d = eS (.head n)) (cx_tup (cax_cons (cx_cm (cm_str (z := "head"))) (cax_cons (cx_next (i := 1) rfl ln f9 (by omega) (by omega)) cax_nil)) ?_ ?_) cax_nil) ?_ ?_
                · rintro ds ⟨d, es, rfl, _, d', es', rfl, _, rfl⟩
                  simp
                · rintro ds ⟨d, es, rfl, rfl, d', es', rfl, ⟨n, hn, rfl⟩, rfl⟩
                  exact ⟨n, hn, rfl⟩
                · rintro ds ⟨d, es, rfl, _, rfl⟩
                  simp
                · rintro ds ⟨d, es, rfl, ⟨n, hn, rfl⟩, rfl⟩
                  exact ⟨n, hn, rfl⟩
              refine lw_draw hG mkH fun d σ9 H10 ⟨n, hn, ed⟩ hH => ?_
              subst ed
              let R10 : Sl := [some (.v (.ref p)), some (.v (.ref a)), none, some (.d (eL L)), some (.d (eSs one)), some (.d (eSs two)), some (.d (eSs far)), none, none, some (.d (eSs bent)), some (.d (eSs [.head n])), none]
              replace hH : LS K Ts a R10 σ9 H10 := hH
              have hdo : ∀ x ∈ [Sign.head n], L.ok x := fun x hx => by
                cases List.mem_singleton.mp hx
                exact hn
              have v4 : Cm K (tVar 4) R10 (.d (eSs one)) := cm_var rfl
              have v10 : Cm K (tVar 10) R10 (.d (eSs [.head n])) := cm_var rfl
              have a1 := addS v4 v10 (by simp; omega)
              have a2 := addS a1 v10 (by simp; omega)
              refine lw_bs hH (bs_ifF (ct_not (ct_B (cm_call (ca_cons (cm_var rfl) (ca_cons a2 (ca_cons a1 ca_nil))) (r_are_alike gd ⟨okA (okA ho hdo) hdo, by simp; omega⟩ ⟨okA ho hdo, by simp; omega⟩)))) (by rw [alike_heads gd hn]; rfl) bs_next) fun σ10 H11 hI => ?_
              -- likes
              let nears : List (List NM.Sign) := [two, bent, [.head n] ++ one, one.drop 1]
              have nok : ∀ xs ∈ nears, (∀ x ∈ xs, L.ok x) ∧ xs.length ≤ 40 := fun xs hx => by
                simp only [nears, List.mem_cons, List.mem_nil_iff, or_false] at hx
                rcases hx with rfl | rfl | rfl | rfl
                · exact ⟨ht, by omega⟩
                · exact ⟨bo, by omega⟩
                · exact ⟨okA hdo ho, by simp; omega⟩
                · exact ⟨fun x hx => ho x (List.mem_of_mem_drop hx), by simp; omega⟩
              have c1 := cm_slT (K := K) (r := R10) (ds := one.map eS) (cm_var (i := 4) rfl) (cp_int (cm_int (i := 1))) cp_no
              rw [cut_drop, ← List.map_drop] at c1
              have mkNs := cm_tupD (ds := nears.map eSs) (cad_cons (cm_var (r := R10) (i := 5) (w := .d (eSs two)) rfl) (cad_cons (cm_var (i := 9) (w := .d (eSs bent)) rfl) (cad_cons (addS v10 v4 (by simp; omega)) (cad_cons c1 cad_nil)))) (by simp [nears])
              refine lw_bs hI (bs_for (ws := nears.map fun xs => .d (eSs xs)) (fun _ => R10) (ci_tupM eSs mkNs rfl) fun i' u hu => ?_) fun σ11 H12 hJ => ?_
              · obtain ⟨near, hnr, rfl⟩ := List.mem_map.mp (List.mem_of_getElem? hu)
                obtain ⟨k1, k2⟩ := nok near hnr
                refine ⟨_, _, cg_name, .inl (bs_lessT (bs_ifF (ct_not (ct_B (cm_call (ca_cons (cm_var rfl) (ca_cons (cm_var rfl) (ca_cons (cm_var rfl) (ca_cons (cm_var rfl) ca_nil)))) ⟨L, one, near, far, gd, ho, k1, hf, by omega, k2, by omega, rfl, rfl⟩))) rfl bs_next) (by walk_at "less"))⟩
              -- ways, fits
              obtain ⟨v3, hv3, r3⟩ := hJ.env.at_ 3 _ rfl
              obtain ⟨v4, hv4, r4⟩ := hJ.env.at_ 4 _ rfl
              obtain ⟨v5, hv5, r5⟩ := hJ.env.at_ 5 _ rfl
              have f10 : FlatR R10 := by walk_at "fl"
              refine (show ∃ x, _ = some (some x) ∧ _ from ⟨v3, hv3, v4, hv4, v5, hv5, L, one, two, v3, v4, v5, gd, ho, ht, by omega, rfl, r3, r4, r5, hJ.tb, fun H13 x13 T13 => ⟨true, rfl, iteF ?_⟩⟩)
              have hK := hJ.ext f10 x13 T13
              have ct : CmT K (tNot (tB (tCall (spF K R_fitsR) [] C8.E0 (tCons (tVar 3) (tCons (tVar 4) tNil))))) R10 (!true) := ct_not (ct_B (cm_call (ca_cons (cm_var rfl) (ca_cons (cm_var rfl) ca_nil)) ⟨L, one, gd, ho, by omega, rfl, rfl⟩))
              exact ct σ11 H13 _ hK.env fun H14 s14 => iteF ((hK.same s14 (hK.env.same s14)).less (by walk_at "less"))
    · intro σ2 H2 h2
      have b : Bs K (tSeq (tAsg (tTup (tCons (tTup (tCons (tTup (tCons (tC (.str "quiet")) (tCons (tC (.int 0)) tNil))) (tCons (tTup (tCons (tC (.str "on")) (tCons (tC (.int 1)) tNil))) tNil))) (tCons (tC (.int 2)) (tCons (tC (.int 0)) tNil)))) (gName 3))
          (tRet (tAndV (tCall (spF K R_does_settle) [] C8.E0 (tCons (tVar 3) (tCons (tTup (tCons (tTup (tCons (tC (.str "head")) (tCons (tC (.int 1)) tNil))) (tCons (tTup (tCons (tC (.str "head")) (tCons (tC (.int 0)) tNil))) tNil))) tNil)))
            (tNotV (tCall (spF K R_does_settle) [] C8.E0 (tCons (tVar 3) (tCons (tTup (tCons (tTup (tCons (tC (.str "head")) (tCons (tC (.int 1)) tNil))) (tCons (tTup (tCons (tC (.str "value")) (tCons (tC (.int 0)) tNil))) tNil))) tNil))))))) R1 (.rt (.b true)) := by
        refine bs_setS (w := .d (eL L0)) (cm_is (cm_tupD (cad_cons (cm_tupD (cad_cons (cm_tupD (cad_cons cm_str (cad_cons cm_int cad_nil)) (by simp)) (cad_cons (cm_tupD (cad_cons cm_str (cad_cons cm_int cad_nil)) (by simp)) cad_nil)) (by simp)) (cad_cons cm_int (cad_cons cm_int cad_nil))) (by simp)) rfl) ?_
        have gx : isGood L0 [.head 1, .head 0] := ⟨by simp [Lang.ok, L0], by simp⟩
        have gy : isGood L0 [.head 1, .value 0] := ⟨by simp [Lang.ok, L0], by simp⟩
        have x1 : Cm K (tTup (tCons (tTup (tCons (tC (.str "head")) (tCons (tC (.int 1)) tNil))) (tCons (tTup (tCons (tC (.str "head")) (tCons (tC (.int 0)) tNil))) tNil))) (R1.set 3 (some (.d (eL L0)))) (.d (eSs [.head 1, .head 0])) := cm_is (cm_tupD (cad_cons (cm_tupD (cad_cons cm_str (cad_cons cm_int cad_nil)) (by simp)) (cad_cons (cm_tupD (cad_cons cm_str (cad_cons cm_int cad_nil)) (by simp)) cad_nil)) (by simp)) rfl
        have x2 : Cm K (tTup (tCons (tTup (tCons (tC (.str "head")) (tCons (tC (.int 1)) tNil))) (tCons (tTup (tCons (tC (.str "value")) (tCons (tC (.int 0)) tNil))) tNil))) (R1.set 3 (some (.d (eL L0)))) (.d (eSs [.head 1, .value 0])) := cm_is (cm_tupD (cad_cons (cm_tupD (cad_cons cm_str (cad_cons cm_int cad_nil)) (by simp)) (cad_cons (cm_tupD (cad_cons cm_str (cad_cons cm_int cad_nil)) (by simp)) cad_nil)) (by simp)) rfl
        refine bs_ret (cm_is (cm_andV (cm_call (ca_cons (cm_var (w := .d (eL L0)) rfl) (ca_cons x1 ca_nil)) (r_does_settle good0 gx)) fun _ => cm_notV (cm_call (ca_cons (cm_var (w := .d (eL L0)) rfl) (ca_cons x2 ca_nil)) (r_does_settle good0 gy))) ?_)
        rw [settle0, settle1]
        rfl
      exact b _ _ _ h2.env fun y H' s' ry => by
        have ey : y = .bl true := ry
        subst ey
        exact q H'
end
end NW
/-! the promises put together -/
namespace NW
open PySem PySem.Spec PyProof.Rows L2 StX NM LamX
def BindOk (x qual : Str) (st : Stmt) (ps : List Str) : Prop := ∀ (kV doc pm : Value) (an : Option Addr) (cdv ct : Value) (us : List Value), us.length = ps.length → bindArgs (PySem.W.fnOf x qual (defArgs st) (defBody st) (defScope st) .none kV doc pm an cdv ct) ⟨us, []⟩ = pure (ps.zip us)
theorem bnd_is_whole : BindOk "is_whole" "is_whole" s_is_whole ["thing", "least", "most"] := fun _ _ _ _ _ _ us hl => match us, hl with | [_, _, _], _ => rfl
theorem bnd_is_head : BindOk "is_head" "is_head" s_is_head ["thing"] := fun _ _ _ _ _ _ us hl => match us, hl with | [_], _ => rfl
theorem bnd_need_language : BindOk "need_language" "need_language" s_need_language ["thing"] := fun _ _ _ _ _ _ us hl => match us, hl with | [_], _ => rfl
theorem bnd_long_of : BindOk "long_of" "long_of" s_long_of ["language", "head"] := fun _ _ _ _ _ _ us hl => match us, hl with | [_, _], _ => rfl
theorem bnd_signs_of : BindOk "signs_of" "signs_of" s_signs_of ["language"] := fun _ _ _ _ _ _ us hl => match us, hl with | [_], _ => rfl
theorem bnd_is_sign : BindOk "is_sign" "is_sign" s_is_sign ["language", "thing"] := fun _ _ _ _ _ _ us hl => match us, hl with | [_, _], _ => rfl
theorem bnd_are_values : BindOk "are_values" "are_values" s_are_values ["language", "thing", "many"] := fun _ _ _ _ _ _ us hl => match us, hl with | [_, _, _], _ => rfl
theorem bnd_is_message : BindOk "is_message" "is_message" s_is_message ["language", "value"] := fun _ _ _ _ _ _ us hl => match us, hl with | [_, _], _ => rfl
theorem bnd_need_stream : BindOk "need_stream" "need_stream" s_need_stream ["language", "stream"] := fun _ _ _ _ _ _ us hl => match us, hl with | [_, _], _ => rfl
theorem bnd_taken : BindOk "taken" "taken" s_taken ["language", "head", "got", "sign"] := fun _ _ _ _ _ _ us hl => match us, hl with | [_, _, _, _], _ => rfl
theorem bnd_notes_behind : BindOk "notes_behind" "notes_behind" s_notes_behind ["language", "on", "message"] := fun _ _ _ _ _ _ us hl => match us, hl with | [_, _, _], _ => rfl
theorem bnd_read_so : BindOk "read_so" "read_so" s_read_so ["language", "standing", "stream"] := fun _ _ _ _ _ _ us hl => match us, hl with | [_, _, _], _ => rfl
theorem bnd_is_place : BindOk "is_place" "is_place" s_is_place ["language", "head", "got"] := fun _ _ _ _ _ _ us hl => match us, hl with | [_, _, _], _ => rfl
theorem bnd_is_standing : BindOk "is_standing" "is_standing" s_is_standing ["language", "thing"] := fun _ _ _ _ _ _ us hl => match us, hl with | [_, _], _ => rfl
theorem bnd_read : BindOk "read" "read" s_read ["language", "standing", "stream"] := fun _ _ _ _ _ _ us hl => match us, hl with | [_, _, _], _ => rfl
theorem bnd_places : BindOk "places_of" "places_of" s_places_of ["language"] := fun _ _ _ _ _ _ us hl => match us, hl with | [_], _ => rfl
theorem bnd_standings_of : BindOk "standings_of" "standings_of" s_standings_of ["language"] := fun _ _ _ _ _ _ us hl => match us, hl with | [_], _ => rfl
theorem bnd_standings : BindOk "standings" "standings" s_standings ["language"] := fun _ _ _ _ _ _ us hl => match us, hl with | [_], _ => rfl
theorem bnd_need_both : BindOk "need_both" "need_both" s_need_both ["language", "stream", "other"] := fun _ _ _ _ _ _ us hl => match us, hl with | [_, _, _], _ => rfl
theorem bnd_parting : BindOk "parting" "parting" s_parting ["language", "stream", "other"] := fun _ _ _ _ _ _ us hl => match us, hl with | [_, _, _], _ => rfl
theorem bnd_are_alike : BindOk "are_alike" "are_alike" s_are_alike ["language", "stream", "other"] := fun _ _ _ _ _ _ us hl => match us, hl with | [_, _, _], _ => rfl
theorem bnd_part : BindOk "part" "part" s_part ["language", "stream", "other"] := fun _ _ _ _ _ _ us hl => match us, hl with | [_, _, _], _ => rfl
theorem bnd_does_settle : BindOk "does_settle" "does_settle" s_does_settle ["language", "stream"] := fun _ _ _ _ _ _ us hl => match us, hl with | [_, _], _ => rfl
theorem bnd_is_heard : BindOk "is_heard" "is_heard" s_is_heard ["language", "thing"] := fun _ _ _ _ _ _ us hl => match us, hl with | [_, _], _ => rfl
theorem bnd_need_heard : BindOk "need_heard" "need_heard" s_need_heard ["language", "heard"] := fun _ _ _ _ _ _ us hl => match us, hl with | [_, _], _ => rfl
theorem bnd_need_size : BindOk "need_size" "need_size" s_need_size ["language", "heard", "size"] := fun _ _ _ _ _ _ us hl => match us, hl with | [_, _, _], _ => rfl
theorem bnd_behind : BindOk "behind" "behind" s_behind ["language", "heard", "here", "sign"] := fun _ _ _ _ _ _ us hl => match us, hl with | [_, _, _, _], _ => rfl
theorem bnd_places_fits : BindOk "places_of" "places_of" s_places_of_1 ["language", "heard"] := fun _ _ _ _ _ _ us hl => match us, hl with | [_, _], _ => rfl
theorem bnd_counts_of : BindOk "counts_of" "counts_of" s_counts_of ["language", "heard", "size"] := fun _ _ _ _ _ _ us hl => match us, hl with | [_, _, _], _ => rfl
theorem bnd_many_streams : BindOk "many_streams" "many_streams" s_many_streams ["language", "heard", "size"] := fun _ _ _ _ _ _ us hl => match us, hl with | [_, _, _], _ => rfl
theorem bnd_number_of : BindOk "number_of" "number_of" s_number_of ["language", "heard", "size", "stream"] := fun _ _ _ _ _ _ us hl => match us, hl with | [_, _, _, _], _ => rfl
theorem bnd_stream_at : BindOk "stream_at" "stream_at" s_stream_at ["language", "heard", "size", "number"] := fun _ _ _ _ _ _ us hl => match us, hl with | [_, _, _, _], _ => rfl
theorem bnd_shortest : BindOk "shortest_size" "shortest_size" s_shortest_size ["language", "heard"] := fun _ _ _ _ _ _ us hl => match us, hl with | [_, _], _ => rfl
theorem bnd_integer_of : BindOk "integer_of" "integer_of" s_integer_of ["word"] := fun _ _ _ _ _ _ us hl => match us, hl with | [_], _ => rfl
theorem bnd_word_of : BindOk "word_of" "word_of" s_word_of ["sign"] := fun _ _ _ _ _ _ us hl => match us, hl with | [_], _ => rfl
theorem bnd_sign_by : BindOk "sign_by" "sign_by" s_sign_by ["language", "word"] := fun _ _ _ _ _ _ us hl => match us, hl with | [_, _], _ => rfl
theorem bnd_stream_by : BindOk "stream_by" "stream_by" s_stream_by ["language", "words"] := fun _ _ _ _ _ _ us hl => match us, hl with | [_, _], _ => rfl
theorem bnd_stream_text : BindOk "stream_text" "stream_text" s_stream_text ["language", "stream"] := fun _ _ _ _ _ _ us hl => match us, hl with | [_, _], _ => rfl
theorem bnd_read_stream : BindOk "read_stream" "read_stream" s_read_stream ["language", "string"] := fun _ _ _ _ _ _ us hl => match us, hl with | [_, _], _ => rfl
theorem bnd_row_text : BindOk "row_text" "row_text" s_row_text ["message"] := fun _ _ _ _ _ _ us hl => match us, hl with | [_], _ => rfl
theorem bnd_messages_text : BindOk "messages_text" "messages_text" s_messages_text ["language", "heard"] := fun _ _ _ _ _ _ us hl => match us, hl with | [_, _], _ => rfl
theorem bnd_read_messages : BindOk "read_messages" "read_messages" s_read_messages ["language", "string"] := fun _ _ _ _ _ _ us hl => match us, hl with | [_, _], _ => rfl
theorem bnd_next : BindOk "_law_next" "_law_next" s_law_next ["_law_m", "_law_total"] := fun _ _ _ _ _ _ us hl => match us, hl with | [_, _], _ => rfl
theorem bnd_of : BindOk "_law_of" "_law_of" s_law_of ["_law_m", "_law_some"] := fun _ _ _ _ _ _ us hl => match us, hl with | [_, _], _ => rfl
theorem bnd_tongue : BindOk "_law_tongue" "_law_tongue" s_law_tongue ["_law_m", "_law_total", "_law_notes"] := fun _ _ _ _ _ _ us hl => match us, hl with | [_, _, _], _ => rfl
theorem bnd_line : BindOk "_law_line" "_law_line" s_law_line ["_law_m", "_law_tongue_here", "_law_total"] := fun _ _ _ _ _ _ us hl => match us, hl with | [_, _, _], _ => rfl
theorem bnd_start : BindOk "_law_start" "_law_start" s_law_start ["_law_script"] := fun _ _ _ _ _ _ us hl => match us, hl with | [_], _ => rfl
theorem bnd_halves : BindOk "_law_halves_right" "_law_halves_right" s_law_halves_right ["_law_tongue_here", "_law_standing", "_law_one", "_law_two"] := fun _ _ _ _ _ _ us hl => match us, hl with | [_, _, _, _], _ => rfl
theorem bnd_likes : BindOk "_law_likes_right" "_law_likes_right" s_law_likes_right ["_law_tongue_here", "_law_one", "_law_two", "_law_far"] := fun _ _ _ _ _ _ us hl => match us, hl with | [_, _, _, _], _ => rfl
theorem bnd_fitsR : BindOk "_law_fits_right" "_law_fits_right" s_law_fits_right ["_law_tongue_here", "_law_line_here"] := fun _ _ _ _ _ _ us hl => match us, hl with | [_, _], _ => rfl
theorem bnd_allFed : BindOk "_law_all_fed" "_law_all_fed" s_law_all_fed ["_law_wire", "_law_line_here"] := fun _ _ _ _ _ _ us hl => match us, hl with | [_, _], _ => rfl
theorem bnd_ways : BindOk "_law_ways_right" "_law_ways_right" s_law_ways_right ["_law_tongue_here", "_law_one", "_law_two"] := fun _ _ _ _ _ _ us hl => match us, hl with | [_, _, _], _ => rfl
theorem bnd_under : BindOk "under" "under" s_under ["wire", "deed"] := fun _ _ _ _ _ _ us hl => match us, hl with | [_, _], _ => rfl
theorem bnd_standing : BindOk "standing" "Wire.standing" s_standing_Wire ["self"] := fun _ _ _ _ _ _ us hl => match us, hl with | [_], _ => rfl
theorem bnd_heard : BindOk "heard" "Wire.heard" s_heard_Wire ["self"] := fun _ _ _ _ _ _ us hl => match us, hl with | [_], _ => rfl
theorem bnd_stream : BindOk "stream" "Wire.stream" s_stream_Wire ["self"] := fun _ _ _ _ _ _ us hl => match us, hl with | [_], _ => rfl
theorem bnd_feed : BindOk "feed" "Wire.feed" s_feed_Wire ["self", "sign"] := fun _ _ _ _ _ _ us hl => match us, hl with | [_, _], _ => rfl
theorem bnd_initW : BindOk "__init__" "Wire.__init__" s_init_Wire ["self", "language"] := fun _ _ _ _ _ _ us hl => match us, hl with | [_, _], _ => rfl
theorem bnd_initT : BindOk "__init__" "Trial.__init__" s_init_Trial ["self", "held_wire"] := fun _ _ _ _ _ _ us hl => match us, hl with | [_, _], _ => rfl
theorem bnd_trial : BindOk "trial" "Wire.trial" s_trial_Wire ["self"] := fun _ _ _ _ _ _ us hl => match us, hl with | [_], _ => rfl
theorem bnd_enter : BindOk "__enter__" "Trial.__enter__" s_enter_Trial ["self"] := fun _ _ _ _ _ _ us hl => match us, hl with | [_], _ => rfl
theorem bnd_exit : BindOk "__exit__" "Trial.__exit__" s_exit_Trial ["self", "kind", "value", "trace"] := fun _ _ _ _ _ _ us hl => match us, hl with | [_, _, _, _], _ => rfl
section
variable {K : Fg} {mg : Str → Option Value} {h : Heap}
section
variable {x gx qual : Str} {st : Stmt} {ps : List Str} {f : Addr} {oc kV dc pm cd ct : Value} {od an : Option Addr} {sl : Array (Option Value)}
theorem defAt_of (X : K.In h) (G : h.Ns mainGlobals mg) (hb : BindOk x x st ps) (a : PySem.W.nsIn K mainGlobals gx = some (some (.ref f))) (l : K.lookup f = some ⟨oc, od, .func (PySem.W.fnOf x x (defArgs st) (defBody st) (defScope st) .none kV dc pm an cd ct), sl⟩)
    (c : PySem.W.codeIn K cd x = true) (k : PySem.W.keepIn K (.ref f) = true) : DefAt K mg x gx st ps := ⟨f, _, fun_mk (st := st) l c k, (fun_mk (st := st) l c k).binds hb, PySem.W.mg_of X G a⟩
theorem defL_of {cc : Addr} (X : K.In h) (G : h.Ns mainGlobals mg) (hb : BindOk x x st ps) (a : PySem.W.nsIn K mainGlobals gx = some (some (.ref f))) (l : K.lookup f = some ⟨oc, od, .func (PySem.W.fnOf x x (defArgs st) (defBody st) (defScope st) .none kV dc pm an (.ref cc) ct), sl⟩)
    (c : PySem.W.codeIn K (.ref cc) x = true) (k : PySem.W.keepIn K (.ref f) = true) : DefL K mg x gx st ps cc := ⟨f, _, fun_mk (st := st) l c k, rfl, (fun_mk (st := st) l c k).binds hb, PySem.W.mg_of X G a⟩
theorem defC_of (hb : BindOk x qual st ps) (l : K.lookup f = some ⟨oc, od, .func (PySem.W.fnOf x qual (defArgs st) (defBody st) (defScope st) .none kV dc pm an cd ct), sl⟩)
    (c : PySem.W.codeIn K cd qual = true) (k : PySem.W.keepIn K (.ref f) = true) : DefC K x qual st ps f := ⟨_, fun_mk (st := st) l c k, (fun_mk (st := st) l c k).binds hb⟩
theorem methC_of {C : Addr} (hb : BindOk x qual st ps) (a : PySem.W.findIn K (.ref C) x = some (some (.ref f))) (i : PySem.W.isFn K (.ref f) = true) (l : K.lookup f = some ⟨oc, od, .func (PySem.W.fnOf x qual (defArgs st) (defBody st) (defScope st) .none kV dc pm an cd ct), sl⟩)
    (c : PySem.W.codeIn K cd qual = true) (k : PySem.W.keepIn K (.ref f) = true) : ∃ f, PySem.W.findIn K (.ref C) x = some (some (.ref f)) ∧ PySem.W.isFn K (.ref f) = true ∧ PySem.W.keepIn K (.ref f) = true ∧ DefC K x qual st ps f := ⟨f, a, i, k, defC_of hb l c k⟩
theorem propC_of {C p : Addr} {rest : List Value} (hb : BindOk x qual st ps) (a : PySem.W.findIn K (.ref C) x = some (some (.ref p))) (g : PySem.W.specialIn K (.ref p) "__get__" = some (some (.builtin "property.__get__"))) (t : PySem.W.takesIn K (.ref p) = some true) (r : PySem.W.recIn K p "property" = some (.ref f :: rest))
    (l : K.lookup f = some ⟨oc, od, .func (PySem.W.fnOf x qual (defArgs st) (defBody st) (defScope st) .none kV dc pm an cd ct), sl⟩) (c : PySem.W.codeIn K cd qual = true) (k : PySem.W.keepIn K (.ref f) = true) : ∃ p f, PropOf K C x p f ∧ DefC K x qual st ps f := ⟨p, f, ⟨a, g, t, rest, r⟩, defC_of hb l c k⟩
end
theorem noAttr_of {C : Addr} {f : Str} (h : PySem.W.findIn K (.ref C) f = some none) : NoAttr K C f := h
abbrev TxtIn (_X : K.In h) (_G : h.Ns mainGlobals mg) : Prop := Txt K mg
abbrev DefIn (_X : K.In h) (_G : h.Ns mainGlobals mg) (x gx : Str) (st : Stmt) (ps : List Str) : Prop := DefAt K mg x gx st ps
theorem int_of {x : Str} {i : Int} {t : Tok} (X : K.In h) (G : h.Ns mainGlobals mg) (a : PySem.W.nsIn K mainGlobals x = some (some (.int i t))) : isInt mg x i := ⟨_, PySem.W.mg_of X G a, t, rfl⟩
theorem str_of {x z : Str} {t : Tok} (X : K.In h) (G : h.Ns mainGlobals mg) (a : PySem.W.nsIn K mainGlobals x = some (some (.str z t))) : isStr mg x z := ⟨_, PySem.W.mg_of X G a, t, rfl⟩
theorem words_of {aW b1 b2 b3 : Addr} {n n1 n2 n3 : Nat} {s s1 s2 s3 : Array (Option Value)} {d1 d2 d3 : Option Addr} {t1 t2 t3 u1 u2 u3 : Tok} (l : K.lookup aW = some ⟨.type "tuple", none, .seq #[.ref b1, .ref b2, .ref b3] n, s⟩)
    (l1 : K.lookup b1 = some ⟨.type "tuple", d1, .seq #[.str "head" t1, .str "h" u1] n1, s1⟩) (l2 : K.lookup b2 = some ⟨.type "tuple", d2, .seq #[.str "moment" t2, .str "m" u2] n2, s2⟩) (l3 : K.lookup b3 = some ⟨.type "tuple", d3, .seq #[.str "value" t3, .str "v" u3] n3, s3⟩) : WordsAt K aW :=
  ⟨b1, b2, b3, _, n, l, rfl, rfl, rfl, ⟨_, _, _, _, l1, rfl, rfl⟩, ⟨_, _, _, _, l2, rfl, rfl⟩, ⟨_, _, _, _, l3, rfl, rfl⟩⟩
theorem first_of {aF b1 b2 : Addr} {n n1 n2 : Nat} {s s1 s2 : Array (Option Value)} {d d1 d2 : Option Addr} {t : Tok} (l : K.lookup aF = some ⟨.type "tuple", d, .seq #[.int (-1) t, .ref b1, .ref b2] n, s⟩)
    (l1 : K.lookup b1 = some ⟨.type "tuple", d1, .seq #[] n1, s1⟩) (l2 : K.lookup b2 = some ⟨.type "tuple", d2, .seq #[] n2, s2⟩) : ∀ H, Rp K H (.ref aF) (eT Std.first) := fun H =>
  have e : ∀ {b : Addr} {n : Nat} {s : Array (Option Value)} {d : Option Addr}, K.lookup b = some ⟨.type "tuple", d, .seq #[] n, s⟩ → Rp K H (.ref b) (eNs []) := fun {b n s d} l => .tup (xs := []) (.inr (.inr ⟨_, _, n, l, rfl, rfl, (by decide : 0 ≤ sizeLine), .nil⟩)) .nil
  .tup (xs := [.int (-1), .ref b1, .ref b2]) (.inr (.inr ⟨_, _, n, l, rfl, rfl, (by decide : 3 ≤ sizeLine), .cons ⟨t, rfl⟩ (.cons rfl (.cons rfl .nil))⟩)) (.cons (.int (-1)) (.cons (e l1) (.cons (e l2) .nil)))
end
theorem txt2_of {K : Fg} {mg : Str → Option Value} {h : Heap} {aW aF : Addr} (X : K.In h) (G : h.Ns mainGlobals mg) (a : PySem.W.nsIn K mainGlobals "WORDS" = some (some (.ref aW))) (w : WordsAt K aW) (a2 : PySem.W.nsIn K mainGlobals "FIRST" = some (some (.ref aF))) (f : ∀ H, Rp K H (.ref aF) (eT Std.first)) : Txt2 K mg aW aF :=
  ⟨⟨_, PySem.W.mg_of X G a, rfl⟩, w, ⟨_, PySem.W.mg_of X G a2, rfl⟩, f⟩
/-- what the top has left -/
structure Top (K : Fg) (mg : Str → Option Value) (CW CT aW aF c : Addr) : Prop where
  T : Txt K mg
  TW : Txt2 K mg aW aF
  TC : TxtW K mg CW CT
  mW : mg "Wire" = some (.ref CW)
  mT : mg "Trial" = some (.ref CT)
  kW : PySem.W.makesIn K CW = true ∧ PySem.W.keepIn K (.ref CW) = true
  kT : PySem.W.makesIn K CT = true ∧ PySem.W.keepIn K (.ref CT) = true
  d_is_whole : DefAt K mg "is_whole" "is_whole" s_is_whole ["thing", "least", "most"]
  d_is_head : DefAt K mg "is_head" "is_head" s_is_head ["thing"]
  d_need_language : DefAt K mg "need_language" "need_language" s_need_language ["thing"]
  d_long_of : DefAt K mg "long_of" "long_of" s_long_of ["language", "head"]
  d_signs_of : DefAt K mg "signs_of" "signs_of" s_signs_of ["language"]
  d_is_sign : DefAt K mg "is_sign" "is_sign" s_is_sign ["language", "thing"]
  d_are_values : DefAt K mg "are_values" "are_values" s_are_values ["language", "thing", "many"]
  d_is_message : DefAt K mg "is_message" "is_message" s_is_message ["language", "value"]
  d_need_stream : DefAt K mg "need_stream" "need_stream" s_need_stream ["language", "stream"]
  d_taken : DefAt K mg "taken" "taken" s_taken ["language", "head", "got", "sign"]
  d_notes_behind : DefAt K mg "notes_behind" "notes_behind" s_notes_behind ["language", "on", "message"]
  d_read_so : DefAt K mg "read_so" "read_so" s_read_so ["language", "standing", "stream"]
  d_is_place : DefAt K mg "is_place" "is_place" s_is_place ["language", "head", "got"]
  d_is_standing : DefAt K mg "is_standing" "is_standing" s_is_standing ["language", "thing"]
  d_read : DefAt K mg "read" "read" s_read ["language", "standing", "stream"]
  d_places : DefAt K mg "places_of" "places_of_readers" s_places_of ["language"]
  d_standings_of : DefAt K mg "standings_of" "standings_of" s_standings_of ["language"]
  d_standings : DefAt K mg "standings" "standings" s_standings ["language"]
  d_need_both : DefAt K mg "need_both" "need_both" s_need_both ["language", "stream", "other"]
  d_parting : DefAt K mg "parting" "parting" s_parting ["language", "stream", "other"]
  d_are_alike : DefAt K mg "are_alike" "are_alike" s_are_alike ["language", "stream", "other"]
  d_part : DefAt K mg "part" "part" s_part ["language", "stream", "other"]
  d_does_settle : DefAt K mg "does_settle" "does_settle" s_does_settle ["language", "stream"]
  d_is_heard : DefAt K mg "is_heard" "is_heard" s_is_heard ["language", "thing"]
  d_need_heard : DefAt K mg "need_heard" "need_heard" s_need_heard ["language", "heard"]
  d_need_size : DefAt K mg "need_size" "need_size" s_need_size ["language", "heard", "size"]
  d_behind : DefAt K mg "behind" "behind" s_behind ["language", "heard", "here", "sign"]
  d_places_fits : DefAt K mg "places_of" "places_of_fits" s_places_of_1 ["language", "heard"]
  d_counts_of : DefAt K mg "counts_of" "counts_of" s_counts_of ["language", "heard", "size"]
  d_many_streams : DefAt K mg "many_streams" "many_streams" s_many_streams ["language", "heard", "size"]
  d_number_of : DefAt K mg "number_of" "number_of" s_number_of ["language", "heard", "size", "stream"]
  d_stream_at : DefAt K mg "stream_at" "stream_at" s_stream_at ["language", "heard", "size", "number"]
  d_shortest : DefAt K mg "shortest_size" "shortest_size" s_shortest_size ["language", "heard"]
  d_integer_of : DefAt K mg "integer_of" "integer_of" s_integer_of ["word"]
  d_word_of : DefAt K mg "word_of" "word_of" s_word_of ["sign"]
  d_sign_by : DefAt K mg "sign_by" "sign_by" s_sign_by ["language", "word"]
  d_stream_by : DefAt K mg "stream_by" "stream_by" s_stream_by ["language", "words"]
  d_stream_text : DefAt K mg "stream_text" "stream_text" s_stream_text ["language", "stream"]
  d_read_stream : DefAt K mg "read_stream" "read_stream" s_read_stream ["language", "string"]
  d_row_text : DefAt K mg "row_text" "row_text" s_row_text ["message"]
  d_messages_text : DefAt K mg "messages_text" "messages_text" s_messages_text ["language", "heard"]
  d_read_messages : DefAt K mg "read_messages" "read_messages" s_read_messages ["language", "string"]
  d_next : DefAt K mg "_law_next" "_law_next" s_law_next ["_law_m", "_law_total"]
  d_of : DefAt K mg "_law_of" "_law_of" s_law_of ["_law_m", "_law_some"]
  d_tongue : DefAt K mg "_law_tongue" "_law_tongue" s_law_tongue ["_law_m", "_law_total", "_law_notes"]
  d_line : DefAt K mg "_law_line" "_law_line" s_law_line ["_law_m", "_law_tongue_here", "_law_total"]
  d_start : DefAt K mg "_law_start" "_law_start" s_law_start ["_law_script"]
  d_halves : DefAt K mg "_law_halves_right" "_law_halves_right" s_law_halves_right ["_law_tongue_here", "_law_standing", "_law_one", "_law_two"]
  d_likes : DefAt K mg "_law_likes_right" "_law_likes_right" s_law_likes_right ["_law_tongue_here", "_law_one", "_law_two", "_law_far"]
  d_fitsR : DefAt K mg "_law_fits_right" "_law_fits_right" s_law_fits_right ["_law_tongue_here", "_law_line_here"]
  d_allFed : DefAt K mg "_law_all_fed" "_law_all_fed" s_law_all_fed ["_law_wire", "_law_line_here"]
  d_ways : DefL K mg "_law_ways_right" "_law_ways_right" s_law_ways_right ["_law_tongue_here", "_law_one", "_law_two"] c
  d_under : DefAt K mg "under" "under" s_under ["wire", "deed"]
  x_standing : ∃ p f, PropOf K CW "standing" p f ∧ DefC K "standing" "Wire.standing" s_standing_Wire ["self"] f
  x_heard : ∃ p f, PropOf K CW "heard" p f ∧ DefC K "heard" "Wire.heard" s_heard_Wire ["self"] f
  x_stream : ∃ p f, PropOf K CW "stream" p f ∧ DefC K "stream" "Wire.stream" s_stream_Wire ["self"] f
  x_feed : ∃ f, PySem.W.findIn K (.ref CW) "feed" = some (some (.ref f)) ∧ PySem.W.isFn K (.ref f) = true ∧ PySem.W.keepIn K (.ref f) = true ∧ DefC K "feed" "Wire.feed" s_feed_Wire ["self", "sign"] f
  x_initW : ∃ f, PySem.W.findIn K (.ref CW) "__init__" = some (some (.ref f)) ∧ PySem.W.isFn K (.ref f) = true ∧ PySem.W.keepIn K (.ref f) = true ∧ DefC K "__init__" "Wire.__init__" s_init_Wire ["self", "language"] f
  x_initT : ∃ f, PySem.W.findIn K (.ref CT) "__init__" = some (some (.ref f)) ∧ PySem.W.isFn K (.ref f) = true ∧ PySem.W.keepIn K (.ref f) = true ∧ DefC K "__init__" "Trial.__init__" s_init_Trial ["self", "held_wire"] f
  x_trial : ∃ f, PySem.W.findIn K (.ref CW) "trial" = some (some (.ref f)) ∧ PySem.W.isFn K (.ref f) = true ∧ PySem.W.keepIn K (.ref f) = true ∧ DefC K "trial" "Wire.trial" s_trial_Wire ["self"] f
  x_enter : ∃ f, PySem.W.findIn K (.ref CT) "__enter__" = some (some (.ref f)) ∧ PySem.W.isFn K (.ref f) = true ∧ PySem.W.keepIn K (.ref f) = true ∧ DefC K "__enter__" "Trial.__enter__" s_enter_Trial ["self"] f
  x_exit : ∃ f, PySem.W.findIn K (.ref CT) "__exit__" = some (some (.ref f)) ∧ PySem.W.isFn K (.ref f) = true ∧ PySem.W.keepIn K (.ref f) = true ∧ DefC K "__exit__" "Trial.__exit__" s_exit_Trial ["self", "kind", "value", "trace"] f
section
variable {P : Program} {w : World} {K : Fg} {mg : Str → Option Value} {base : Heap}
theorem ok_all {CW CT aW aF c Pt f : Addr} {fd : FuncData} (X : Top K mg CW CT aW aF c) (TB : TabB base mg c Pt) (F : Fun K "law" "law" s_law f fd) : FnG P w K mg base 10 f fd ["_law_script"] (spLaw K [(Pt, lamQ)]) := by
  have T := X.T
  have TW := X.TW
  have TC := X.TC
  have C_is_whole : CalF P w K mg base 1 "is_whole" R_is_whole := ok_is_whole T X.d_is_whole 
  have C_is_head : CalF P w K mg base 2 "is_head" R_is_head := ok_is_head T X.d_is_head C_is_whole
  have C_need_language : CalF P w K mg base 3 "need_language" R_need_language := ok_need_language T X.d_need_language C_is_whole C_is_head
  have C_long_of : CalF P w K mg base 1 "long_of" R_long_of := ok_long_of T X.d_long_of 
  have C_signs_of : CalF P w K mg base 1 "signs_of" R_signs_of := ok_signs_of T X.d_signs_of 
  have C_is_sign : CalF P w K mg base 2 "is_sign" R_is_sign := ok_is_sign T X.d_is_sign C_is_whole C_signs_of
  have C_are_values : CalF P w K mg base 2 "are_values" R_are_values := ok_are_values T X.d_are_values C_is_whole
  have C_is_message : CalF P w K mg base 4 "is_message" R_is_message := ok_is_message T X.d_is_message C_is_whole C_are_values C_need_language
  have C_need_stream : CalF P w K mg base 4 "need_stream" R_need_stream := ok_need_stream T X.d_need_stream C_need_language C_is_sign
  have C_taken : CalF P w K mg base 2 "taken" R_taken := ok_taken T X.d_taken C_long_of
  have C_notes_behind : CalF P w K mg base 1 "notes_behind" R_notes_behind := ok_notes_behind T X.d_notes_behind 
  have C_read_so : CalF P w K mg base 3 "read_so" R_read_so := ok_read_so T X.d_read_so C_taken C_notes_behind
  have C_is_place : CalF P w K mg base 3 "is_place" R_is_place := ok_is_place T X.d_is_place C_is_whole C_long_of C_are_values
  have C_is_standing : CalF P w K mg base 4 "is_standing" R_is_standing := ok_is_standing T X.d_is_standing C_is_place C_are_values
  have C_read : CalF P w K mg base 5 "read" R_read := ok_read T X.d_read C_need_language C_is_standing C_need_stream C_read_so
  have C_places_of_readers : CalF P w K mg base 2 "places_of_readers" R_places := ok_places T X.d_places C_long_of
  have C_standings_of : CalF P w K mg base 3 "standings_of" R_standings_of := ok_standings_of T X.d_standings_of C_places_of_readers
  have C_standings : CalF P w K mg base 4 "standings" R_standings := ok_standings T X.d_standings C_need_language C_standings_of
  have C_need_both : CalF P w K mg base 5 "need_both" R_need_both := ok_need_both T X.d_need_both C_need_stream
  have C_parting : CalF P w K mg base 4 "parting" R_parting := ok_parting T X.d_parting C_standings_of C_read_so
  have C_are_alike : CalF P w K mg base 6 "are_alike" R_are_alike := ok_are_alike T X.d_are_alike C_need_both C_parting
  have C_part : CalF P w K mg base 6 "part" R_parting := ok_part T X.d_part C_need_both C_parting
  have C_does_settle : CalF P w K mg base 5 "does_settle" R_does_settle := ok_does_settle T X.d_does_settle C_need_stream C_standings_of C_read_so
  have C_is_heard : CalF P w K mg base 5 "is_heard" R_is_heard := ok_is_heard T X.d_is_heard C_is_message
  have C_need_heard : CalF P w K mg base 6 "need_heard" R_need_heard := ok_need_heard T X.d_need_heard C_need_language C_is_heard
  have C_need_size : CalF P w K mg base 7 "need_size" R_need_size := ok_need_size T X.d_need_size C_need_heard C_is_whole
  have C_behind : CalF P w K mg base 3 "behind" R_behind := ok_behind T X.d_behind C_taken
  have C_places_of_fits : CalF P w K mg base 4 "places_of_fits" (R_places_fits K w) := ok_places_fits T X.d_places_fits C_signs_of C_behind
  have C_counts_of : CalF P w K mg base 5 "counts_of" (R_counts_of K w) := ok_counts_of T X.d_counts_of C_places_of_fits
  have C_many_streams : CalF P w K mg base 8 "many_streams" R_many_streams := ok_many_streams T X.d_many_streams C_need_size C_counts_of
  have C_number_of : CalF P w K mg base 8 "number_of" R_number_of := ok_number_of T X.d_number_of C_need_size C_need_stream C_counts_of C_signs_of
  have C_stream_at : CalF P w K mg base 8 "stream_at" R_stream_at := ok_stream_at T X.d_stream_at C_need_size C_is_whole C_counts_of C_signs_of
  have C_shortest_size : CalF P w K mg base 7 "shortest_size" (R_shortest K) := ok_shortest T X.d_shortest C_need_heard C_places_of_fits
  have C_integer_of : CalF P w K mg base 1 "integer_of" R_integer_of := ok_integer_of T X.d_integer_of 
  have C_word_of : CalF P w K mg base 1 "word_of" R_word_of := ok_word_of T TW X.d_word_of 
  have C_sign_by : CalF P w K mg base 3 "sign_by" R_sign_by := ok_sign_by T TW X.d_sign_by C_integer_of C_is_sign
  have C_stream_by : CalF P w K mg base 4 "stream_by" R_stream_by := ok_stream_by T X.d_stream_by C_sign_by
  have C_stream_text : CalF P w K mg base 5 "stream_text" R_stream_text := ok_stream_text T X.d_stream_text C_need_stream C_word_of
  have C_read_stream : CalF P w K mg base 5 "read_stream" R_read_stream := ok_read_stream T X.d_read_stream C_need_language C_stream_by
  have C_row_text : CalF P w K mg base 1 "row_text" R_row_text := ok_row_text T X.d_row_text 
  have C_messages_text : CalF P w K mg base 6 "messages_text" R_messages_text := ok_messages_text T X.d_messages_text C_need_language C_is_heard C_row_text
  have C_read_messages : CalF P w K mg base 5 "read_messages" R_read_messages := ok_read_messages T X.d_read_messages C_need_language C_integer_of C_is_message
  obtain ⟨p_standing, f_standing, h_standing, A_standing⟩ := X.x_standing
  have C_standing_Wire : Prp P w K mg base 1 CW "standing" (spF K (R_standing K CW)) := ok_standing T TC h_standing A_standing 
  obtain ⟨p_heard, f_heard, h_heard, A_heard⟩ := X.x_heard
  have C_heard_Wire : Prp P w K mg base 1 CW "heard" (spF K (R_heard K CW)) := ok_heard T TC h_heard A_heard 
  obtain ⟨p_stream, f_stream, h_stream, A_stream⟩ := X.x_stream
  have C_stream_Wire : Prp P w K mg base 1 CW "stream" (spF K (R_stream K CW)) := ok_stream T TC h_stream A_stream 
  obtain ⟨f_feed, a_feed, i_feed, k_feed, A_feed⟩ := X.x_feed
  have C_feed : C8.Met P w K mg base 3 CW "feed" (spFeed K CW) [] := ok_feed T TC ⟨a_feed, i_feed, k_feed⟩ A_feed C_is_sign C_taken C_notes_behind
  obtain ⟨f_initW, a_initW, i_initW, k_initW, A_initW⟩ := X.x_initW
  have C_Wire : C8.Mak P w K mg base 4 "Wire" CW (spInitW K CW) [] := ok_initW T TW TC ⟨X.kW.1, a_initW, i_initW, X.kW.2⟩ X.mW A_initW C_need_language
  obtain ⟨f_initT, a_initT, i_initT, k_initT, A_initT⟩ := X.x_initT
  have C_Trial : C8.Mak P w K mg base 1 "Trial" CT (spInitT CT) [] := ok_initT T TC ⟨X.kT.1, a_initT, i_initT, X.kT.2⟩ X.mT A_initT 
  obtain ⟨f_trial, a_trial, i_trial, k_trial, A_trial⟩ := X.x_trial
  have C_trial : C8.Met P w K mg base 3 CW "trial" (spTrial CW CT) [] := ok_trial T TC ⟨a_trial, i_trial, k_trial⟩ A_trial C_Trial
  have C_law_next : C8.Cal P w K mg base 1 "_law_next" spNext [] := ok_next T X.d_next 
  have C_law_of : C8.Cal P w K mg base 2 "_law_of" (spOf K) [] := ok_of T X.d_of C_law_next
  have C_law_tongue : C8.Cal P w K mg base 2 "_law_tongue" (spTongue K) [] := ok_tongue T X.d_tongue C_law_next
  have C_law_line : C8.Cal P w K mg base 2 "_law_line" (spLine K) [] := ok_line T X.d_line C_law_next
  have C_law_start : C8.Cal P w K mg base 1 "_law_start" (spStart K) [] := ok_start T X.d_start 
  have C_law_halves_right : CalG P w K mg base 6 "_law_halves_right" (spF K R_halves) := ok_halves T X.d_halves C_read
  have C_law_likes_right : CalG P w K mg base 7 "_law_likes_right" (spF K R_likes) := ok_likes T X.d_likes C_read C_does_settle C_are_alike C_part C_standings
  have C_law_fits_right : CalG P w K mg base 9 "_law_fits_right" (spF K R_fitsR) := ok_fitsR T X.d_fitsR C_read C_many_streams C_number_of C_stream_at C_shortest_size
  have C_law_all_fed : C8.Cal P w K mg base 4 "_law_all_fed" (spAllFed K CW) [] := ok_allFed T X.d_allFed C_feed
  have F_enter := X.x_enter
  obtain ⟨fe, he1, he2, _, he3⟩ := X.x_enter
  obtain ⟨fde, he4, he5⟩ := ok_enter (P := P) (w := w) (base := base) T TC he3
  obtain ⟨fx, hx1, hx2, _, hx3⟩ := X.x_exit
  obtain ⟨fdx, hx4, hx5⟩ := ok_exit (P := P) (w := w) (base := base) T TC hx3
  have U : UndAt P w K mg base CW CT := ⟨X.d_under.ex, ⟨fe, fde, he1, he2, he4, he5⟩, ⟨fx, fdx, hx1, hx2, hx4, hx5⟩, C_trial⟩
  have C_law_ways_right : CalG P w K mg base 7 "_law_ways_right" (spWays K [(Pt, lamQ)]) := ok_ways T X.d_ways TC TB U C_Wire C_law_all_fed C_read C_standing_Wire C_heard_Wire C_stream_Wire C_stream_text C_read_stream C_messages_text C_read_messages
  exact ok_law T F C_law_start C_law_next C_law_of C_law_tongue C_law_line C_read C_are_alike C_standings C_does_settle C_law_halves_right C_law_likes_right C_law_ways_right C_law_fits_right
/-- the law's promise at the head's heap -/
theorem law_of {l : PySem.W.OpenLaw} {h : Heap} {CW CT aW aF c Pt f fa : Addr} {oc kV dc pm cd ct : Value} {od an : Option Addr} {sl : Array (Option Value)} (KX : K.In h) (G : h.Ns mainGlobals mg) (hfa : mg "law" = some (.ref fa)) (X : Top K mg CW CT aW aF c)
    (hT : h.get? Pt = some tblO) (nT : K.lookup Pt = none) (C : PySem.W.codeHdIn K c Pt = true) (a : PySem.W.nsIn K mainGlobals "law" = some (some (.ref f))) (lk : K.lookup f = some ⟨oc, od, .func (PySem.W.fnOf "law" "law" (defArgs s_law) (defBody s_law) (defScope s_law) .none kV dc pm an cd ct), sl⟩)
    (hc : PySem.W.codeIn K cd "law" = true) (kp : PySem.W.keepIn K (.ref f) = true) : LawG l w K 10 63 "_law_script" mg fa h := by
  have e := hfa.symm.trans (PySem.W.mg_of KX G a)
  cases e
  have F := fun_mk (st := s_law) lk hc kp
  have one : ∀ {φ : Addr × Addr → Prop}, φ (c, Pt) → ∀ p ∈ [(c, Pt)], φ p := fun h p hp => by
    cases List.mem_singleton.mp hp
    exact h
  refine ⟨_, [(c, Pt)], spLaw K [(Pt, lamQ)], one hT, one nT, one (PySem.W.codeHd_of_K KX C), fun s v => ?_, fun H a ns hl hH hS => ⟨a, ns, rfl, hS, hl, fun p hp => ?_, fun _ => rfl⟩, fun base _ _ TBs => ok_all X (TBs _ (List.mem_singleton.mpr rfl)) F⟩
  · exact .of_eq rfl
  · cases List.mem_singleton.mp hp
    exact TabS.nil (hH _ (List.mem_singleton.mpr rfl))
theorem walk_law {l : PySem.W.OpenLaw} {q : Program} {loose : List Str} {XP : (Str → Option Value) → Heap → Prop} {YP : World → Heap → Prop} {d : DefRec} {K : Params → Fg} (hn : l.most = some 63) (hdf : d.params.defaults = []) (hY : ∀ (w : World) (h : Heap), YP w h → (K w.params).In h)
    (F : ∀ (w : World) (mg : Str → Option Value) (fa : Addr) (h : Heap), YP w h → (K w.params).In h → h.Ns mainGlobals mg → mg d.name = some (.ref fa) → LawG l w (K w.params) 10 63 "_law_script" mg fa h) :
    PySem.W.WalkO q loose XP YP l.row.toRowW d [] (fun f vs => PySem.call f vs) := walk_ofG hn (by decide) hdf ⟨rfl, by decide, by decide⟩ hY F
end
end NW
open PySem PySem.W PyProof.Rows
set_option maxRecDepth 100000 in
set_option maxHeartbeats 0 in
theorem PySem.Challenge.cw_notewire_k97_whole_way_of_readers_holds : PySem.Challenge.rw_notewire_k97_whole_way_of_readers.Holds := by
  w_on; o_law; k_head; (case hw => w_witness2)
  k_fill
  refine NW.walk_law (l := PySem.Challenge.rw_notewire_k97_whole_way_of_readers) rfl rfl (fun w h Y => PySem.W.km_in_of Y) ?F
  case F =>
    intro w mg fa h Y KX G hmg
    have hT := PySem.W.km_tabs_of Y
    have T : NW.TxtIn KX G := by
      refine ⟨?b_isinstance, ?b_len, ?b_all, ?b_any, ?b_sum, ?b_min, ?b_sorted, ?b_repr, ?b_int, ?b_bool, ?b_tuple, ?b_str, ?b_list, ?b_dict, ?b_set, ?b_range, ?b_enumerate, ?b_zip, ?g_ON, ?g_OFF, ?g_QUIET, ?g_OTHER, ?g_HEAD, ?g_VALUE, ?g_MOMENT, ?g_MOST_HEADS, ?g_MOST_LONG, ?g_MOST_NOTES, ?g_MOST_MOMENTS, ?g_MOST_SIGNS, ?g_MOST_HEARD_fits, ?g_MOST_SIZE, ?g_LINE_END, ?g_BLANK, ?g_DIGITS, ?g_MOST_FIGURES, ?g_MOST_HEARD_texts⟩
      (case b_isinstance => (refine PySem.W.mg_none_of KX G ?z; (case z => k_is)))
      (case b_len => (refine PySem.W.mg_none_of KX G ?z; (case z => k_is)))
      (case b_all => (refine PySem.W.mg_none_of KX G ?z; (case z => k_is)))
      (case b_any => (refine PySem.W.mg_none_of KX G ?z; (case z => k_is)))
      (case b_sum => (refine PySem.W.mg_none_of KX G ?z; (case z => k_is)))
      (case b_min => (refine PySem.W.mg_none_of KX G ?z; (case z => k_is)))
      (case b_sorted => (refine PySem.W.mg_none_of KX G ?z; (case z => k_is)))
      (case b_repr => (refine PySem.W.mg_none_of KX G ?z; (case z => k_is)))
      (case b_int => (refine PySem.W.mg_none_of KX G ?z; (case z => k_is)))
      (case b_bool => (refine PySem.W.mg_none_of KX G ?z; (case z => k_is)))
      (case b_tuple => (refine PySem.W.mg_none_of KX G ?z; (case z => k_is)))
      (case b_str => (refine PySem.W.mg_none_of KX G ?z; (case z => k_is)))
      (case b_list => (refine PySem.W.mg_none_of KX G ?z; (case z => k_is)))
      (case b_dict => (refine PySem.W.mg_none_of KX G ?z; (case z => k_is)))
      (case b_set => (refine PySem.W.mg_none_of KX G ?z; (case z => k_is)))
      (case b_range => (refine PySem.W.mg_none_of KX G ?z; (case z => k_is)))
      (case b_enumerate => (refine PySem.W.mg_none_of KX G ?z; (case z => k_is)))
      (case b_zip => (refine PySem.W.mg_none_of KX G ?z; (case z => k_is)))
      (case g_ON => (refine' NW.str_of KX G ?z; (case z => k_is)))
      (case g_OFF => (refine' NW.str_of KX G ?z; (case z => k_is)))
      (case g_QUIET => (refine' NW.str_of KX G ?z; (case z => k_is)))
      (case g_OTHER => (refine' NW.str_of KX G ?z; (case z => k_is)))
      (case g_HEAD => (refine' NW.str_of KX G ?z; (case z => k_is)))
      (case g_VALUE => (refine' NW.str_of KX G ?z; (case z => k_is)))
      (case g_MOMENT => (refine' NW.str_of KX G ?z; (case z => k_is)))
      (case g_MOST_HEADS => (refine' NW.int_of KX G ?z; (case z => k_is)))
      (case g_MOST_LONG => (refine' NW.int_of KX G ?z; (case z => k_is)))
      (case g_MOST_NOTES => (refine' NW.int_of KX G ?z; (case z => k_is)))
      (case g_MOST_MOMENTS => (refine' NW.int_of KX G ?z; (case z => k_is)))
      (case g_MOST_SIGNS => (refine' NW.int_of KX G ?z; (case z => k_is)))
      (case g_MOST_HEARD_fits => (refine' NW.int_of KX G ?z; (case z => k_is)))
      (case g_MOST_SIZE => (refine' NW.int_of KX G ?z; (case z => k_is)))
      (case g_LINE_END => (refine' NW.str_of KX G ?z; (case z => k_is)))
      (case g_BLANK => (refine' NW.str_of KX G ?z; (case z => k_is)))
      (case g_DIGITS => (refine' NW.str_of KX G ?z; (case z => k_is)))
      (case g_MOST_FIGURES => (refine' NW.int_of KX G ?z; (case z => k_is)))
      (case g_MOST_HEARD_texts => (refine' NW.int_of KX G ?z; (case z => k_is)))
    have d_is_whole : NW.DefIn KX G "is_whole" "is_whole" NW.s_is_whole ["thing", "least", "most"] := by
      (refine' NW.defAt_of KX G NW.bnd_is_whole ?a ?l ?c ?k; (case a => k_is); (case l => k_is); (case c => k_is); (case k => k_is))
    have d_is_head : NW.DefIn KX G "is_head" "is_head" NW.s_is_head ["thing"] := by
      (refine' NW.defAt_of KX G NW.bnd_is_head ?a ?l ?c ?k; (case a => k_is); (case l => k_is); (case c => k_is); (case k => k_is))
    have d_need_language : NW.DefIn KX G "need_language" "need_language" NW.s_need_language ["thing"] := by
      (refine' NW.defAt_of KX G NW.bnd_need_language ?a ?l ?c ?k; (case a => k_is); (case l => k_is); (case c => k_is); (case k => k_is))
    have d_long_of : NW.DefIn KX G "long_of" "long_of" NW.s_long_of ["language", "head"] := by
      (refine' NW.defAt_of KX G NW.bnd_long_of ?a ?l ?c ?k; (case a => k_is); (case l => k_is); (case c => k_is); (case k => k_is))
    have d_signs_of : NW.DefIn KX G "signs_of" "signs_of" NW.s_signs_of ["language"] := by
      (refine' NW.defAt_of KX G NW.bnd_signs_of ?a ?l ?c ?k; (case a => k_is); (case l => k_is); (case c => k_is); (case k => k_is))
    have d_is_sign : NW.DefIn KX G "is_sign" "is_sign" NW.s_is_sign ["language", "thing"] := by
      (refine' NW.defAt_of KX G NW.bnd_is_sign ?a ?l ?c ?k; (case a => k_is); (case l => k_is); (case c => k_is); (case k => k_is))
    have d_are_values : NW.DefIn KX G "are_values" "are_values" NW.s_are_values ["language", "thing", "many"] := by
      (refine' NW.defAt_of KX G NW.bnd_are_values ?a ?l ?c ?k; (case a => k_is); (case l => k_is); (case c => k_is); (case k => k_is))
    have d_is_message : NW.DefIn KX G "is_message" "is_message" NW.s_is_message ["language", "value"] := by
      (refine' NW.defAt_of KX G NW.bnd_is_message ?a ?l ?c ?k; (case a => k_is); (case l => k_is); (case c => k_is); (case k => k_is))
    have d_need_stream : NW.DefIn KX G "need_stream" "need_stream" NW.s_need_stream ["language", "stream"] := by
      (refine' NW.defAt_of KX G NW.bnd_need_stream ?a ?l ?c ?k; (case a => k_is); (case l => k_is); (case c => k_is); (case k => k_is))
    have d_taken : NW.DefIn KX G "taken" "taken" NW.s_taken ["language", "head", "got", "sign"] := by
      (refine' NW.defAt_of KX G NW.bnd_taken ?a ?l ?c ?k; (case a => k_is); (case l => k_is); (case c => k_is); (case k => k_is))
    have d_notes_behind : NW.DefIn KX G "notes_behind" "notes_behind" NW.s_notes_behind ["language", "on", "message"] := by
      (refine' NW.defAt_of KX G NW.bnd_notes_behind ?a ?l ?c ?k; (case a => k_is); (case l => k_is); (case c => k_is); (case k => k_is))
    have d_read_so : NW.DefIn KX G "read_so" "read_so" NW.s_read_so ["language", "standing", "stream"] := by
      (refine' NW.defAt_of KX G NW.bnd_read_so ?a ?l ?c ?k; (case a => k_is); (case l => k_is); (case c => k_is); (case k => k_is))
    have d_is_place : NW.DefIn KX G "is_place" "is_place" NW.s_is_place ["language", "head", "got"] := by
      (refine' NW.defAt_of KX G NW.bnd_is_place ?a ?l ?c ?k; (case a => k_is); (case l => k_is); (case c => k_is); (case k => k_is))
    have d_is_standing : NW.DefIn KX G "is_standing" "is_standing" NW.s_is_standing ["language", "thing"] := by
      (refine' NW.defAt_of KX G NW.bnd_is_standing ?a ?l ?c ?k; (case a => k_is); (case l => k_is); (case c => k_is); (case k => k_is))
    have d_read : NW.DefIn KX G "read" "read" NW.s_read ["language", "standing", "stream"] := by
      (refine' NW.defAt_of KX G NW.bnd_read ?a ?l ?c ?k; (case a => k_is); (case l => k_is); (case c => k_is); (case k => k_is))
    have d_places : NW.DefIn KX G "places_of" "places_of_readers" NW.s_places_of ["language"] := by
      (refine' NW.defAt_of KX G NW.bnd_places ?a ?l ?c ?k; (case a => k_is); (case l => k_is); (case c => k_is); (case k => k_is))
    have d_standings_of : NW.DefIn KX G "standings_of" "standings_of" NW.s_standings_of ["language"] := by
      (refine' NW.defAt_of KX G NW.bnd_standings_of ?a ?l ?c ?k; (case a => k_is); (case l => k_is); (case c => k_is); (case k => k_is))
    have d_standings : NW.DefIn KX G "standings" "standings" NW.s_standings ["language"] := by
      (refine' NW.defAt_of KX G NW.bnd_standings ?a ?l ?c ?k; (case a => k_is); (case l => k_is); (case c => k_is); (case k => k_is))
    have d_need_both : NW.DefIn KX G "need_both" "need_both" NW.s_need_both ["language", "stream", "other"] := by
      (refine' NW.defAt_of KX G NW.bnd_need_both ?a ?l ?c ?k; (case a => k_is); (case l => k_is); (case c => k_is); (case k => k_is))
    have d_parting : NW.DefIn KX G "parting" "parting" NW.s_parting ["language", "stream", "other"] := by
      (refine' NW.defAt_of KX G NW.bnd_parting ?a ?l ?c ?k; (case a => k_is); (case l => k_is); (case c => k_is); (case k => k_is))
    have d_are_alike : NW.DefIn KX G "are_alike" "are_alike" NW.s_are_alike ["language", "stream", "other"] := by
      (refine' NW.defAt_of KX G NW.bnd_are_alike ?a ?l ?c ?k; (case a => k_is); (case l => k_is); (case c => k_is); (case k => k_is))
    have d_part : NW.DefIn KX G "part" "part" NW.s_part ["language", "stream", "other"] := by
      (refine' NW.defAt_of KX G NW.bnd_part ?a ?l ?c ?k; (case a => k_is); (case l => k_is); (case c => k_is); (case k => k_is))
    have d_does_settle : NW.DefIn KX G "does_settle" "does_settle" NW.s_does_settle ["language", "stream"] := by
      (refine' NW.defAt_of KX G NW.bnd_does_settle ?a ?l ?c ?k; (case a => k_is); (case l => k_is); (case c => k_is); (case k => k_is))
    have d_is_heard : NW.DefIn KX G "is_heard" "is_heard" NW.s_is_heard ["language", "thing"] := by
      (refine' NW.defAt_of KX G NW.bnd_is_heard ?a ?l ?c ?k; (case a => k_is); (case l => k_is); (case c => k_is); (case k => k_is))
    have d_need_heard : NW.DefIn KX G "need_heard" "need_heard" NW.s_need_heard ["language", "heard"] := by
      (refine' NW.defAt_of KX G NW.bnd_need_heard ?a ?l ?c ?k; (case a => k_is); (case l => k_is); (case c => k_is); (case k => k_is))
    have d_need_size : NW.DefIn KX G "need_size" "need_size" NW.s_need_size ["language", "heard", "size"] := by
      (refine' NW.defAt_of KX G NW.bnd_need_size ?a ?l ?c ?k; (case a => k_is); (case l => k_is); (case c => k_is); (case k => k_is))
    have d_behind : NW.DefIn KX G "behind" "behind" NW.s_behind ["language", "heard", "here", "sign"] := by
      (refine' NW.defAt_of KX G NW.bnd_behind ?a ?l ?c ?k; (case a => k_is); (case l => k_is); (case c => k_is); (case k => k_is))
    have d_places_fits : NW.DefIn KX G "places_of" "places_of_fits" NW.s_places_of_1 ["language", "heard"] := by
      (refine' NW.defAt_of KX G NW.bnd_places_fits ?a ?l ?c ?k; (case a => k_is); (case l => k_is); (case c => k_is); (case k => k_is))
    have d_counts_of : NW.DefIn KX G "counts_of" "counts_of" NW.s_counts_of ["language", "heard", "size"] := by
      (refine' NW.defAt_of KX G NW.bnd_counts_of ?a ?l ?c ?k; (case a => k_is); (case l => k_is); (case c => k_is); (case k => k_is))
    have d_many_streams : NW.DefIn KX G "many_streams" "many_streams" NW.s_many_streams ["language", "heard", "size"] := by
      (refine' NW.defAt_of KX G NW.bnd_many_streams ?a ?l ?c ?k; (case a => k_is); (case l => k_is); (case c => k_is); (case k => k_is))
    have d_number_of : NW.DefIn KX G "number_of" "number_of" NW.s_number_of ["language", "heard", "size", "stream"] := by
      (refine' NW.defAt_of KX G NW.bnd_number_of ?a ?l ?c ?k; (case a => k_is); (case l => k_is); (case c => k_is); (case k => k_is))
    have d_stream_at : NW.DefIn KX G "stream_at" "stream_at" NW.s_stream_at ["language", "heard", "size", "number"] := by
      (refine' NW.defAt_of KX G NW.bnd_stream_at ?a ?l ?c ?k; (case a => k_is); (case l => k_is); (case c => k_is); (case k => k_is))
    have d_shortest : NW.DefIn KX G "shortest_size" "shortest_size" NW.s_shortest_size ["language", "heard"] := by
      (refine' NW.defAt_of KX G NW.bnd_shortest ?a ?l ?c ?k; (case a => k_is); (case l => k_is); (case c => k_is); (case k => k_is))
    have d_integer_of : NW.DefIn KX G "integer_of" "integer_of" NW.s_integer_of ["word"] := by
      (refine' NW.defAt_of KX G NW.bnd_integer_of ?a ?l ?c ?k; (case a => k_is); (case l => k_is); (case c => k_is); (case k => k_is))
    have d_word_of : NW.DefIn KX G "word_of" "word_of" NW.s_word_of ["sign"] := by
      (refine' NW.defAt_of KX G NW.bnd_word_of ?a ?l ?c ?k; (case a => k_is); (case l => k_is); (case c => k_is); (case k => k_is))
    have d_sign_by : NW.DefIn KX G "sign_by" "sign_by" NW.s_sign_by ["language", "word"] := by
      (refine' NW.defAt_of KX G NW.bnd_sign_by ?a ?l ?c ?k; (case a => k_is); (case l => k_is); (case c => k_is); (case k => k_is))
    have d_stream_by : NW.DefIn KX G "stream_by" "stream_by" NW.s_stream_by ["language", "words"] := by
      (refine' NW.defAt_of KX G NW.bnd_stream_by ?a ?l ?c ?k; (case a => k_is); (case l => k_is); (case c => k_is); (case k => k_is))
    have d_stream_text : NW.DefIn KX G "stream_text" "stream_text" NW.s_stream_text ["language", "stream"] := by
      (refine' NW.defAt_of KX G NW.bnd_stream_text ?a ?l ?c ?k; (case a => k_is); (case l => k_is); (case c => k_is); (case k => k_is))
    have d_read_stream : NW.DefIn KX G "read_stream" "read_stream" NW.s_read_stream ["language", "string"] := by
      (refine' NW.defAt_of KX G NW.bnd_read_stream ?a ?l ?c ?k; (case a => k_is); (case l => k_is); (case c => k_is); (case k => k_is))
    have d_row_text : NW.DefIn KX G "row_text" "row_text" NW.s_row_text ["message"] := by
      (refine' NW.defAt_of KX G NW.bnd_row_text ?a ?l ?c ?k; (case a => k_is); (case l => k_is); (case c => k_is); (case k => k_is))
    have d_messages_text : NW.DefIn KX G "messages_text" "messages_text" NW.s_messages_text ["language", "heard"] := by
      (refine' NW.defAt_of KX G NW.bnd_messages_text ?a ?l ?c ?k; (case a => k_is); (case l => k_is); (case c => k_is); (case k => k_is))
    have d_read_messages : NW.DefIn KX G "read_messages" "read_messages" NW.s_read_messages ["language", "string"] := by
      (refine' NW.defAt_of KX G NW.bnd_read_messages ?a ?l ?c ?k; (case a => k_is); (case l => k_is); (case c => k_is); (case k => k_is))
    have d_next : NW.DefIn KX G "_law_next" "_law_next" NW.s_law_next ["_law_m", "_law_total"] := by
      (refine' NW.defAt_of KX G NW.bnd_next ?a ?l ?c ?k; (case a => k_is); (case l => k_is); (case c => k_is); (case k => k_is))
    have d_of : NW.DefIn KX G "_law_of" "_law_of" NW.s_law_of ["_law_m", "_law_some"] := by
      (refine' NW.defAt_of KX G NW.bnd_of ?a ?l ?c ?k; (case a => k_is); (case l => k_is); (case c => k_is); (case k => k_is))
    have d_tongue : NW.DefIn KX G "_law_tongue" "_law_tongue" NW.s_law_tongue ["_law_m", "_law_total", "_law_notes"] := by
      (refine' NW.defAt_of KX G NW.bnd_tongue ?a ?l ?c ?k; (case a => k_is); (case l => k_is); (case c => k_is); (case k => k_is))
    have d_line : NW.DefIn KX G "_law_line" "_law_line" NW.s_law_line ["_law_m", "_law_tongue_here", "_law_total"] := by
      (refine' NW.defAt_of KX G NW.bnd_line ?a ?l ?c ?k; (case a => k_is); (case l => k_is); (case c => k_is); (case k => k_is))
    have d_start : NW.DefIn KX G "_law_start" "_law_start" NW.s_law_start ["_law_script"] := by
      (refine' NW.defAt_of KX G NW.bnd_start ?a ?l ?c ?k; (case a => k_is); (case l => k_is); (case c => k_is); (case k => k_is))
    have d_halves : NW.DefIn KX G "_law_halves_right" "_law_halves_right" NW.s_law_halves_right ["_law_tongue_here", "_law_standing", "_law_one", "_law_two"] := by
      (refine' NW.defAt_of KX G NW.bnd_halves ?a ?l ?c ?k; (case a => k_is); (case l => k_is); (case c => k_is); (case k => k_is))
    have d_likes : NW.DefIn KX G "_law_likes_right" "_law_likes_right" NW.s_law_likes_right ["_law_tongue_here", "_law_one", "_law_two", "_law_far"] := by
      (refine' NW.defAt_of KX G NW.bnd_likes ?a ?l ?c ?k; (case a => k_is); (case l => k_is); (case c => k_is); (case k => k_is))
    have d_fitsR : NW.DefIn KX G "_law_fits_right" "_law_fits_right" NW.s_law_fits_right ["_law_tongue_here", "_law_line_here"] := by
      (refine' NW.defAt_of KX G NW.bnd_fitsR ?a ?l ?c ?k; (case a => k_is); (case l => k_is); (case c => k_is); (case k => k_is))
    have d_allFed : NW.DefIn KX G "_law_all_fed" "_law_all_fed" NW.s_law_all_fed ["_law_wire", "_law_line_here"] := by
      (refine' NW.defAt_of KX G NW.bnd_allFed ?a ?l ?c ?k; (case a => k_is); (case l => k_is); (case c => k_is); (case k => k_is))
    have d_under : NW.DefIn KX G "under" "under" NW.s_under ["wire", "deed"] := by
      (refine' NW.defAt_of KX G NW.bnd_under ?a ?l ?c ?k; (case a => k_is); (case l => k_is); (case c => k_is); (case k => k_is))
    refine' NW.law_of (l := PySem.Challenge.rw_notewire_k97_whole_way_of_readers) (Pt := 591) KX G hmg { T := T, TW := NW.txt2_of KX G ?w1 (NW.words_of ?w2 ?w3 ?w4 ?w5) ?f1 (NW.first_of ?f2 ?f3 ?f4), TC := ⟨⟨?cw1, ?cw2, ?cw3, ?cw4⟩, NW.noAttr_of ?nL, NW.noAttr_of ?nP, ⟨?ct1, ?ct2, ?ct3, ?ct4⟩, NW.noAttr_of ?nH, NW.noAttr_of ?nK⟩, mW := PySem.W.mg_of KX G ?mW, mT := PySem.W.mg_of KX G ?mT, kW := ⟨?kw1, ?kw2⟩, kT := ⟨?kt1, ?kt2⟩, d_is_whole := d_is_whole, d_is_head := d_is_head, d_need_language := d_need_language, d_long_of := d_long_of, d_signs_of := d_signs_of, d_is_sign := d_is_sign, d_are_values := d_are_values, d_is_message := d_is_message, d_need_stream := d_need_stream, d_taken := d_taken, d_notes_behind := d_notes_behind, d_read_so := d_read_so, d_is_place := d_is_place, d_is_standing := d_is_standing, d_read := d_read, d_places := d_places, d_standings_of := d_standings_of, d_standings := d_standings, d_need_both := d_need_both, d_parting := d_parting, d_are_alike := d_are_alike, d_part := d_part, d_does_settle := d_does_settle, d_is_heard := d_is_heard, d_need_heard := d_need_heard, d_need_size := d_need_size, d_behind := d_behind, d_places_fits := d_places_fits, d_counts_of := d_counts_of, d_many_streams := d_many_streams, d_number_of := d_number_of, d_stream_at := d_stream_at, d_shortest := d_shortest, d_integer_of := d_integer_of, d_word_of := d_word_of, d_sign_by := d_sign_by, d_stream_by := d_stream_by, d_stream_text := d_stream_text, d_read_stream := d_read_stream, d_row_text := d_row_text, d_messages_text := d_messages_text, d_read_messages := d_read_messages, d_next := d_next, d_of := d_of, d_tongue := d_tongue, d_line := d_line, d_start := d_start, d_halves := d_halves, d_likes := d_likes, d_fitsR := d_fitsR, d_allFed := d_allFed, d_ways := NW.defL_of KX G NW.bnd_ways ?dw1 ?dw2 ?dw3 ?dw4, d_under := d_under, x_standing := NW.propC_of NW.bnd_standing ?standing1 ?standing2 ?standing3 ?standing4 ?standing5 ?standing6 ?standing7, x_heard := NW.propC_of NW.bnd_heard ?heard1 ?heard2 ?heard3 ?heard4 ?heard5 ?heard6 ?heard7, x_stream := NW.propC_of NW.bnd_stream ?stream1 ?stream2 ?stream3 ?stream4 ?stream5 ?stream6 ?stream7, x_feed := NW.methC_of NW.bnd_feed ?feed1 ?feed2 ?feed3 ?feed4 ?feed5, x_initW := NW.methC_of NW.bnd_initW ?initW1 ?initW2 ?initW3 ?initW4 ?initW5, x_initT := NW.methC_of NW.bnd_initT ?initT1 ?initT2 ?initT3 ?initT4 ?initT5, x_trial := NW.methC_of NW.bnd_trial ?trial1 ?trial2 ?trial3 ?trial4 ?trial5, x_enter := NW.methC_of NW.bnd_enter ?enter1 ?enter2 ?enter3 ?enter4 ?enter5, x_exit := NW.methC_of NW.bnd_exit ?exit1 ?exit2 ?exit3 ?exit4 ?exit5 } (hT 591 (by simp)) ?nT ?C ?la ?ll ?lc ?lk
    (case mW => k_is)
    (case mT => k_is)
    (case w1 => k_is)
    (case w2 => k_is)
    (case w3 => k_is)
    (case w4 => k_is)
    (case w5 => k_is)
    (case f1 => k_is)
    (case f2 => k_is)
    (case f3 => k_is)
    (case f4 => k_is)
    (case cw1 => k_is)
    (case cw2 => k_is)
    (case cw3 => k_is)
    (case cw4 => k_is)
    (case nL => k_is)
    (case nP => k_is)
    (case ct1 => k_is)
    (case ct2 => k_is)
    (case ct3 => k_is)
    (case ct4 => k_is)
    (case nH => k_is)
    (case nK => k_is)
    (case kw1 => k_is)
    (case kw2 => k_is)
    (case kt1 => k_is)
    (case kt2 => k_is)
    (case dw1 => k_is)
    (case dw2 => k_is)
    (case dw3 => k_is)
    (case dw4 => k_is)
    (case standing1 => k_is)
    (case standing2 => k_is)
    (case standing3 => k_is)
    (case standing4 => k_is)
    (case standing5 => k_is)
    (case standing6 => k_is)
    (case standing7 => k_is)
    (case heard1 => k_is)
    (case heard2 => k_is)
    (case heard3 => k_is)
    (case heard4 => k_is)
    (case heard5 => k_is)
    (case heard6 => k_is)
    (case heard7 => k_is)
    (case stream1 => k_is)
    (case stream2 => k_is)
    (case stream3 => k_is)
    (case stream4 => k_is)
    (case stream5 => k_is)
    (case stream6 => k_is)
    (case stream7 => k_is)
    (case feed1 => k_is)
    (case feed2 => k_is)
    (case feed3 => k_is)
    (case feed4 => k_is)
    (case feed5 => k_is)
    (case initW1 => k_is)
    (case initW2 => k_is)
    (case initW3 => k_is)
    (case initW4 => k_is)
    (case initW5 => k_is)
    (case initT1 => k_is)
    (case initT2 => k_is)
    (case initT3 => k_is)
    (case initT4 => k_is)
    (case initT5 => k_is)
    (case trial1 => k_is)
    (case trial2 => k_is)
    (case trial3 => k_is)
    (case trial4 => k_is)
    (case trial5 => k_is)
    (case enter1 => k_is)
    (case enter2 => k_is)
    (case enter3 => k_is)
    (case enter4 => k_is)
    (case enter5 => k_is)
    (case exit1 => k_is)
    (case exit2 => k_is)
    (case exit3 => k_is)
    (case exit4 => k_is)
    (case exit5 => k_is)
    (case la => k_is)
    (case ll => k_is)
    (case lc => k_is)
    (case lk => k_is)
    (case nT => first | kernel_rfl | k_is)
    (case C => first | kernel_rfl | k_is)
