import PyProof.Rows.All
import Wide.All
import OpenK.AllK
import Wide.FinOn
import HandS.ForMost
import HandS.ForExc
import HandS.Walk
import HandS.IsInst
import HandS.SortInts
import HandS.SortRule
import HandS.Wide
import HandS.WideBits
import HandS.Deep
import HandS.Style
import HandS.More
import HandS.Strs
import HandS.Conv
import HandS.ExcOwn
import HandS.ExcIs
import HandS.HotCalls
import KE.SortData
import HandS.SortRule
import HandS.More
import HandS.DictTup
import KE.KDictCopyH
import KE.KDictDisplayH
import KE.KDictOf
import HandS.SetFor
import HandS.Strs
import KE.LtData
import PyProof.SumWalkG
import HandS.WideBits
import PySem.Challenge.RW_restsums_k54_apart_refused
set_option Elab.async false
set_option linter.all false
set_option maxRecDepth 100000
set_option maxHeartbeats 2000000
/-! RL: readings by data. A frozen part G of the heap H; a value read as a datum in G; rules that compose as terms. -/
namespace RL
open PySem PySem.Spec PyProof.Rows L2
abbrev St := L2.St

/-! ### worlds -/
structure Ext (G H G' H' : Hp) : Prop where
  h : Same H H'
  g : Same G G'
  s : Same G' H'
  n : ∀ b o, G' b = some o → G b = some o ∨ H b = none ∨ ∃ xs, o = .tup xs
section
variable {G H G1 H1 G2 H2 : Hp} {p : Addr} {o : HO}
theorem Ext.refl (s : Same G H) : Ext G H G H := ⟨Same.refl _, Same.refl _, s, fun _ _ e => .inl e⟩
theorem Ext.trans (a : Ext G H G1 H1) (b : Ext G1 H1 G2 H2) : Ext G H G2 H2 :=
  ⟨a.h.trans b.h, a.g.trans b.g, b.s, fun c o e => by
    rcases b.n c o e with e1 | e1 | e1
    · exact a.n c o e1
    · exact .inr (.inl (a.h.free e1))
    · exact .inr (.inr e1)⟩
theorem same_new (h : H p = none) : Same H (upd H p o) := fun b x e => by
  rw [upd_ne (ne_of_none e h)]
  exact e
theorem Ext.new (a : Ext G H G1 H1) (hp : H1 p = none) : Ext G H (upd G1 p o) (upd H1 p o) := by
  refine ⟨a.h.trans (same_new hp), a.g.trans (same_new (a.s.free hp)), fun b x e => ?_, fun b x e => ?_⟩
  · by_cases hb : b = p
    · subst hb
      rw [upd_same] at e ⊢
      exact e
    · rw [upd_ne hb] at e ⊢
      exact a.s _ _ e
  · by_cases hb : b = p
    · subst hb
      exact .inr (.inl (a.h.free hp))
    · rw [upd_ne hb] at e
      exact a.n _ _ e
theorem Ext.newH (a : Ext G H G1 H1) (hp : H1 p = none) : Ext G H G1 (upd H1 p o) :=
  ⟨a.h.trans (same_new hp), a.g, a.s.trans (same_new hp), a.n⟩
theorem Ext.wr (a : Ext G H G1 H1) (h0 : H p = none) (g : G1 p = none) : Ext G H G1 (upd H1 p o) := by
  refine ⟨fun b x e => ?_, a.g, fun b x e => ?_, a.n⟩
  · rw [upd_ne (ne_of_none e h0)]
    exact a.h _ _ e
  · rw [upd_ne (ne_of_none e g)]
    exact a.s _ _ e
theorem Ext.frz (a : Ext G H G1 H1) (h0 : H p = none) (e : H1 p = some o) : Ext G H (upd G1 p o) H1 := by
  refine ⟨a.h, fun b x q => ?_, fun b x q => ?_, fun b x q => ?_⟩
  · by_cases hb : b = p
    · subst hb
      rw [upd_same, ← e]
      exact a.s _ _ (a.g _ _ q)
    · rw [upd_ne hb]
      exact a.g _ _ q
  · by_cases hb : b = p
    · subst hb
      rw [upd_same] at q
      rw [e, q]
    · rw [upd_ne hb] at q
      exact a.s _ _ q
  · by_cases hb : b = p
    · subst hb
      exact .inr (.inl h0)
    · rw [upd_ne hb] at q
      exact a.n _ _ q
/-- a tuple that stands in the heap may be told of at once -/
theorem Ext.tup (a : Ext G H G1 H1) {xs : List V} (e : H1 p = some (.tup xs)) : ∃ G2, Ext G H G2 H1 ∧ Same G1 G2 ∧ G2 p = some (.tup xs) := by
  refine ⟨upd G1 p (.tup xs), ⟨a.h, fun b x q => ?_, fun b x q => ?_, fun b x q => ?_⟩, fun b x q => ?_, upd_same⟩
  · by_cases hb : b = p
    · subst hb
      rw [upd_same, ← e]
      exact a.s _ _ (a.g _ _ q)
    · rw [upd_ne hb]
      exact a.g _ _ q
  · by_cases hb : b = p
    · subst hb
      rw [upd_same] at q
      rw [e, q]
    · rw [upd_ne hb] at q
      exact a.s _ _ q
  · by_cases hb : b = p
    · subst hb
      rw [upd_same] at q
      exact .inr (.inr ⟨xs, (Option.some.inj q).symm⟩)
    · rw [upd_ne hb] at q
      exact a.n _ _ q
  · by_cases hb : b = p
    · subst hb
      rw [upd_same, ← e]
      exact a.s _ _ q
    · rw [upd_ne hb]
      exact q
/-- what is not frozen stays so -/
theorem Ext.off (a : Ext G H G1 H1) (g : G p = none) (e : H p = some o) (ht : ∀ xs, o ≠ .tup xs := by intro _ z; cases z) : G1 p = none := by
  cases q : G1 p with
  | none => rfl
  | some x =>
    rcases a.n _ _ q with z | z | ⟨xs, z⟩
    · rw [g] at z
      cases z
    · rw [e] at z
      cases z
    · have z1 := a.h _ _ e
      have z2 := a.s _ _ q
      rw [z1] at z2
      exact absurd ((Option.some.inj z2).trans z) (ht xs)
end

/-- what is tracked has its size in the line -/
def szO : HO → Nat
  | .lst xs => xs.length
  | .tup xs => xs.length
  | .dK kvs => kvs.length
  | .dT kvs => kvs.length
  | .frz _ u => szO u
  | _ => 0
def HLen (H : Hp) : Prop := ∀ a o, H a = some o → szO o ≤ sizeLine
theorem hlen_o {P : Program} {w : World} {H : Hp} {h : Heap} {a : Addr} (o : HO) (k : ObjOk P w H h a o) : szO o ≤ sizeLine := by
  induction o with
  | lst xs => exact k.1
  | tup xs => exact k.1
  | dK kvs => exact k.1
  | dT kvs => exact k.1
  | frz ob u ih => exact ih k.2
  | _ => exact Nat.zero_le _
theorem hlen {X : Cx} {pins : List (Addr × Obj)} {σ : St} {H : Hp} {s : Shared} (I : Inv X pins σ H s) : HLen H := fun a o e => hlen_o o (I.hok a o e)
theorem sql_len {K : PySem.W.Frag} {H : Hp} {a : Addr} {us : List V} (l : HLen H) (h : SqL K H a us) : us.length ≤ sizeLine := by
  rcases h with (h | ⟨o, h⟩) | ⟨o, its, n, _, _, _, _, hz, r⟩
  · exact l _ _ h
  · exact l _ _ h
  · have e := r.length
    simp only [Array.length_toList] at e
    omega

/-! ### values as data -/
class Rep (α : Type) where
  rep : PySem.W.Frag → Hp → V → α → Prop
  up : ∀ {K : PySem.W.Frag} {G G' : Hp} {v : V} {x : α}, Same G G' → rep K G v x → rep K G' v x
open Rep (rep up)
instance instRepInt : Rep Int := ⟨fun _ _ v i => v = .int i, fun _ h => h⟩
instance instRepBool : Rep Bool := ⟨fun _ _ v i => v = .bl i, fun _ h => h⟩
instance instRepStr : Rep Str := ⟨fun _ _ v i => v = .str i, fun _ h => h⟩
instance : Rep Unit := ⟨fun _ _ v _ => v = .non, fun _ h => h⟩
/-- a value of the layer, as it is (built-in classes, for one) -/
instance : Rep V := ⟨fun _ _ v i => v = i, fun _ h => h⟩
theorem pair_up {α : Type} [Rep α] {K : PySem.W.Frag} {G G' : Hp} (s : Same G G') : ∀ {vs : List V} {xs : List α}, Paired (rep K G) vs xs → Paired (rep K G') vs xs
  | _, _, .nil => .nil
  | _, _, .cons h t => .cons (up s h) (pair_up s t)
instance instRepOption {α : Type} [Rep α] : Rep (Option α) where
  rep K G v o := match o with
    | none => v = .non
    | some x => rep K G v x
  up {K G G' v x} s h := match x, h with
    | none, h => h
    | some _, h => up (α := α) s h
instance instRepList {α : Type} [Rep α] : Rep (List α) where
  rep K G v xs := ∃ a vs, v = .ref a ∧ G a = some (.lst vs) ∧ Paired (rep K G) vs xs
  up s h := let ⟨a, vs, e, g, p⟩ := h; ⟨a, vs, e, s _ _ g, pair_up s p⟩
instance instRepProd {α β : Type} [Rep α] [Rep β] : Rep (α × β) where
  rep K G v x := ∃ a u w, v = .ref a ∧ G a = some (.tup [u, w]) ∧ rep K G u x.1 ∧ rep K G w x.2
  up s h := let ⟨a, u, w, e, g, p, q⟩ := h; ⟨a, u, w, e, s _ _ g, up s p, up s q⟩
/-- the script: a list that is read alone -/
structure Scr where
  ns : List Int
instance : Rep Scr where
  rep K G v x := ∃ a, v = .ref a ∧ SqL K G a (x.ns.map V.int)
  up s h := let ⟨a, e, q⟩ := h; ⟨a, e, s.seq q⟩

theorem paired_len {α β : Type} {F : α → β → Prop} : ∀ {xs : List α} {ys : List β}, Paired F xs ys → xs.length = ys.length
  | _, _, .nil => rfl
  | _, _, .cons _ t => by rw [List.length_cons, List.length_cons, paired_len t]
theorem paired_get {α β : Type} {F : α → β → Prop} : ∀ {xs : List α} {ys : List β} {i : Nat} {y : β}, Paired F xs ys → ys[i]? = some y → ∃ x, xs[i]? = some x ∧ F x y
  | _, _, _, _, .nil, e => by simp at e
  | _, _, 0, _, .cons r _, e => by simp at e; subst e; exact ⟨_, rfl, r⟩
  | _, _, i + 1, y, .cons _ t, e => by
    obtain ⟨u, h1, h2⟩ := paired_get (i := i) (y := y) t (by simpa using e)
    exact ⟨u, by simpa using h1, h2⟩
theorem paired_get' {α β : Type} {F : α → β → Prop} : ∀ {xs : List α} {ys : List β} {i : Nat} {x : α}, Paired F xs ys → xs[i]? = some x → ∃ y, ys[i]? = some y ∧ F x y
  | _, _, _, _, .nil, e => by simp at e
  | _, _, 0, _, .cons r _, e => by simp at e; subst e; exact ⟨_, rfl, r⟩
  | _, _, i + 1, x, .cons _ t, e => by
    obtain ⟨u, h1, h2⟩ := paired_get' (i := i) (x := x) t (by simpa using e)
    exact ⟨u, by simpa using h1, h2⟩
theorem paired_app {α β : Type} {F : α → β → Prop} : ∀ {xs us : List α} {ys ws : List β}, Paired F xs ys → Paired F us ws → Paired F (xs ++ us) (ys ++ ws)
  | _, _, _, _, .nil, s => s
  | _, _, _, _, .cons r t, s => .cons r (paired_app t s)
theorem paired_take {α β : Type} {F : α → β → Prop} : ∀ (n : Nat) {xs : List α} {ys : List β}, Paired F xs ys → Paired F (xs.take n) (ys.take n)
  | 0, _, _, _ => .nil
  | _ + 1, _, _, .nil => .nil
  | n + 1, _, _, .cons r t => .cons r (paired_take n t)
theorem paired_drop {α β : Type} {F : α → β → Prop} : ∀ (n : Nat) {xs : List α} {ys : List β}, Paired F xs ys → Paired F (xs.drop n) (ys.drop n)
  | 0, _, _, h => h
  | _ + 1, _, _, .nil => .nil
  | n + 1, _, _, .cons _ t => paired_drop n t
theorem paired_ints {K : PySem.W.Frag} {G : Hp} : ∀ {vs : List V} {ns : List Int}, Paired (rep K G) vs ns → vs = ns.map V.int
  | _, _, .nil => rfl
  | _, _, .cons (h : _ = _) t => by rw [h, paired_ints t]; rfl
theorem ints_paired {K : PySem.W.Frag} {G : Hp} : ∀ (ns : List Int), Paired (rep K G) (ns.map V.int) ns
  | [] => .nil
  | _ :: r => .cons rfl (ints_paired r)

/-! ### the judgements, by what is to hold of the value -/
/-- of a value: in the frozen part, in the heap -/
abbrev PV := Hp → Hp → V → Prop
def Mono (P : PV) : Prop := ∀ G H G1 H1 v, Ext G H G1 H1 → P G H v → P G1 H1 v
/-- it is x -/
def Is {α : Type} [Rep α] (K : PySem.W.Frag) (x : α) : PV := fun G _ v => rep K G v x
/-- a list that may be read now -/
def LstAt {α : Type} [Rep α] (K : PySem.W.Frag) (xs : List α) : PV := fun G H v => ∃ a vs, v = .ref a ∧ SqL K H a vs ∧ Paired (rep K G) vs xs
theorem mono_is {α : Type} [Rep α] {K : PySem.W.Frag} {x : α} : Mono (Is K x) := fun _ _ _ _ _ x h => up x.g h
theorem mono_lst {α : Type} [Rep α] {K : PySem.W.Frag} {xs : List α} : Mono (LstAt K xs) := fun _ _ _ _ _ x ⟨a, vs, e, g, p⟩ => ⟨a, vs, e, x.h.seq g, pair_up x.g p⟩

section
variable {X : Cx}
structure tE (X : Cx) (e : Expr) (σ : St) (H : Hp) (Q : VK) : Prop where
  run : ∀ (pins : List (Addr × Obj)) (s : Shared), Inv X pins σ H s → wpAny (model X.prog X.w) X.A (eval e X.env) (EP X pins σ Q) X.xe s
structure tT (X : Cx) (e : Expr) (σ : St) (H : Hp) (Q : Bool → Hp → Prop) : Prop where
  run : ∀ (pins : List (Addr × Obj)) (s : Shared), Inv X pins σ H s → wpAny (model X.prog X.w) X.A (isTrue e X.env (eval e X.env)) (TP X pins σ Q) X.xe s
structure tW (X : Cx) (e : Expr) (σ : St) (H : Hp) (Q : Bool → Hp → Prop) : Prop where
  run : ∀ (whole : Sem Value) (pins : List (Addr × Obj)) (s : Shared), Inv X pins σ H s → wpAny (model X.prog X.w) X.A (isTrue e X.env whole) (TP X pins σ Q) X.xe s
structure tA (X : Cx) (es : List Expr) (σ : St) (H : Hp) (Q : List V → Hp → Prop) : Prop where
  run : ∀ (pos : Pos) (pins : List (Addr × Obj)) (s : Shared), Inv X pins σ H s → wpAny (model X.prog X.w) X.A (spliced (backTo pos (starEach es X.env))) (AP X pins σ Q) X.xe s
structure tS (X : Cx) (st : Stmt) (D : Ends) (σ : St) (H : Hp) : Prop where
  run : ∀ (pins : List (Addr × Obj)) (s : Shared), Inv X pins σ H s → wpAny (model X.prog X.w) X.A (exec st X.env) (SP X pins D) X.xe s
structure tSs (X : Cx) (st : List Stmt) (D : Ends) (σ : St) (H : Hp) : Prop where
  run : ∀ (pins : List (Addr × Obj)) (s : Shared), Inv X pins σ H s → wpAny (model X.prog X.w) X.A (execs st X.env) (SP X pins D) X.xe s
theorem pe_sem {e : Expr} : PE X e (tE X e) := ⟨fun pins s _ _ _ I h => h.run pins s I⟩
theorem pt_sem {e : Expr} : PT X e (tT X e) := ⟨fun pins s _ _ _ I h => h.run pins s I⟩
theorem pw_sem {e : Expr} : PW X e (tW X e) := ⟨fun wh pins s _ _ _ I h => h.run wh pins s I⟩
theorem pa_sem {es : List Expr} : PA X es (tA X es) := ⟨fun pos pins s _ _ _ I h => h.run pos pins s I⟩
theorem ps_sem {st : Stmt} : PS X st (tS X st) := ⟨fun pins s _ _ _ I h => h.run pins s I⟩
theorem pss_sem {st : List Stmt} : PSs X st (tSs X st) := ⟨fun pins s _ _ _ I h => h.run pins s I⟩
theorem tE_len {e : Expr} {σ : St} {H : Hp} {Q : VK} (h : tE X e σ H fun v H' => HLen H' → Q v H') : tE X e σ H Q := ⟨fun pins s I => thn (h.run pins s I) fun _ _ ⟨v, H', I', r, q⟩ => ⟨v, H', I', r, q (hlen I')⟩⟩
theorem tT_len {e : Expr} {σ : St} {H : Hp} {Q : Bool → Hp → Prop} (h : tT X e σ H fun v H' => HLen H' → Q v H') : tT X e σ H Q := ⟨fun pins s I => thn (h.run pins s I) fun _ _ ⟨H', I', q⟩ => ⟨H', I', q (hlen I')⟩⟩
theorem tW_len {e : Expr} {σ : St} {H : Hp} {Q : Bool → Hp → Prop} (h : tW X e σ H fun v H' => HLen H' → Q v H') : tW X e σ H Q := ⟨fun wh pins s I => thn (h.run wh pins s I) fun _ _ ⟨H', I', q⟩ => ⟨H', I', q (hlen I')⟩⟩
theorem tA_len {es : List Expr} {σ : St} {H : Hp} {Q : List V → Hp → Prop} (h : tA X es σ H fun v H' => HLen H' → Q v H') : tA X es σ H Q := ⟨fun pos pins s I => thn (h.run pos pins s I) fun _ _ ⟨v, H', I', r, q⟩ => ⟨v, H', I', r, q (hlen I')⟩⟩

theorem tE_lenF {e : Expr} {σ : St} {H : Hp} {Q : VK} (h : ∀ (pins : List (Addr × Obj)) (s : Shared), Inv X pins σ H s → wpAny (model X.prog X.w) X.A (eval e X.env) (EP X pins σ fun v H' => HLen H' → Q v H') X.xe s) : tE X e σ H Q := tE_len ⟨h⟩
theorem tT_lenF {e : Expr} {σ : St} {H : Hp} {Q : Bool → Hp → Prop} (h : ∀ (pins : List (Addr × Obj)) (s : Shared), Inv X pins σ H s → wpAny (model X.prog X.w) X.A (isTrue e X.env (eval e X.env)) (TP X pins σ fun v H' => HLen H' → Q v H') X.xe s) : tT X e σ H Q := tT_len ⟨h⟩
theorem tW_lenF {e : Expr} {σ : St} {H : Hp} {Q : Bool → Hp → Prop} (h : ∀ (whole : Sem Value) (pins : List (Addr × Obj)) (s : Shared), Inv X pins σ H s → wpAny (model X.prog X.w) X.A (isTrue e X.env whole) (TP X pins σ fun v H' => HLen H' → Q v H') X.xe s) : tW X e σ H Q := tW_len ⟨h⟩
theorem tA_lenF {es : List Expr} {σ : St} {H : Hp} {Q : List V → Hp → Prop} (h : ∀ (pos : Pos) (pins : List (Addr × Obj)) (s : Shared), Inv X pins σ H s → wpAny (model X.prog X.w) X.A (spliced (backTo pos (starEach es X.env))) (AP X pins σ fun v H' => HLen H' → Q v H') X.xe s) : tA X es σ H Q := tA_len ⟨h⟩
/-- an expression, from the world G, H on: its value is told by P -/
def EvP (X : Cx) (e : Expr) (σ : St) (G H : Hp) (P : PV) : Prop :=
  ∀ G1 H1, Ext G H G1 H1 → ∀ Q : VK, (∀ G2 H2 v, Ext G1 H1 G2 H2 → HLen H2 → P G2 H2 v → Q v H2) → tE X e σ H1 Q
/-- .. it is the datum x -/
abbrev Ev {α : Type} [Rep α] (X : Cx) (e : Expr) (σ : St) (G H : Hp) (x : α) : Prop := EvP X e σ G H (Is X.K x)
/-- .. a list that may be read -/
abbrev EvL {α : Type} [Rep α] (X : Cx) (e : Expr) (σ : St) (G H : Hp) (xs : List α) : Prop := EvP X e σ G H (LstAt X.K xs)
/-- a test -/
def EvT (X : Cx) (e : Expr) (σ : St) (G H : Hp) (b : Bool) : Prop :=
  ∀ G1 H1, Ext G H G1 H1 → ∀ Q : Bool → Hp → Prop, (∀ G2 H2, Ext G1 H1 G2 H2 → HLen H2 → Q b H2) → tT X e σ H1 Q
def EvW (X : Cx) (e : Expr) (σ : St) (G H : Hp) (b : Bool) : Prop :=
  ∀ G1 H1, Ext G H G1 H1 → ∀ Q : Bool → Hp → Prop, (∀ G2 H2, Ext G1 H1 G2 H2 → HLen H2 → Q b H2) → tW X e σ H1 Q
/-- arguments -/
def EvA (X : Cx) (es : List Expr) (σ : St) (G H : Hp) (A : Hp → Hp → List V → Prop) : Prop :=
  ∀ G1 H1, Ext G H G1 H1 → ∀ Q : List V → Hp → Prop, (∀ G2 H2 vs, Ext G1 H1 G2 H2 → HLen H2 → A G2 H2 vs → Q vs H2) → tA X es σ H1 Q

variable {σ : St} {G H G' H' : Hp} {P Pa Pb : PV} {e a b c : Expr} {es : List Expr} {pos : Pos}
theorem EvP.mono (x : Ext G H G' H') (h : EvP X e σ G H P) : EvP X e σ G' H' P := fun G1 H1 x1 Q q => h G1 H1 (x.trans x1) Q q
theorem EvT.mono {b : Bool} (x : Ext G H G' H') (h : EvT X e σ G H b) : EvT X e σ G' H' b := fun G1 H1 x1 Q q => h G1 H1 (x.trans x1) Q q
theorem EvP.imp {P' : PV} (h : EvP X e σ G H P) (k : ∀ G1 H1 v, Ext G H G1 H1 → HLen H1 → P G1 H1 v → P' G1 H1 v) : EvP X e σ G H P' := fun G1 H1 x1 Q q =>
  h G1 H1 x1 Q fun G2 H2 v x2 l p => q G2 H2 v x2 l (k G2 H2 v (x1.trans x2) l p)
theorem evP_of {t : TE} (hp : PE X e t) (k : ∀ G1 H1, Ext G H G1 H1 → ∀ Q : VK, (∀ G2 H2 v, Ext G1 H1 G2 H2 → P G2 H2 v → Q v H2) → t σ H1 Q) : EvP X e σ G H P :=
  fun G1 H1 x1 _ q => tE_lenF fun pins s I => hp.run pins s σ H1 _ I (k G1 H1 x1 _ fun G2 H2 v x2 p hl => q G2 H2 v x2 hl p)
theorem evT_of {t : TT} {b : Bool} (hp : PT X e t) (k : ∀ G1 H1, Ext G H G1 H1 → ∀ Q : Bool → Hp → Prop, (∀ G2 H2, Ext G1 H1 G2 H2 → Q b H2) → t σ H1 Q) : EvT X e σ G H b :=
  fun G1 H1 x1 _ q => tT_lenF fun pins s I => hp.run pins s σ H1 _ I (k G1 H1 x1 _ fun G2 H2 x2 hl => q G2 H2 x2 hl)
theorem evW_of {t : TT} {b : Bool} (hp : PW X e t) (k : ∀ G1 H1, Ext G H G1 H1 → ∀ Q : Bool → Hp → Prop, (∀ G2 H2, Ext G1 H1 G2 H2 → Q b H2) → t σ H1 Q) : EvW X e σ G H b :=
  fun G1 H1 x1 _ q => tW_lenF fun wh pins s I => hp.run wh pins s σ H1 _ I (k G1 H1 x1 _ fun G2 H2 x2 hl => q G2 H2 x2 hl)
theorem evA_of {t : TA} {A : Hp → Hp → List V → Prop} (hp : PA X es t) (k : ∀ G1 H1, Ext G H G1 H1 → ∀ Q : List V → Hp → Prop, (∀ G2 H2 vs, Ext G1 H1 G2 H2 → A G2 H2 vs → Q vs H2) → t σ H1 Q) : EvA X es σ G H A :=
  fun G1 H1 x1 _ q => tA_lenF fun pos pins s I => hp.run pos pins s σ H1 _ I (k G1 H1 x1 _ fun G2 H2 vs x2 p hl => q G2 H2 vs x2 hl p)
/-- the datum may be told otherwise -/
theorem Ev.to {α : Type} [Rep α] {x y : α} (h : Ev X e σ G H x) (q : x = y) : Ev X e σ G H y := q ▸ h
theorem EvT.to {x y : Bool} (h : EvT X e σ G H x) (q : x = y) : EvT X e σ G H y := q ▸ h
theorem ev_l {α : Type} [Rep α] {xs : List α} (h : Ev X e σ G H xs) : EvL X e σ G H xs := h.imp fun _ _ _ x _ ⟨a, vs, e, g, p⟩ => ⟨a, vs, e, SqL.of (x.s _ _ g), p⟩
theorem ev_scr {xs : Scr} (h : Ev X e σ G H xs) : EvL X e σ G H xs.ns := h.imp fun _ _ _ x _ ⟨a, e, g⟩ => ⟨a, _, e, x.s.seq g, ints_paired _⟩

/-! ### names, constants -/
/-- a plain name -/
structure Nm (x : Str) : Prop where
  hd : (x == ("__debug__" : Str)) = false
  hcd : (x == ("__classdict__" : Str)) = false
  hn : x ≠ "__name__"
/-- the name x stands in the i-th slot -/
structure Sl (X : Cx) (i : Nat) (x : Str) : Prop where
  hN : X.N[i]? = some x
  hv : Vis X.env.scope x
  nm : Nm x
end
end RL

namespace RL
open PySem PySem.Spec PyProof.Rows L2 Rep
class MonoC (P : PV) : Prop where
  m : Mono P
instance {α : Type} [Rep α] {K : PySem.W.Frag} {x : α} : MonoC (Is K x) := ⟨mono_is⟩
instance {α : Type} [Rep α] {K : PySem.W.Frag} {xs : List α} : MonoC (LstAt K xs) := ⟨mono_lst⟩
/-- a list, a tuple of one kind, the script: what may be read -/
def SeqAt {α : Type} [Rep α] (K : PySem.W.Frag) (xs : List α) : PV := fun G H v => ∃ a vs, v = .ref a ∧ SqL K H a vs ∧ Paired (rep K G) vs xs
/-- .. that the program made -/
def OwnAt {α : Type} [Rep α] (K : PySem.W.Frag) (xs : List α) : PV := fun G H v => ∃ a vs, v = .ref a ∧ H a = some (.lst vs) ∧ Paired (rep K G) vs xs
instance {α : Type} [Rep α] {K : PySem.W.Frag} {xs : List α} : MonoC (SeqAt K xs) := ⟨fun _ _ _ _ _ x ⟨a, vs, e, g, p⟩ => ⟨a, vs, e, x.h.seq g, pair_up x.g p⟩⟩
instance {α : Type} [Rep α] {K : PySem.W.Frag} {xs : List α} : MonoC (OwnAt K xs) := ⟨fun _ _ _ _ _ x ⟨a, vs, e, g, p⟩ => ⟨a, vs, e, x.h _ _ g, pair_up x.g p⟩⟩
/-- P tells a list that may be read -/
class AsSeq (K : PySem.W.Frag) (P : PV) (α : outParam Type) (inst : outParam (Rep α)) (xs : outParam (List α)) : Prop where
  seq : ∀ G H v, Same G H → P G H v → SeqAt K xs G H v
class AsOwn (K : PySem.W.Frag) (P : PV) (α : outParam Type) (inst : outParam (Rep α)) (xs : outParam (List α)) : Prop where
  own : ∀ G H v, Same G H → P G H v → OwnAt K xs G H v
instance {α : Type} [i : Rep α] {K : PySem.W.Frag} {xs : List α} : AsSeq K (SeqAt K xs) α i xs := ⟨fun _ _ _ _ h => h⟩
instance {α : Type} [i : Rep α] {K : PySem.W.Frag} {xs : List α} : AsOwn K (OwnAt K xs) α i xs := ⟨fun _ _ _ _ h => h⟩
instance {α : Type} [i : Rep α] {K : PySem.W.Frag} {xs : List α} : AsOwn K (Is K xs) α i xs := ⟨fun _ _ _ s ⟨a, vs, e, g, p⟩ => ⟨a, vs, e, s _ _ g, p⟩⟩
instance {α : Type} [i : Rep α] {K : PySem.W.Frag} {xs : List α} : AsSeq K (Is K xs) α i xs := ⟨fun _ _ _ s ⟨a, vs, e, g, p⟩ => ⟨a, vs, e, .of (s _ _ g), p⟩⟩
instance {α : Type} [i : Rep α] {K : PySem.W.Frag} {xs : List α} : AsSeq K (OwnAt K xs) α i xs := ⟨fun _ _ _ _ ⟨a, vs, e, g, p⟩ => ⟨a, vs, e, .of g, p⟩⟩
instance {K : PySem.W.Frag} {x : Scr} : AsSeq K (Is K x) Int instRepInt x.ns := ⟨fun _ _ _ s ⟨a, e, g⟩ => ⟨a, _, e, s.seq g, ints_paired _⟩⟩

section
variable {X : Cx} {σ : St} {G H : Hp} {P Pa Pb : PV} {e a b c : Expr} {es : List Expr} {pos : Pos}
/-! ### names, constants -/
theorem ev_vP {i : Nat} {n : Str} {p : Pos} {v : V} [m : MonoC P] (s : Sl X i n) (r : P G H v) (h : σ[i]? = some (some v) := by rfl) : EvP X (.Name n p) σ G H P :=
  evP_of (pe_var s.hN s.hv s.nm.hd s.nm.hcd) fun G1 H1 x1 Q q => ⟨v, h, q G1 H1 v (Ext.refl x1.s) (m.m _ _ _ _ _ x1 r)⟩
theorem ev_v {α : Type} [Rep α] {x : α} {i : Nat} {n : Str} {p : Pos} {v : V} (s : Sl X i n) (r : rep X.K G v x) (h : σ[i]? = some (some v) := by rfl) : Ev X (.Name n p) σ G H x := ev_vP s (P := Is X.K x) r h
theorem ev_c {v : V} {t : TE} (h : PE X e (tC v)) (r : ∀ G1 H1, Ext G H G1 H1 → P G1 H1 v) : EvP X e σ G H P := evP_of h fun G1 H1 x1 Q q => q G1 H1 v (Ext.refl x1.s) (r G1 H1 x1)
theorem ev_int {i : Int} {j p} : Ev X (.Constant (.int i) j p) σ G H i := ev_c (t := tC .non) pe_int fun _ _ _ => rfl
theorem ev_bl {i : Bool} {j p} : Ev X (.Constant (.bool i) j p) σ G H i := ev_c (t := tC .non) pe_bl fun _ _ _ => rfl
theorem ev_str {i : Str} {j p} : Ev X (.Constant (.str i) j p) σ G H i := ev_c (t := tC .non) pe_str fun _ _ _ => rfl
theorem ev_none {α : Type} [Rep α] {j p} : Ev X (.Constant .none j p) σ G H (none : Option α) := ev_c (t := tC .non) pe_non fun _ _ _ => rfl
theorem ev_unit {j p} : Ev X (.Constant .none j p) σ G H () := ev_c (t := tC .non) pe_non fun _ _ _ => rfl
theorem ev_some {α : Type} [Rep α] {x : α} (h : Ev X e σ G H x) : Ev X e σ G H (some x) := h.imp fun _ _ _ _ _ r => r
theorem ev_glob {α : Type} [Rep α] {x : α} {n : Str} {p : Pos} {v : V} {u : Value} (hg : Gl X n) (hm : X.mg n = some u) (r : RelV v u) (q : ∀ G, rep X.K G v x) (hd : (n == ("__debug__" : Str)) = false := by decide) : Ev X (.Name n p) σ G H x :=
  ev_c (t := tC .non) (pe_glob hg hm r hd) fun _ _ _ => q _
/-- a built-in class, as a value -/
theorem ev_ty {n : Str} {p : Pos} {T : String} (hg : Gl X n) (hm : X.mg n = none) (hv : bootBuiltins n = some (.type T)) (hn : n ≠ "__name__" := by decide) (hd : (n == ("__debug__" : Str)) = false := by decide) : Ev X (.Name n p) σ G H (V.ty T) :=
  ev_c (t := tC .non) (pe_bltn (v := .ty T) hg hm hv rfl hn hd) fun _ _ _ => rfl

/-! ### two operands -/
/-- f of two values, told by data -/
def Bin (X : Cx) (f : Value → Value → Sem Value) (Pa Pb P : PV) (G H : Hp) : Prop :=
  ∃ r : R2, OpR X f r ∧ ∀ G1 H1 v u, Ext G H G1 H1 → HLen H1 → Pa G1 H1 v → Pb G1 H1 u → ∀ Q : VK, (∀ G2 H2 w, Ext G1 H1 G2 H2 → P G2 H2 w → Q w H2) → r v u H1 Q
theorem bin_go {f : R2} [m : MonoC Pa] (ha : EvP X a σ G H Pa) (hb : EvP X b σ G H Pb)
    (k : ∀ G1 H1 v u, Ext G H G1 H1 → HLen H1 → Pa G1 H1 v → Pb G1 H1 u → ∀ Q : VK, (∀ G2 H2 w, Ext G1 H1 G2 H2 → P G2 H2 w → Q w H2) → f v u H1 Q) :
    ∀ G1 H1, Ext G H G1 H1 → ∀ Q : VK, (∀ G2 H2 v, Ext G1 H1 G2 H2 → P G2 H2 v → Q v H2) → tOp f (tE X a) (tE X b) σ H1 Q := fun G1 H1 x1 Q q =>
  ha G1 H1 x1 _ fun G2 H2 v x2 _ pv => hb G2 H2 (x1.trans x2) _ fun G3 H3 u x3 l3 pu => k G3 H3 v u ((x1.trans x2).trans x3) l3 (m.m _ _ _ _ _ x3 pv) pu Q fun G4 H4 w x4 pw => q G4 H4 w ((x2.trans x3).trans x4) pw
theorem ev_bin {op : Operator} [m : MonoC Pa] (k : Bin X (binaryOp op) Pa Pb P G H) (ha : EvP X a σ G H Pa) (hb : EvP X b σ G H Pb) : EvP X (.BinOp a op b pos) σ G H P :=
  let ⟨_, ho, k⟩ := k; evP_of (pe_op ho pe_sem pe_sem) (bin_go ha hb k)
theorem ev_cmp {op : CmpOp} [m : MonoC Pa] (k : Bin X (compareOp op) Pa Pb P G H) (ha : EvP X a σ G H Pa) (hb : EvP X b σ G H Pb) (hm : behindInMarks op b = false := by first | exact nomark _ | rfl) : EvP X (.Compare a [op] [b] pos) σ G H P :=
  let ⟨_, ho, k⟩ := k; evP_of (pe_cmpR ho pe_sem pe_sem hm) (bin_go ha hb k)
theorem et_cmp {op : CmpOp} {d : Bool} [m : MonoC Pa] (k : Bin X (compareOp op) Pa Pb (Is X.K d) G H) (ha : EvP X a σ G H Pa) (hb : EvP X b σ G H Pb) (hm : behindInMarks op b = false := by first | exact nomark _ | rfl) : EvT X (.Compare a [op] [b] pos) σ G H d :=
  let ⟨_, ho, k⟩ := k; evT_of (pt_cmpR ho pe_sem pe_sem hm) fun G1 H1 x1 Q q => bin_go ha hb k G1 H1 x1 _ fun G2 H2 _ x2 r => ⟨d, r, q G2 H2 x2⟩
theorem bin_I {f : Value → Value → Sem Value} {C : Int → Int → Prop} {g : Int → Int → Int} {i j : Int} (ho : OpR X f (rI C fun i j => .int (g i j))) (hc : C i j) : Bin X f (Is X.K i) (Is X.K j) (Is X.K (g i j)) G H :=
  ⟨_, ho, fun G1 H1 _ _ x _ e1 e2 _ q => ⟨i, j, e1, e2, hc, q G1 H1 _ (Ext.refl x.s) rfl⟩⟩
theorem bin_I0 {f : Value → Value → Sem Value} {g : Int → Int → Int} {i j : Int} (ho : OpR X f (rI0 fun i j => .int (g i j))) : Bin X f (Is X.K i) (Is X.K j) (Is X.K (g i j)) G H :=
  ⟨_, ho, fun G1 H1 _ _ x _ e1 e2 _ q => ⟨i, j, e1, e2, q G1 H1 _ (Ext.refl x.s) rfl⟩⟩
theorem bin_B0 {f : Value → Value → Sem Value} {g : Int → Int → Bool} {i j : Int} (ho : OpR X f (rI0 fun i j => .bl (g i j))) : Bin X f (Is X.K i) (Is X.K j) (Is X.K (g i j)) G H :=
  ⟨_, ho, fun G1 H1 _ _ x _ e1 e2 _ q => ⟨i, j, e1, e2, q G1 H1 _ (Ext.refl x.s) rfl⟩⟩
variable {i j : Int}
theorem b_add : Bin X (binaryOp .Add) (Is X.K i) (Is X.K j) (Is X.K (i + j)) G H := bin_I0 (g := fun i j => i + j) op_add
theorem b_sub : Bin X (binaryOp .Sub) (Is X.K i) (Is X.K j) (Is X.K (i - j)) G H := bin_I0 (g := fun i j => i - j) op_sub
theorem b_mul (h : CMul i j) : Bin X (binaryOp .Mult) (Is X.K i) (Is X.K j) (Is X.K (i * j)) G H := bin_I (g := fun i j => i * j) op_mul h
theorem b_mulW (h : CMulW i j) : Bin X (binaryOp .Mult) (Is X.K i) (Is X.K j) (Is X.K (i * j)) G H := bin_I (g := fun i j => i * j) op_mulW h
theorem b_div (h : CDiv i j) : Bin X (binaryOp .FloorDiv) (Is X.K i) (Is X.K j) (Is X.K (i / j)) G H := bin_I (g := fun i j => i / j) op_fdiv h
theorem b_divW (h : CDivW i j) : Bin X (binaryOp .FloorDiv) (Is X.K i) (Is X.K j) (Is X.K (i / j)) G H := bin_I (g := fun i j => i / j) op_fdivW h
theorem b_mod (h : 0 < j) : Bin X (binaryOp .Mod) (Is X.K i) (Is X.K j) (Is X.K (i % j)) G H := bin_I (g := fun i j => i % j) op_mod h
theorem b_pow (h : CPow i j) : Bin X (binaryOp .Pow) (Is X.K i) (Is X.K j) (Is X.K (i ^ j.toNat)) G H := bin_I (g := fun i j => i ^ j.toNat) op_pow h
theorem b_shr (h : 0 ≤ j) : Bin X (binaryOp .RShift) (Is X.K i) (Is X.K j) (Is X.K (i / 2 ^ j.toNat)) G H := bin_I (g := fun i j => i / 2 ^ j.toNat) op_shr h
theorem b_shl (h : CPow i j) : Bin X (binaryOp .LShift) (Is X.K i) (Is X.K j) (Is X.K (i * 2 ^ j.toNat)) G H := bin_I (g := fun i j => i * 2 ^ j.toNat) op_shl h
theorem b_and : Bin X (binaryOp .BitAnd) (Is X.K i) (Is X.K j) (Is X.K (Builtin.bitAnd i j)) G H := bin_I0 (g := fun i j => Builtin.bitAnd i j) op_and
theorem b_or : Bin X (binaryOp .BitOr) (Is X.K i) (Is X.K j) (Is X.K (Builtin.bitOr i j)) G H := bin_I0 (g := fun i j => Builtin.bitOr i j) op_or
theorem i_add : Bin X (inplaceOp .Add) (Is X.K i) (Is X.K j) (Is X.K (i + j)) G H := bin_I0 (g := fun i j => i + j) iop_add
theorem i_sub : Bin X (inplaceOp .Sub) (Is X.K i) (Is X.K j) (Is X.K (i - j)) G H := bin_I0 (g := fun i j => i - j) iop_sub
theorem c_lt : Bin X (compareOp .Lt) (Is X.K i) (Is X.K j) (Is X.K (decide (i < j))) G H := bin_B0 (g := fun i j => decide (i < j)) op_lt
theorem c_le : Bin X (compareOp .LtE) (Is X.K i) (Is X.K j) (Is X.K (decide (i ≤ j))) G H := bin_B0 (g := fun i j => decide (i ≤ j)) op_le
theorem c_gt : Bin X (compareOp .Gt) (Is X.K i) (Is X.K j) (Is X.K (decide (i > j))) G H := bin_B0 (g := fun i j => decide (i > j)) op_gt
theorem c_ge : Bin X (compareOp .GtE) (Is X.K i) (Is X.K j) (Is X.K (decide (i ≥ j))) G H := bin_B0 (g := fun i j => decide (i ≥ j)) op_ge
theorem dec_i : decide (V.int i = V.int j) = decide (i = j) := by
  by_cases h : i = j
  · rw [decide_eq_true h, decide_eq_true (congrArg V.int h)]
  · rw [decide_eq_false h, decide_eq_false fun z => h (V.int.inj z)]
theorem c_eq : Bin X (compareOp .Eq) (Is X.K i) (Is X.K j) (Is X.K (decide (i = j))) G H :=
  ⟨_, op_eq, fun G1 H1 v u x _ e1 e2 Q q => by
    rw [show v = V.int i from e1, show u = V.int j from e2]
    refine ⟨rfl, ?_⟩
    rw [dec_i]
    exact q G1 H1 _ (Ext.refl x.s) rfl⟩
theorem c_ne : Bin X (compareOp .NotEq) (Is X.K i) (Is X.K j) (Is X.K (!decide (i = j))) G H :=
  ⟨_, op_ne, fun G1 H1 v u x _ e1 e2 Q q => by
    rw [show v = V.int i from e1, show u = V.int j from e2]
    refine ⟨rfl, ?_⟩
    rw [dec_i]
    exact q G1 H1 _ (Ext.refl x.s) rfl⟩
theorem dec_b {i j : Bool} : decide (V.bl i = V.bl j) = decide (i = j) := by
  by_cases h : i = j
  · rw [decide_eq_true h, decide_eq_true (congrArg V.bl h)]
  · rw [decide_eq_false h, decide_eq_false fun z => h (V.bl.inj z)]
theorem c_eqB {i j : Bool} : Bin X (compareOp .Eq) (Is X.K i) (Is X.K j) (Is X.K (decide (i = j))) G H :=
  ⟨_, op_eq, fun G1 H1 v u x _ e1 e2 Q q => by
    rw [show v = V.bl i from e1, show u = V.bl j from e2]
    refine ⟨rfl, ?_⟩
    rw [dec_b]
    exact q G1 H1 _ (Ext.refl x.s) rfl⟩
theorem c_neB {i j : Bool} : Bin X (compareOp .NotEq) (Is X.K i) (Is X.K j) (Is X.K (!decide (i = j))) G H :=
  ⟨_, op_ne, fun G1 H1 v u x _ e1 e2 Q q => by
    rw [show v = V.bl i from e1, show u = V.bl j from e2]
    refine ⟨rfl, ?_⟩
    rw [dec_b]
    exact q G1 H1 _ (Ext.refl x.s) rfl⟩
/-- is None -/
class NonV (α : Type) [Rep α] : Prop where
  nn : ∀ {K : PySem.W.Frag} {G : Hp} {v : V} {x : α}, rep K G v x → v ≠ .non
instance : NonV Int := ⟨fun h z => by rw [show _ = V.int _ from h] at z; cases z⟩
instance : NonV Bool := ⟨fun h z => by rw [show _ = V.bl _ from h] at z; cases z⟩
instance : NonV Str := ⟨fun h z => by rw [show _ = V.str _ from h] at z; cases z⟩
instance {α : Type} [Rep α] : NonV (List α) := ⟨fun ⟨a, _, e, _⟩ z => by rw [e] at z; cases z⟩
instance {α β : Type} [Rep α] [Rep β] : NonV (α × β) := ⟨fun ⟨a, _, _, e, _⟩ z => by rw [e] at z; cases z⟩
theorem opt_non {α : Type} [Rep α] [n : NonV α] {K : PySem.W.Frag} {G : Hp} {v : V} {x : Option α} (h : rep K G v x) : decide (v = .non) = x.isNone := by
  cases x with
  | none => exact decide_eq_true h
  | some y => exact decide_eq_false (n.nn (x := y) h)
theorem c_isN {α : Type} [Rep α] [NonV α] {x : Option α} : Bin X (compareOp .Is) (Is X.K x) (Is X.K ()) (Is X.K x.isNone) G H :=
  ⟨_, op_isN, fun G1 H1 v u x _ e1 e2 Q q => ⟨e2, by rw [opt_non e1]; exact q G1 H1 _ (Ext.refl x.s) rfl⟩⟩
theorem c_notN {α : Type} [Rep α] [NonV α] {x : Option α} : Bin X (compareOp .IsNot) (Is X.K x) (Is X.K ()) (Is X.K (!x.isNone)) G H :=
  ⟨_, op_notN, fun G1 H1 v u x _ e1 e2 Q q => ⟨e2, by rw [opt_non e1]; exact q G1 H1 _ (Ext.refl x.s) rfl⟩⟩
theorem ev_neg (h : Ev X a σ G H i) : Ev X (.UnaryOp .USub a pos) σ G H (-i) :=
  evP_of (pe_un un_neg pe_sem) fun G1 H1 x1 Q q => h G1 H1 x1 _ fun G2 H2 v x2 _ r => ⟨i, r, q G2 H2 _ x2 rfl⟩

/-! ### tests -/
variable {x y : Bool}
theorem et_val (h : Ev X e σ G H x) (he : ∀ whole, isTrue e X.env whole = (do let v ← whole; standAt e.pos; holding [v] (truthy v)) := by intro _; rfl) : EvT X e σ G H x :=
  evT_of (pt_val pe_sem he) fun G1 H1 x1 Q q => h G1 H1 x1 _ fun G2 H2 _ x2 _ r => ⟨x, r, q G2 H2 x2⟩
theorem et_w (h : EvW X e σ G H x) : EvT X e σ G H x := evT_of pw_sem.pt h'
  where h' := fun G1 H1 x1 Q q => h G1 H1 x1 Q fun G2 H2 x2 _ => q G2 H2 x2
theorem et_not (h : EvT X e σ G H x) : EvT X (.UnaryOp .Not e pos) σ G H (!x) :=
  evT_of (pt_not pt_sem) fun G1 H1 x1 Q q => h G1 H1 x1 _ fun G2 H2 x2 _ => q G2 H2 x2
theorem ew_and1 (h : EvT X e σ G H x) : EvW X (.BoolOp .And [e] pos) σ G H x := evW_of (pw_and1 pt_sem) fun G1 H1 x1 Q q => h G1 H1 x1 Q fun G2 H2 x2 _ => q G2 H2 x2
theorem ew_or1 (h : EvT X e σ G H x) : EvW X (.BoolOp .Or [e] pos) σ G H x := evW_of (pw_or1 pt_sem) fun G1 H1 x1 Q q => h G1 H1 x1 Q fun G2 H2 x2 _ => q G2 H2 x2
theorem ew_and (h : EvT X a σ G H x) (k : x = true → EvW X (.BoolOp .And (b :: es) pos) σ G H y) : EvW X (.BoolOp .And (a :: b :: es) pos) σ G H (x && y) :=
  evW_of (pw_and pt_sem pw_sem) fun G1 H1 x1 Q q => h G1 H1 x1 _ fun G2 H2 x2 _ => by
    cases x with
    | true =>
      show tW X _ σ H2 Q
      exact k rfl G2 H2 (x1.trans x2) Q fun G3 H3 x3 _ => q G3 H3 (x2.trans x3)
    | false =>
      show Q false H2
      exact q G2 H2 x2
theorem ew_or (h : EvT X a σ G H x) (k : x = false → EvW X (.BoolOp .Or (b :: es) pos) σ G H y) : EvW X (.BoolOp .Or (a :: b :: es) pos) σ G H (x || y) :=
  evW_of (pw_or pt_sem pw_sem) fun G1 H1 x1 Q q => h G1 H1 x1 _ fun G2 H2 x2 _ => by
    cases x with
    | true =>
      show Q true H2
      exact q G2 H2 x2
    | false =>
      show tW X _ σ H2 Q
      exact k rfl G2 H2 (x1.trans x2) Q fun G3 H3 x3 _ => q G3 H3 (x2.trans x3)
/-- .. as values -/
theorem ev_bo1 {op} (h : Ev X e σ G H x) : Ev X (.BoolOp op [e] pos) σ G H x := evP_of (pe_one pe_sem) fun G1 H1 x1 Q q => h G1 H1 x1 Q fun G2 H2 v x2 _ => q G2 H2 v x2
theorem ev_and (h : Ev X a σ G H x) (k : x = true → Ev X (.BoolOp .And (b :: es) pos) σ G H y) : Ev X (.BoolOp .And (a :: b :: es) pos) σ G H (x && y) :=
  evP_of (pe_and pe_sem pe_sem) fun G1 H1 x1 Q q => h G1 H1 x1 _ fun G2 H2 v x2 _ r => ⟨x, r, by
    cases x with
    | true =>
      show tE X _ σ H2 Q
      exact k rfl G2 H2 (x1.trans x2) Q fun G3 H3 w x3 _ => q G3 H3 w (x2.trans x3)
    | false =>
      show Q (.bl false) H2
      exact q G2 H2 _ x2 rfl⟩
theorem ev_or (h : Ev X a σ G H x) (k : x = false → Ev X (.BoolOp .Or (b :: es) pos) σ G H y) : Ev X (.BoolOp .Or (a :: b :: es) pos) σ G H (x || y) :=
  evP_of (pe_or pe_sem pe_sem) fun G1 H1 x1 Q q => h G1 H1 x1 _ fun G2 H2 v x2 _ r => ⟨x, r, by
    cases x with
    | true =>
      show Q (.bl true) H2
      exact q G2 H2 _ x2 rfl
    | false =>
      show tE X _ σ H2 Q
      exact k rfl G2 H2 (x1.trans x2) Q fun G3 H3 w x3 _ => q G3 H3 w (x2.trans x3)⟩
theorem ev_not (h : Ev X e σ G H x) : Ev X (.UnaryOp .Not e pos) σ G H (!x) := evP_of (pe_not pe_sem) fun G1 H1 x1 Q q => h G1 H1 x1 _ fun G2 H2 v x2 _ r => ⟨x, r, q G2 H2 _ x2 rfl⟩
theorem ev_ifP (h : EvT X c σ G H x) (h1 : x = true → EvP X a σ G H P) (h2 : x = false → EvP X b σ G H P) : EvP X (.IfExp c a b pos) σ G H P :=
  evP_of (pe_ifExp pt_sem pe_sem pe_sem) fun G1 H1 x1 Q q => h G1 H1 x1 _ fun G2 H2 x2 _ => by
    cases x with
    | true =>
      show tE X a σ H2 Q
      exact h1 rfl G2 H2 (x1.trans x2) Q fun G3 H3 w x3 _ => q G3 H3 w (x2.trans x3)
    | false =>
      show tE X b σ H2 Q
      exact h2 rfl G2 H2 (x1.trans x2) Q fun G3 H3 w x3 _ => q G3 H3 w (x2.trans x3)
theorem ev_if {α : Type} [Rep α] {u w : α} (h : EvT X c σ G H x) (h1 : x = true → Ev X a σ G H u) (h2 : x = false → Ev X b σ G H w) : Ev X (.IfExp c a b pos) σ G H (if x = true then u else w) :=
  ev_ifP h (fun z => (h1 z).to (by rw [if_pos z])) (fun z => (h2 z).to (by rw [if_neg (by rw [z]; decide)]))
/-- a op1 b op2 c, of ints -/
theorem ch_go {f g : R2} {Pc : PV} [ma : MonoC Pa] [mb : MonoC Pb] (ha : EvP X a σ G H Pa) (hb : EvP X b σ G H Pb) (hc : x = true → EvP X c σ G H Pc)
    (k : ∀ G1 H1 v u, Ext G H G1 H1 → HLen H1 → Pa G1 H1 v → Pb G1 H1 u → ∀ Q : VK, (∀ G2 H2 w, Ext G1 H1 G2 H2 → Is X.K x G2 H2 w → Q w H2) → f v u H1 Q)
    (k' : ∀ G1 H1 v u, Ext G H G1 H1 → HLen H1 → Pb G1 H1 v → Pc G1 H1 u → ∀ Q : VK, (∀ G2 H2 w, Ext G1 H1 G2 H2 → Is X.K y G2 H2 w → Q w H2) → g v u H1 Q) :
    ∀ G1 H1, Ext G H G1 H1 → ∀ Q : VK, (∀ G2 H2 v, Ext G1 H1 G2 H2 → Is X.K (x && y) G2 H2 v → Q v H2) → tChain f g (tE X a) (tE X b) (tE X c) σ H1 Q := fun G1 H1 x1 Q q =>
  ha G1 H1 x1 _ fun G2 H2 v x2 _ pv => hb G2 H2 (x1.trans x2) _ fun G3 H3 u x3 l3 pu => k G3 H3 v u ((x1.trans x2).trans x3) l3 (ma.m _ _ _ _ _ x3 pv) pu _ fun G4 H4 w x4 pw => ⟨x, pw, by
    have x14 := (x1.trans x2).trans (x3.trans x4)
    cases x with
    | true =>
      show tE X c σ H4 _
      exact hc rfl G4 H4 x14 _ fun G5 H5 t x5 l5 pt => k' G5 H5 u t (x14.trans x5) l5 (mb.m _ _ _ _ _ x5 (mb.m _ _ _ _ _ x4 pu)) pt Q fun G6 H6 r x6 pr => q G6 H6 r (((x2.trans x3).trans x4).trans (x5.trans x6)) pr
    | false =>
      show Q (.bl false) H4
      exact q G4 H4 _ ((x2.trans x3).trans x4) rfl⟩
theorem ev_chain {op op' : CmpOp} {Pc : PV} [ma : MonoC Pa] [mb : MonoC Pb] (k : Bin X (compareOp op) Pa Pb (Is X.K x) G H) (k' : Bin X (compareOp op') Pb Pc (Is X.K y) G H)
    (ha : EvP X a σ G H Pa) (hb : EvP X b σ G H Pb) (hc : x = true → EvP X c σ G H Pc) (hm : lastMarks [op, op'] [b, c] = false := by with_unfolding_all rfl) : Ev X (.Compare a [op, op'] [b, c] pos) σ G H (x && y) :=
  let ⟨_, ho, k⟩ := k; let ⟨_, ho', k'⟩ := k'; evP_of (pe_chain ho ho' pe_sem pe_sem pe_sem hm) (ch_go ha hb hc k k')
theorem et_chain {op op' : CmpOp} {Pc : PV} [ma : MonoC Pa] [mb : MonoC Pb] (k : Bin X (compareOp op) Pa Pb (Is X.K x) G H) (k' : Bin X (compareOp op') Pb Pc (Is X.K y) G H)
    (ha : EvP X a σ G H Pa) (hb : EvP X b σ G H Pb) (hc : x = true → EvP X c σ G H Pc) (hm : lastMarks [op, op'] [b, c] = false := by with_unfolding_all rfl) : EvT X (.Compare a [op, op'] [b, c] pos) σ G H (x && y) :=
  let ⟨_, ho, k⟩ := k; let ⟨_, ho', k'⟩ := k'; evT_of (pt_chain ho ho' pe_sem pe_sem pe_sem hm) fun G1 H1 x1 Q q => ch_go ha hb hc k k' G1 H1 x1 _ fun G2 H2 _ x2 r => ⟨_, r, q G2 H2 x2⟩

/-! ### arguments, displays -/
theorem ea_nil : EvA X [] σ G H (fun _ _ vs => vs = []) := evA_of pa_nil fun G1 H1 x1 Q q => q G1 H1 [] (Ext.refl x1.s) rfl
def ACons (P : PV) (A : Hp → Hp → List V → Prop) : Hp → Hp → List V → Prop := fun G H vs => ∃ v r, vs = v :: r ∧ P G H v ∧ A G H r
theorem ea_cons {A : Hp → Hp → List V → Prop} [m : MonoC P] (h : EvP X e σ G H P) (hr : EvA X es σ G H A) (hs : starEach (e :: es) X.env = (false, eval e X.env) :: starEach es X.env := by rfl) : EvA X (e :: es) σ G H (ACons P A) :=
  evA_of (pa_cons pe_sem pa_sem hs) fun G1 H1 x1 Q q => h G1 H1 x1 _ fun G2 H2 v x2 _ pv => hr G2 H2 (x1.trans x2) _ fun G3 H3 vs x3 _ pa => q G3 H3 _ (x2.trans x3) ⟨v, vs, rfl, m.m _ _ _ _ _ x3 pv, pa⟩
/-- items of one kind -/
def AAll {α : Type} [Rep α] (K : PySem.W.Frag) (xs : List α) : Hp → Hp → List V → Prop := fun G _ vs => Paired (rep K G) vs xs
theorem es_nil {α : Type} [Rep α] : EvA X [] σ G H (AAll X.K ([] : List α)) := evA_of pa_nil fun G1 H1 x1 Q q => q G1 H1 [] (Ext.refl x1.s) .nil
theorem es_cons {α : Type} [Rep α] {x : α} {xs : List α} (h : Ev X e σ G H x) (hr : EvA X es σ G H (AAll X.K xs)) (hs : starEach (e :: es) X.env = (false, eval e X.env) :: starEach es X.env := by rfl) : EvA X (e :: es) σ G H (AAll X.K (x :: xs)) :=
  evA_of (pa_cons pe_sem pa_sem hs) fun G1 H1 x1 Q q => h G1 H1 x1 _ fun G2 H2 v x2 _ pv => hr G2 H2 (x1.trans x2) _ fun G3 H3 vs x3 _ pa => q G3 H3 _ (x2.trans x3) (.cons (up x3.g pv) pa)
/-- it is x, and new -/
theorem frz_new {G H G1 H1 : Hp} {p : Addr} {o : HO} (x : Ext G H G1 H1) (hp : H1 p = none) : (upd G1 p o) p = some o := upd_same
theorem ev_list {α : Type} [Rep α] {xs : List α} (h : EvA X es σ G H (AAll X.K xs)) (hl : xs.length ≤ 1000 := by exact Nat.le_of_ble_eq_true rfl) : Ev X (.List es pos) σ G H xs :=
  evP_of (pe_lst pa_sem) fun G1 H1 x1 Q q => h G1 H1 x1 _ fun G2 H2 vs x2 _ pa => ⟨by rw [paired_len pa]; exact Nat.le_of_lt (small1000 hl), fun p hp =>
    q (upd G2 p (.lst vs)) _ _ (x2.new hp) ⟨p, vs, rfl, upd_same, pair_up (same_new (x2.s.free hp)) pa⟩⟩
theorem ev_tup {α β : Type} [Rep α] [Rep β] {x : α} {y : β} {k : Nat} (ha : Ev X a σ G H x) (hb : Ev X b σ G H y) (hs : starEach [a, b] X.env = (false, eval a X.env) :: starEach [b] X.env := by rfl) (hs' : starEach [b] X.env = (false, eval b X.env) :: starEach [] X.env := by rfl) :
    Ev X (.Tuple [a, b] k pos) σ G H (x, y) :=
  evP_of (pe_tup (pa_cons pe_sem (pa_cons pe_sem pa_nil hs') hs)) fun G1 H1 x1 Q q => ha G1 H1 x1 _ fun G2 H2 v x2 _ pv => hb G2 H2 (x1.trans x2) _ fun G3 H3 u x3 _ pu =>
    ⟨by show 2 ≤ sizeLine; decide, fun p hp => q (upd G3 p (.tup [v, u])) _ _ ((x2.trans x3).new hp) ⟨p, v, u, rfl, upd_same, up (same_new (x3.s.free hp)) (up x3.g pv), up (same_new (x3.s.free hp)) pu⟩⟩

/-! ### calls -/
/-- a def of the text that keeps its promise -/
structure Cal (P : Program) (w : World) (K : PySem.W.Frag) (mg : Str → Option Value) (base : Heap) (k : Nat) (x : Str) (sp : Sp) : Prop where
  ex : ∃ (f : Addr) (fd : FuncData) (ps : List Str), FnOk P w K mg base (L2.CX P w) k f fd ps sp ∧ mg x = some (.ref f) ∧ PySem.W.keepIn K (.ref f) = true ∧ Binds K fd ps []
theorem ev_call {k : Nat} {n : Str} {p : Pos} {sp : Sp} {A : Hp → Hp → List V → Prop} (C : Cal X.prog X.w X.K X.mg X.base k n sp) (hr : Room k X.A) (hg : Gl X n) (ha : EvA X (e :: es) σ G H A)
    (h : ∀ G1 H1 vs, Ext G H G1 H1 → HLen H1 → A G1 H1 vs → ∀ Q : VK, (∀ G2 H2 v, Ext G1 H1 G2 H2 → P G2 H2 v → Q v H2) → sp vs H1 Q E0) (hdb : (n == ("__debug__" : Str)) = false := by decide)
    (he : starEach (e :: es) X.env = (false, eval e X.env) :: starEach es X.env := by rfl) (hpl : (backTo pos (starEach es X.env)).any (·.1) = false := by rfl) : EvP X (.Call (.Name n p) (e :: es) [] pos) σ G H P := by
  obtain ⟨f, fd, ps, F, hm, hk, hb⟩ := C.ex
  exact evP_of (pe_call F hr hg hm hk hb .nil passL pa_sem hdb he hpl) fun G1 H1 x1 Q q => ha G1 H1 x1 _ fun G2 H2 vs x2 l2 pa => by
    show sp (vs ++ []) H2 Q E0
    rw [List.append_nil]
    exact h G2 H2 vs (x1.trans x2) l2 pa Q fun G3 H3 v x3 r => q G3 H3 v (x2.trans x3) r
/-- what is new, behind H -/
def New (H : Hp) (v : V) : Prop := ∀ p, v = .ref p → H p = none
section sps
variable {α β γ δ ε ζ : Type} [Rep α] [Rep β] [Rep γ] [Rep δ] [Rep ε] [Rep ζ]
/-- a def of one, two, .. arguments that hands back f of them; fr: a new object -/
def Sp1 (K : PySem.W.Frag) (fr : Bool) (pre : α → Prop) (f : α → ζ) : Sp := fun vs H Q _ => ∃ (G : Hp) (v1 : V) (x1 : α), vs = [v1] ∧ Same G H ∧ rep K G v1 x1 ∧ pre x1 ∧
  ∀ G2 H2 w, Ext G H G2 H2 → rep K G2 w (f x1) → (fr = true → New H w) → Q w H2
def Sp2 (K : PySem.W.Frag) (fr : Bool) (pre : α → β → Prop) (f : α → β → ζ) : Sp := fun vs H Q _ => ∃ (G : Hp) (v1 v2 : V) (x1 : α) (x2 : β), vs = [v1, v2] ∧ Same G H ∧ rep K G v1 x1 ∧ rep K G v2 x2 ∧ pre x1 x2 ∧
  ∀ G2 H2 w, Ext G H G2 H2 → rep K G2 w (f x1 x2) → (fr = true → New H w) → Q w H2
def Sp3 (K : PySem.W.Frag) (fr : Bool) (pre : α → β → γ → Prop) (f : α → β → γ → ζ) : Sp := fun vs H Q _ => ∃ (G : Hp) (v1 v2 v3 : V) (x1 : α) (x2 : β) (x3 : γ), vs = [v1, v2, v3] ∧ Same G H ∧ rep K G v1 x1 ∧ rep K G v2 x2 ∧ rep K G v3 x3 ∧ pre x1 x2 x3 ∧
  ∀ G2 H2 w, Ext G H G2 H2 → rep K G2 w (f x1 x2 x3) → (fr = true → New H w) → Q w H2
def Sp4 (K : PySem.W.Frag) (fr : Bool) (pre : α → β → γ → δ → Prop) (f : α → β → γ → δ → ζ) : Sp := fun vs H Q _ => ∃ (G : Hp) (v1 v2 v3 v4 : V) (x1 : α) (x2 : β) (x3 : γ) (x4 : δ), vs = [v1, v2, v3, v4] ∧ Same G H ∧ rep K G v1 x1 ∧ rep K G v2 x2 ∧ rep K G v3 x3 ∧ rep K G v4 x4 ∧ pre x1 x2 x3 x4 ∧
  ∀ G2 H2 w, Ext G H G2 H2 → rep K G2 w (f x1 x2 x3 x4) → (fr = true → New H w) → Q w H2
def Sp5 (K : PySem.W.Frag) (fr : Bool) (pre : α → β → γ → δ → ε → Prop) (f : α → β → γ → δ → ε → ζ) : Sp := fun vs H Q _ => ∃ (G : Hp) (v1 v2 v3 v4 v5 : V) (x1 : α) (x2 : β) (x3 : γ) (x4 : δ) (x5 : ε), vs = [v1, v2, v3, v4, v5] ∧ Same G H ∧ rep K G v1 x1 ∧ rep K G v2 x2 ∧ rep K G v3 x3 ∧ rep K G v4 x4 ∧ rep K G v5 x5 ∧ pre x1 x2 x3 x4 x5 ∧
  ∀ G2 H2 w, Ext G H G2 H2 → rep K G2 w (f x1 x2 x3 x4 x5) → (fr = true → New H w) → Q w H2
variable {k : Nat} {n : Str} {p : Pos} {fr : Bool} {e1 e2 e3 e4 e5 : Expr} {x1 : α} {x2 : β} {x3 : γ} {x4 : δ} {x5 : ε}
theorem ev_c1 {pre : α → Prop} {f : α → ζ} (C : Cal X.prog X.w X.K X.mg X.base k n (Sp1 X.K fr pre f)) (hr : Room k X.A) (hg : Gl X n) (h1 : Ev X e1 σ G H x1) (hp : pre x1) (hdb : (n == ("__debug__" : Str)) = false := by decide)
    (he : starEach [e1] X.env = (false, eval e1 X.env) :: starEach [] X.env := by rfl) : Ev X (.Call (.Name n p) [e1] [] pos) σ G H (f x1) :=
  ev_call C hr hg (ea_cons h1 ea_nil he) (fun G1 H1 vs x l ⟨v, r, e, rv, e'⟩ Q q => ⟨G1, v, x1, by rw [e, e'], x.s, rv, hp, fun G2 H2 w x r _ => q G2 H2 w x r⟩) hdb he rfl
theorem ev_c2 {pre : α → β → Prop} {f : α → β → ζ} (C : Cal X.prog X.w X.K X.mg X.base k n (Sp2 X.K fr pre f)) (hr : Room k X.A) (hg : Gl X n) (h1 : Ev X e1 σ G H x1) (h2 : Ev X e2 σ G H x2) (hp : pre x1 x2) (hdb : (n == ("__debug__" : Str)) = false := by decide)
    (he : starEach [e1, e2] X.env = (false, eval e1 X.env) :: starEach [e2] X.env := by rfl) (he2 : starEach [e2] X.env = (false, eval e2 X.env) :: starEach [] X.env := by rfl) (hpl : (backTo pos (starEach [e2] X.env)).any (·.1) = false := by rfl) : Ev X (.Call (.Name n p) [e1, e2] [] pos) σ G H (f x1 x2) :=
  ev_call C hr hg (ea_cons h1 (ea_cons h2 ea_nil he2) he) (fun G1 H1 vs x l ⟨v, r, e, rv, v2, r2, e', rv2, e''⟩ Q q => ⟨G1, v, v2, x1, x2, by rw [e, e', e''], x.s, rv, rv2, hp, fun G2 H2 w x r _ => q G2 H2 w x r⟩) hdb he hpl
theorem ev_c3 {pre : α → β → γ → Prop} {f : α → β → γ → ζ} (C : Cal X.prog X.w X.K X.mg X.base k n (Sp3 X.K fr pre f)) (hr : Room k X.A) (hg : Gl X n) (h1 : Ev X e1 σ G H x1) (h2 : Ev X e2 σ G H x2) (h3 : Ev X e3 σ G H x3) (hp : pre x1 x2 x3) (hdb : (n == ("__debug__" : Str)) = false := by decide)
    (he : starEach [e1, e2, e3] X.env = (false, eval e1 X.env) :: starEach [e2, e3] X.env := by rfl) (he2 : starEach [e2, e3] X.env = (false, eval e2 X.env) :: starEach [e3] X.env := by rfl) (he3 : starEach [e3] X.env = (false, eval e3 X.env) :: starEach [] X.env := by rfl) (hpl : (backTo pos (starEach [e2, e3] X.env)).any (·.1) = false := by rfl) : Ev X (.Call (.Name n p) [e1, e2, e3] [] pos) σ G H (f x1 x2 x3) :=
  ev_call C hr hg (ea_cons h1 (ea_cons h2 (ea_cons h3 ea_nil he3) he2) he) (fun G1 H1 vs x l ⟨v, r, e, rv, v2, r2, e', rv2, v3, r3, e'', rv3, e'''⟩ Q q => ⟨G1, v, v2, v3, x1, x2, x3, by rw [e, e', e'', e'''], x.s, rv, rv2, rv3, hp, fun G2 H2 w x r _ => q G2 H2 w x r⟩) hdb he hpl
theorem ev_c4 {pre : α → β → γ → δ → Prop} {f : α → β → γ → δ → ζ} (C : Cal X.prog X.w X.K X.mg X.base k n (Sp4 X.K fr pre f)) (hr : Room k X.A) (hg : Gl X n) (h1 : Ev X e1 σ G H x1) (h2 : Ev X e2 σ G H x2) (h3 : Ev X e3 σ G H x3) (h4 : Ev X e4 σ G H x4) (hp : pre x1 x2 x3 x4) (hdb : (n == ("__debug__" : Str)) = false := by decide)
    (he : starEach [e1, e2, e3, e4] X.env = (false, eval e1 X.env) :: starEach [e2, e3, e4] X.env := by rfl) (he2 : starEach [e2, e3, e4] X.env = (false, eval e2 X.env) :: starEach [e3, e4] X.env := by rfl) (he3 : starEach [e3, e4] X.env = (false, eval e3 X.env) :: starEach [e4] X.env := by rfl) (he4 : starEach [e4] X.env = (false, eval e4 X.env) :: starEach [] X.env := by rfl) (hpl : (backTo pos (starEach [e2, e3, e4] X.env)).any (·.1) = false := by rfl) : Ev X (.Call (.Name n p) [e1, e2, e3, e4] [] pos) σ G H (f x1 x2 x3 x4) :=
  ev_call C hr hg (ea_cons h1 (ea_cons h2 (ea_cons h3 (ea_cons h4 ea_nil he4) he3) he2) he) (fun G1 H1 vs x l ⟨v, r, e, rv, v2, r2, e', rv2, v3, r3, e'', rv3, v4, r4, e3', rv4, e4'⟩ Q q => ⟨G1, v, v2, v3, v4, x1, x2, x3, x4, by rw [e, e', e'', e3', e4'], x.s, rv, rv2, rv3, rv4, hp, fun G2 H2 w x r _ => q G2 H2 w x r⟩) hdb he hpl
end sps
/-- a built-in by name -/
theorem ev_callB {id : String} {r : List V → Hp → VK → Prop} {n : Str} {p : Pos} {A : Hp → Hp → List V → Prop} (hc : CallR X (.builtin id) r) (hg : Gl X n) (hm : X.mg n = none) (hv : bootBuiltins n = some (.builtin id)) (ha : EvA X (e :: es) σ G H A)
    (k : ∀ G1 H1 vs, Ext G H G1 H1 → HLen H1 → A G1 H1 vs → ∀ Q : VK, (∀ G2 H2 w, Ext G1 H1 G2 H2 → P G2 H2 w → Q w H2) → r vs H1 Q)
    (hn : n ≠ "__name__" := by decide) (hdb : (n == ("__debug__" : Str)) = false := by decide) (he : starEach (e :: es) X.env = (false, eval e X.env) :: starEach es X.env := by rfl) (hpl : (backTo pos (starEach es X.env)).any (·.1) = false := by rfl) : EvP X (.Call (.Name n p) (e :: es) [] pos) σ G H P :=
  evP_of (pe_callB hc hg hm hv pa_sem hn hdb he hpl) fun G1 H1 x1 Q q => ha G1 H1 x1 _ fun G2 H2 vs x2 l2 pa => k G2 H2 vs (x1.trans x2) l2 pa Q fun G3 H3 w x3 pw => q G3 H3 w (x2.trans x3) pw
theorem ev_callTy {T : String} {r : List V → Hp → VK → Prop} {n : Str} {p : Pos} {A : Hp → Hp → List V → Prop} (hc : CallR X (.type T) r) (hg : Gl X n) (hm : X.mg n = none) (hv : bootBuiltins n = some (.type T)) (ha : EvA X (e :: es) σ G H A)
    (k : ∀ G1 H1 vs, Ext G H G1 H1 → HLen H1 → A G1 H1 vs → ∀ Q : VK, (∀ G2 H2 w, Ext G1 H1 G2 H2 → P G2 H2 w → Q w H2) → r vs H1 Q)
    (hn : n ≠ "__name__" := by decide) (hdb : (n == ("__debug__" : Str)) = false := by decide) (he : starEach (e :: es) X.env = (false, eval e X.env) :: starEach es X.env := by rfl) (hpl : (backTo pos (starEach es X.env)).any (·.1) = false := by rfl) : EvP X (.Call (.Name n p) (e :: es) [] pos) σ G H P :=
  evP_of (pe_callTy hc hg hm hv pa_sem hn hdb he hpl) fun G1 H1 x1 Q q => ha G1 H1 x1 _ fun G2 H2 vs x2 l2 pa => k G2 H2 vs (x1.trans x2) l2 pa Q fun G3 H3 w x3 pw => q G3 H3 w (x2.trans x3) pw
/-- a name that is the built-in still -/
structure Bl (X : Cx) (n : Str) : Prop where
  g : Gl X n
  m : X.mg n = none
variable {p : Pos}
theorem ev_len {α : Type} {inst : Rep α} {xs : List α} [MonoC P] [s : AsSeq X.K P α inst xs] (B : Bl X "len") (h : EvP X e σ G H P) (he : starEach [e] X.env = (false, eval e X.env) :: starEach [] X.env := by rfl) : Ev X (.Call (.Name "len" p) [e] [] pos) σ G H (xs.length : Int) :=
  ev_callB call_len_seq B.g B.m PySem.boot_len (ea_cons h ea_nil he) (fun G1 H1 vs x l ⟨v, r, e1, pv, e2⟩ Q q => by
    obtain ⟨a, us, e, g, pr⟩ := s.seq _ _ _ x.s pv
    exact ⟨a, us, by rw [e1, e2, e], .inl g, q G1 H1 _ (Ext.refl x.s) (by rw [paired_len pr]; rfl)⟩) (by decide) (by decide) he rfl
theorem ev_max (B : Bl X "max") (hc : X.calm = true) (h1 : Ev X a σ G H i) (h2 : Ev X b σ G H j) (he : starEach [a, b] X.env = (false, eval a X.env) :: starEach [b] X.env := by rfl) (he2 : starEach [b] X.env = (false, eval b X.env) :: starEach [] X.env := by rfl)
    (hpl : (backTo pos (starEach [b] X.env)).any (·.1) = false := by rfl) : Ev X (.Call (.Name "max" p) [a, b] [] pos) σ G H (if j > i then j else i) :=
  ev_callB (call_max2 hc) B.g B.m boot_max (ea_cons h1 (ea_cons h2 ea_nil he2) he) (fun G1 H1 vs x l ⟨v, r, e1, pv, v2, r2, e2, pv2, e3⟩ Q q =>
    ⟨i, j, by rw [e1, e2, e3, show v = _ from pv, show v2 = _ from pv2], q G1 H1 _ (Ext.refl x.s) rfl⟩) (by decide) (by decide) he hpl
theorem ev_min (B : Bl X "min") (hc : X.calm = true) (h1 : Ev X a σ G H i) (h2 : Ev X b σ G H j) (he : starEach [a, b] X.env = (false, eval a X.env) :: starEach [b] X.env := by rfl) (he2 : starEach [b] X.env = (false, eval b X.env) :: starEach [] X.env := by rfl)
    (hpl : (backTo pos (starEach [b] X.env)).any (·.1) = false := by rfl) : Ev X (.Call (.Name "min" p) [a, b] [] pos) σ G H (if j < i then j else i) :=
  ev_callB (call_min2 hc) B.g B.m boot_min (ea_cons h1 (ea_cons h2 ea_nil he2) he) (fun G1 H1 vs x l ⟨v, r, e1, pv, v2, r2, e2, pv2, e3⟩ Q q =>
    ⟨i, j, by rw [e1, e2, e3, show v = _ from pv, show v2 = _ from pv2], q G1 H1 _ (Ext.refl x.s) rfl⟩) (by decide) (by decide) he hpl
theorem ev_sum {xs : List Int} [MonoC P] [s : AsSeq X.K P Int instRepInt xs] (B : Bl X "sum") (hc : X.calm = true) (h : EvP X e σ G H P) (he : starEach [e] X.env = (false, eval e X.env) :: starEach [] X.env := by rfl) : Ev X (.Call (.Name "sum" p) [e] [] pos) σ G H xs.sum :=
  ev_callB (cr_sum hc) B.g B.m boot_sum (ea_cons h ea_nil he) (fun G1 H1 vs x l ⟨v, r, e1, pv, e2⟩ Q q => by
    obtain ⟨a, us, e, g, pr⟩ := s.seq _ _ _ x.s pv
    rw [paired_ints pr] at g
    exact ⟨a, xs, by rw [e1, e2, e], g, q G1 H1 _ (Ext.refl x.s) rfl⟩) (by decide) (by decide) he rfl
/-- list(xs): a copy -/
theorem ev_copy {α : Type} {inst : Rep α} {xs : List α} [MonoC P] [s : AsSeq X.K P α inst xs] (B : Bl X "list") (h : EvP X e σ G H P) (he : starEach [e] X.env = (false, eval e X.env) :: starEach [] X.env := by rfl) : Ev X (.Call (.Name "list" p) [e] [] pos) σ G H xs :=
  ev_callTy call_list_of B.g B.m PyProof.Rows.boot_list (ea_cons h ea_nil he) (fun G1 H1 vs x l ⟨v, r, e1, pv, e2⟩ Q q => by
    obtain ⟨a, us, e, g, pr⟩ := s.seq _ _ _ x.s pv
    exact ⟨a, us, by rw [e1, e2, e], .inl g, fun p hp => q (upd G1 p (.lst us)) _ _ ((Ext.refl x.s).new hp) ⟨p, us, rfl, upd_same, pair_up (same_new (x.s.free hp)) pr⟩⟩) (by decide) (by decide) he rfl
theorem ev_intB (B : Bl X "int") (h : Ev X e σ G H x) (he : starEach [e] X.env = (false, eval e X.env) :: starEach [] X.env := by rfl) : Ev X (.Call (.Name "int" p) [e] [] pos) σ G H (if x = true then 1 else 0 : Int) :=
  ev_callTy call_int1 B.g B.m PyProof.Rows.boot_int (ea_cons h ea_nil he) (fun G1 H1 vs y l ⟨v, r, e1, pv, e2⟩ Q q => .inr ⟨x, by rw [e1, e2, show v = _ from pv], q G1 H1 _ (Ext.refl y.s) rfl⟩) (by decide) (by decide) he rfl

/-! ### lists -/
theorem b_cat {α : Type} {ia : Rep α} {xs ys : List α} [sa : AsOwn X.K Pa α ia xs] [sb : AsOwn X.K Pb α ia ys] (hl : xs.length + ys.length ≤ sizeLine) : Bin X (binaryOp .Add) Pa Pb (Is X.K (xs ++ ys)) G H :=
  ⟨_, op_cat, fun G1 H1 v u x _ h1 h2 Q q => by
    obtain ⟨a, us, e, g, pr⟩ := sa.own _ _ _ x.s h1
    obtain ⟨a2, us2, e2, g2, pr2⟩ := sb.own _ _ _ x.s h2
    exact ⟨a, a2, us, us2, e, e2, g, g2, by rw [paired_len pr, paired_len pr2]; exact hl, fun p hp => q (upd G1 p (.lst (us ++ us2))) _ _ ((Ext.refl x.s).new hp) ⟨p, _, rfl, upd_same, pair_up (same_new (x.s.free hp)) (paired_app pr pr2)⟩⟩⟩
theorem b_rep {α : Type} {ia : Rep α} {xs : List α} {k : Int} [sa : AsOwn X.K Pa α ia xs] (h1 : -(2 ^ 63) ≤ k) (h2 : k < 2 ^ 63) (hl : xs.length * k.toNat ≤ sizeLine) : Bin X (binaryOp .Mult) Pa (Is X.K k) (Is X.K (List.replicate k.toNat xs).flatten) G H :=
  ⟨_, op_rep, fun G1 H1 v u x _ e1 e2 Q q => by
    obtain ⟨a, us, e, g, pr⟩ := sa.own _ _ _ x.s e1
    refine ⟨a, k, us, e, e2, g, h1, h2, by rw [paired_len pr]; exact hl, fun p hp => q (upd G1 p (.lst _)) _ _ ((Ext.refl x.s).new hp) ⟨p, _, rfl, upd_same, pair_up (same_new (x.s.free hp)) ?_⟩⟩
    have z : ∀ n : Nat, Paired (rep X.K G1) (List.replicate n us).flatten (List.replicate n xs).flatten := fun n => by
      induction n with
      | zero => exact .nil
      | succ n ih =>
        rw [List.replicate_succ, List.replicate_succ, List.flatten_cons, List.flatten_cons]
        exact paired_app pr ih
    exact z _⟩
theorem ixN_of {n : Nat} {i : Int} (h0 : 0 ≤ i) (h1 : i < n) : ixN n i = some i.toNat := by
  unfold ixN
  rw [if_pos h0, if_pos h1]
theorem ixN_neg {n : Nat} {i : Int} (h0 : i < 0) (h1 : -(n : Int) ≤ i) : ixN n i = some (i + n).toNat := by
  unfold ixN
  rw [if_neg (by omega), if_pos h1]
theorem ixN_lt {n : Nat} {i : Int} {j : Nat} (h : ixN n i = some j) : j < n := (ixN_seq h).2.1
theorem ev_ixN {α : Type} {inst : Rep α} {xs : List α} [MonoC P] [s : AsSeq X.K P α inst xs] (d : α) {j : Nat} (h : EvP X a σ G H P) (hi : Ev X b σ G H i) (hj : ixN xs.length i = some j) (hs : PlainIx b := by intro _ _; rfl) : Ev X (.Subscript a b pos) σ G H (xs.getD j d) :=
  evP_of (pe_ix ix_list pe_sem pe_sem hs) (bin_go h hi fun G1 H1 v u x _ e1 e2 Q q => by
    obtain ⟨a, us, e, g, pr⟩ := s.seq _ _ _ x.s e1
    have hlt := ixN_lt hj
    have hg : xs[j]? = some (xs.getD j d) := by
      rw [List.getD_eq_getElem?_getD, List.getElem?_eq_getElem hlt]
      rfl
    obtain ⟨w, hw, rw'⟩ := paired_get pr hg
    refine ⟨a, us, i, w, e, e2, g, ?_, q G1 H1 w (Ext.refl x.s) rw'⟩
    unfold atI
    rw [paired_len pr, hj]
    exact hw)
theorem ev_ix {α : Type} {inst : Rep α} {xs : List α} [MonoC P] [s : AsSeq X.K P α inst xs] (d : α) (h : EvP X a σ G H P) (hi : Ev X b σ G H i) (h0 : 0 ≤ i) (h1 : i < (xs.length : Int)) (hs : PlainIx b := by intro _ _; rfl) : Ev X (.Subscript a b pos) σ G H (xs.getD i.toNat d) := ev_ixN d h hi (ixN_of h0 h1) hs
/-- t[0], t[1] of a pair -/
theorem ev_fst {α β : Type} [Rep α] [Rep β] {x : α × β} (h : Ev X a σ G H x) (hi : Ev X b σ G H (0 : Int)) (hs : PlainIx b := by intro _ _; rfl) : Ev X (.Subscript a b pos) σ G H x.1 :=
  evP_of (pe_ix ix_tup pe_sem pe_sem hs) (bin_go h hi fun G1 H1 v u y _ e1 e2 Q q => by
    obtain ⟨a, u1, w, e, g, p1, p2⟩ := e1
    exact ⟨a, _, 0, u1, e, e2, SqT.of (y.s _ _ g), rfl, q G1 H1 _ (Ext.refl y.s) p1⟩)
theorem ev_snd {α β : Type} [Rep α] [Rep β] {x : α × β} (h : Ev X a σ G H x) (hi : Ev X b σ G H (1 : Int)) (hs : PlainIx b := by intro _ _; rfl) : Ev X (.Subscript a b pos) σ G H x.2 :=
  evP_of (pe_ix ix_tup pe_sem pe_sem hs) (bin_go h hi fun G1 H1 v u y _ e1 e2 Q q => by
    obtain ⟨a, u1, w, e, g, p1, p2⟩ := e1
    exact ⟨a, _, 1, w, e, e2, SqT.of (y.s _ _ g), rfl, q G1 H1 _ (Ext.refl y.s) p2⟩)
/-- a slice's part -/
def EvO (X : Cx) (e : Option Expr) (σ : St) (G H : Hp) (o : Option Int) : Prop := ∃ t, PO X e t ∧ ∀ G1 H1, Ext G H G1 H1 → ∀ Q : Option Int → Hp → Prop, (∀ G2 H2, Ext G1 H1 G2 H2 → Q o H2) → t σ H1 Q
theorem eo_none : EvO X none σ G H none := ⟨_, po_none, fun G1 H1 x1 Q q => q G1 H1 (Ext.refl x1.s)⟩
theorem eo_some (h : Ev X e σ G H i) : EvO X (some e) σ G H (some i) := ⟨_, po_some pe_sem, fun G1 H1 x1 Q q => h G1 H1 x1 _ fun G2 H2 v x2 _ r => ⟨i, r, q G2 H2 x2⟩⟩
def cut {α : Type} (xs : List α) (lo hi : Option Int) : List α := (xs.drop (HT.sIx xs.length 0 lo)).take (HT.sIx xs.length xs.length hi - HT.sIx xs.length 0 lo)
theorem cut_le {α : Type} (xs : List α) (lo hi : Option Int) : (cut xs lo hi).length ≤ xs.length := by
  unfold cut
  rw [List.length_take, List.length_drop]
  omega
theorem getD_bd {xs : List Int} {d lo hi : Int} (i : Nat) (h : ∀ x ∈ xs, lo ≤ x ∧ x ≤ hi) (hd : lo ≤ d ∧ d ≤ hi) : lo ≤ xs.getD i d ∧ xs.getD i d ≤ hi := by
  rw [List.getD_eq_getElem?_getD]
  cases e : xs[i]? with
  | none => exact hd
  | some y => exact h y (List.mem_of_getElem? e)
theorem getD_bd' {xs : List Int} {d lo hi : Int} {i : Nat} (hl : i < xs.length) (h : ∀ x ∈ xs, lo ≤ x ∧ x ≤ hi) : lo ≤ xs.getD i d ∧ xs.getD i d ≤ hi := by
  rw [List.getD_eq_getElem?_getD, List.getElem?_eq_getElem hl]
  exact h _ (List.getElem_mem hl)
theorem paired_cut {α : Type} {F : V → α → Prop} {vs : List V} {xs : List α} {lo hi : Option Int} (h : Paired F vs xs) : Paired F (cutV vs lo hi) (cut xs lo hi) := by
  unfold cutV cut
  rw [paired_len h]
  exact paired_take _ (paired_drop _ h)
theorem ev_sl {α : Type} {inst : Rep α} {xs : List α} {lo hi : Option Expr} {l u : Option Int} {p2 : Pos} [m : MonoC P] [s : AsSeq X.K P α inst xs] (h : EvP X a σ G H P) (h1 : EvO X lo σ G H l) (h2 : EvO X hi σ G H u) : Ev X (.Subscript a (.Slice lo hi none p2) pos) σ G H (cut xs l u) := by
  obtain ⟨t1, p1, k1⟩ := h1
  obtain ⟨t2, p2, k2⟩ := h2
  exact evP_of (pe_slice sl_list pe_sem p1 p2) fun G1 H1 x1 Q q => h G1 H1 x1 _ fun G2 H2 v x2 _ pv => k1 G2 H2 (x1.trans x2) _ fun G3 H3 x3 => k2 G3 H3 ((x1.trans x2).trans x3) _ fun G4 H4 x4 => by
    obtain ⟨a, us, e, g, pr⟩ := s.seq _ _ _ x4.s (m.m _ _ _ _ _ (x3.trans x4) pv)
    exact ⟨a, us, e, g, fun p hp => q (upd G4 p (.lst _)) _ _ ((x2.trans (x3.trans x4)).new hp) ⟨p, _, rfl, upd_same, pair_up (same_new (x4.s.free hp)) (paired_cut pr)⟩⟩
end
end RL

namespace RL
open PySem PySem.Spec PyProof.Rows L2 Rep
/-! ### what is walked -/
/-- while the frozen part stands, J gives the data xs, one after another -/
def WalkOf {α : Type} [Rep α] (K : PySem.W.Frag) (J : It) (G : Hp) (xs : List α) : Prop :=
  ∀ G' H', Same G G' → Same G' H' → (∀ i, i < xs.length → J.go i H') ∧ J.stop xs.length H' ∧ ∀ i x v H'', xs[i]? = some x → J.yld i H' v H'' → ∃ G'', Ext G' H' G'' H'' ∧ rep K G'' v x
def EvI {α : Type} [Rep α] (X : Cx) (tg iter : Expr) (σ : St) (G H : Hp) (xs : List α) : Prop :=
  ∃ wi : TI, PI X tg iter wi ∧ ∀ G1 H1, Ext G H G1 H1 → ∀ R : It → Hp → Prop, (∀ J G2 H2, Ext G1 H1 G2 H2 → xs.length ≤ sizeLine → WalkOf X.K J G2 xs → R J H2) → wi σ H1 R
/-- P tells a list that stands still -/
class AsFrz (K : PySem.W.Frag) (P : PV) (α : outParam Type) (inst : outParam (Rep α)) (xs : outParam (List α)) : Prop where
  frz : ∀ G H v, Same G H → P G H v → SeqAt K xs G G v
instance {α : Type} [i : Rep α] {K : PySem.W.Frag} {xs : List α} : AsFrz K (Is K xs) α i xs := ⟨fun _ _ _ s ⟨a, vs, e, g, p⟩ => ⟨a, vs, e, .of g, p⟩⟩
instance {K : PySem.W.Frag} {x : Scr} : AsFrz K (Is K x) Int instRepInt x.ns := ⟨fun _ _ _ s ⟨a, e, g⟩ => ⟨a, _, e, g, ints_paired _⟩⟩
/-- lo, lo + 1, .. below hi -/
def rng (lo hi : Int) : List Int := (List.range (hi - lo).toNat).map fun (k : Nat) => lo + (k : Int)
theorem rng_len {lo hi : Int} : (rng lo hi).length = (hi - lo).toNat := by simp [rng]
theorem rng_get {lo hi : Int} {i : Nat} {x : Int} (h : (rng lo hi)[i]? = some x) : i < (hi - lo).toNat ∧ x = lo + (i : Int) := by
  unfold rng at h
  rw [List.getElem?_map] at h
  by_cases hi : i < (hi - lo).toNat
  · rw [List.getElem?_range hi] at h
    exact ⟨hi, (Option.some.inj h).symm⟩
  · rw [List.getElem?_eq_none (by simpa using hi)] at h
    cases h
theorem mem_rng {lo hi x : Int} : x ∈ rng lo hi ↔ lo ≤ x ∧ x < hi := by
  unfold rng
  rw [List.mem_map]
  constructor
  · rintro ⟨k, hk, e⟩
    have := List.mem_range.mp hk
    omega
  · intro h
    exact ⟨(x - lo).toNat, List.mem_range.mpr (by omega), by omega⟩
def enum {α : Type} (xs : List α) : List (Int × α) := xs.zipIdx.map fun p => ((p.2 : Int), p.1)
theorem enum_len {α : Type} (xs : List α) : (enum xs).length = xs.length := by simp [enum]
theorem enum_get {α : Type} {xs : List α} {i : Nat} {p : Int × α} (h : (enum xs)[i]? = some p) : p.1 = (i : Int) ∧ xs[i]? = some p.2 := by
  unfold enum at h
  rw [List.getElem?_map, List.getElem?_zipIdx] at h
  cases q : xs[i]? with
  | none =>
    rw [q] at h
    cases h
  | some x =>
    rw [q] at h
    have e := Option.some.inj h
    rw [← e]
    exact ⟨by simp, rfl⟩
section
variable {X : Cx} {σ : St} {G H : Hp} {P Pa Pb : PV} {e a b c tg : Expr} {es : List Expr} {pos p : Pos} {i j k : Int}
theorem ei_list {α : Type} {inst : Rep α} {xs : List α} [s : AsFrz X.K P α inst xs] (h : EvP X e σ G H P) : EvI X tg e σ G H xs :=
  ⟨_, pi_list pe_sem, fun G1 H1 x1 R r => h G1 H1 x1 _ fun G2 H2 v x2 l2 pv => by
    obtain ⟨a, us, e, g, pr⟩ := s.frz _ _ _ x2.s pv
    refine ⟨a, e, ⟨us, x2.s.seq g⟩, r _ G2 H2 x2 (by rw [← paired_len pr]; exact sql_len l2 (x2.s.seq g)) fun G' H' s1 s2 => ?_⟩
    have hq : SqL X.K H' a us := s2.seq (s1.seq g)
    refine ⟨fun i hi => ?_, ⟨us, hq, by rw [paired_len pr]; exact Nat.le_refl _⟩, fun i x v H'' hx y => ?_⟩
    · rw [← paired_len pr] at hi
      exact ⟨us, us[i], hq, List.getElem?_eq_getElem hi⟩
    · obtain ⟨rfl, y⟩ := y
      obtain ⟨w, hw, rw'⟩ := paired_get pr hx
      have e : w = v := Option.some.inj (hw.symm.trans (y us hq))
      exact ⟨G', Ext.refl s2, up s1 (e ▸ rw')⟩⟩
theorem walk_rng {K : PySem.W.Frag} {lo : Int} {n : Nat} {hi : Int} (e : n = (hi - lo).toNat) : WalkOf K (Itr lo n) G (rng lo hi) := fun G' H' s1 s2 => by
  subst e
  refine ⟨fun i h => by rw [rng_len] at h; exact h, by rw [rng_len]; exact Nat.le_refl _, fun i x v H'' hx y => ?_⟩
  obtain ⟨rfl, y⟩ := y
  obtain ⟨_, e⟩ := rng_get hx
  rw [e]
  exact ⟨G', Ext.refl s2, y⟩
theorem ei_range1 (B : Bl X "range") (h : Ev X a σ G H j) (h1 : -(2 ^ 62) ≤ j) (h2 : j ≤ 16777216) (he : starEach [a] X.env = (false, eval a X.env) :: starEach [] X.env := by rfl) (hs : starEach [a] X.env = [(false, eval a X.env)] := by rfl) :
    EvI X tg (.Call (.Name "range" p) [a] [] pos) σ G H (rng 0 j) :=
  ⟨_, pi_range1 B.g B.m (pa_cons pe_sem pa_nil he) hs, fun G1 H1 x1 R r => h G1 H1 x1 _ fun G2 H2 v x2 _ pv => ⟨j, by rw [show v = _ from pv], h1, by omega, r _ G2 H2 x2 (by rw [rng_len, sizeLine_eq]; omega) (walk_rng (by rw [Int.sub_zero]))⟩⟩
theorem ei_range2 (B : Bl X "range") (h : Ev X a σ G H i) (h' : Ev X b σ G H j) (hb : (-(2 ^ 62) ≤ i ∧ i < 2 ^ 62) ∧ -(2 ^ 62) ≤ j ∧ j < 2 ^ 62 ∧ j - i ≤ 16777216) (he : starEach [a, b] X.env = (false, eval a X.env) :: starEach [b] X.env := by rfl) (he2 : starEach [b] X.env = (false, eval b X.env) :: starEach [] X.env := by rfl)
    (hs : starEach [a, b] X.env = [(false, eval a X.env), (false, eval b X.env)] := by rfl) (hs2 : starEach [b] X.env = [(false, eval b X.env)] := by rfl) :
    EvI X tg (.Call (.Name "range" p) [a, b] [] pos) σ G H (rng i j) :=
  ⟨_, pi_range2 B.g B.m (pa_cons pe_sem (pa_cons pe_sem pa_nil he2) he) hs hs2, fun G1 H1 x1 R r => h G1 H1 x1 _ fun G2 H2 v x2 _ pv => h' G2 H2 (x1.trans x2) _ fun G3 H3 u x3 _ pu =>
    ⟨i, j, by rw [show v = _ from pv, show u = _ from pu], ⟨hb.1.1, hb.1.2, hb.2.1, hb.2.2.1⟩, r _ G3 H3 (x2.trans x3) (by rw [rng_len, sizeLine_eq]; omega) (walk_rng rfl)⟩⟩
theorem pair_new {α β : Type} [Rep α] [Rep β] {K : PySem.W.Frag} {G H : Hp} {T : Addr} {v u : V} {x : α} {y : β} (s : Same G H) (hT : H T = none) (hv : rep K G v x) (hu : rep K G u y) :
    ∃ G'', Ext G H G'' (upd H T (.tup [v, u])) ∧ rep K G'' (V.ref T) (x, y) :=
  ⟨upd G T (.tup [v, u]), (Ext.refl s).new hT, ⟨T, v, u, rfl, upd_same, up (same_new (s.free hT)) hv, up (same_new (s.free hT)) hu⟩⟩
theorem ei_enum {α : Type} {inst : Rep α} {xs : List α} {elts : List Expr} {kk : Nat} {tpos : Pos} [s : AsFrz X.K P α inst xs] (B : Bl X "enumerate") (h : EvP X e σ G H P) (he : starEach [e] X.env = (false, eval e X.env) :: starEach [] X.env := by rfl) (hs : starEach [e] X.env = [(false, eval e X.env)] := by rfl) :
    EvI X (.Tuple elts kk tpos) (.Call (.Name "enumerate" p) [e] [] pos) σ G H (enum xs) :=
  ⟨_, pi_enum B.g B.m (pa_cons pe_sem pa_nil he) hs, fun G1 H1 x1 R r => h G1 H1 x1 _ fun G2 H2 v x2 l2 pv => by
    obtain ⟨a, us, e, g, pr⟩ := s.frz _ _ _ x2.s pv
    refine ⟨a, us, by rw [e], x2.s.seq g, r _ G2 H2 x2 (by rw [enum_len, ← paired_len pr]; exact sql_len l2 (x2.s.seq g)) fun G' H' s1 s2 => ?_⟩
    have hq : SqL X.K H' a us := s2.seq (s1.seq g)
    refine ⟨fun i hi => ?_, ⟨us, hq, by rw [enum_len, paired_len pr]; exact Nat.le_refl _⟩, fun i x v H'' hx y => ?_⟩
    · rw [enum_len, ← paired_len pr] at hi
      exact ⟨us, us[i], hq, List.getElem?_eq_getElem hi⟩
    · obtain ⟨T, w, rfl, hT, rfl, y⟩ := y
      obtain ⟨e1, e2⟩ := enum_get hx
      obtain ⟨w', hw, rw'⟩ := paired_get pr e2
      have e : w' = w := Option.some.inj (hw.symm.trans (y us hq))
      subst e
      obtain ⟨x1, x2⟩ := x
      have e1 : x1 = (i : Int) := e1
      subst e1
      exact pair_new (x := (i : Int)) (y := x2) (K := X.K) s2 hT rfl (up s1 rw')⟩
theorem ei_zip {α β : Type} {ia : Rep α} {ib : Rep β} {xs : List α} {ys : List β} {elts : List Expr} {kk : Nat} {tpos : Pos} [m : MonoC Pa] [sa : AsFrz X.K Pa α ia xs] [sb : AsFrz X.K Pb β ib ys] (B : Bl X "zip") (h : EvP X a σ G H Pa) (h' : EvP X b σ G H Pb)
    (he : starEach [a, b] X.env = (false, eval a X.env) :: starEach [b] X.env := by rfl) (he2 : starEach [b] X.env = (false, eval b X.env) :: starEach [] X.env := by rfl) (hpl : (backTo pos (starEach [b] X.env)).any (·.1) = false := by rfl) :
    EvI X (.Tuple elts kk tpos) (.Call (.Name "zip" p) [a, b] [] pos) σ G H (xs.zip ys) :=
  ⟨_, pi_zip B.g B.m (pa_cons pe_sem (pa_cons pe_sem pa_nil he2) he) he hpl, fun G1 H1 x1 R r => h G1 H1 x1 _ fun G2 H2 v x2 _ pv => h' G2 H2 (x1.trans x2) _ fun G3 H3 u x3 l3 pu => by
    obtain ⟨a1, us, e, g, pr⟩ := sa.frz _ _ _ x3.s (m.m _ _ _ _ _ x3 pv)
    obtain ⟨a2, us2, e', g', pr'⟩ := sb.frz _ _ _ x3.s pu
    refine ⟨a1, a2, us, us2, by rw [e, e'], x3.s.seq g, x3.s.seq g', r _ G3 H3 (x2.trans x3) (by have z := sql_len l3 (x3.s.seq g); rw [paired_len pr] at z; rw [List.length_zip]; omega) fun G' H' s1 s2 => ?_⟩
    have hq : SqL X.K H' a1 us := s2.seq (s1.seq g)
    have hq' : SqL X.K H' a2 us2 := s2.seq (s1.seq g')
    refine ⟨fun i hi => ?_, ⟨us, us2, hq, hq', ?_⟩, fun i x v H'' hx y => ?_⟩
    · rw [List.length_zip, ← paired_len pr, ← paired_len pr'] at hi
      have h1 : i < us.length := by omega
      have h2 : i < us2.length := by omega
      exact ⟨us, us2, us[i], us2[i], hq, hq', List.getElem?_eq_getElem h1, List.getElem?_eq_getElem h2⟩
    · rw [List.length_zip, ← paired_len pr, ← paired_len pr']
      omega
    · obtain ⟨T, w, w2, rfl, hT, rfl, y, y2⟩ := y
      obtain ⟨e1, e2⟩ := List.getElem?_zip_eq_some.mp hx
      obtain ⟨w', hw, rw'⟩ := paired_get pr e1
      obtain ⟨w2', hw2, rw2'⟩ := paired_get pr' e2
      have e : w' = w := Option.some.inj (hw.symm.trans (y us hq))
      have e2 : w2' = w2 := Option.some.inj (hw2.symm.trans (y2 us2 hq'))
      subst e e2
      exact pair_new (x := x.1) (y := x.2) (K := X.K) s2 hT (up s1 rw') (up s1 rw2')⟩
theorem ei_rev {α : Type} {inst : Rep α} {xs : List α} [s : AsFrz X.K P α inst xs] (B : Bl X "reversed") (h : EvP X e σ G H P) (he : starEach [e] X.env = (false, eval e X.env) :: starEach [] X.env := by rfl) (hs : starEach [e] X.env = [(false, eval e X.env)] := by rfl) :
    EvI X tg (.Call (.Name "reversed" p) [e] [] pos) σ G H xs.reverse :=
  ⟨_, pi_reversed B.g B.m (pa_cons pe_sem pa_nil he) hs, fun G1 H1 x1 R r => h G1 H1 x1 _ fun G2 H2 v x2 l2 pv => by
    obtain ⟨a, us, e, g, pr⟩ := s.frz _ _ _ x2.s pv
    refine ⟨a, us, by rw [e], x2.s.seq g, r _ G2 H2 x2 (by rw [List.length_reverse, ← paired_len pr]; exact sql_len l2 (x2.s.seq g)) fun G' H' s1 s2 => ?_⟩
    have hq : SqL X.K H' a us := s2.seq (s1.seq g)
    refine ⟨fun i hi => ?_, by rw [List.length_reverse, paired_len pr]; exact Nat.le_refl _, fun i x v H'' hx y => ?_⟩
    · rw [List.length_reverse, ← paired_len pr] at hi
      exact ⟨hi, us, us[us.length - 1 - i]'(by omega), hq, List.getElem?_eq_getElem (by omega)⟩
    · obtain ⟨rfl, y⟩ := y
      have hi : i < xs.length := by
        have := (List.getElem?_eq_some_iff.mp hx).1
        rwa [List.length_reverse] at this
      rw [List.getElem?_reverse hi, ← paired_len pr] at hx
      obtain ⟨w, hw, rw'⟩ := paired_get pr hx
      have e : w = v := Option.some.inj (hw.symm.trans (y us hq))
      exact ⟨G', Ext.refl s2, up s1 (e ▸ rw')⟩⟩
theorem paired_rev {α β : Type} {F : α → β → Prop} : ∀ {vs : List α} {ys : List β}, Paired F vs ys → Paired F vs.reverse ys.reverse
  | _, _, .nil => .nil
  | _, _, .cons r t => by
    rw [List.reverse_cons, List.reverse_cons]
    exact paired_app (paired_rev t) (.cons r .nil)
theorem ev_revsl {α : Type} {inst : Rep α} {xs : List α} {k0 : Nat} {p1 p2 p3 : Pos} [s : AsSeq X.K P α inst xs] (h : EvP X e σ G H P) : Ev X (.Subscript e (.Slice none none (some (.UnaryOp .USub (.Constant (.int 1) k0 p1) p2)) p3) pos) σ G H xs.reverse :=
  evP_of (pe_revL pe_sem) fun G1 H1 x1 Q q => h G1 H1 x1 _ fun G2 H2 v x2 _ pv => by
    obtain ⟨a, us, e, g, pr⟩ := s.seq _ _ _ x2.s pv
    refine ⟨a, us, e, g, fun p hp => q (upd G2 p (.lst _)) _ _ (x2.new hp) ⟨p, _, rfl, upd_same, pair_up (same_new (x2.s.free hp)) ?_⟩⟩
    exact paired_rev pr

/-! ### comprehensions -/
/-- the tests of a clause -/
def EvTs (X : Cx) (ifs : List Expr) (σ : St) (G H : Hp) (b : Bool) : Prop := ∀ G1 H1, Ext G H G1 H1 → ∀ Q : Bool → Hp → Prop, (∀ G2 H2, Ext G1 H1 G2 H2 → Q b H2) →
  ∀ (pins : List (Addr × Obj)) (s : Shared), Inv X pins σ H1 s → wpAny (model X.prog X.w) X.A (forIn ifs true fun c r => if r = true then do let ok ← isTrue c X.env (eval c X.env); pure (ForInStep.yield ok) else pure (ForInStep.yield r)) (TP X pins σ Q) X.xe s
theorem ets_nil : EvTs X [] σ G H true := fun G1 H1 x1 Q q pins s I => pts_nil.run pins s σ H1 Q I (q G1 H1 (Ext.refl x1.s))
theorem ets_one {x : Bool} (h : EvT X e σ G H x) : EvTs X [e] σ G H x := fun G1 H1 x1 Q q pins s I => (pts_one pt_sem).run pins s σ H1 Q I (h G1 H1 x1 Q fun G2 H2 x2 _ => q G2 H2 x2)
/-- the context of a comprehension's block -/
abbrev InB (X : Cx) (scope : Scope) (s : Shared) (H0 : Hp) (C : Addr) (cl : List (Str × Addr)) (fp : List Addr) : Cx := X.blk s H0 scope (compEnvC scope cl C X.env) fp
def lcT (X : Cx) (scope : Scope) (ifs : List Expr) : TT := fun σ H Q => ∀ s H0 C cl fp (pins : List (Addr × Obj)) (s' : Shared), Inv (InB X scope s H0 C cl fp) pins σ H s' →
  wpAny (model X.prog X.w) X.A (forIn ifs true fun c r => if r = true then do let ok ← isTrue c (compEnvC scope cl C X.env) (eval c (compEnvC scope cl C X.env)); pure (ForInStep.yield ok) else pure (ForInStep.yield r)) (TP (InB X scope s H0 C cl fp) pins σ Q) (fun _ _ => False) s'
def lcE (X : Cx) (scope : Scope) (elt : Expr) : TE := fun σ H Q => ∀ s H0 C cl fp, tE (InB X scope s H0 C cl fp) elt σ H Q
theorem pts_lc {scope : Scope} {ifs : List Expr} : ∀ (s : Shared) (H : Hp) (C : Addr) (cl : List (Str × Addr)) (fp : List Addr), PTs (X.blk s H scope (compEnvC scope cl C X.env) fp) ifs (lcT X scope ifs) := fun s H C cl fp => ⟨fun pins s' _ _ _ I h => h s H C cl fp pins s' I⟩
theorem pe_lcE {scope : Scope} {elt : Expr} : ∀ (s : Shared) (H : Hp) (C : Addr) (cl : List (Str × Addr)) (fp : List Addr), PE (X.blk s H scope (compEnvC scope cl C X.env) fp) elt (lcE X scope elt) := fun s H C cl fp => ⟨fun pins s' _ _ _ I h => (h s H C cl fp).run pins s' I⟩
/-- what a target does with a datum: the slots behind it -/
abbrev TgT (α : Type) := Hp → α → St → St → Prop
def T1 {α : Type} [Rep α] (K : PySem.W.Frag) (i : Nat) : TgT α := fun G x σ σ' => ∃ v, rep K G v x ∧ σ' = σ.set i (some v)
def T2 {α β : Type} [Rep α] [Rep β] (K : PySem.W.Frag) (i j : Nat) : TgT (α × β) := fun G x σ σ' => ∃ u w, rep K G u x.1 ∧ rep K G w x.2 ∧ σ' = (σ.set i (some u)).set j (some w)
def Acts {α : Type} [Rep α] (K : PySem.W.Frag) (g : TG) (T : TgT α) : Prop := ∀ x v G H σ (Q : St → Hp → Prop), Same G H → rep K G v x → (∀ σ', T G x σ σ' → Q σ' H) → g v σ H Q
theorem acts1 {α : Type} [Rep α] {K : PySem.W.Frag} {i : Nat} : Acts K (gName i) (T1 (α := α) K i) := fun x v G H σ Q s r q => q _ ⟨v, r, rfl⟩
theorem acts2 {α β : Type} [Rep α] [Rep β] {K : PySem.W.Frag} {i j : Nat} : Acts K (gTup K 2 (gCons (gName i) (gCons (gName j) gNil))) (T2 (α := α) (β := β) K i j) := fun x v G H σ Q s r q => by
  obtain ⟨a, u, w, e, g, p1, p2⟩ := r
  exact ⟨a, _, e, .of (s _ _ g), rfl, u, [w], rfl, w, [], rfl, rfl, q _ ⟨u, w, p1, p2, rfl⟩⟩
theorem lc_go {α β : Type} [Rep α] [Rep β] {xs : List α} {f : α → β} {t : α → Bool} {elt : Expr} {ifs : List Expr} {scope : Scope} {vs : List Nat} {g : TG} {T : TgT α} {wi : TI}
    (hi : ∀ G1 H1, Ext G H G1 H1 → ∀ R : It → Hp → Prop, (∀ J G2 H2, Ext G1 H1 G2 H2 → xs.length ≤ sizeLine → WalkOf X.K J G2 xs → R J H2) → wi σ H1 R) (hg : Acts X.K g T) (hw : ∀ G x σ', T G x (wipe σ vs) σ' → wipe σ' vs = wipe σ vs)
    (ht : ∀ x G1 H1 σ', x ∈ xs → Ext G H G1 H1 → T G1 x (wipe σ vs) σ' → ∀ s H0 C cl fp, EvTs (InB X scope s H0 C cl fp) ifs σ' G1 H1 (t x))
    (he : ∀ x G1 H1 σ', x ∈ xs → t x = true → Ext G H G1 H1 → T G1 x (wipe σ vs) σ' → ∀ s H0 C cl fp, Ev (InB X scope s H0 C cl fp) elt σ' G1 H1 (f x))
    (hm : ∀ G1 H1 G2 H2 x σ', Ext G1 H1 G2 H2 → T G1 x (wipe σ vs) σ' → T G2 x (wipe σ vs) σ') :
    ∀ G1 H1, Ext G H G1 H1 → ∀ Q : VK, (∀ G2 H2 v, Ext G1 H1 G2 H2 → Is X.K ((xs.filter t).map f) G2 H2 v → New H1 v → Q v H2) → tLc wi g (lcT X scope ifs) (lcE X scope elt) vs σ H1 Q := by
  intro G1 H1 x1 Q q
  refine hi G1 H1 x1 _ fun J G2 H2 x2 hl hwk D hD => ?_
  -- the state behind i turns
  let Pv : Nat → Hp → Prop := fun i H' => ∃ G' acc, Ext G1 H1 G' H' ∧ Same G2 G' ∧ G' D = none ∧ H' D = some (.lst acc) ∧ acc.length ≤ i ∧ Paired (rep X.K G') acc (((xs.take i).filter t).map f)
  have hD1 : H1 D = none := x2.h.free hD
  refine ⟨fun i m H' => m = xs.length - i ∧ i ≤ xs.length ∧ Pv i H', ⟨xs.length, rfl, Nat.zero_le _, G2, [], x2.newH hD, Same.refl _, x2.s.free hD, upd_same, Nat.zero_le _, .nil⟩, ?_⟩
  rintro i m H' ⟨rfl, hi', G', acc, x', sg, gD, eD, hacc, pr⟩
  obtain ⟨go, stop, yld⟩ := hwk G' H' sg x'.s
  by_cases hlt : i < xs.length
  · have hx : xs[i]? = some xs[i] := List.getElem?_eq_getElem hlt
    have hmem : xs[i] ∈ xs := List.getElem_mem hlt
    refine .inr ⟨go i hlt, Pv (i + 1), fun H'' p => ⟨_, by omega, rfl, hlt, p⟩, fun v H'' y => ?_⟩
    obtain ⟨G'', x'', rv⟩ := yld i _ v H'' hx y
    have ek : xs.take (i + 1) = xs.take i ++ [xs[i]] := by rw [List.take_add_one, hx]; rfl
    have gD2 : G'' D = none := x''.off gD eD
    have eD2 : H'' D = some (.lst acc) := x''.h _ _ eD
    refine hg _ v G'' H'' _ _ x''.s rv fun σ' hst => ⟨hw _ _ _ hst, fun s H0 C cl fp pins s' I => ?_⟩
    refine ht _ G'' H'' σ' hmem (x1.trans (x'.trans x'')) hst s H0 C cl fp G'' H'' (Ext.refl x''.s) _ (fun G3 H3 x3 => ?_) pins s' I
    have gD3 : G3 D = none := x3.off gD2 eD2
    have eD3 : H3 D = some (.lst acc) := x3.h _ _ eD2
    by_cases hb : t xs[i] = true
    · rw [hb, if_pos rfl]
      intro s1 H01 C1 cl1 fp1
      refine he _ G3 H3 σ' hmem hb (x1.trans (x'.trans (x''.trans x3))) (hm _ _ _ _ _ _ x3 hst) s1 H01 C1 cl1 fp1 G3 H3 (Ext.refl x3.s) _ fun G4 H4 w x4 _ rw' => ?_
      have gD4 : G4 D = none := x4.off gD3 eD3
      refine ⟨acc, x4.h _ _ eD3, Nat.lt_of_le_of_lt hacc (Nat.lt_of_lt_of_le hlt hl), G4, acc ++ [w], (x'.trans (x''.trans (x3.trans x4))).wr hD1 gD4, (sg.trans x''.g).trans (x3.g.trans x4.g), gD4, upd_same, by rw [List.length_append]; exact Nat.succ_le_succ hacc, ?_⟩
      rw [ek, List.filter_append, List.map_append, List.filter_cons_of_pos hb]
      exact paired_app (pair_up (x''.g.trans (x3.g.trans x4.g)) pr) (.cons rw' .nil)
    · rw [if_neg hb]
      refine ⟨G3, acc, x'.trans (x''.trans x3), (sg.trans x''.g).trans x3.g, gD3, eD3, Nat.le_succ_of_le hacc, ?_⟩
      rw [ek, List.filter_append, List.filter_cons_of_neg hb, List.filter_nil, List.append_nil]
      exact pair_up (x''.g.trans x3.g) pr
  · have e : i = xs.length := by omega
    subst e
    refine .inl ⟨stop, q (upd G' D (.lst acc)) H' _ (x'.frz hD1 eD) ⟨D, acc, rfl, upd_same, ?_⟩ fun p e => by cases e; exact hD1⟩
    rw [List.take_length] at pr
    exact pair_up (same_new gD) pr
theorem t1_up {α : Type} [Rep α] {K : PySem.W.Frag} {i : Nat} {σ : St} : ∀ G1 H1 G2 H2 (x : α) σ', Ext G1 H1 G2 H2 → T1 K i G1 x σ σ' → T1 K i G2 x σ σ' := fun _ _ _ _ _ _ x ⟨v, r, e⟩ => ⟨v, up x.g r, e⟩
theorem t2_up {α β : Type} [Rep α] [Rep β] {K : PySem.W.Frag} {i j : Nat} {σ : St} : ∀ G1 H1 G2 H2 (x : α × β) σ', Ext G1 H1 G2 H2 → T2 K i j G1 x σ σ' → T2 K i j G2 x σ σ' := fun _ _ _ _ _ _ x ⟨u, w, r, r', e⟩ => ⟨u, w, up x.g r, up x.g r', e⟩
variable {α β γ : Type} [Rep α] [Rep β] [Rep γ] {iter elt : Expr} {ifs : List Expr} {scope : Scope} {own : List (Str × Nat)}
/-- [elt for n in iter if ..]; a name in slot i -/
theorem ev_lc1 {xs : List α} {n : Str} {np : Pos} {i : Nat} (f : α → β) (t : α → Bool) (hc : X.calm = true) (hN : X.N.Nodup) (hi : EvI X (.Name n np) iter σ G H xs) (own : List (Str × Nat)) (ok : BlkOk X.N X.env.scope scope own)
    (hg : ∀ (s : Shared) (H : Hp) (C : Addr) (cl : List (Str × Addr)) (fp : List Addr), PG (X.blk s H scope (compEnvC scope cl C X.env) fp) (.Name n np) (gName i))
    (ht : ∀ x v G1 H1, x ∈ xs → Ext G H G1 H1 → rep X.K G1 v x → ∀ s H0 C cl fp, EvTs (InB X scope s H0 C cl fp) ifs ((wipe σ (own.map (·.2))).set i (some v)) G1 H1 (t x))
    (he : ∀ x v G1 H1, x ∈ xs → t x = true → Ext G H G1 H1 → rep X.K G1 v x → ∀ s H0 C cl fp, Ev (InB X scope s H0 C cl fp) elt ((wipe σ (own.map (·.2))).set i (some v)) G1 H1 (f x))
    (hw : ∀ v, wipe ((wipe σ (own.map (·.2))).set i (some v)) (own.map (·.2)) = wipe σ (own.map (·.2)) := by intro _; rfl) (hs : ∀ x, foldedSetIterable iter X.env x = pure x := by intro _; rfl) :
    Ev X (.ListComp elt [⟨.Name n np, iter, ifs, 0⟩] scope pos) σ G H ((xs.filter t).map f) := by
  obtain ⟨wi, pi, hi⟩ := hi
  exact evP_of (pe_lc hc hN pi ok hg pts_lc pe_lcE hs) fun G1 H1 x1 Q q => lc_go (T := T1 X.K i) (f := f) (t := t) hi acts1 (fun G x σ' ⟨v, _, e⟩ => by rw [e]; exact hw v)
    (fun x G1 H1 σ' hx e ⟨v, r, e'⟩ => e' ▸ ht x v G1 H1 hx e r) (fun x G1 H1 σ' hx hb e ⟨v, r, e'⟩ => e' ▸ he x v G1 H1 hx hb e r) t1_up G1 H1 x1 Q fun G2 H2 v x2 r _ => q G2 H2 v x2 r
/-- [elt for a, b in iter if ..] -/
theorem ev_lc2 {xs : List (α × γ)} {tg : Expr} {i j : Nat} (f : α × γ → β) (t : α × γ → Bool) (hc : X.calm = true) (hN : X.N.Nodup) (hi : EvI X tg iter σ G H xs) (own : List (Str × Nat)) (ok : BlkOk X.N X.env.scope scope own)
    (hg : ∀ (s : Shared) (H : Hp) (C : Addr) (cl : List (Str × Addr)) (fp : List Addr), PG (X.blk s H scope (compEnvC scope cl C X.env) fp) tg (gTup X.K 2 (gCons (gName i) (gCons (gName j) gNil))))
    (ht : ∀ x u w G1 H1, x ∈ xs → Ext G H G1 H1 → rep X.K G1 u x.1 → rep X.K G1 w x.2 → ∀ s H0 C cl fp, EvTs (InB X scope s H0 C cl fp) ifs (((wipe σ (own.map (·.2))).set i (some u)).set j (some w)) G1 H1 (t x))
    (he : ∀ x u w G1 H1, x ∈ xs → t x = true → Ext G H G1 H1 → rep X.K G1 u x.1 → rep X.K G1 w x.2 → ∀ s H0 C cl fp, Ev (InB X scope s H0 C cl fp) elt (((wipe σ (own.map (·.2))).set i (some u)).set j (some w)) G1 H1 (f x))
    (hw : ∀ u w, wipe (((wipe σ (own.map (·.2))).set i (some u)).set j (some w)) (own.map (·.2)) = wipe σ (own.map (·.2)) := by intro _ _; rfl) (hs : ∀ x, foldedSetIterable iter X.env x = pure x := by intro _; rfl) :
    Ev X (.ListComp elt [⟨tg, iter, ifs, 0⟩] scope pos) σ G H ((xs.filter t).map f) := by
  obtain ⟨wi, pi, hi⟩ := hi
  exact evP_of (pe_lc hc hN pi ok hg pts_lc pe_lcE hs) fun G1 H1 x1 Q q => lc_go (T := T2 X.K i j) (f := f) (t := t) hi acts2 (fun G x σ' ⟨u, w, _, _, e⟩ => by rw [e]; exact hw u w)
    (fun x G1 H1 σ' hx e ⟨u, w, r, r', e'⟩ => e' ▸ ht x u w G1 H1 hx e r r') (fun x G1 H1 σ' hx hb e ⟨u, w, r, r', e'⟩ => e' ▸ he x u w G1 H1 hx hb e r r') t2_up G1 H1 x1 Q fun G2 H2 v x2 r _ => q G2 H2 v x2 r
end
end RL

namespace RL
open PySem PySem.Spec PyProof.Rows L2 Rep
/-! ### statements -/
section
variable {X : Cx} {σ : St} {G H : Hp} {P Pa Pb : PV} {e a b c tg : Expr} {es : List Expr} {st : Stmt} {sts sts' : List Stmt} {pos p : Pos} {D : Ends}
theorem tS_len (h : tS X st { D with nx := fun σ' H' => HLen H' → D.nx σ' H', rt := fun v H' => HLen H' → D.rt v H' } σ H) : tS X st D σ H := .mk fun pins s I => thn (h.run pins s I) fun f s' q => by
  cases f with
  | next =>
    obtain ⟨σ', H', I', q⟩ := q
    exact ⟨σ', H', I', q (hlen I')⟩
  | ret u =>
    obtain ⟨v, σ', H', I', r, q⟩ := q
    exact ⟨v, σ', H', I', r, q (hlen I')⟩
  | brk => exact q
  | cont => exact q
theorem tSs_lenI (h : HLen H → tSs X sts D σ H) : tSs X sts D σ H := .mk fun pins s I => (h (hlen I)).run pins s I
theorem s_of {t : TS} (h : PS X st t) (q : t D σ H) : tS X st D σ H := ⟨fun pins s I => h.run pins s σ H D I q⟩
theorem ss_of {t : TS} (h : PSs X sts t) (q : t D σ H) : tSs X sts D σ H := ⟨fun pins s I => h.run pins s σ H D I q⟩
theorem b_nil (h : D.nx σ H) : tSs X [] D σ H := ss_of pss_nil h
theorem b_cons (h : tS X st { D with nx := tSs X sts D } σ H) : tSs X (st :: sts) D σ H := ss_of (pss_cons ps_sem pss_sem) h
theorem b_one (h : tS X st D σ H) : tSs X [st] D σ H := ss_of (pss_one ps_sem) h
theorem s_pass (h : D.nx σ H) : tS X (.Pass pos) D σ H := s_of ps_pass h
theorem s_break (h : D.bk σ H) : tS X (.Break pos) D σ H := s_of ps_break h
theorem s_continue (h : D.ct σ H) : tS X (.Continue pos) D σ H := s_of ps_continue h
theorem s_ret (s0 : Same G H) (h : EvP X e σ G H P) (k : ∀ G1 H1 v, Ext G H G1 H1 → HLen H1 → P G1 H1 v → D.rt v H1) : tS X (.Return (some e) pos) D σ H :=
  s_of (ps_ret pe_sem) (h G H (Ext.refl s0) _ fun G1 H1 v x l r => k G1 H1 v x l r)
theorem s_retN (h : D.rt .non H) : tS X (.Return none pos) D σ H := s_of ps_retN h
theorem s_expr (s0 : Same G H) (h : EvP X e σ G H P) (k : ∀ G1 H1 v, Ext G H G1 H1 → HLen H1 → P G1 H1 v → D.nx σ H1) (hs : swapsWith e none pos.line X.env = pure false := by rfl) : tS X (.Expr e pos) D σ H :=
  s_of (ps_expr pe_sem hs) (h G H (Ext.refl s0) _ fun G1 H1 v x l r => k G1 H1 v x l r)
theorem s_if {x : Bool} (s0 : Same G H) (h : EvT X c σ G H x) (h1 : x = true → ∀ G1 H1, Ext G H G1 H1 → HLen H1 → tSs X sts D σ H1) (h2 : x = false → ∀ G1 H1, Ext G H G1 H1 → HLen H1 → tSs X sts' D σ H1) : tS X (.If c sts sts' pos) D σ H :=
  s_of (ps_if pt_sem pss_sem pss_sem) (h G H (Ext.refl s0) _ fun G1 H1 x1 l => by
    cases x with
    | true =>
      show tSs X sts D σ H1
      exact h1 rfl G1 H1 x1 l
    | false =>
      show tSs X sts' D σ H1
      exact h2 rfl G1 H1 x1 l)
/-- a name that may be stored -/
structure Ss (X : Cx) (i : Nat) (n : Str) : Prop where
  hN : X.N[i]? = some n
  hx : Loc X.env.scope n
  hf : X.fn n = true ∨ X.env.scope.names.lookup n = some .local
theorem s_set {i : Nat} {n : Str} (hN : X.N.Nodup) (sl : Ss X i n) (s0 : Same G H) (h : EvP X e σ G H P) (k : ∀ G1 H1 v, Ext G H G1 H1 → HLen H1 → P G1 H1 v → D.nx (σ.set i (some v)) H1)
    (hs : swapsWith e (some (.Name n p)) pos.line X.env = pure false := by rfl) : tS X (.Assign [.Name n p] e pos) D σ H :=
  s_of (ps_set hN sl.hN sl.hx pe_sem hs sl.hf) (h G H (Ext.refl s0) _ fun G1 H1 v x l r => k G1 H1 v x l r)
/-- .. a new object that no frozen part knows -/
def EvN (X : Cx) (e : Expr) (σ : St) (G H : Hp) (P : PV) : Prop :=
  ∀ G1 H1, Ext G H G1 H1 → ∀ Q : VK, (∀ G2 H2 v, Ext G1 H1 G2 H2 → HLen H2 → P G2 H2 v → New H1 v → Q v H2) → tE X e σ H1 Q
theorem EvN.ev (h : EvN X e σ G H P) : EvP X e σ G H P := fun G1 H1 x1 Q q => h G1 H1 x1 Q fun G2 H2 v x2 l r _ => q G2 H2 v x2 l r
theorem s_setN {i : Nat} {n : Str} (hN : X.N.Nodup) (sl : Ss X i n) (s0 : Same G H) (h : EvN X e σ G H P) (k : ∀ G1 H1 v, Ext G H G1 H1 → HLen H1 → P G1 H1 v → New H v → D.nx (σ.set i (some v)) H1)
    (hs : swapsWith e (some (.Name n p)) pos.line X.env = pure false := by rfl) : tS X (.Assign [.Name n p] e pos) D σ H :=
  s_of (ps_set hN sl.hN sl.hx pe_sem hs sl.hf) (h G H (Ext.refl s0) _ fun G1 H1 v x l r n => k G1 H1 v x l r n)
theorem evN_of {t : TE} (hp : PE X e t) (k : ∀ G1 H1, Ext G H G1 H1 → ∀ Q : VK, (∀ G2 H2 v, Ext G1 H1 G2 H2 → P G2 H2 v → New H1 v → Q v H2) → t σ H1 Q) : EvN X e σ G H P :=
  fun G1 H1 x1 _ q => tE_lenF fun pins s I => hp.run pins s σ H1 _ I (k G1 H1 x1 _ fun G2 H2 v x2 p n hl => q G2 H2 v x2 hl p n)
theorem evN_list {α : Type} [Rep α] {xs : List α} (h : EvA X es σ G H (AAll X.K xs)) (hl : xs.length ≤ 1000 := by exact Nat.le_of_ble_eq_true rfl) : EvN X (.List es pos) σ G H (Is X.K xs) :=
  evN_of (pe_lst pa_sem) fun G1 H1 x1 Q q => h G1 H1 x1 _ fun G2 H2 vs x2 _ pa => ⟨by rw [paired_len pa]; exact Nat.le_of_lt (small1000 hl), fun p hp =>
    q (upd G2 p (.lst vs)) _ _ (x2.new hp) ⟨p, vs, rfl, upd_same, pair_up (same_new (x2.s.free hp)) pa⟩ fun p' e => by cases e; exact x2.h.free hp⟩
/-- n op= e -/
theorem s_aug {i : Nat} {n : Str} {op : Operator} {v0 : V} [m : MonoC Pa] (hN : X.N.Nodup) (sl : Ss X i n) (s0 : Same G H) (k : Bin X (inplaceOp op) Pa Pb P G H) (r0 : Pa G H v0) (h : EvP X e σ G H Pb) (kn : ∀ G1 H1 v, Ext G H G1 H1 → HLen H1 → P G1 H1 v → D.nx (σ.set i (some v)) H1)
    (h0 : σ[i]? = some (some v0) := by rfl) : tS X (.AugAssign (.Name n p) op e pos) D σ H := by
  obtain ⟨r, ho, k⟩ := k
  refine tS_len (s_of (ps_aug hN sl.hN sl.hx pe_sem (ti := r) ho sl.hf) ⟨v0, h0, h G H (Ext.refl s0) _ fun G1 H1 u x l pu => k G1 H1 v0 u x l (m.m _ _ _ _ _ x r0) pu _ fun G2 H2 w x2 pw l2 => kn G2 H2 w (x.trans x2) l2 pw⟩)
/-- a list of the def's own: tracked, not frozen -/
structure Own {α : Type} [Rep α] (K : PySem.W.Frag) (G H : Hp) (q : Addr) (xs : List α) : Prop where
  at_ : ∃ vs, H q = some (.lst vs) ∧ Paired (rep K G) vs xs
  off : G q = none
theorem Own.mono {α : Type} [Rep α] {K : PySem.W.Frag} {G H G1 H1 : Hp} {q : Addr} {xs : List α} (o : Own K G H q xs) (x : Ext G H G1 H1) : Own K G1 H1 q xs :=
  let ⟨vs, e, p⟩ := o.at_; ⟨⟨vs, x.h _ _ e, pair_up x.g p⟩, x.off o.off e⟩
theorem Own.pv {α : Type} [Rep α] {K : PySem.W.Frag} {q : Addr} {xs : List α} (o : Own K G H q xs) : OwnAt K xs G H (.ref q) := let ⟨vs, e, p⟩ := o.at_; ⟨q, vs, rfl, e, p⟩
theorem Own.len {α : Type} [Rep α] {K : PySem.W.Frag} {q : Addr} {xs : List α} (o : Own K G H q xs) (l : HLen H) : xs.length ≤ sizeLine := by
  obtain ⟨vs, e, p⟩ := o.at_
  rw [← paired_len p]
  exact l _ _ e
/-- behind a store to another own object -/
theorem Own.wr {α : Type} [Rep α] {K : PySem.W.Frag} {q q' : Addr} {xs : List α} {o' : HO} (o : Own K G H q xs) (h : q ≠ q') : Own K G (upd H q' o') q xs :=
  let ⟨vs, e, p⟩ := o.at_; ⟨⟨vs, by rw [upd_ne h]; exact e, p⟩, o.off⟩
theorem Own.ex {α : Type} [Rep α] {K : PySem.W.Frag} {q : Addr} {xs : List α} (o : Own K G H q xs) : ∃ u, H q = some u := let ⟨_, e, _⟩ := o.at_; ⟨_, e⟩
/-- values that no heap tells -/
class Flat (α : Type) [Rep α] : Prop where
  flat : ∀ {K : PySem.W.Frag} {G G' : Hp} {v : V} {x : α}, rep K G v x → rep K G' v x
instance : Flat Int := ⟨fun h => h⟩
instance : Flat Bool := ⟨fun h => h⟩
instance : Flat Str := ⟨fun h => h⟩
/-- from a new list of flat things: own it; the frozen part as it was ahead -/
theorem own_new {α : Type} [Rep α] [Flat α] {K : PySem.W.Frag} {G H G1 H1 : Hp} {v : V} {xs : List α} (s0 : Same G H) (x : Ext G H G1 H1) (n : New H v) (r : Is K xs G1 H1 v) : ∃ q, v = .ref q ∧ H q = none ∧ Own K G H1 q xs ∧ Ext G H G H1 := by
  obtain ⟨q, vs, rfl, e, p⟩ := r
  have hq : H q = none := n q rfl
  refine ⟨q, rfl, hq, ⟨⟨vs, x.s _ _ e, ?_⟩, s0.free hq⟩, ⟨x.h, Same.refl _, fun b o h => x.s _ _ (x.g _ _ h), fun b o h => .inl h⟩⟩
  clear e
  induction p with
  | nil => exact .nil
  | cons h t ih => exact .cons (Flat.flat h) ih
/-- an own list without items -/
theorem evO_nil : EvN X (.List [] pos) σ G H (fun G H v => ∃ q, v = .ref q ∧ H q = some (.lst []) ∧ G q = none) :=
  evN_of (pe_lst pa_nil) fun G1 H1 x1 Q q => ⟨Nat.zero_le _, fun p hp => q G1 _ _ ((Ext.refl x1.s).newH hp) ⟨p, rfl, upd_same, x1.s.free hp⟩ fun p' e => by cases e; exact hp⟩
theorem s_nil {α : Type} [Rep α] {i : Nat} {n : Str} {lp : Pos} (hN : X.N.Nodup) (sl : Ss X i n) (s0 : Same G H) (k : ∀ H1 q, Ext G H G H1 → HLen H1 → H q = none → Own X.K G H1 q ([] : List α) → D.nx (σ.set i (some (.ref q))) H1)
    (hs : swapsWith (.List [] lp) (some (.Name n p)) pos.line X.env = pure false := by rfl) : tS X (.Assign [.Name n p] (.List [] lp) pos) D σ H :=
  s_of (ps_set hN sl.hN sl.hx pe_sem hs sl.hf) (tE_len (tE_of' s0 k))
  where tE_of' (s0 : Same G H) (k : ∀ H1 q, Ext G H G H1 → HLen H1 → H q = none → Own X.K G H1 q ([] : List α) → D.nx (σ.set i (some (.ref q))) H1) : tE X (.List [] lp) σ H (fun v H' => HLen H' → D.nx (σ.set i (some v)) H') :=
    ⟨fun pins s I => (pe_lst pa_nil).run pins s σ H _ I ⟨Nat.zero_le _, fun q hq l => k _ q ((Ext.refl s0).newH hq) l hq ⟨⟨[], upd_same, .nil⟩, s0.free hq⟩⟩⟩
/-- q.append(e) -/
theorem s_append {α : Type} [Rep α] {xs : List α} {y : α} {i : Nat} {n : Str} {q : Addr} {ap cp np : Pos} (sl : Sl X i n) (s0 : Same G H) (o : Own X.K G H q xs) (h : Ev X e σ G H y) (hz : xs.length < sizeLine)
    (k : ∀ G1 H1 vs', Ext G H G1 H1 → HLen H1 → Own X.K G1 (upd H1 q (.lst vs')) q (xs ++ [y]) → D.nx σ (upd H1 q (.lst vs'))) (h0 : σ[i]? = some (some (.ref q)) := by rfl)
    (hbase : attributeBase (.Name n np) "append" X.env (eval (.Name n np) X.env) = eval (.Name n np) X.env := by rfl)
    (hfew : ((backTo cp (starEach [e] X.env)).all (fun x => !x.1) && (backToKw cp (keywordEach [] X.env)).all (fun x => x.1.isSome)
      && decide ([e].length + ([] : List Keyword).length + (if ([] : List Keyword).isEmpty then 0 else 1) < 30)) = true := by rfl)
    (hline : (ap.endLine == cp.line) = true := by rfl) (he : starEach [e] X.env = (false, eval e X.env) :: starEach [] X.env := by rfl) (hplain : (backTo cp (starEach [] X.env)).any (·.1) = false := by rfl)
    (hsw : swapsWith (.Call (.Attribute (.Name n np) "append" ap) [e] [] cp) none pos.line X.env = pure false := by rfl) :
    tS X (.Expr (.Call (.Attribute (.Name n np) "append" ap) [e] [] cp) pos) D σ H := by
  obtain ⟨vs, eq, pr⟩ := o.at_
  refine s_of (ps_expr (pe_bm PySem.F.plainAttrs_list PySem.F.slot_list_append PySem.F.type_list_append mt_append (pe_var sl.hN sl.hv sl.nm.hd sl.nm.hcd) (pa_cons pe_sem pa_nil he) hbase hfew hline he hplain) hsw) ?_
  refine ⟨_, h0, .inl ⟨rfl, _, SqL.of eq⟩, h G H (Ext.refl s0) _ fun G1 H1 w x l rw' => ?_⟩
  have e1 : H1 q = some (.lst vs) := x.h _ _ eq
  exact ⟨q, vs, w, rfl, rfl, e1, by rw [paired_len pr]; exact hz, k G1 H1 _ x l ⟨⟨_, upd_same, paired_app (pair_up x.g pr) (.cons rw' .nil)⟩, x.off o.off eq⟩⟩
/-- an own list handed on: frozen from now on -/
theorem Own.frz {α : Type} [Rep α] {K : PySem.W.Frag} {G0 H0 : Hp} {q : Addr} {xs : List α} (o : Own K G H q xs) (x0 : Ext G0 H0 G H) (n : H0 q = none) : ∃ G', Ext G0 H0 G' H ∧ Same G G' ∧ rep K G' (.ref q) xs :=
  let ⟨vs, e, p⟩ := o.at_; ⟨upd G q (.lst vs), x0.frz n e, same_new o.off, q, vs, rfl, upd_same, pair_up (same_new o.off) p⟩
/-- for: I tells what is left to be walked, the slots and the world -/
theorem s_for {α : Type} [Rep α] {xs : List α} {T : TgT α} {g : TG} {iter : Expr} {body : List Stmt} (hp : PassesOwn (model X.prog X.w) X.A X.env X.xe) (hc : X.calm = true) (hg : PG X tg g) (ha : Acts X.K g T) (s0 : Same G H) (hi : EvI X tg iter σ G H xs)
    (I : List α → St → Hp → Hp → Prop) (h0 : ∀ G1 H1, Ext G H G1 H1 → I xs σ G1 H1)
    (hs : ∀ x rest σ1 G1 H1 G2 H2 σ2, (∃ l, l ++ x :: rest = xs) ∧ xs.length ≤ sizeLine → Same G G1 → Same G1 H1 → I (x :: rest) σ1 G1 H1 → Ext G1 H1 G2 H2 → HLen H2 → T G2 x σ1 σ2 →
      tSs X body { D with nx := fun σ' H' => ∃ G', Same G2 G' ∧ Same G' H' ∧ I rest σ' G' H', ct := fun σ' H' => ∃ G', Same G2 G' ∧ Same G' H' ∧ I rest σ' G' H', bk := D.nx } σ2 H2)
    (hd : ∀ σ1 G1 H1, Same G G1 → Same G1 H1 → I [] σ1 G1 H1 → D.nx σ1 H1) (hsf : ∀ x, foldedSetIterable iter X.env x = pure x := by intro _; rfl) : tS X (.For tg iter body [] pos) D σ H := by
  obtain ⟨wi, pi, hi⟩ := hi
  refine s_of (ps_for hp hc pi hg pss_sem hsf) (hi G H (Ext.refl s0) _ fun J Gs Hs xs0 hl hw => ?_)
  refine ⟨fun i m σ' H' => m = xs.length - i ∧ i ≤ xs.length ∧ ∃ G', Same Gs G' ∧ Same G' H' ∧ I (xs.drop i) σ' G' H', ⟨xs.length, rfl, Nat.zero_le _, Gs, Same.refl _, xs0.s, h0 Gs Hs xs0⟩, ?_⟩
  rintro i m σ' H' ⟨rfl, hi', G', sg, sh, Iv⟩
  obtain ⟨go, stop, yld⟩ := hw G' H' sg sh
  by_cases hlt : i < xs.length
  · have hx : xs[i]? = some xs[i] := List.getElem?_eq_getElem hlt
    have ed : xs.drop i = xs[i] :: xs.drop (i + 1) := List.drop_eq_getElem_cons hlt
    rw [ed] at Iv
    refine .inr ⟨go i hlt, fun σ2 H2 => ∃ G2, Same Gs G2 ∧ Same G2 H2 ∧ I (xs.drop (i + 1)) σ2 G2 H2, fun σ2 H2 q => ⟨_, by omega, rfl, hlt, q⟩, fun v H'' y => ?_⟩
    obtain ⟨G'', x'', rv⟩ := yld i _ v H'' hx y
    refine ha _ v G'' H'' _ _ x''.s rv fun σ2 hT => tSs_lenI fun l => ?_
    refine .mk fun pins s Iv' => ?_
    refine thn ((hs xs[i] (xs.drop (i + 1)) σ' G' H' G'' H'' σ2 ⟨⟨xs.take i, by rw [← ed, List.take_append_drop]⟩, hl⟩ (xs0.g.trans sg) sh Iv x'' l hT).run pins s Iv') fun f s' q => ?_
    have fin : ∀ {H3 : Hp} {σ3 : St}, (∃ G3, Same G'' G3 ∧ Same G3 H3 ∧ I (xs.drop (i + 1)) σ3 G3 H3) → ∃ G2, Same Gs G2 ∧ Same G2 H3 ∧ I (xs.drop (i + 1)) σ3 G2 H3 := fun ⟨G3, a, b, c⟩ => ⟨G3, sg.trans (x''.g.trans a), b, c⟩
    cases f with
    | next =>
      obtain ⟨σ3, H3, I3, q⟩ := q
      exact ⟨σ3, H3, I3, fin q⟩
    | cont =>
      obtain ⟨σ3, H3, I3, q⟩ := q
      exact ⟨σ3, H3, I3, fin q⟩
    | brk => exact q
    | ret u => exact q
  · have e : i = xs.length := by omega
    subst e
    rw [List.drop_length] at Iv
    exact .inl ⟨stop, hd σ' G' H' (xs0.g.trans sg) sh Iv⟩
end

/-! ### what a loop's turns come to -/
inductive LR (R S : Type) where
  | ret (r : R) | nxt (s : S) | brk (s : S)
def lrun {α R S : Type} (step : α → S → LR R S) : List α → S → LR R S
  | [], s => .nxt s
  | x :: xs, s => match step x s with
    | .nxt s' => lrun step xs s'
    | .brk s' => .nxt s'
    | .ret r => .ret r
theorem lrun_nxt {α R S : Type} {step : α → S → LR R S} {x : α} {xs : List α} {s s' : S} {y : LR R S} (e : lrun step (x :: xs) s = y) (h : step x s = .nxt s') : lrun step xs s' = y := by
  rw [← e]
  show _ = match step x s with | .nxt s' => lrun step xs s' | .brk s' => .nxt s' | .ret r => .ret r
  rw [h]
theorem lrun_brk {α R S : Type} {step : α → S → LR R S} {x : α} {xs : List α} {s s' : S} {y : LR R S} (e : lrun step (x :: xs) s = y) (h : step x s = .brk s') : y = .nxt s' := by
  rw [← e]
  show (match step x s with | .nxt s' => lrun step xs s' | .brk s' => .nxt s' | .ret r => .ret r) = _
  rw [h]
theorem lrun_ret {α R S : Type} {step : α → S → LR R S} {x : α} {xs : List α} {s : S} {r : R} {y : LR R S} (e : lrun step (x :: xs) s = y) (h : step x s = .ret r) : y = .ret r := by
  rw [← e]
  show (match step x s with | .nxt s' => lrun step xs s' | .brk s' => .nxt s' | .ret r => .ret r) = _
  rw [h]
/-- behind a loop: what it handed back, or what follows it -/
def LR.out {R S : Type} (y : LR R S) (k : S → R) : R := match y with
  | .ret r => r
  | .nxt s => k s
  | .brk s => k s
def LR.andThen {R S S' : Type} (y : LR R S) (k : S → LR R S') : LR R S' := match y with
  | .ret r => .ret r
  | .nxt s => k s
  | .brk s => k s

/-! ### defs -/
section
variable {P : Program} {w : World} {K : PySem.W.Frag} {mg : Str → Option Value} {base : Heap} {x : Str} {st : Stmt} {f : Addr} {fd : FuncData} {N ps : List Str} {k : Nat}
theorem cal_of {sp : Sp} (F : Fun K x x st f fd) (hm : mg x = some (.ref f)) (hb : Binds K fd ps []) (S : FnScope N ps (defScope st)) (len : ∀ vs H Q E, sp vs H Q E → vs.length = ps.length)
    (body : ∀ (cdv : Value) (A : Around) (outer : List Env) (s : Shared) (H : Hp) (vs : List V) (Q : VK) (E : XK), Room k (A.deeper (envOfC x (defScope st) s.heap.objs.size f cdv)) → sp vs H Q E →
      tSs (cxOf (L2.CX P w) P w K mg base N x (defScope st) f cdv A outer s H E) (defBody st) { nx := fun _ H' => Q .non H', rt := Q } (start N vs) H) : Cal P w K mg base (k + 1) x sp :=
  ⟨f, fd, ps, F.okX S len fun cdv A outer s H vs Q E hr h => ⟨_, pss_sem, body cdv A outer s H vs Q E hr h⟩, hm, F.kp, hb⟩
theorem fok_of {sp : Sp} (F : Fun K x x st f fd) (S : FnScope N ps (defScope st)) (len : ∀ vs H Q E, sp vs H Q E → vs.length = ps.length)
    (body : ∀ (cdv : Value) (A : Around) (outer : List Env) (s : Shared) (H : Hp) (vs : List V) (Q : VK) (E : XK), Room k (A.deeper (envOfC x (defScope st) s.heap.objs.size f cdv)) → sp vs H Q E →
      tSs (cxOf (L2.CX P w) P w K mg base N x (defScope st) f cdv A outer s H E) (defBody st) { nx := fun _ H' => Q .non H', rt := Q } (start N vs) H) : FnOk P w K mg base (L2.CX P w) (k + 1) f fd ps sp :=
  F.okX S len fun cdv A outer s H vs Q E hr h => ⟨_, pss_sem, body cdv A outer s H vs Q E hr h⟩
variable {α β γ δ ε ζ : Type} [Rep α] [Rep β] [Rep γ] [Rep δ] [Rep ε] [Rep ζ] {fr : Bool}
/-- what a def's end wants: y, from G, H on -/
structure End (K : PySem.W.Frag) (fr : Bool) (G H : Hp) (y : ζ) (D : Ends) : Prop where
  rt : ∀ G2 H2 w, Ext G H G2 H2 → rep K G2 w y → (fr = true → New H w) → D.rt w H2
  nx : ∀ G2 H2 σ, Ext G H G2 H2 → rep K G2 .non y → D.nx σ H2
theorem End.to {K : PySem.W.Frag} {G H : Hp} {y z : ζ} {D : Ends} (h : End K fr G H y D) (e : y = z) : End K fr G H z D := e ▸ h
theorem End.tt {K : PySem.W.Frag} {G H : Hp} {x : Bool} {y z : ζ} {D : Ends} (h : End K fr G H (if x = true then y else z) D) (e : x = true) : End K fr G H y D := by rwa [if_pos e] at h
theorem End.ff {K : PySem.W.Frag} {G H : Hp} {x : Bool} {y z : ζ} {D : Ends} (h : End K fr G H (if x = true then y else z) D) (e : x = false) : End K fr G H z D := by rwa [if_neg (by rw [e]; decide)] at h
theorem End.outR {K : PySem.W.Frag} {G H : Hp} {S : Type} {y : LR ζ S} {k : S → ζ} {r : ζ} {D : Ends} (h : End K fr G H (y.out k) D) (e : y = .ret r) : End K fr G H r D := by rwa [e] at h
theorem End.outN {K : PySem.W.Frag} {G H : Hp} {S : Type} {y : LR ζ S} {k : S → ζ} {s : S} {D : Ends} (h : End K fr G H (y.out k) D) (e : y = .nxt s) : End K fr G H (k s) D := by rwa [e] at h
theorem end_of {K : PySem.W.Frag} {G H : Hp} {y : ζ} {Q : VK} (q : ∀ G2 H2 w, Ext G H G2 H2 → rep K G2 w y → (fr = true → New H w) → Q w H2) : End K fr G H y { nx := fun _ H' => Q .non H', rt := Q } :=
  ⟨q, fun G2 H2 _ x r => q G2 H2 _ x r fun _ p e => nomatch e⟩
theorem fn1 {pre : α → Prop} {m : α → ζ} (F : Fun K x x st f fd) (hm : mg x = some (.ref f)) (hb : Binds K fd ps []) (S : FnScope N ps (defScope st)) (hl : ps.length = 1)
    (body : ∀ (cdv : Value) (A : Around) (outer : List Env) (s : Shared) (H : Hp) (E : XK), Room k (A.deeper (envOfC x (defScope st) s.heap.objs.size f cdv)) → ∀ (G : Hp) (v1 : V) (x1 : α) (D : Ends), Same G H → rep K G v1 x1 → pre x1 → End K fr G H (m x1) D →
      tSs (cxOf (L2.CX P w) P w K mg base N x (defScope st) f cdv A outer s H E) (defBody st) D (start N [v1]) H) : Cal P w K mg base (k + 1) x (Sp1 K fr pre m) :=
  cal_of F hm hb S (fun vs H Q E h => by obtain ⟨_, _, _, rfl, _⟩ := h; exact hl.symm) fun cdv A outer s H vs Q E hr h => by
    obtain ⟨G, v1, x1, rfl, s0, r1, hp, q⟩ := h
    exact body cdv A outer s H E hr G v1 x1 _ s0 r1 hp (end_of q)
theorem fn1F {pre : α → Prop} {m : α → ζ} (F : Fun K x x st f fd) (hm : mg x = some (.ref f)) (hb : Binds K fd ps []) (S : FnScope N ps (defScope st)) (hl : ps.length = 1)
    (body : ∀ (cdv : Value) (A : Around) (outer : List Env) (s : Shared) (H : Hp) (E : XK), Room k (A.deeper (envOfC x (defScope st) s.heap.objs.size f cdv)) → ∀ (G : Hp) (v1 : V) (x1 : α) (D : Ends), Same G H → rep K G v1 x1 → pre x1 → End K fr G H (m x1) D →
      tSs (cxOf (L2.CX P w) P w K mg base N x (defScope st) f cdv A outer s H E) (defBody st) D (start N [v1]) H) : FnOk P w K mg base (L2.CX P w) (k + 1) f fd ps (Sp1 K fr pre m) :=
  fok_of F S (fun vs H Q E h => by obtain ⟨_, _, _, rfl, _⟩ := h; exact hl.symm) fun cdv A outer s H vs Q E hr h => by
    obtain ⟨G, v1, x1, rfl, s0, r1, hp, q⟩ := h
    exact body cdv A outer s H E hr G v1 x1 _ s0 r1 hp (end_of q)
theorem fn2 {pre : α → β → Prop} {m : α → β → ζ} (F : Fun K x x st f fd) (hm : mg x = some (.ref f)) (hb : Binds K fd ps []) (S : FnScope N ps (defScope st)) (hl : ps.length = 2)
    (body : ∀ (cdv : Value) (A : Around) (outer : List Env) (s : Shared) (H : Hp) (E : XK), Room k (A.deeper (envOfC x (defScope st) s.heap.objs.size f cdv)) → ∀ (G : Hp) (v1 v2 : V) (x1 : α) (x2 : β) (D : Ends), Same G H → rep K G v1 x1 → rep K G v2 x2 → pre x1 x2 → End K fr G H (m x1 x2) D →
      tSs (cxOf (L2.CX P w) P w K mg base N x (defScope st) f cdv A outer s H E) (defBody st) D (start N [v1, v2]) H) : Cal P w K mg base (k + 1) x (Sp2 K fr pre m) :=
  cal_of F hm hb S (fun vs H Q E h => by obtain ⟨_, _, _, _, _, rfl, _⟩ := h; exact hl.symm) fun cdv A outer s H vs Q E hr h => by
    obtain ⟨G, v1, v2, x1, x2, rfl, s0, r1, r2, hp, q⟩ := h
    exact body cdv A outer s H E hr G v1 v2 x1 x2 _ s0 r1 r2 hp (end_of q)
theorem fn3 {pre : α → β → γ → Prop} {m : α → β → γ → ζ} (F : Fun K x x st f fd) (hm : mg x = some (.ref f)) (hb : Binds K fd ps []) (S : FnScope N ps (defScope st)) (hl : ps.length = 3)
    (body : ∀ (cdv : Value) (A : Around) (outer : List Env) (s : Shared) (H : Hp) (E : XK), Room k (A.deeper (envOfC x (defScope st) s.heap.objs.size f cdv)) → ∀ (G : Hp) (v1 v2 v3 : V) (x1 : α) (x2 : β) (x3 : γ) (D : Ends), Same G H → rep K G v1 x1 → rep K G v2 x2 → rep K G v3 x3 → pre x1 x2 x3 → End K fr G H (m x1 x2 x3) D →
      tSs (cxOf (L2.CX P w) P w K mg base N x (defScope st) f cdv A outer s H E) (defBody st) D (start N [v1, v2, v3]) H) : Cal P w K mg base (k + 1) x (Sp3 K fr pre m) :=
  cal_of F hm hb S (fun vs H Q E h => by obtain ⟨_, _, _, _, _, _, _, rfl, _⟩ := h; exact hl.symm) fun cdv A outer s H vs Q E hr h => by
    obtain ⟨G, v1, v2, v3, x1, x2, x3, rfl, s0, r1, r2, r3, hp, q⟩ := h
    exact body cdv A outer s H E hr G v1 v2 v3 x1 x2 x3 _ s0 r1 r2 r3 hp (end_of q)
theorem fn4 {pre : α → β → γ → δ → Prop} {m : α → β → γ → δ → ζ} (F : Fun K x x st f fd) (hm : mg x = some (.ref f)) (hb : Binds K fd ps []) (S : FnScope N ps (defScope st)) (hl : ps.length = 4)
    (body : ∀ (cdv : Value) (A : Around) (outer : List Env) (s : Shared) (H : Hp) (E : XK), Room k (A.deeper (envOfC x (defScope st) s.heap.objs.size f cdv)) → ∀ (G : Hp) (v1 v2 v3 v4 : V) (x1 : α) (x2 : β) (x3 : γ) (x4 : δ) (D : Ends), Same G H → rep K G v1 x1 → rep K G v2 x2 → rep K G v3 x3 → rep K G v4 x4 → pre x1 x2 x3 x4 → End K fr G H (m x1 x2 x3 x4) D →
      tSs (cxOf (L2.CX P w) P w K mg base N x (defScope st) f cdv A outer s H E) (defBody st) D (start N [v1, v2, v3, v4]) H) : Cal P w K mg base (k + 1) x (Sp4 K fr pre m) :=
  cal_of F hm hb S (fun vs H Q E h => by obtain ⟨_, _, _, _, _, _, _, _, _, rfl, _⟩ := h; exact hl.symm) fun cdv A outer s H vs Q E hr h => by
    obtain ⟨G, v1, v2, v3, v4, x1, x2, x3, x4, rfl, s0, r1, r2, r3, r4, hp, q⟩ := h
    exact body cdv A outer s H E hr G v1 v2 v3 v4 x1 x2 x3 x4 _ s0 r1 r2 r3 r4 hp (end_of q)
end
end RL

namespace RL
open PySem PySem.Spec PyProof.Rows L2 Rep
section
variable {α : Type}
theorem rep_of [Rep α] {K : PySem.W.Frag} {G : Hp} {v : V} {x y : α} (e : x = y) (r : rep K G v y) : rep K G v x := e ▸ r
theorem tk_tt {a y z : α} {x : Bool} (h : a = if x = true then y else z) (e : x = true) : a = y := by rwa [if_pos e] at h
theorem tk_ff {a y z : α} {x : Bool} (h : a = if x = true then y else z) (e : x = false) : a = z := by rwa [if_neg (by rw [e]; decide)] at h
theorem tk_outR {S : Type} {a : α} {y : LR α S} {k : S → α} {r : α} (h : a = y.out k) (e : y = .ret r) : a = r := by rw [e] at h; exact h
theorem tk_outN {S : Type} {a : α} {y : LR α S} {k : S → α} {s : S} (h : a = y.out k) (e : LR.nxt s = y) : a = k s := by rw [← e] at h; exact h
theorem tk_anR {S S' : Type} {a : LR α S'} {y : LR α S} {k : S → LR α S'} {r : α} (h : a = y.andThen k) (e : y = .ret r) : a = .ret r := by rw [e] at h; exact h
theorem tk_anN {S S' : Type} {a : LR α S'} {y : LR α S} {k : S → LR α S'} {s : S} (h : a = y.andThen k) (e : LR.nxt s = y) : a = k s := by rw [← e] at h; exact h
theorem tk_fold {S : Type} {a : α} {y s : S} {k : S → α} (h : a = k y) (e : s = y) : a = k s := by rw [e]; exact h
def lfold {S : Type} (step : α → S → S) : List α → S → S
  | [], s => s
  | x :: xs, s => lfold step xs (step x s)
theorem lfold_nxt {S : Type} {step : α → S → S} {x : α} {xs : List α} {s s' y : S} (e : lfold step (x :: xs) s = y) (h : step x s = s') : lfold step xs s' = y := by
  rw [← e, ← h]
  rfl
theorem mem_of {x : α} {rest xs : List α} (h : ∃ l, l ++ x :: rest = xs) : x ∈ xs := by
  obtain ⟨l, rfl⟩ := h
  simp
end
theorem mem_len {α : Type} {x : α} {rest xs : List α} (h : ∃ l, l ++ x :: rest = xs) : rest.length < xs.length := by
  obtain ⟨l, rfl⟩ := h
  rw [List.length_append, List.length_cons]
  omega
/-- a new list of flat things is the def's own from some moment on -/
theorem thaw {α : Type} [Rep α] [Flat α] {K : PySem.W.Frag} {G0 H0 Ga Ha Gb Hb Gw Hw : Hp} {v : V} {xs : List α} (xa : Ext G0 H0 Ga Ha) (x : Ext Ga Ha Gb Hb) (n : New Ha v) (xw : Ext G0 H0 Gw Hw) (s : Same Hb Hw) (r : rep K Gb v xs) :
    ∃ q, v = .ref q ∧ H0 q = none ∧ Own K Ga Hw q xs ∧ Ext G0 H0 Ga Hw := by
  obtain ⟨q, vs, rfl, e, p⟩ := r
  have hq : Ha q = none := n q rfl
  refine ⟨q, rfl, xa.h.free hq, ⟨⟨vs, s _ _ (x.s _ _ e), ?_⟩, xa.s.free hq⟩, ⟨xw.h, xa.g, fun b o h => s _ _ (x.h _ _ (xa.s _ _ h)), xa.n⟩⟩
  clear e
  induction p with
  | nil => exact .nil
  | cons h t ih => exact .cons (Flat.flat h) ih

section
variable {X : Cx} {σ : St} {G H : Hp} {P Pa Pb : PV} {e a b c tg : Expr} {es : List Expr} {st : Stmt} {sts sts' : List Stmt} {pos p : Pos} {D : Ends}
theorem s_retN_ (s0 : Same G H) (h : EvN X e σ G H P) (k : ∀ G1 H1 v, Ext G H G1 H1 → HLen H1 → P G1 H1 v → New H v → D.rt v H1) : tS X (.Return (some e) pos) D σ H :=
  s_of (ps_ret pe_sem) (h G H (Ext.refl s0) _ fun G1 H1 v x l r n => k G1 H1 v x l r n)
/-- the very value of a name -/
theorem s_retV {i : Nat} {n : Str} {np : Pos} {v : V} (sl : Sl X i n) (s0 : Same G H) (k : D.rt v H) (h : σ[i]? = some (some v) := by rfl) : tS X (.Return (some (.Name n np)) pos) D σ H :=
  s_of (ps_ret (pe_var sl.hN sl.hv sl.nm.hd sl.nm.hcd)) ⟨v, h, k⟩

/-! ### comprehensions, as a value and as a statement -/
def LcOk (X : Cx) (elt : Expr) (gen : Comprehension) (scope : Scope) (σ : St) (G H : Hp) (P : PV) : Prop :=
  ∃ (tg iter : Expr) (ifs : List Expr) (wi : TI) (g : TG) (own : List (Str × Nat)), gen = ⟨tg, iter, ifs, 0⟩ ∧ X.calm = true ∧ X.N.Nodup ∧ PI X tg iter wi ∧ BlkOk X.N X.env.scope scope own ∧
    (∀ (s : Shared) (H : Hp) (C : Addr) (cl : List (Str × Addr)) (fp : List Addr), PG (X.blk s H scope (compEnvC scope cl C X.env) fp) tg g) ∧ (∀ x, foldedSetIterable iter X.env x = pure x) ∧
    ∀ G1 H1, Ext G H G1 H1 → ∀ Q : VK, (∀ G2 H2 v, Ext G1 H1 G2 H2 → P G2 H2 v → New H1 v → Q v H2) → tLc wi g (lcT X scope ifs) (lcE X scope elt) (own.map (·.2)) σ H1 Q
theorem evN_lc {elt : Expr} {gen : Comprehension} {scope : Scope} (h : LcOk X elt gen scope σ G H P) : EvN X (.ListComp elt [gen] scope pos) σ G H P := by
  obtain ⟨tg, iter, ifs, wi, g, own, rfl, hc, hN, pi, ok, hg, hs, k⟩ := h
  exact evN_of (pe_lc hc hN pi ok hg pts_lc pe_lcE hs) k
theorem ev_lc {elt : Expr} {gen : Comprehension} {scope : Scope} (h : LcOk X elt gen scope σ G H P) : EvP X (.ListComp elt [gen] scope pos) σ G H P := (evN_lc h).ev
theorem s_setLc {elt : Expr} {gen : Comprehension} {scope : Scope} {pos' : Pos} {i : Nat} {n : Str} (hN : X.N.Nodup) (sl : Ss X i n) (s0 : Same G H) (h : LcOk X elt gen scope σ G H P) (k : ∀ G1 H1 v, Ext G H G1 H1 → HLen H1 → P G1 H1 v → New H v → D.nx (σ.set i (some v)) H1)
    (hl : X.env.scope.names.lookup n = some .local := by rfl) (hsw : swapsWith (.ListComp elt [gen] scope pos) (some (.Name n p)) pos'.line X.env = pure true := by exact sw_true rfl rfl rfl (by decide +kernel)) :
    tS X (.Assign [.Name n p] (.ListComp elt [gen] scope pos) pos') D σ H := by
  obtain ⟨tg, iter, ifs, wi, g, own, rfl, hc, hN', pi, ok, hg, hs, k'⟩ := h
  exact tS_len (s_of (ps_setLc hc hN sl.hN hl hsw pi ok hg pts_lc pe_lcE hs) (k' G H (Ext.refl s0) _ fun G1 H1 v x r n l => k G1 H1 v x l r n))
variable {α β γ : Type} [Rep α] [Rep β] [Rep γ] {iter elt : Expr} {ifs : List Expr} {scope : Scope}
theorem lc1 {xs : List α} {n : Str} {np : Pos} {i : Nat} (f : α → β) (t : α → Bool) (hc : X.calm = true) (hN : X.N.Nodup) (hi : EvI X (.Name n np) iter σ G H xs) (own : List (Str × Nat)) (ok : BlkOk X.N X.env.scope scope own)
    (hg : ∀ (s : Shared) (H : Hp) (C : Addr) (cl : List (Str × Addr)) (fp : List Addr), PG (X.blk s H scope (compEnvC scope cl C X.env) fp) (.Name n np) (gName i))
    (ht : ∀ x v G1 H1, x ∈ xs → Ext G H G1 H1 → rep X.K G1 v x → ∀ s H0 C cl fp, EvTs (InB X scope s H0 C cl fp) ifs ((wipe σ (own.map (·.2))).set i (some v)) G1 H1 (t x))
    (he : ∀ x v G1 H1, x ∈ xs → t x = true → Ext G H G1 H1 → rep X.K G1 v x → ∀ s H0 C cl fp, Ev (InB X scope s H0 C cl fp) elt ((wipe σ (own.map (·.2))).set i (some v)) G1 H1 (f x))
    (hw : ∀ v, wipe ((wipe σ (own.map (·.2))).set i (some v)) (own.map (·.2)) = wipe σ (own.map (·.2)) := by intro _; rfl) (hs : ∀ x, foldedSetIterable iter X.env x = pure x := by intro _; rfl) :
    LcOk X elt ⟨.Name n np, iter, ifs, 0⟩ scope σ G H (Is X.K ((xs.filter t).map f)) := by
  obtain ⟨wi, pi, hi⟩ := hi
  exact ⟨_, _, _, wi, _, own, rfl, hc, hN, pi, ok, hg, hs, fun G1 H1 x1 Q q => lc_go (T := T1 X.K i) (f := f) (t := t) hi acts1 (fun G x σ' ⟨v, _, e⟩ => by rw [e]; exact hw v)
    (fun x G1 H1 σ' hx e ⟨v, r, e'⟩ => e' ▸ ht x v G1 H1 hx e r) (fun x G1 H1 σ' hx hb e ⟨v, r, e'⟩ => e' ▸ he x v G1 H1 hx hb e r) t1_up G1 H1 x1 Q q⟩
theorem filter_tt {xs : List α} : xs.filter (fun _ => true) = xs := List.filter_eq_self.mpr fun _ _ => rfl
theorem lc1A {xs : List α} {n : Str} {np : Pos} {i : Nat} (f : α → β) (hc : X.calm = true) (hN : X.N.Nodup) (hi : EvI X (.Name n np) iter σ G H xs) (own : List (Str × Nat)) (ok : BlkOk X.N X.env.scope scope own)
    (hg : ∀ (s : Shared) (H : Hp) (C : Addr) (cl : List (Str × Addr)) (fp : List Addr), PG (X.blk s H scope (compEnvC scope cl C X.env) fp) (.Name n np) (gName i))
    (he : ∀ x v G1 H1, x ∈ xs → Ext G H G1 H1 → rep X.K G1 v x → ∀ s H0 C cl fp, Ev (InB X scope s H0 C cl fp) elt ((wipe σ (own.map (·.2))).set i (some v)) G1 H1 (f x))
    (hw : ∀ v, wipe ((wipe σ (own.map (·.2))).set i (some v)) (own.map (·.2)) = wipe σ (own.map (·.2)) := by intro _; rfl) (hs : ∀ x, foldedSetIterable iter X.env x = pure x := by intro _; rfl) :
    LcOk X elt ⟨.Name n np, iter, [], 0⟩ scope σ G H (Is X.K (xs.map f)) := by
  have h := lc1 (ifs := []) f (fun _ => true) hc hN hi own ok hg (fun _ _ _ _ _ _ _ _ _ _ _ _ => ets_nil) (fun x v G1 H1 hx _ => he x v G1 H1 hx) hw hs
  rwa [filter_tt] at h
theorem lc2 {xs : List (α × γ)} {tg : Expr} {i j : Nat} (f : α × γ → β) (t : α × γ → Bool) (hc : X.calm = true) (hN : X.N.Nodup) (hi : EvI X tg iter σ G H xs) (own : List (Str × Nat)) (ok : BlkOk X.N X.env.scope scope own)
    (hg : ∀ (s : Shared) (H : Hp) (C : Addr) (cl : List (Str × Addr)) (fp : List Addr), PG (X.blk s H scope (compEnvC scope cl C X.env) fp) tg (gTup X.K 2 (gCons (gName i) (gCons (gName j) gNil))))
    (ht : ∀ x u w G1 H1, x ∈ xs → Ext G H G1 H1 → rep X.K G1 u x.1 → rep X.K G1 w x.2 → ∀ s H0 C cl fp, EvTs (InB X scope s H0 C cl fp) ifs (((wipe σ (own.map (·.2))).set i (some u)).set j (some w)) G1 H1 (t x))
    (he : ∀ x u w G1 H1, x ∈ xs → t x = true → Ext G H G1 H1 → rep X.K G1 u x.1 → rep X.K G1 w x.2 → ∀ s H0 C cl fp, Ev (InB X scope s H0 C cl fp) elt (((wipe σ (own.map (·.2))).set i (some u)).set j (some w)) G1 H1 (f x))
    (hw : ∀ u w, wipe (((wipe σ (own.map (·.2))).set i (some u)).set j (some w)) (own.map (·.2)) = wipe σ (own.map (·.2)) := by intro _ _; rfl) (hs : ∀ x, foldedSetIterable iter X.env x = pure x := by intro _; rfl) :
    LcOk X elt ⟨tg, iter, ifs, 0⟩ scope σ G H (Is X.K ((xs.filter t).map f)) := by
  obtain ⟨wi, pi, hi⟩ := hi
  exact ⟨_, _, _, wi, _, own, rfl, hc, hN, pi, ok, hg, hs, fun G1 H1 x1 Q q => lc_go (T := T2 X.K i j) (f := f) (t := t) hi acts2 (fun G x σ' ⟨u, w, _, _, e⟩ => by rw [e]; exact hw u w)
    (fun x G1 H1 σ' hx e ⟨u, w, r, r', e'⟩ => e' ▸ ht x u w G1 H1 hx e r r') (fun x G1 H1 σ' hx hb e ⟨u, w, r, r', e'⟩ => e' ▸ he x u w G1 H1 hx hb e r r') t2_up G1 H1 x1 Q q⟩
theorem lc2A {xs : List (α × γ)} {tg : Expr} {i j : Nat} (f : α × γ → β) (hc : X.calm = true) (hN : X.N.Nodup) (hi : EvI X tg iter σ G H xs) (own : List (Str × Nat)) (ok : BlkOk X.N X.env.scope scope own)
    (hg : ∀ (s : Shared) (H : Hp) (C : Addr) (cl : List (Str × Addr)) (fp : List Addr), PG (X.blk s H scope (compEnvC scope cl C X.env) fp) tg (gTup X.K 2 (gCons (gName i) (gCons (gName j) gNil))))
    (he : ∀ x u w G1 H1, x ∈ xs → Ext G H G1 H1 → rep X.K G1 u x.1 → rep X.K G1 w x.2 → ∀ s H0 C cl fp, Ev (InB X scope s H0 C cl fp) elt (((wipe σ (own.map (·.2))).set i (some u)).set j (some w)) G1 H1 (f x))
    (hw : ∀ u w, wipe (((wipe σ (own.map (·.2))).set i (some u)).set j (some w)) (own.map (·.2)) = wipe σ (own.map (·.2)) := by intro _ _; rfl) (hs : ∀ x, foldedSetIterable iter X.env x = pure x := by intro _; rfl) :
    LcOk X elt ⟨tg, iter, [], 0⟩ scope σ G H (Is X.K (xs.map f)) := by
  have h := lc2 (ifs := []) f (fun _ => true) hc hN hi own ok hg (fun _ _ _ _ _ _ _ _ _ _ _ _ _ _ => ets_nil) (fun x u w G1 H1 hx _ => he x u w G1 H1 hx) hw hs
  rwa [filter_tt] at h
/-! ### sorted, in, of ints -/
def ins (x : Int) : List Int → List Int
  | [] => [x]
  | y :: ys => if x ≤ y then x :: y :: ys else y :: ins x ys
def isort : List Int → List Int
  | [] => []
  | x :: xs => ins x (isort xs)
theorem ins_perm (x : Int) : ∀ ys, (ins x ys).Perm (x :: ys)
  | [] => .refl _
  | y :: ys => by
    unfold ins
    split
    · exact .refl _
    · exact ((ins_perm x ys).cons y).trans (.swap x y ys)
theorem isort_perm : ∀ xs, (isort xs).Perm xs
  | [] => .refl _
  | x :: xs => (ins_perm x _).trans ((isort_perm xs).cons x)
theorem mem_ins {x z : Int} {ys : List Int} : z ∈ ins x ys ↔ z = x ∨ z ∈ ys := by
  rw [(ins_perm x ys).mem_iff, List.mem_cons]
theorem ins_sorted (x : Int) : ∀ ys, ys.Pairwise (· ≤ ·) → (ins x ys).Pairwise (· ≤ ·)
  | [], _ => List.pairwise_singleton _ _
  | y :: ys, h => by
    unfold ins
    have h' := List.pairwise_cons.mp h
    split
    · rename_i hx
      exact List.pairwise_cons.mpr ⟨fun z hz => by
        rcases List.mem_cons.mp hz with rfl | hz
        · exact hx
        · exact Int.le_trans hx (h'.1 z hz), h⟩
    · rename_i hx
      exact List.pairwise_cons.mpr ⟨fun z hz => by
        rcases mem_ins.mp hz with rfl | hz
        · omega
        · exact h'.1 z hz, ins_sorted x ys h'.2⟩
theorem isort_sorted : ∀ xs, (isort xs).Pairwise (· ≤ ·)
  | [] => List.Pairwise.nil
  | x :: xs => ins_sorted x _ (isort_sorted xs)
theorem sorted_one : ∀ {xs ys : List Int}, xs.Perm ys → xs.Pairwise (· ≤ ·) → ys.Pairwise (· ≤ ·) → xs = ys
  | [], ys, p, _, _ => (List.nil_perm.mp p).symm
  | x :: xs, [], p, _, _ => absurd p.symm (List.not_perm_nil_cons _ _)
  | x :: xs, y :: ys, p, h1, h2 => by
    have a := List.pairwise_cons.mp h1
    have b := List.pairwise_cons.mp h2
    have e : x = y := by
      have m1 : x ∈ y :: ys := p.mem_iff.mp List.mem_cons_self
      have m2 : y ∈ x :: xs := p.mem_iff.mpr List.mem_cons_self
      rcases List.mem_cons.mp m1 with z | z
      · exact z
      · rcases List.mem_cons.mp m2 with w | w
        · exact w.symm
        · have := b.1 x z
          have := a.1 y w
          omega
    subst e
    rw [sorted_one (List.Perm.cons_inv p) a.2 b.2]
/-! ### new objects -/
theorem evN_bin {op : Operator} {ha' : MonoC Pa} (k : ∃ r : R2, OpR X (binaryOp op) r ∧ ∀ G1 H1 v u, Ext G H G1 H1 → HLen H1 → Pa G1 H1 v → Pb G1 H1 u → ∀ Q : VK, (∀ G2 H2 w, Ext G1 H1 G2 H2 → P G2 H2 w → New H1 w → Q w H2) → r v u H1 Q) (ha : EvP X a σ G H Pa) (hb : EvP X b σ G H Pb) : EvN X (.BinOp a op b pos) σ G H P :=
  let ⟨_, ho, k⟩ := k; evN_of (pe_op ho pe_sem pe_sem) fun G1 H1 x1 Q q => ha G1 H1 x1 _ fun G2 H2 v x2 _ pv => hb G2 H2 (x1.trans x2) _ fun G3 H3 u x3 l3 pu =>
    k G3 H3 v u ((x1.trans x2).trans x3) l3 (ha'.m _ _ _ _ _ x3 pv) pu Q fun G4 H4 w x4 pw n => q G4 H4 w ((x2.trans x3).trans x4) pw fun p e => (x2.trans x3).h.free (n p e)
theorem evN_sl {xs : List α} {inst : Rep α} {lo hi : Option Expr} {l u : Option Int} {p2 : Pos} [m : MonoC P] [s : AsSeq X.K P α inst xs] (h : EvP X a σ G H P) (h1 : EvO X lo σ G H l) (h2 : EvO X hi σ G H u) : EvN X (.Subscript a (.Slice lo hi none p2) pos) σ G H (Is X.K (cut xs l u)) := by
  obtain ⟨t1, p1, k1⟩ := h1
  obtain ⟨t2, p2, k2⟩ := h2
  exact evN_of (pe_slice sl_list pe_sem p1 p2) fun G1 H1 x1 Q q => h G1 H1 x1 _ fun G2 H2 v x2 _ pv => k1 G2 H2 (x1.trans x2) _ fun G3 H3 x3 => k2 G3 H3 ((x1.trans x2).trans x3) _ fun G4 H4 x4 => by
    obtain ⟨a, us, e, g, pr⟩ := s.seq _ _ _ x4.s (m.m _ _ _ _ _ (x3.trans x4) pv)
    exact ⟨a, us, e, g, fun p hp => q (upd G4 p (.lst _)) _ _ ((x2.trans (x3.trans x4)).new hp) ⟨p, _, rfl, upd_same, pair_up (same_new (x4.s.free hp)) (paired_cut pr)⟩ fun p' e => by cases e; exact (x2.trans (x3.trans x4)).h.free hp⟩
theorem ev_cat {xs ys : List α} {ia : Rep α} [m : MonoC Pa] [sa : AsOwn X.K Pa α ia xs] [sb : AsOwn X.K Pb α ia ys] (hl : xs.length + ys.length ≤ sizeLine) (ha : EvP X a σ G H Pa) (hb : EvP X b σ G H Pb) : Ev X (.BinOp a .Add b pos) σ G H (xs ++ ys) := ev_bin (b_cat hl) ha hb
theorem evN_cat {xs ys : List α} {ia : Rep α} [m : MonoC Pa] [sa : AsOwn X.K Pa α ia xs] [sb : AsOwn X.K Pb α ia ys] (hl : xs.length + ys.length ≤ sizeLine) (ha : EvP X a σ G H Pa) (hb : EvP X b σ G H Pb) : EvN X (.BinOp a .Add b pos) σ G H (Is X.K (xs ++ ys)) :=
  evN_bin (ha' := m) ⟨_, op_cat, fun G1 H1 v u x _ h1 h2 Q q => by
    obtain ⟨a, us, e, g, pr⟩ := sa.own _ _ _ x.s h1
    obtain ⟨a2, us2, e2, g2, pr2⟩ := sb.own _ _ _ x.s h2
    exact ⟨a, a2, us, us2, e, e2, g, g2, by rw [paired_len pr, paired_len pr2]; exact hl, fun p hp => q (upd G1 p (.lst (us ++ us2))) _ _ ((Ext.refl x.s).new hp) ⟨p, _, rfl, upd_same, pair_up (same_new (x.s.free hp)) (paired_app pr pr2)⟩ fun p' e => by cases e; exact hp⟩⟩ ha hb
theorem evN_revsl {xs : List α} {inst : Rep α} {k0 : Nat} {p1 p2 p3 : Pos} [s : AsSeq X.K P α inst xs] (h : EvP X e σ G H P) : EvN X (.Subscript e (.Slice none none (some (.UnaryOp .USub (.Constant (.int 1) k0 p1) p2)) p3) pos) σ G H (Is X.K xs.reverse) :=
  evN_of (pe_revL pe_sem) fun G1 H1 x1 Q q => h G1 H1 x1 _ fun G2 H2 v x2 _ pv => by
    obtain ⟨a, us, e, g, pr⟩ := s.seq _ _ _ x2.s pv
    exact ⟨a, us, e, g, fun p hp => q (upd G2 p (.lst _)) _ _ (x2.new hp) ⟨p, _, rfl, upd_same, pair_up (same_new (x2.s.free hp)) (paired_rev pr)⟩ fun p' e => by cases e; exact x2.h.free hp⟩
theorem evN_sorted {xs : List Int} [MonoC P] [s : AsSeq X.K P Int instRepInt xs] (B : Bl X "sorted") (h : EvP X e σ G H P) (he : starEach [e] X.env = (false, eval e X.env) :: starEach [] X.env := by rfl) : EvN X (.Call (.Name "sorted" p) [e] [] pos) σ G H (Is X.K (isort xs)) :=
  evN_of (pe_callB cr_sortedI B.g B.m PyProof.Rows.boot_sorted (pa_cons pe_sem pa_nil he) (by decide) (by decide) he rfl) fun G1 H1 x1 Q q => h G1 H1 x1 _ fun G2 H2 v x2 _ pv => by
    obtain ⟨a, us, e, g, pr⟩ := s.seq _ _ _ x2.s pv
    rw [paired_ints pr] at g
    refine ⟨a, xs, by rw [e], g, fun ns' p perm srt hp => ?_⟩
    have e : ns' = isort xs := sorted_one (perm.trans (isort_perm xs).symm) srt (isort_sorted xs)
    subst e
    exact q (upd G2 p (.lst _)) _ _ (x2.new hp) ⟨p, _, rfl, upd_same, ints_paired _⟩ fun p' e => by cases e; exact x2.h.free hp
theorem evN_copy {xs : List α} {inst : Rep α} [MonoC P] [s : AsSeq X.K P α inst xs] (B : Bl X "list") (h : EvP X e σ G H P) (he : starEach [e] X.env = (false, eval e X.env) :: starEach [] X.env := by rfl) : EvN X (.Call (.Name "list" p) [e] [] pos) σ G H (Is X.K xs) :=
  evN_of (pe_callTy call_list_of B.g B.m PyProof.Rows.boot_list (pa_cons pe_sem pa_nil he) (by decide) (by decide) he rfl) fun G1 H1 x1 Q q => h G1 H1 x1 _ fun G2 H2 v x2 _ pv => by
    obtain ⟨a, us, e, g, pr⟩ := s.seq _ _ _ x2.s pv
    exact ⟨a, us, by rw [e], .inl g, fun p hp => q (upd G2 p (.lst us)) _ _ (x2.new hp) ⟨p, us, rfl, upd_same, pair_up (same_new (x2.s.free hp)) pr⟩ fun p' e => by cases e; exact x2.h.free hp⟩
theorem evN_call {k : Nat} {n : Str} {p : Pos} {sp : Sp} {A : Hp → Hp → List V → Prop} (C : Cal X.prog X.w X.K X.mg X.base k n sp) (hr : Room k X.A) (hg : Gl X n) (ha : EvA X (e :: es) σ G H A)
    (h : ∀ G1 H1 vs, Ext G H G1 H1 → HLen H1 → A G1 H1 vs → ∀ Q : VK, (∀ G2 H2 v, Ext G1 H1 G2 H2 → P G2 H2 v → New H1 v → Q v H2) → sp vs H1 Q E0) (hdb : (n == ("__debug__" : Str)) = false := by decide)
    (he : starEach (e :: es) X.env = (false, eval e X.env) :: starEach es X.env := by rfl) (hpl : (backTo pos (starEach es X.env)).any (·.1) = false := by rfl) : EvN X (.Call (.Name n p) (e :: es) [] pos) σ G H P := by
  obtain ⟨f, fd, ps, F, hm, hk, hb⟩ := C.ex
  exact evN_of (pe_call F hr hg hm hk hb .nil passL pa_sem hdb he hpl) fun G1 H1 x1 Q q => ha G1 H1 x1 _ fun G2 H2 vs x2 l2 pa => by
    show sp (vs ++ []) H2 Q E0
    rw [List.append_nil]
    exact h G2 H2 vs (x1.trans x2) l2 pa Q fun G3 H3 v x3 r n => q G3 H3 v (x2.trans x3) r fun p e => x2.h.free (n p e)
variable {δ ζ : Type} [Rep δ] [Rep ζ] {k : Nat} {n : Str} {e1 e2 e3 e4 : Expr} {x1 : α} {x2 : β} {x3 : γ} {x4 : δ}
theorem evN_c1 {pre : α → Prop} {f : α → ζ} (C : Cal X.prog X.w X.K X.mg X.base k n (Sp1 X.K true pre f)) (hr : Room k X.A) (hg : Gl X n) (h1 : Ev X e1 σ G H x1) (hp : pre x1) (hdb : (n == ("__debug__" : Str)) = false := by decide)
    (he : starEach [e1] X.env = (false, eval e1 X.env) :: starEach [] X.env := by rfl) : EvN X (.Call (.Name n p) [e1] [] pos) σ G H (Is X.K (f x1)) :=
  evN_call C hr hg (ea_cons h1 ea_nil he) (fun G1 H1 vs x l ⟨v, r, e, rv, e'⟩ Q q => ⟨G1, v, x1, by rw [e, e'], x.s, rv, hp, fun G2 H2 w x r n => q G2 H2 w x r (n rfl)⟩) hdb he rfl
theorem evN_c2 {pre : α → β → Prop} {f : α → β → ζ} (C : Cal X.prog X.w X.K X.mg X.base k n (Sp2 X.K true pre f)) (hr : Room k X.A) (hg : Gl X n) (h1 : Ev X e1 σ G H x1) (h2 : Ev X e2 σ G H x2) (hp : pre x1 x2) (hdb : (n == ("__debug__" : Str)) = false := by decide)
    (he : starEach [e1, e2] X.env = (false, eval e1 X.env) :: starEach [e2] X.env := by rfl) (he2 : starEach [e2] X.env = (false, eval e2 X.env) :: starEach [] X.env := by rfl) (hpl : (backTo pos (starEach [e2] X.env)).any (·.1) = false := by rfl) : EvN X (.Call (.Name n p) [e1, e2] [] pos) σ G H (Is X.K (f x1 x2)) :=
  evN_call C hr hg (ea_cons h1 (ea_cons h2 ea_nil he2) he) (fun G1 H1 vs x l ⟨v, r, e, rv, v2, r2, e', rv2, e''⟩ Q q => ⟨G1, v, v2, x1, x2, by rw [e, e', e''], x.s, rv, rv2, hp, fun G2 H2 w x r n => q G2 H2 w x r (n rfl)⟩) hdb he hpl
theorem evN_c3 {pre : α → β → γ → Prop} {f : α → β → γ → ζ} (C : Cal X.prog X.w X.K X.mg X.base k n (Sp3 X.K true pre f)) (hr : Room k X.A) (hg : Gl X n) (h1 : Ev X e1 σ G H x1) (h2 : Ev X e2 σ G H x2) (h3 : Ev X e3 σ G H x3) (hp : pre x1 x2 x3) (hdb : (n == ("__debug__" : Str)) = false := by decide)
    (he : starEach [e1, e2, e3] X.env = (false, eval e1 X.env) :: starEach [e2, e3] X.env := by rfl) (he2 : starEach [e2, e3] X.env = (false, eval e2 X.env) :: starEach [e3] X.env := by rfl) (he3 : starEach [e3] X.env = (false, eval e3 X.env) :: starEach [] X.env := by rfl) (hpl : (backTo pos (starEach [e2, e3] X.env)).any (·.1) = false := by rfl) : EvN X (.Call (.Name n p) [e1, e2, e3] [] pos) σ G H (Is X.K (f x1 x2 x3)) :=
  evN_call C hr hg (ea_cons h1 (ea_cons h2 (ea_cons h3 ea_nil he3) he2) he) (fun G1 H1 vs x l ⟨v, r, e, rv, v2, r2, e', rv2, v3, r3, e'', rv3, e'''⟩ Q q => ⟨G1, v, v2, v3, x1, x2, x3, by rw [e, e', e'', e'''], x.s, rv, rv2, rv3, hp, fun G2 H2 w x r n => q G2 H2 w x r (n rfl)⟩) hdb he hpl

/-! ### data compared -/
class Dat (α : Type) [Rep α] [DecidableEq α] where
  toD : α → PyData
  dp : ∀ {K : PySem.W.Frag} {G H : Hp} {v : V} {x : α}, Same G H → rep K G v x → Dp K H v (toD x)
  ok : ∀ x, (toD x).canLay0 = true
  deep : Nat
  dep : ∀ x, (toD x).depth ≤ deep
  eqv : ∀ x y, PyData.eqv (toD x) (toD y) = decide (x = y)
class DatN (α : Type) [Rep α] [DecidableEq α] [Dat α] : Prop where
  l : ∀ x : α, PyData.eqv .none (Dat.toD x) = false
  r : ∀ x : α, PyData.eqv (Dat.toD x) .none = false
instance : Dat Int := ⟨fun i => .int i, fun s h => by rw [show _ = V.int _ from h]; exact .int _, fun _ => rfl, 0, fun _ => Nat.le_refl _, fun x y => by show (x == y) = _; by_cases h : x = y <;> simp [h]⟩
instance : Dat Bool := ⟨fun i => .bool i, fun s h => by rw [show _ = V.bl _ from h]; exact .bl _, fun _ => rfl, 0, fun _ => Nat.le_refl _, fun x y => by show (x == y) = _; by_cases h : x = y <;> simp [h]⟩
instance : DatN Int := ⟨fun _ => rfl, fun _ => rfl⟩
instance : DatN Bool := ⟨fun _ => rfl, fun _ => rfl⟩
theorem dp_all {α : Type} [Rep α] [DecidableEq α] [Dat α] {K : PySem.W.Frag} {G H : Hp} (s : Same G H) : ∀ {vs : List V} {xs : List α}, Paired (rep K G) vs xs → DpAll K H vs (xs.map Dat.toD)
  | _, _, .nil => .nil
  | _, _, .cons r t => .cons (Dat.dp s r) (dp_all s t)
theorem ok_all {α : Type} [Rep α] [DecidableEq α] [Dat α] : ∀ xs : List α, PyData.canLayAll0 (xs.map Dat.toD) = true
  | [] => rfl
  | x :: xs => by
    show (PyData.canLay0 (Dat.toD x) && PyData.canLayAll0 (xs.map Dat.toD)) = true
    rw [Dat.ok, ok_all xs]
    rfl
theorem dep_all {α : Type} [Rep α] [DecidableEq α] [Dat α] : ∀ xs : List α, PyData.depthAll (xs.map Dat.toD) ≤ Dat.deep α
  | [] => Nat.zero_le _
  | x :: xs => by
    show max (PyData.depth (Dat.toD x)) (PyData.depthAll (xs.map Dat.toD)) ≤ _
    exact Nat.max_le.mpr ⟨Dat.dep x, dep_all xs⟩
theorem eqv_all {α : Type} [Rep α] [DecidableEq α] [Dat α] : ∀ xs ys : List α, PyData.eqvAll (xs.map Dat.toD) (ys.map Dat.toD) = decide (xs = ys)
  | [], [] => by simp [PyData.eqvAll]
  | [], _ :: _ => by simp [PyData.eqvAll]
  | _ :: _, [] => by simp [PyData.eqvAll]
  | x :: xs, y :: ys => by
    show (PyData.eqv (Dat.toD x) (Dat.toD y) && PyData.eqvAll (xs.map Dat.toD) (ys.map Dat.toD)) = _
    rw [Dat.eqv, eqv_all xs ys, ← Bool.decide_and]
    exact decide_eq_decide.mpr (by rw [List.cons.injEq])
instance {α : Type} [Rep α] [DecidableEq α] [Dat α] : Dat (List α) := ⟨fun xs => .list (xs.map Dat.toD), fun s ⟨a, vs, e, g, p⟩ => by rw [e]; exact .lst (.of (s _ _ g)) (dp_all s p), ok_all, Dat.deep α + 1, fun xs => Nat.succ_le_succ (dep_all xs), fun xs ys => eqv_all xs ys⟩
instance {α : Type} [Rep α] [DecidableEq α] [Dat α] : DatN (List α) := ⟨fun _ => rfl, fun _ => rfl⟩
instance {α β : Type} [Rep α] [Rep β] [DecidableEq α] [DecidableEq β] [Dat α] [Dat β] : Dat (α × β) :=
  ⟨fun x => .tuple [Dat.toD x.1, Dat.toD x.2], fun s ⟨a, u, w, e, g, p, q⟩ => by rw [e]; exact .tup (.of (s _ _ g)) (.cons (Dat.dp s p) (.cons (Dat.dp s q) .nil)),
    fun x => by
      show (PyData.canLay0 (Dat.toD x.1) && (PyData.canLay0 (Dat.toD x.2) && true)) = true
      rw [Dat.ok, Dat.ok]; rfl, max (Dat.deep α) (Dat.deep β) + 1, fun x => by
      show max (PyData.depth (Dat.toD x.1)) (max (PyData.depth (Dat.toD x.2)) 0) + 1 ≤ _
      have h1 := Dat.dep x.1
      have h2 := Dat.dep x.2
      omega, fun x y => by
      show (PyData.eqv (Dat.toD x.1) (Dat.toD y.1) && (PyData.eqv (Dat.toD x.2) (Dat.toD y.2) && true)) = _
      rw [Dat.eqv, Dat.eqv, Bool.and_true, ← Bool.decide_and]
      exact decide_eq_decide.mpr (by rw [Prod.ext_iff])⟩
instance {α β : Type} [Rep α] [Rep β] [DecidableEq α] [DecidableEq β] [Dat α] [Dat β] : DatN (α × β) := ⟨fun _ => rfl, fun _ => rfl⟩
instance {α : Type} [Rep α] [DecidableEq α] [Dat α] [DatN α] : Dat (Option α) :=
  ⟨fun o => match o with
    | none => .none
    | some x => Dat.toD x, fun {K G H v x} s h => match x, h with
    | none, h => by rw [show v = .non from h]; exact .non
    | some x, h => Dat.dp (α := α) s h, fun o => match o with
    | none => rfl
    | some x => Dat.ok x, Dat.deep α, fun o => match o with
    | none => Nat.zero_le _
    | some x => Dat.dep x, fun x y => match x, y with
    | none, none => by simp [PyData.eqv]
    | none, some y => by simp [DatN.l]
    | some x, none => by simp [DatN.r]
    | some x, some y => by simp [Dat.eqv]⟩
theorem hu64 {A : Around} {k : Nat} (hr : Room k A) : A.units + 64 < cLine := hr.units
theorem hu_of64 {A : Around} {k : Nat} (hr : Room k A) : A.units + 64 < cLine := hr.units
/-- P tells a datum to be compared -/
class AsDat (K : PySem.W.Frag) (P : PV) (α : outParam Type) (ir : outParam (Rep α)) (id : outParam (DecidableEq α)) (dd : outParam (Dat α)) (x : outParam α) : Prop where
  dp : ∀ G H v, Same G H → P G H v → Dp K H v (Dat.toD x)
instance {K : PySem.W.Frag} {α : Type} [ir : Rep α] [id : DecidableEq α] [dd : Dat α] {x : α} : AsDat K (Is K x) α ir id dd x := ⟨fun _ _ _ s h => Dat.dp s h⟩
instance {K : PySem.W.Frag} {α : Type} [ir : Rep α] [id : DecidableEq α] [dd : Dat α] {x : List α} : AsDat K (OwnAt K x) (List α) inferInstance inferInstance inferInstance x := ⟨fun _ _ _ s ⟨a, vs, e, g, p⟩ => by rw [e]; exact .lst (.of g) (dp_all s p)⟩
theorem shaped_d {α : Type} [Rep α] [DecidableEq α] [Dat α] (h : Dat.deep α ≤ 64) (x : α) : SeqAt.shaped (Dat.toD x) = true := by
  unfold SeqAt.shaped
  rw [Dat.ok, decide_eq_true (Nat.le_trans (Dat.dep x) h)]
  rfl
theorem c_eqD {α : Type} {ir : Rep α} {id : DecidableEq α} {dd : Dat α} {x y : α} [A1 : AsDat X.K Pa α ir id dd x] [A2 : AsDat X.K Pb α ir id dd y] (hu : X.A.units + 64 < cLine) (h : Dat.deep α ≤ 64 := by decide) : Bin X (compareOp .Eq) Pa Pb (Is X.K (decide (x = y))) G H :=
  ⟨_, op_eqD hu, fun G1 H1 v u z _ e1 e2 Q q => ⟨_, _, A1.dp _ _ _ z.s e1, A2.dp _ _ _ z.s e2, shaped_d h x, shaped_d h y, by rw [Dat.eqv]; exact q G1 H1 _ (Ext.refl z.s) rfl⟩⟩
theorem c_neD {α : Type} {ir : Rep α} {id : DecidableEq α} {dd : Dat α} {x y : α} [A1 : AsDat X.K Pa α ir id dd x] [A2 : AsDat X.K Pb α ir id dd y] (hu : X.A.units + 64 < cLine) (h : Dat.deep α ≤ 64 := by decide) : Bin X (compareOp .NotEq) Pa Pb (Is X.K (!decide (x = y))) G H :=
  ⟨_, op_neD hu, fun G1 H1 v u z _ e1 e2 Q q => ⟨_, _, A1.dp _ _ _ z.s e1, A2.dp _ _ _ z.s e2, shaped_d h x, shaped_d h y, by rw [Dat.eqv]; exact q G1 H1 _ (Ext.refl z.s) rfl⟩⟩
theorem any_d {α : Type} [Rep α] [DecidableEq α] [Dat α] (x : α) : ∀ xs : List α, ((xs.map Dat.toD).any fun z => PyData.eqv z (Dat.toD x)) = decide (x ∈ xs)
  | [] => by simp
  | y :: ys => by
    rw [List.map_cons, List.any_cons, Dat.eqv, any_d x ys]
    by_cases h : y = x
    · simp [h]
    · have h' : ¬ x = y := fun z => h z.symm
      simp [h, h']
/-! ### is, isinstance -/
theorem c_isX {α : Type} [Rep α] [NonV α] {x : α} : Bin X (compareOp .Is) (Is X.K x) (Is X.K ()) (Is X.K false) G H :=
  ⟨_, op_isN, fun G1 H1 v u y _ e1 e2 Q q => ⟨e2, by rw [decide_eq_false (NonV.nn e1)]; exact q G1 H1 _ (Ext.refl y.s) rfl⟩⟩
theorem c_notX {α : Type} [Rep α] [NonV α] {x : α} : Bin X (compareOp .IsNot) (Is X.K x) (Is X.K ()) (Is X.K true) G H :=
  ⟨_, op_notN, fun G1 H1 v u y _ e1 e2 Q q => ⟨e2, by rw [decide_eq_false (NonV.nn e1)]; exact q G1 H1 _ (Ext.refl y.s) rfl⟩⟩
theorem c_isU : Bin X (compareOp .Is) (Is X.K ()) (Is X.K ()) (Is X.K true) G H :=
  ⟨_, op_isN, fun G1 H1 v u y _ e1 e2 Q q => ⟨e2, by rw [decide_eq_true (show v = .non from e1)]; exact q G1 H1 _ (Ext.refl y.s) rfl⟩⟩
theorem c_notU : Bin X (compareOp .IsNot) (Is X.K ()) (Is X.K ()) (Is X.K false) G H :=
  ⟨_, op_notN, fun G1 H1 v u y _ e1 e2 Q q => ⟨e2, by rw [decide_eq_true (show v = .non from e1)]; exact q G1 H1 _ (Ext.refl y.s) rfl⟩⟩
theorem c_isB {i j : Bool} : Bin X (compareOp .Is) (Is X.K i) (Is X.K j) (Is X.K (decide (i = j))) G H :=
  ⟨_, op_isBl, fun G1 H1 v u y _ e1 e2 Q q => ⟨i, j, e1, e2, q G1 H1 _ (Ext.refl y.s) rfl⟩⟩
theorem c_isnB {i j : Bool} : Bin X (compareOp .IsNot) (Is X.K i) (Is X.K j) (Is X.K (!decide (i = j))) G H :=
  ⟨_, op_notBl, fun G1 H1 v u y _ e1 e2 Q q => ⟨i, j, e1, e2, q G1 H1 _ (Ext.refl y.s) rfl⟩⟩
/-- P tells a value of the built-in type T -/
class AsTy (K : PySem.W.Frag) (P : PV) (T : outParam String) : Prop where
  ty : ∀ G H v, Same G H → P G H v → TyX K H v (.type T)
instance {K : PySem.W.Frag} {x : Int} : AsTy K (Is K x) "int" := ⟨fun _ _ _ _ h => by rw [show _ = V.int _ from h]; exact .base (.int _)⟩
instance {K : PySem.W.Frag} {x : Bool} : AsTy K (Is K x) "bool" := ⟨fun _ _ _ _ h => by rw [show _ = V.bl _ from h]; exact .base (.bl _)⟩
instance {K : PySem.W.Frag} {x : Str} : AsTy K (Is K x) "str" := ⟨fun _ _ _ _ h => by rw [show _ = V.str _ from h]; exact .base (.str _)⟩
instance {K : PySem.W.Frag} {x : Unit} : AsTy K (Is K x) "NoneType" := ⟨fun _ _ _ _ h => by rw [show _ = V.non from h]; exact .base .non⟩
instance {K : PySem.W.Frag} {α : Type} [Rep α] {x : List α} : AsTy K (Is K x) "list" := ⟨fun _ _ _ s ⟨a, vs, e, g, _⟩ => by rw [e]; exact .base (.lst (s _ _ g))⟩
instance {K : PySem.W.Frag} {α : Type} [Rep α] {x : List α} : AsTy K (OwnAt K x) "list" := ⟨fun _ _ _ s ⟨a, vs, e, g, _⟩ => by rw [e]; exact .base (.lst g)⟩
instance {K : PySem.W.Frag} {α β : Type} [Rep α] [Rep β] {x : α × β} : AsTy K (Is K x) "tuple" := ⟨fun _ _ _ s ⟨a, u, w, e, g, _⟩ => by rw [e]; exact .base (.tup (s _ _ g))⟩
theorem ev_isi {T T' : String} {r : Bool} [MonoC P] [t : AsTy X.K P T] (B : Bl X "isinstance") (h : EvP X a σ G H P) (hT : Ev X b σ G H (V.ty T')) (k : kitB T T' = some r) (he : starEach [a, b] X.env = (false, eval a X.env) :: starEach [b] X.env := by rfl) (he2 : starEach [b] X.env = (false, eval b X.env) :: starEach [] X.env := by rfl)
    (hpl : (backTo pos (starEach [b] X.env)).any (·.1) = false := by rfl) : Ev X (.Call (.Name "isinstance" p) [a, b] [] pos) σ G H r :=
  ev_callB call_isi B.g B.m PyProof.Rows.boot_isinstance (ea_cons h (ea_cons hT ea_nil he2) he) (fun G1 H1 vs y l ⟨v, r', e1, pv, v2, r2, e2, pv2, e3⟩ Q q =>
    ⟨v, v2, .type T, .type T', r, by rw [e1, e2, e3], by rw [show v2 = _ from pv2]; exact .ty T', t.ty _ _ _ y.s pv, kit_ty k, q G1 H1 _ (Ext.refl y.s) rfl⟩) (by decide) (by decide) he hpl
/-- isinstance(x, (T1, T2)) -/
theorem ev_isiT {T T1 T2 : String} {r1 r2 : Bool} {c1 c2 : Expr} {kk : Nat} {tp : Pos} [MonoC P] [t : AsTy X.K P T] (B : Bl X "isinstance") (h : EvP X a σ G H P) (h1 : Ev X c1 σ G H (V.ty T1)) (h2 : Ev X c2 σ G H (V.ty T2)) (k : kitB T T1 = some r1 ∧ kitB T T2 = some r2)
    (he : starEach [a, .Tuple [c1, c2] kk tp] X.env = (false, eval a X.env) :: starEach [.Tuple [c1, c2] kk tp] X.env := by rfl) (he2 : starEach [.Tuple [c1, c2] kk tp] X.env = (false, eval (.Tuple [c1, c2] kk tp) X.env) :: starEach [] X.env := by rfl)
    (hpl : (backTo pos (starEach [.Tuple [c1, c2] kk tp] X.env)).any (·.1) = false := by rfl) (hs : starEach [c1, c2] X.env = (false, eval c1 X.env) :: starEach [c2] X.env := by rfl) (hs' : starEach [c2] X.env = (false, eval c2 X.env) :: starEach [] X.env := by rfl) :
    Ev X (.Call (.Name "isinstance" p) [a, .Tuple [c1, c2] kk tp] [] pos) σ G H (r1 || r2) :=
  ev_callB call_isiT B.g B.m PyProof.Rows.boot_isinstance (ea_cons h (ea_cons (ev_tup (k := kk) h1 h2 hs hs') ea_nil he2) he) (fun G1 H1 vs y l ⟨v, r', e1, pv, v2, r2', e2, pv2, e3⟩ Q q => by
    obtain ⟨ta, w1, w2, rfl, g, p1, p2⟩ := pv2
    have p1 : w1 = V.ty T1 := p1
    have p2 : w2 = V.ty T2 := p2
    subst p1 p2
    refine ⟨v, ta, _, .type T, [.type T1, .type T2], r1 || r2, by rw [e1, e2, e3], y.s _ _ g, .cons (.ty _) (.cons (.ty _) .nil), t.ty _ _ _ y.s pv, ?_, q G1 H1 _ (Ext.refl y.s) rfl⟩
    refine kitAny_cons (kit_ty k.1) (fun z => ?_) fun z => by rw [z]; rfl
    rw [z, Bool.false_or]
    refine kitAny_cons (kit_ty k.2) (fun z' => ?_) fun z' => z'
    rw [z']
    exact kitAny_nil) (by decide) (by decide) he hpl
theorem boot_int' : bootBuiltins "int" = some (.type "int") := PyProof.Rows.boot_int
theorem boot_bool' : bootBuiltins "bool" = some (.type "bool") := by decide +kernel
theorem boot_str' : bootBuiltins "str" = some (.type "str") := PyProof.Rows.boot_str
theorem boot_list' : bootBuiltins "list" = some (.type "list") := PyProof.Rows.boot_list
theorem boot_tuple' : bootBuiltins "tuple" = some (.type "tuple") := by decide +kernel

theorem ev_sorted {xs : List Int} [MonoC P] [s : AsSeq X.K P Int instRepInt xs] (B : Bl X "sorted") (h : EvP X e σ G H P) (he : starEach [e] X.env = (false, eval e X.env) :: starEach [] X.env := by rfl) : Ev X (.Call (.Name "sorted" p) [e] [] pos) σ G H (isort xs) :=
  ev_callB cr_sortedI B.g B.m PyProof.Rows.boot_sorted (ea_cons h ea_nil he) (fun G1 H1 vs x l ⟨v, r, e1, pv, e2⟩ Q q => by
    obtain ⟨a, us, e, g, pr⟩ := s.seq _ _ _ x.s pv
    rw [paired_ints pr] at g
    refine ⟨a, xs, by rw [e1, e2, e], g, fun ns' p perm srt hp => ?_⟩
    have e : ns' = isort xs := sorted_one (perm.trans (isort_perm xs).symm) srt (isort_sorted xs)
    subst e
    exact q (upd G1 p (.lst _)) _ _ ((Ext.refl x.s).new hp) ⟨p, _, rfl, upd_same, ints_paired _⟩) (by decide) (by decide) he rfl
theorem inV_ints {i : Int} : ∀ ns : List Int, inV (.int i) (ns.map V.int) = decide (i ∈ ns)
  | [] => by simp [inV]
  | n :: ns => by
    have ih := inV_ints (i := i) ns
    unfold inV at ih ⊢
    rw [List.map_cons, List.any_cons, ih]
    show (n == i || _) = _
    by_cases h : n = i
    · simp [h]
    · have h' : ¬ i = n := fun z => h z.symm
      simp [h, h']
theorem flat_ints (ns : List Int) : (ns.map V.int).all flatV = true := by
  rw [List.all_eq_true]
  intro x hx
  obtain ⟨i, _, rfl⟩ := List.mem_map.mp hx
  rfl
theorem c_in {i : Int} {xs : List Int} [s : AsSeq X.K Pb Int instRepInt xs] : Bin X (compareOp .In) (Is X.K i) Pb (Is X.K (decide (i ∈ xs))) G H :=
  ⟨_, op_in_seq, fun G1 H1 v u y _ e1 e2 Q q => by
    obtain ⟨a, us, e, g, pr⟩ := s.seq _ _ _ y.s e2
    rw [paired_ints pr] at g
    refine ⟨a, _, e, .inl g, by rw [show v = _ from e1]; rfl, flat_ints xs, ?_⟩
    rw [show v = _ from e1, inV_ints]
    exact q G1 H1 _ (Ext.refl y.s) rfl⟩
theorem c_nin {i : Int} {xs : List Int} [s : AsSeq X.K Pb Int instRepInt xs] : Bin X (compareOp .NotIn) (Is X.K i) Pb (Is X.K (!decide (i ∈ xs))) G H :=
  ⟨_, op_notIn_seq, fun G1 H1 v u y _ e1 e2 Q q => by
    obtain ⟨a, us, e, g, pr⟩ := s.seq _ _ _ y.s e2
    rw [paired_ints pr] at g
    refine ⟨a, _, e, .inl g, by rw [show v = _ from e1]; rfl, flat_ints xs, ?_⟩
    rw [show v = _ from e1, inV_ints]
    exact q G1 H1 _ (Ext.refl y.s) rfl⟩
end
end RL

namespace RL
open PySem PySem.Spec PyProof.Rows L2 Rep
theorem ixN_neg' {n : Nat} {i : Int} (h0 : i < 0) (h1 : -(n : Int) ≤ i) {j : Nat} (h : (j : Int) = i + n := by omega) : ixN n i = some j := by
  rw [ixN_neg h0 h1, ← h]
  rfl
/-! ### a law's end -/
theorem law_sp {K : PySem.W.Frag} {H : Hp} {a : Addr} {ns : List Int} {m : Scr → Bool} (ht : ∀ s : Scr, s.ns.length ≤ 63 → m s = true) (hl : ns.length ≤ 63) (hS : SqL K H a (ns.map V.int)) :
    Sp1 K false (fun (script : Scr) => script.ns.length ≤ 63) m [.ref a] H (fun v _ => v = .bl true) fun _ _ _ => False :=
  ⟨H, .ref a, ⟨ns⟩, rfl, Same.refl _, ⟨a, rfl, hS⟩, hl, fun G2 H2 w _ r _ => by rw [ht ⟨ns⟩ hl] at r; exact r⟩
theorem law_cx {P : Program} {w : World} {H : Hp} {s s' : Shared} {e : Value} (h : L2.CX P w [] H s (fun _ _ _ => False) e s') : False := by
  obtain ⟨_, _, _, _, _, _, _, _, _, _, _, _, z⟩ := h
  exact z
end RL

namespace RL
/-! ### loops, plainly -/
theorem lrun_cons {α R S : Type} (step : α → S → LR R S) (x : α) (xs : List α) (s : S) : lrun step (x :: xs) s = match step x s with | .nxt s' => lrun step xs s' | .brk s' => .nxt s' | .ret r => .ret r := rfl
theorem lrun_unit {α R : Type} {step : α → Unit → LR R Unit} : ∀ {xs : List α}, (∀ x ∈ xs, step x () = .nxt ()) → lrun step xs () = .nxt ()
  | [], _ => rfl
  | x :: xs, h => by
    rw [lrun_cons, h x List.mem_cons_self]
    exact lrun_unit fun y hy => h y (List.mem_cons_of_mem _ hy)
theorem lrun_inv {α R S : Type} {step : α → S → LR R S} (I : S → Prop) : ∀ {xs : List α} {s : S}, I s → (∀ x ∈ xs, ∀ s, I s → ∃ s', step x s = .nxt s' ∧ I s') → ∃ s', lrun step xs s = .nxt s' ∧ I s'
  | [], s, h, _ => ⟨s, rfl, h⟩
  | x :: xs, s, h, k => by
    obtain ⟨s', e, h'⟩ := k x List.mem_cons_self s h
    obtain ⟨t, e2, h2⟩ := lrun_inv I (xs := xs) h' fun y hy => k y (List.mem_cons_of_mem _ hy)
    refine ⟨t, ?_, h2⟩
    rw [lrun_cons, e]
    exact e2
theorem lfold_foldl {α S : Type} (step : α → S → S) : ∀ (xs : List α) (s : S), lfold step xs s = xs.foldl (fun s x => step x s) s
  | [], _ => rfl
  | x :: xs, s => lfold_foldl step xs (step x s)
theorem lfold_len {α β : Type} {step : α → List β → List β} {c : Nat} (h : ∀ x s, (step x s).length = s.length + c) : ∀ (xs : List α) (s : List β), (lfold step xs s).length = s.length + c * xs.length
  | [], s => by simp [lfold]
  | x :: xs, s => by
    rw [lfold, lfold_len h xs, h, List.length_cons, Nat.mul_add]
    omega
/-- a list that is filled by a loop is a map -/
theorem lfold_map {α β : Type} {step : α → List β → List β} {f : α → β} (h : ∀ x s, step x s = s ++ [f x]) : ∀ (xs : List α) (s : List β), lfold step xs s = s ++ xs.map f
  | [], s => by simp [lfold]
  | x :: xs, s => by rw [lfold, h, lfold_map h xs, List.map_cons, List.append_assoc]; rfl
end RL

namespace RL
open PySem PySem.Spec PyProof.Rows L2 Rep
/-! ### dicts -/
/-- a dict, its pairs in order -/
structure Dct (κ α : Type) where
  kvs : List (κ × α)
def dlook {κ α : Type} [DecidableEq κ] (kvs : List (κ × α)) (k : κ) : Option α := (kvs.find? fun kv => decide (kv.1 = k)).map (·.2)
def dput {κ α : Type} [DecidableEq κ] (kvs : List (κ × α)) (k : κ) (v : α) : List (κ × α) :=
  if (kvs.any fun kv => decide (kv.1 = k)) = true then kvs.map (fun kv => if kv.1 = k then (kv.1, v) else kv) else kvs ++ [(k, v)]
/-- what may be a key: how such a dict stands in the heap -/
class DKey (κ : Type) [Rep κ] [DecidableEq κ] where
  obj : List (κ × V) → HO
  get : ∀ {K : PySem.W.Frag} {G H : Hp} {a : Addr} {y : V} {k : κ} {ps : List (κ × V)}, Same G H → rep K G y k → Rd H a (obj ps) → DGet H a y (valV ps k)
  put : ∀ {K : PySem.W.Frag} {G H : Hp} {a : Addr} {y v : V} {k : κ} {ps : List (κ × V)}, Same G H → rep K G y k → H a = some (obj ps) → ps.length < sizeLine → DPut H a y v (upd H a (obj (putK ps k v)))
  isD : ∀ {H : Hp} {a : Addr} {ps : List (κ × V)}, Rd H a (obj ps) → IsD H a
  new : ∀ {X : Cx} {pos : Pos}, PE X (.Dict [] [] pos) (fun _ H Q => ∀ p, H p = none → Q (.ref p) (upd H p (obj [])))
  len : ∀ ps : List (κ × V), szO (obj ps) = ps.length
  isM : ∀ ps : List (κ × V), Mut (some (obj ps))
  inj : ∀ ps qs : List (κ × V), obj ps = obj qs → ps = qs
theorem map_put {κ κ' : Type} [DecidableEq κ] [DecidableEq κ'] {f : κ → κ'} (hf : ∀ a b, f a = f b → a = b) (ps : List (κ × V)) (k : κ) (v : V) : putK (ps.map fun p => (f p.1, p.2)) (f k) v = (putK ps k v).map fun p => (f p.1, p.2) := by
  have e : ∀ a, (f a = f k) = (a = k) := fun a => propext ⟨hf a k, fun h => by rw [h]⟩
  unfold putK
  rw [List.any_map]
  have ea : (ps.any ((fun kv => decide (kv.1 = f k)) ∘ fun p => (f p.1, p.2))) = ps.any fun kv => decide (kv.1 = k) := by
    congr 1
    funext p
    exact decide_eq_decide.mpr (by rw [e])
  rw [ea]
  split
  · rw [List.map_map, List.map_map]
    refine List.map_congr_left fun p _ => ?_
    show (if f p.1 = f k then (f p.1, v) else (f p.1, p.2)) = (f (if p.1 = k then (p.1, v) else p).1, (if p.1 = k then (p.1, v) else p).2)
    by_cases h : p.1 = k
    · rw [if_pos (by rw [h]), if_pos h]
    · rw [if_neg (fun z => h (hf _ _ z)), if_neg h]
  · rw [List.map_append]
    rfl
theorem map_val {κ κ' : Type} [DecidableEq κ] [DecidableEq κ'] {f : κ → κ'} (hf : ∀ a b, f a = f b → a = b) (k : κ) : ∀ ps : List (κ × V), valV (ps.map fun p => (f p.1, p.2)) (f k) = valV ps k
  | [] => rfl
  | p :: ps => by
    rw [List.map_cons]
    by_cases h : p.1 = k
    · rw [valV_pos h, valV_pos (by show f p.1 = f k; rw [h])]
    · rw [valV_neg h, valV_neg (fun z => h (hf _ _ z)), map_val hf k ps]
instance : DKey Int where
  obj ps := .dK (ps.map fun p => (Sum.inl p.1, p.2))
  get {K G H a y k ps} s r e := by
    have r : y = V.int k := r
    rw [← map_val (f := (Sum.inl : Int → Key)) (fun _ _ => Sum.inl.inj) k ps, r]
    exact .inl ⟨_, Sum.inl k, e, rfl, rfl⟩
  put {K G H a y v k ps} s r e hl := by
    have r : y = V.int k := r
    show DPut H a y v (upd H a (.dK ((putK ps k v).map fun p => (Sum.inl p.1, p.2))))
    rw [← map_put (f := (Sum.inl : Int → Key)) (fun _ _ => Sum.inl.inj) ps k v, r]
    exact DPut.k (k := Sum.inl k) e (by rw [List.length_map]; exact hl)
  isD e := .inl ⟨_, e⟩
  new := pe_dnewK
  len ps := List.length_map _
  isM _ := trivial
  inj ps qs h := List.map_inj_right (f := fun p : Int × V => ((Sum.inl p.1 : Key), p.2)) (fun a b e => Prod.ext (Sum.inl.inj (Prod.ext_iff.mp e).1) (Prod.ext_iff.mp e).2) |>.mp (HO.dK.inj h)
theorem pairK_inj : ∀ a b : Int × Int, [(Sum.inl a.1 : Key), Sum.inl a.2] = [Sum.inl b.1, Sum.inl b.2] → a = b := fun a b h => by
  have h1 := (List.cons.inj h).1
  have h2 := (List.cons.inj (List.cons.inj h).2).1
  exact Prod.ext (Sum.inl.inj h1) (Sum.inl.inj h2)
instance : DKey (Int × Int) where
  obj ps := .dT (ps.map fun p => ([Sum.inl p.1.1, Sum.inl p.1.2], p.2))
  get {K G H a y k ps} s r e := by
    obtain ⟨b, u, w, rfl, g, p1, p2⟩ := r
    have p1 : u = V.int k.1 := p1
    have p2 : w = V.int k.2 := p2
    subst p1 p2
    rw [← map_val (f := fun q : Int × Int => [(Sum.inl q.1 : Key), Sum.inl q.2]) pairK_inj k ps]
    exact .inr ⟨_, [Sum.inl k.1, Sum.inl k.2], b, e, rfl, s _ _ g, rfl⟩
  put {K G H a y v k ps} s r e hl := by
    obtain ⟨b, u, w, rfl, g, p1, p2⟩ := r
    have p1 : u = V.int k.1 := p1
    have p2 : w = V.int k.2 := p2
    subst p1 p2
    show DPut H a _ v (upd H a (.dT ((putK ps k v).map fun p => ([Sum.inl p.1.1, Sum.inl p.1.2], p.2))))
    rw [← map_put (f := fun q : Int × Int => [(Sum.inl q.1 : Key), Sum.inl q.2]) pairK_inj ps k v]
    exact DPut.t (k := [Sum.inl k.1, Sum.inl k.2]) e (s _ _ g) (by rw [List.length_map]; exact hl)
  isD e := .inr ⟨_, e⟩
  new := pe_dnewT
  len ps := List.length_map _
  isM _ := trivial
  inj ps qs h := List.map_inj_right (f := fun p : (Int × Int) × V => ([(Sum.inl p.1.1 : Key), Sum.inl p.1.2], p.2)) (fun a b e => Prod.ext (pairK_inj _ _ (Prod.ext_iff.mp e).1) (Prod.ext_iff.mp e).2) |>.mp (HO.dT.inj h)
/-- the pairs of a dict as data -/
def PairD {κ α : Type} [Rep α] (K : PySem.W.Frag) (G : Hp) : List (κ × V) → List (κ × α) → Prop := Paired fun p e => p.1 = e.1 ∧ rep K G p.2 e.2
theorem pairD_up {κ α : Type} [Rep α] {K : PySem.W.Frag} {G G' : Hp} (s : Same G G') : ∀ {ps : List (κ × V)} {es : List (κ × α)}, PairD K G ps es → PairD K G' ps es
  | _, _, .nil => .nil
  | _, _, .cons h t => .cons ⟨h.1, up s h.2⟩ (pairD_up s t)
theorem pairD_some {κ α : Type} [DecidableEq κ] [Rep α] {K : PySem.W.Frag} {G : Hp} {k : κ} : ∀ {ps : List (κ × V)} {es : List (κ × α)}, PairD K G ps es → ∀ x, dlook es k = some x → ∃ v, valV ps k = some v ∧ rep K G v x
  | _, _, .nil, _, h => by cases h
  | p :: ps, e :: es, .cons h t, x, hx => by
    by_cases hk : e.1 = k
    · rw [dlook, List.find?_cons_of_pos (by simpa using hk)] at hx
      cases hx
      exact ⟨p.2, valV_pos (h.1.trans hk), h.2⟩
    · rw [dlook, List.find?_cons_of_neg (by simpa using hk)] at hx
      obtain ⟨v, e1, e2⟩ := pairD_some t x hx
      exact ⟨v, by rw [valV_neg (by rw [h.1]; exact hk)]; exact e1, e2⟩
theorem pairD_none {κ α : Type} [DecidableEq κ] [Rep α] {K : PySem.W.Frag} {G : Hp} {k : κ} : ∀ {ps : List (κ × V)} {es : List (κ × α)}, PairD K G ps es → dlook es k = none → valV ps k = none
  | _, _, .nil, _ => rfl
  | p :: ps, e :: es, .cons h t, hx => by
    by_cases hk : e.1 = k
    · rw [dlook, List.find?_cons_of_pos (by simpa using hk)] at hx
      cases hx
    · rw [dlook, List.find?_cons_of_neg (by simpa using hk)] at hx
      rw [valV_neg (by rw [h.1]; exact hk)]
      exact pairD_none t hx
theorem pairD_is {κ α : Type} [DecidableEq κ] [Rep α] {K : PySem.W.Frag} {G : Hp} {k : κ} {ps : List (κ × V)} {es : List (κ × α)} (h : PairD K G ps es) : (valV ps k).isSome = (dlook es k).isSome := by
  cases e : dlook es k with
  | none =>
    rw [pairD_none h e]
    rfl
  | some x =>
    obtain ⟨v, e1, _⟩ := pairD_some h x e
    rw [e1]
    rfl
theorem pairD_any {κ α : Type} [DecidableEq κ] [Rep α] {K : PySem.W.Frag} {G : Hp} {k : κ} : ∀ {ps : List (κ × V)} {es : List (κ × α)}, PairD K G ps es → (ps.any fun kv => decide (kv.1 = k)) = es.any fun kv => decide (kv.1 = k)
  | _, _, .nil => rfl
  | p :: ps, e :: es, .cons h t => by rw [List.any_cons, List.any_cons, pairD_any t, h.1]
theorem pairD_map {κ α : Type} [DecidableEq κ] [Rep α] {K : PySem.W.Frag} {G : Hp} {k : κ} {v : V} {x : α} (r : rep K G v x) : ∀ {ps : List (κ × V)} {es : List (κ × α)}, PairD K G ps es → PairD K G (ps.map fun kv => if kv.1 = k then (kv.1, v) else kv) (es.map fun kv => if kv.1 = k then (kv.1, x) else kv)
  | _, _, .nil => .nil
  | p :: ps, e :: es, .cons h t => by
    refine .cons ?_ (pairD_map r t)
    show (if p.1 = k then (p.1, v) else p).1 = (if e.1 = k then (e.1, x) else e).1 ∧ rep K G (if p.1 = k then (p.1, v) else p).2 (if e.1 = k then (e.1, x) else e).2
    by_cases hk : e.1 = k
    · rw [if_pos hk, if_pos (h.1.trans hk)]
      exact ⟨h.1, r⟩
    · rw [if_neg hk, if_neg (by rw [h.1]; exact hk)]
      exact h
theorem pairD_put {κ α : Type} [DecidableEq κ] [Rep α] {K : PySem.W.Frag} {G : Hp} {k : κ} {v : V} {x : α} {ps : List (κ × V)} {es : List (κ × α)} (h : PairD K G ps es) (r : rep K G v x) : PairD K G (putK ps k v) (dput es k x) := by
  unfold putK dput
  rw [pairD_any h]
  split
  · exact pairD_map r h
  · exact paired_app h (.cons ⟨rfl, r⟩ .nil)
instance instRepDct {κ α : Type} [Rep κ] [DecidableEq κ] [DKey κ] [Rep α] : Rep (Dct κ α) where
  rep K G v d := ∃ a o ps, v = .ref a ∧ G a = some (.frz o (DKey.obj ps)) ∧ PairD K G ps d.kvs
  up s h := let ⟨a, o, ps, e, g, p⟩ := h; ⟨a, o, ps, e, s _ _ g, pairD_up s p⟩
def DctAt {κ α : Type} [Rep κ] [DecidableEq κ] [DKey κ] [Rep α] (K : PySem.W.Frag) (d : Dct κ α) : PV := fun G H v => ∃ a ps, v = .ref a ∧ Rd H a (DKey.obj ps) ∧ PairD K G ps d.kvs
theorem rd_up {H H' : Hp} {a : Addr} {u : HO} (s : Same H H') (h : Rd H a u) : Rd H' a u := h.elim (fun z => .inl (s _ _ z)) fun ⟨o, z⟩ => .inr ⟨o, s _ _ z⟩
instance {κ α : Type} [Rep κ] [DecidableEq κ] [DKey κ] [Rep α] {K : PySem.W.Frag} {d : Dct κ α} : MonoC (DctAt K d) := ⟨fun _ _ _ _ _ x ⟨a, ps, e, g, p⟩ => ⟨a, ps, e, rd_up x.h g, pairD_up x.g p⟩⟩
class AsDct (K : PySem.W.Frag) (P : PV) (κ α : outParam Type) (r1 : outParam (Rep κ)) (dk : outParam (DecidableEq κ)) (k1 : outParam (DKey κ)) (r2 : outParam (Rep α)) (d : outParam (Dct κ α)) : Prop where
  dct : ∀ G H v, Same G H → P G H v → DctAt K d G H v
instance {κ α : Type} [r1 : Rep κ] [dk : DecidableEq κ] [k1 : DKey κ] [r2 : Rep α] {K : PySem.W.Frag} {d : Dct κ α} : AsDct K (DctAt K d) κ α r1 dk k1 r2 d := ⟨fun _ _ _ _ h => h⟩
instance {κ α : Type} [r1 : Rep κ] [dk : DecidableEq κ] [k1 : DKey κ] [r2 : Rep α] {K : PySem.W.Frag} {d : Dct κ α} : AsDct K (Is K d) κ α r1 dk k1 r2 d := ⟨fun _ _ _ s ⟨a, o, ps, e, g, p⟩ => ⟨a, ps, e, .inr ⟨o, s _ _ g⟩, p⟩⟩
structure OwnD {κ α : Type} [Rep κ] [DecidableEq κ] [DKey κ] [Rep α] (K : PySem.W.Frag) (G H : Hp) (q : Addr) (d : Dct κ α) : Prop where
  at_ : ∃ ps, H q = some (DKey.obj ps) ∧ PairD K G ps d.kvs
  off : G q = none
section
variable {κ α : Type} [Rep κ] [DecidableEq κ] [DKey κ] [Rep α] {K : PySem.W.Frag} {d : Dct κ α}
theorem OwnD.mono {G H G1 H1 : Hp} {q : Addr} (o : OwnD K G H q d) (x : Ext G H G1 H1) : OwnD K G1 H1 q d := let ⟨vs, e, p⟩ := o.at_; ⟨⟨vs, x.h _ _ e, pairD_up x.g p⟩, x.off o.off e fun xs z => by have := DKey.isM (κ := κ) vs; rw [z] at this; exact this⟩
theorem OwnD.pv {G H : Hp} {q : Addr} (o : OwnD K G H q d) : DctAt K d G H (.ref q) := let ⟨vs, e, p⟩ := o.at_; ⟨q, vs, rfl, .inl e, p⟩
theorem OwnD.ex {G H : Hp} {q : Addr} (o : OwnD K G H q d) : ∃ u, H q = some u := let ⟨_, e, _⟩ := o.at_; ⟨_, e⟩
theorem OwnD.wr {G H : Hp} {q q' : Addr} {o' : HO} (o : OwnD K G H q d) (h : q ≠ q') : OwnD K G (upd H q' o') q d := let ⟨vs, e, p⟩ := o.at_; ⟨⟨vs, by rw [upd_ne h]; exact e, p⟩, o.off⟩
theorem OwnD.len {G H : Hp} {q : Addr} (o : OwnD K G H q d) (l : HLen H) : d.kvs.length ≤ sizeLine := by
  obtain ⟨vs, e, p⟩ := o.at_
  have := l _ _ e
  rw [DKey.len, paired_len p] at this
  exact this
/-- an own dict, from now on as it is: locked, frozen -/
theorem OwnD.lock {X : Cx} {G0 H0 G H : Hp} {q : Addr} {d : Dct κ α} {sts : List Stmt} {D : Ends} {σ : St} (o : OwnD X.K G H q d) (x0 : Ext G0 H0 G H) (n : H0 q = none)
    (k : ∀ u, Ext G0 H0 (upd G q u) (upd H q u) → rep X.K (upd G q u) (.ref q) d → tSs X sts D σ (upd H q u)) : tSs X sts D σ H := .mk fun pins s I => by
  obtain ⟨ps, e, p⟩ := o.at_
  obtain ⟨od, I2⟩ := I.lock e (DKey.isM ps)
  exact k (.frz od (DKey.obj ps)) ((x0.wr n o.off).frz n upd_same) ⟨q, od, ps, rfl, upd_same, pairD_up (same_new o.off) p⟩ |>.run pins s I2
end
section
variable {X : Cx} {σ : St} {G H : Hp} {P Pa Pb : PV} {e a b c : Expr} {pos p : Pos} {D : Ends} {κ α : Type} {r1 : Rep κ} {dk : DecidableEq κ} {k1 : DKey κ} {r2 : Rep α} {d : Dct κ α} {k : κ}
theorem din_go (neg : Bool) [A : AsDct X.K P κ α r1 dk k1 r2 d] (hk : Ev X a σ G H k) (hd : EvP X b σ G H P) : ∀ G1 H1, Ext G H G1 H1 → ∀ Q : VK, (∀ G2 H2 v, Ext G1 H1 G2 H2 → Is X.K (if neg then !(dlook d.kvs k).isSome else (dlook d.kvs k).isSome) G2 H2 v → Q v H2) →
    (if neg then tDNotIn (tE X a) (tE X b) else tDIn (tE X a) (tE X b)) σ H1 Q := fun G1 H1 x1 Q q => by
  cases neg with
  | false =>
    exact hk G1 H1 x1 _ fun G2 H2 y x2 _ ry => hd G2 H2 (x1.trans x2) _ fun G3 H3 v x3 _ pv => by
      obtain ⟨a, ps, e, g, pr⟩ := A.dct _ _ _ x3.s pv
      exact ⟨a, _, e, DKey.get x3.s (up x3.g ry) g, q G3 H3 _ (x2.trans x3) (by rw [pairD_is pr]; rfl)⟩
  | true =>
    exact hk G1 H1 x1 _ fun G2 H2 y x2 _ ry => hd G2 H2 (x1.trans x2) _ fun G3 H3 v x3 _ pv => by
      obtain ⟨a, ps, e, g, pr⟩ := A.dct _ _ _ x3.s pv
      exact ⟨a, _, e, DKey.get x3.s (up x3.g ry) g, q G3 H3 _ (x2.trans x3) (by rw [pairD_is pr]; rfl)⟩
theorem hu1 {A : Around} {k : Nat} (hr : Room k A) : A.units + 1 < cLine := hu_of hr
theorem ev_din [AsDct X.K P κ α r1 dk k1 r2 d] (hu : X.A.units + 1 < cLine) (hk : Ev X a σ G H k) (hd : EvP X b σ G H P) (hm : behindInMarks .In b = false := by rfl) : Ev X (.Compare a [.In] [b] pos) σ G H (dlook d.kvs k).isSome :=
  evP_of (pe_cmp (pc_din hu pe_sem pe_sem) hm) (din_go false hk hd)
theorem et_din [AsDct X.K P κ α r1 dk k1 r2 d] (hu : X.A.units + 1 < cLine) (hk : Ev X a σ G H k) (hd : EvP X b σ G H P) (hm : behindInMarks .In b = false := by rfl) : EvT X (.Compare a [.In] [b] pos) σ G H (dlook d.kvs k).isSome :=
  evT_of (pt_cmp (pc_din hu pe_sem pe_sem) hm) fun G1 H1 x1 Q q => din_go false hk hd G1 H1 x1 _ fun G2 H2 _ x2 r => ⟨_, r, q G2 H2 x2⟩
theorem ev_dnin [AsDct X.K P κ α r1 dk k1 r2 d] (hu : X.A.units + 1 < cLine) (hk : Ev X a σ G H k) (hd : EvP X b σ G H P) (hm : behindInMarks .NotIn b = false := by rfl) : Ev X (.Compare a [.NotIn] [b] pos) σ G H (!(dlook d.kvs k).isSome) :=
  evP_of (pe_cmp (pc_dnotin hu pe_sem pe_sem) hm) (din_go true hk hd)
theorem et_dnin [AsDct X.K P κ α r1 dk k1 r2 d] (hu : X.A.units + 1 < cLine) (hk : Ev X a σ G H k) (hd : EvP X b σ G H P) (hm : behindInMarks .NotIn b = false := by rfl) : EvT X (.Compare a [.NotIn] [b] pos) σ G H (!(dlook d.kvs k).isSome) :=
  evT_of (pt_cmp (pc_dnotin hu pe_sem pe_sem) hm) fun G1 H1 x1 Q q => din_go true hk hd G1 H1 x1 _ fun G2 H2 _ x2 r => ⟨_, r, q G2 H2 x2⟩
/-- d[k], k is there -/
theorem ev_dget (dv : α) [m : MonoC P] [A : AsDct X.K P κ α r1 dk k1 r2 d] (hu : X.A.units + 1 < cLine) (hd : EvP X a σ G H P) (hk : Ev X b σ G H k) (h : (dlook d.kvs k).isSome = true) (hs : NoSl b := by exact fun _ _ => rfl) : Ev X (.Subscript a b pos) σ G H ((dlook d.kvs k).getD dv) :=
  evP_of (pe_dget hu pe_sem pe_sem hs) fun G1 H1 x1 Q q => hd G1 H1 x1 _ fun G2 H2 v x2 _ pv => hk G2 H2 (x1.trans x2) _ fun G3 H3 y x3 _ ry => by
    obtain ⟨a, ps, e, g, pr⟩ := A.dct _ _ _ x3.s (m.m _ _ _ _ _ x3 pv)
    obtain ⟨x, hx⟩ := Option.isSome_iff_exists.mp h
    obtain ⟨w, e1, e2⟩ := pairD_some pr x hx
    exact ⟨a, w, e, e1 ▸ DKey.get x3.s ry g, q G3 H3 w (x2.trans x3) (by rw [hx]; exact e2)⟩
/-- d.get(k, x) -/
theorem ev_dget2 {x : α} {ap cp : Pos} [m : MonoC P] [A : AsDct X.K P κ α r1 dk k1 r2 d] (hu : X.A.units + 1 < cLine) (hd : EvP X a σ G H P) (hk : Ev X b σ G H k) (hx : Ev X c σ G H x) (m2 : M2 X a "get" ap b c cp := by exact ⟨rfl, rfl, rfl, rfl⟩) :
    Ev X (.Call (.Attribute a "get" ap) [b, c] [] cp) σ G H ((dlook d.kvs k).getD x) :=
  evP_of (pe_dget2 hu pe_sem pe_sem pe_sem m2) fun G1 H1 x1 Q q => hd G1 H1 x1 _ fun G2 H2 v x2 _ pv => by
    obtain ⟨a', ps', e', g', _⟩ := A.dct _ _ _ x2.s pv
    refine ⟨a', e', DKey.isD g', hk G2 H2 (x1.trans x2) _ fun G3 H3 y x3 _ ry => hx G3 H3 ((x1.trans x2).trans x3) _ fun G4 H4 z x4 _ rz => ?_⟩
    obtain ⟨a, ps, e, g, pr⟩ := A.dct _ _ _ x4.s (m.m _ _ _ _ _ (x3.trans x4) pv)
    rw [e'] at e
    cases e
    refine ⟨_, DKey.get x4.s (up x4.g ry) g, ?_⟩
    cases hl : dlook d.kvs k with
    | none =>
      rw [pairD_none pr hl]
      exact q G4 H4 _ (x2.trans (x3.trans x4)) (by rw [hl]; exact rz)
    | some t =>
      obtain ⟨w, e1, e2⟩ := pairD_some pr t hl
      rw [e1]
      exact q G4 H4 _ (x2.trans (x3.trans x4)) (by rw [hl]; exact e2)
/-- n = {} -/
theorem s_dnew {i : Nat} {n : Str} {lp : Pos} {κ α : Type} [Rep κ] [DecidableEq κ] [DKey κ] [Rep α] (hN : X.N.Nodup) (sl : Ss X i n) (s0 : Same G H) (k : ∀ H1 q, Ext G H G H1 → HLen H1 → H q = none → OwnD X.K G H1 q (⟨[]⟩ : Dct κ α) → D.nx (σ.set i (some (.ref q))) H1)
    (hs : swapsWith (.Dict [] [] lp) (some (.Name n p)) pos.line X.env = pure false := by rfl) : tS X (.Assign [.Name n p] (.Dict [] [] lp) pos) D σ H :=
  s_of (ps_set hN sl.hN sl.hx pe_sem hs sl.hf) (tE_lenF fun pins s I => (DKey.new (κ := κ)).run pins s σ H _ I fun q hq l => k _ q ((Ext.refl s0).newH hq) l hq ⟨⟨[], upd_same, .nil⟩, s0.free hq⟩)
/-- q[k] = v -/
theorem s_dput {v : α} {i : Nat} {n : Str} {q : Addr} {sp np : Pos} (sl : Sl X i n) (hu : X.A.units + 1 < cLine) (s0 : Same G H) (o : OwnD X.K G H q d) (hv : Ev X c σ G H v) (hk : Ev X b σ G H k) (hz : d.kvs.length < sizeLine)
    (kk : ∀ G1 H1 o', Ext G H G1 H1 → HLen H1 → OwnD X.K G1 (upd H1 q o') q (⟨dput d.kvs k v⟩ : Dct κ α) → D.nx σ (upd H1 q o')) (h0 : σ[i]? = some (some (.ref q)) := by rfl)
    (hs : swapsWith c (some (.Subscript (.Name n np) b sp)) pos.line X.env = pure false := by rfl) : tS X (.Assign [.Subscript (.Name n np) b sp] c pos) D σ H := by
  refine s_of (ps_dput hu (pe_var sl.hN sl.hv sl.nm.hd sl.nm.hcd) pe_sem pe_sem hs) ?_
  refine hv G H (Ext.refl s0) _ fun G1 H1 w x1 _ rw' => ⟨_, h0, hk G1 H1 x1 _ fun G2 H2 y x2 l2 ry => ?_⟩
  obtain ⟨ps, e, pr⟩ := (o.mono (x1.trans x2)).at_
  exact ⟨q, _, rfl, DKey.put x2.s ry e (by rw [paired_len pr]; exact hz), kk G2 H2 _ (x1.trans x2) l2 ⟨⟨_, upd_same, pairD_put pr (up x2.g rw')⟩, (o.mono (x1.trans x2)).off⟩⟩
end
end RL

namespace RL
open PySem PySem.Spec PyProof.Rows L2 Rep
section
variable {X : Cx} {σ : St} {G H : Hp}
theorem ev_vO {α : Type} [Rep α] {xs : List α} {i : Nat} {n : Str} {p : Pos} {q : Addr} (s : Sl X i n) (o : Own X.K G H q xs) (h : σ[i]? = some (some (.ref q)) := by rfl) : EvP X (.Name n p) σ G H (OwnAt X.K xs) := ev_vP s o.pv h
theorem ev_vD {κ α : Type} [Rep κ] [DecidableEq κ] [DKey κ] [Rep α] {d : Dct κ α} {i : Nat} {n : Str} {p : Pos} {q : Addr} (s : Sl X i n) (o : OwnD X.K G H q d) (h : σ[i]? = some (some (.ref q)) := by rfl) : EvP X (.Name n p) σ G H (DctAt X.K d) := ev_vP s o.pv h
end
end RL

namespace RL
open L2
theorem cut_take {α : Type} (xs : List α) {k : Int} (h : 0 ≤ k) : cut xs none (some k) = xs.take k.toNat := by
  unfold cut
  rw [HT.sIx_none, List.drop_zero, Nat.sub_zero]
  show xs.take (if k < 0 then _ else min k.toNat xs.length) = _
  rw [if_neg (by omega)]
  by_cases hk : k.toNat ≤ xs.length
  · rw [Nat.min_eq_left hk]
  · rw [Nat.min_eq_right (by omega), List.take_of_length_le (Nat.le_refl _), List.take_of_length_le (by omega)]
theorem cut_drop {α : Type} (xs : List α) {k : Int} (h : 0 ≤ k) : cut xs (some k) none = xs.drop k.toNat := by
  unfold cut
  rw [HT.sIx_none]
  show (xs.drop (if k < 0 then _ else min k.toNat xs.length)).take (xs.length - (if k < 0 then _ else min k.toNat xs.length)) = _
  rw [if_neg (by omega)]
  have e : xs.drop (min k.toNat xs.length) = xs.drop k.toNat := by
    by_cases hk : k.toNat ≤ xs.length
    · rw [Nat.min_eq_left hk]
    · rw [Nat.min_eq_right (by omega), List.drop_of_length_le (Nat.le_refl _), List.drop_of_length_le (by omega)]
  rw [e]
  exact List.take_of_length_le (by rw [List.length_drop]; omega)
theorem cut_mid {α : Type} (xs : List α) {j k : Int} (h : 0 ≤ j) (h' : 0 ≤ k) : cut xs (some j) (some k) = (xs.drop j.toNat).take (k.toNat - j.toNat) := by
  unfold cut
  show (xs.drop (if j < 0 then _ else min j.toNat xs.length)).take ((if k < 0 then _ else min k.toNat xs.length) - (if j < 0 then _ else min j.toNat xs.length)) = _
  rw [if_neg (by omega), if_neg (by omega)]
  by_cases hj : j.toNat ≤ xs.length
  · rw [Nat.min_eq_left hj]
    by_cases hk : k.toNat ≤ xs.length
    · rw [Nat.min_eq_left hk]
    · rw [Nat.min_eq_right (show xs.length ≤ k.toNat by omega), List.take_of_length_le (by rw [List.length_drop]; omega), List.take_of_length_le (by rw [List.length_drop]; omega)]
  · rw [Nat.min_eq_right (show xs.length ≤ j.toNat by omega), List.drop_of_length_le (Nat.le_refl _), List.drop_of_length_le (by omega), List.take_nil, List.take_nil]
theorem rng_map {β : Type} (n : Nat) (f : Int → β) : (rng 0 (n : Int)).map f = (List.range n).map fun (k : Nat) => f (k : Int) := by
  unfold rng
  rw [List.map_map, Int.sub_zero, Int.toNat_natCast]
  exact List.map_congr_left fun k _ => by
    show f (0 + (k : Int)) = f k
    rw [Int.zero_add]
end RL

namespace RL
theorem dput_len {κ α : Type} [DecidableEq κ] (kvs : List (κ × α)) (k : κ) (v : α) : (dput kvs k v).length ≤ kvs.length + 1 := by
  unfold dput
  split
  · rw [List.length_map]; omega
  · rw [List.length_append]; exact Nat.le_refl _
theorem dlook_nil {κ α : Type} [DecidableEq κ] (k : κ) : dlook ([] : List (κ × α)) k = none := rfl
theorem dlook_cons {κ α : Type} [DecidableEq κ] (p : κ × α) (r : List (κ × α)) (k : κ) : dlook (p :: r) k = if p.1 = k then some p.2 else dlook r k := by
  unfold dlook
  by_cases h : p.1 = k
  · rw [List.find?_cons_of_pos (by simpa using h), if_pos h]; rfl
  · rw [List.find?_cons_of_neg (by simpa using h), if_neg h]
theorem dlook_map {κ α : Type} [DecidableEq κ] {k j : κ} {v : α} : ∀ (kvs : List (κ × α)), (kvs.any fun kv => decide (kv.1 = k)) = true → dlook (kvs.map fun kv => if kv.1 = k then (kv.1, v) else kv) j = if j = k then some v else dlook kvs j
  | [], h => by cases h
  | p :: r, h => by
    rw [List.map_cons, dlook_cons, dlook_cons]
    by_cases hk : p.1 = k
    · rw [if_pos hk]
      show (if p.1 = j then some v else _) = _
      by_cases hj : j = k
      · rw [if_pos (hk.trans hj.symm), if_pos hj]
      · have hj' : ¬ p.1 = j := fun z => hj (z.symm.trans hk)
        simp only [if_neg hj, if_neg hj']
        by_cases ha : (r.any fun kv => decide (kv.1 = k)) = true
        · simp only [dlook_map r ha, if_neg hj]
        · have e : (r.map fun kv => if kv.1 = k then (kv.1, v) else kv) = r := by
            conv => rhs; rw [← List.map_id r]
            refine List.map_congr_left fun q hq => ?_
            have : ¬ q.1 = k := fun z => ha (List.any_eq_true.mpr ⟨q, hq, by simpa using z⟩)
            rw [if_neg this]; rfl
          rw [e]
    · rw [if_neg hk]
      have ha : (r.any fun kv => decide (kv.1 = k)) = true := by
        rw [List.any_cons] at h
        simpa [hk] using h
      rw [dlook_map r ha]
      by_cases hj : j = k
      · have : ¬ p.1 = j := fun z => hk (z.trans hj)
        simp only [if_pos hj, if_neg this]
      · simp only [if_neg hj]
theorem dlook_app {κ α : Type} [DecidableEq κ] {k j : κ} {v : α} : ∀ (kvs : List (κ × α)), (kvs.any fun kv => decide (kv.1 = k)) = false → dlook (kvs ++ [(k, v)]) j = if j = k then some v else dlook kvs j
  | [], _ => by
    rw [List.nil_append, dlook_cons, dlook_nil]
    by_cases hj : j = k
    · rw [if_pos hj.symm, if_pos hj]
    · rw [if_neg (fun z => hj z.symm), if_neg hj]
  | p :: r, h => by
    rw [List.any_cons, Bool.or_eq_false_iff] at h
    have hk : ¬ p.1 = k := by simpa using h.1
    rw [List.cons_append, dlook_cons, dlook_cons, dlook_app r h.2]
    by_cases hj : j = k
    · rw [if_pos hj, if_pos hj, if_neg (fun z => hk (z.trans hj))]
    · rw [if_neg hj, if_neg hj]
theorem dlook_dput {κ α : Type} [DecidableEq κ] (kvs : List (κ × α)) (k j : κ) (v : α) : dlook (dput kvs k v) j = if j = k then some v else dlook kvs j := by
  unfold dput
  by_cases h : (kvs.any fun kv => decide (kv.1 = k)) = true
  · rw [if_pos h]; exact dlook_map kvs h
  · rw [if_neg h]; exact dlook_app kvs (by simpa only [Bool.not_eq_true] using h)
end RL
namespace RL
theorem rng_nat (a b : Nat) : rng (a : Int) (b : Int) = (List.range' a (b - a)).map fun (k : Nat) => (k : Int) := by
  have e : ((b : Int) - (a : Int)).toNat = b - a := by omega
  unfold rng
  rw [e, List.range'_eq_map_range, List.map_map]
  exact List.map_congr_left fun k _ => by show (a : Int) + (k : Int) = ((a + k : Nat) : Int); omega
theorem rng0_nat (b : Nat) : rng 0 (b : Int) = (List.range b).map fun (k : Nat) => (k : Int) := by
  have := rng_nat 0 b
  rw [List.range_eq_range']
  exact this
theorem lfold_cons {α S : Type} (step : α → S → S) (x : α) (xs : List α) (s : S) : lfold step (x :: xs) s = lfold step xs (step x s) := rfl
theorem lfold_nil {α S : Type} (step : α → S → S) (s : S) : lfold step [] s = s := rfl
theorem lfold_mapL {α β S : Type} (step : β → S → S) (g : α → β) : ∀ (xs : List α) (s : S), lfold step (xs.map g) s = lfold (fun x => step (g x)) xs s
  | [], _ => rfl
  | x :: xs, s => lfold_mapL step g xs (step (g x) s)
theorem lfold_flat {α β : Type} {step : α → List β → List β} {g : α → List β} : ∀ {xs : List α} {s : List β}, (∀ x ∈ xs, ∀ s, step x s = s ++ g x) → lfold step xs s = s ++ xs.flatMap g
  | [], s, _ => by rw [lfold_nil, List.flatMap_nil, List.append_nil]
  | x :: xs, s, h => by
    rw [lfold_cons, h x List.mem_cons_self, lfold_flat fun y hy => h y (List.mem_cons_of_mem _ hy), List.flatMap_cons, List.append_assoc]
theorem lfold_inv {α S : Type} {step : α → S → S} (I : S → Prop) : ∀ {xs : List α} {s : S}, I s → (∀ x ∈ xs, ∀ s, I s → I (step x s)) → I (lfold step xs s)
  | [], _, h, _ => h
  | x :: xs, s, h, g => lfold_inv I (xs := xs) (g x List.mem_cons_self s h) fun y hy => g y (List.mem_cons_of_mem _ hy)
theorem lrun_nil {α R S : Type} (step : α → S → LR R S) (s : S) : lrun step [] s = .nxt s := rfl
theorem lrun_mapL {α β R S : Type} (step : β → S → LR R S) (g : α → β) : ∀ (xs : List α) (s : S), lrun step (xs.map g) s = lrun (fun x => step (g x)) xs s
  | [], _ => rfl
  | x :: xs, s => by
    rw [List.map_cons, lrun_cons, lrun_cons]
    cases step (g x) s with
    | nxt s' => exact lrun_mapL step g xs s'
    | brk s' => rfl
    | ret r => rfl
theorem getD_take_sum (row : List Int) (k : Nat) (h : k < row.length) : (row.take (k + 1)).sum = (row.take k).sum + row.getD k 0 := by
  rw [List.take_succ_eq_append_getElem h, List.sum_append, List.getD_eq_getElem?_getD, List.getElem?_eq_getElem h]
  simp
end RL
namespace RL
open PySem PySem.Spec PyProof.Rows L2 Rep
/-! ### what may be None -/
theorem rep_get {α : Type} [Rep α] {K : PySem.W.Frag} {G : Hp} {v : V} {x : Option α} (d : α) (h : x.isNone = false) (r : rep K G v x) : rep K G v (x.getD d) := by
  cases x with
  | none => cases h
  | some y => exact r
theorem rep_unit {α : Type} [Rep α] {K : PySem.W.Frag} {G : Hp} {v : V} {x : Option α} (h : x.isNone = true) (r : rep K G v x) : rep K G v () := by
  cases x with
  | none => exact r
  | some y => cases h
section
variable {X : Cx} {σ : St} {G H : Hp} {P Pa Pb : PV} {e a b c : Expr} {es : List Expr} {pos p : Pos} {α β γ : Type} [Rep α] [Rep β] [Rep γ]
theorem ev_get {x : Option α} (d : α) (h : x.isNone = false) (r : Ev X e σ G H x) : Ev X e σ G H (x.getD d) := r.imp fun _ _ _ _ _ q => rep_get d h q
/-- isinstance of what may be None -/
theorem ev_isiO {x : Option α} {T T' : String} {r : Bool} [t : ∀ y : α, AsTy X.K (Is X.K y) T] (B : Bl X "isinstance") (h : Ev X a σ G H x) (hT : Ev X b σ G H (V.ty T')) (k : kitB T T' = some r) (k0 : kitB "NoneType" T' = some false) (he : starEach [a, b] X.env = (false, eval a X.env) :: starEach [b] X.env := by rfl) (he2 : starEach [b] X.env = (false, eval b X.env) :: starEach [] X.env := by rfl)
    (hpl : (backTo pos (starEach [b] X.env)).any (·.1) = false := by rfl) : Ev X (.Call (.Name "isinstance" p) [a, b] [] pos) σ G H (!x.isNone && r) := by
  cases x with
  | none => exact ev_isi (P := Is X.K ()) B (h.imp fun _ _ _ _ _ q => q) hT k0 he he2 hpl
  | some y => exact (ev_isi (P := Is X.K y) B (h.imp fun _ _ _ _ _ q => q) hT k he he2 hpl).to (by simp)
theorem ev_isiTO {x : Option α} {T T1 T2 : String} {r1 r2 : Bool} {c1 c2 : Expr} {kk : Nat} {tp : Pos} [t : ∀ y : α, AsTy X.K (Is X.K y) T] (B : Bl X "isinstance") (h : Ev X a σ G H x) (h1 : Ev X c1 σ G H (V.ty T1)) (h2 : Ev X c2 σ G H (V.ty T2)) (k : kitB T T1 = some r1 ∧ kitB T T2 = some r2)
    (k0 : kitB "NoneType" T1 = some false ∧ kitB "NoneType" T2 = some false)
    (he : starEach [a, .Tuple [c1, c2] kk tp] X.env = (false, eval a X.env) :: starEach [.Tuple [c1, c2] kk tp] X.env := by rfl) (he2 : starEach [.Tuple [c1, c2] kk tp] X.env = (false, eval (.Tuple [c1, c2] kk tp) X.env) :: starEach [] X.env := by rfl)
    (hpl : (backTo pos (starEach [.Tuple [c1, c2] kk tp] X.env)).any (·.1) = false := by rfl) (hs : starEach [c1, c2] X.env = (false, eval c1 X.env) :: starEach [c2] X.env := by rfl) (hs' : starEach [c2] X.env = (false, eval c2 X.env) :: starEach [] X.env := by rfl) :
    Ev X (.Call (.Name "isinstance" p) [a, .Tuple [c1, c2] kk tp] [] pos) σ G H (!x.isNone && (r1 || r2)) := by
  cases x with
  | none => exact ev_isiT (P := Is X.K ()) B (h.imp fun _ _ _ _ _ q => q) h1 h2 k0 he he2 hpl hs hs'
  | some y => exact (ev_isiT (P := Is X.K y) B (h.imp fun _ _ _ _ _ q => q) h1 h2 k he he2 hpl hs hs').to (by simp)
/-! ### pairs as they stand -/
theorem ev_lenP {x : β × γ} (B : Bl X "len") (h : Ev X e σ G H x) (he : starEach [e] X.env = (false, eval e X.env) :: starEach [] X.env := by rfl) : Ev X (.Call (.Name "len" p) [e] [] pos) σ G H (2 : Int) :=
  ev_callB call_len_seq B.g B.m PySem.boot_len (ea_cons h ea_nil he) (fun G1 H1 vs y l ⟨v, r, e1, pv, e2⟩ Q q => by
    obtain ⟨t, u, w, e, g, _⟩ := pv
    exact ⟨t, [u, w], by rw [e1, e2, e], .inr (.of (y.s _ _ g)), q G1 H1 _ (Ext.refl y.s) rfl⟩) (by decide) (by decide) he rfl
/-! ### sorted, of pairs of ints -/
def leP (x y : Int × Int) : Prop := x.1 < y.1 ∨ (x.1 = y.1 ∧ x.2 ≤ y.2)
instance (x y : Int × Int) : Decidable (leP x y) := inferInstanceAs (Decidable (_ ∨ _))
def insP (x : Int × Int) : List (Int × Int) → List (Int × Int)
  | [] => [x]
  | y :: ys => if leP x y then x :: y :: ys else y :: insP x ys
def psort : List (Int × Int) → List (Int × Int)
  | [] => []
  | x :: xs => insP x (psort xs)
theorem insP_perm (x : Int × Int) : ∀ ys, (insP x ys).Perm (x :: ys)
  | [] => .refl _
  | y :: ys => by
    unfold insP
    split
    · exact .refl _
    · exact ((insP_perm x ys).cons y).trans (.swap x y ys)
theorem psort_perm : ∀ xs, (psort xs).Perm xs
  | [] => .refl _
  | x :: xs => (insP_perm x _).trans ((psort_perm xs).cons x)
theorem leP_tr {x y z : Int × Int} (h : leP x y) (h' : leP y z) : leP x z := by unfold leP at *; omega
theorem leP_tot {x y : Int × Int} (h : ¬ leP x y) : leP y x := by unfold leP at *; omega
theorem leP_anti {x y : Int × Int} (h : leP x y) (h' : leP y x) : x = y := by
  unfold leP at *
  exact Prod.ext (by omega) (by omega)
theorem insP_sorted (x : Int × Int) : ∀ ys, ys.Pairwise leP → (insP x ys).Pairwise leP
  | [], _ => List.pairwise_singleton _ _
  | y :: ys, h => by
    unfold insP
    have h' := List.pairwise_cons.mp h
    split
    · rename_i hx
      exact List.pairwise_cons.mpr ⟨fun z hz => by
        rcases List.mem_cons.mp hz with rfl | hz
        · exact hx
        · exact leP_tr hx (h'.1 z hz), h⟩
    · rename_i hx
      exact List.pairwise_cons.mpr ⟨fun z hz => by
        rcases List.mem_cons.mp ((insP_perm x ys).mem_iff.mp hz) with rfl | hz
        · exact leP_tot hx
        · exact h'.1 z hz, insP_sorted x ys h'.2⟩
theorem psort_sorted : ∀ xs, (psort xs).Pairwise leP
  | [] => List.Pairwise.nil
  | x :: xs => insP_sorted x _ (psort_sorted xs)
theorem psorted_one : ∀ {xs ys : List (Int × Int)}, xs.Perm ys → xs.Pairwise leP → ys.Pairwise leP → xs = ys
  | [], ys, p, _, _ => (List.nil_perm.mp p).symm
  | x :: xs, [], p, _, _ => absurd p.symm (List.not_perm_nil_cons _ _)
  | x :: xs, y :: ys, p, h1, h2 => by
    have a := List.pairwise_cons.mp h1
    have b := List.pairwise_cons.mp h2
    have e : x = y := by
      have m1 : x ∈ y :: ys := p.mem_iff.mp List.mem_cons_self
      have m2 : y ∈ x :: xs := p.mem_iff.mpr List.mem_cons_self
      rcases List.mem_cons.mp m1 with z | z
      · exact z
      · rcases List.mem_cons.mp m2 with w | w
        · exact w.symm
        · exact leP_anti (a.1 y w) (b.1 x z)
    subst e
    rw [psorted_one (List.Perm.cons_inv p) a.2 b.2]
/-- the two ints of a tuple -/
def keyP (H : Hp) : V → Int × Int
  | .ref t => match H t with
    | some (.tup [.int i, .int j]) => (i, j)
    | _ => (0, 0)
  | _ => (0, 0)
theorem keyP_of {K : PySem.W.Frag} {G H : Hp} (s : Same G H) {v : V} {x : Int × Int} (r : rep K G v x) : keyP H v = x ∧ ∃ t, v = V.ref t ∧ H t = some (.tup [.int x.1, .int x.2]) := by
  obtain ⟨t, u, w, e, g, p1, p2⟩ := r
  have p1 : u = V.int x.1 := p1
  have p2 : w = V.int x.2 := p2
  subst p1 p2 e
  have g := s _ _ g
  exact ⟨by simp only [keyP, g], t, rfl, g⟩
theorem keyP_map {K : PySem.W.Frag} {G H : Hp} (s : Same G H) : ∀ {us : List V} {xs : List (Int × Int)}, Paired (rep K G) us xs → us.map (keyP H) = xs
  | _, _, .nil => rfl
  | _, _, .cons r t => by rw [List.map_cons, (keyP_of s r).1, keyP_map s t]
theorem keyP_mem {K : PySem.W.Frag} {G : Hp} : ∀ {us : List V} {xs : List (Int × Int)}, Paired (rep K G) us xs → ∀ u ∈ us, ∃ x : Int × Int, rep K G u x
  | _, _, .nil, _, h => by cases h
  | _, _, .cons r t, u, h => by
    rcases List.mem_cons.mp h with rfl | h
    · exact ⟨_, r⟩
    · exact keyP_mem t u h
theorem keyP_pair {K : PySem.W.Frag} {G H : Hp} (s : Same G H) : ∀ (ys : List V), (∀ y ∈ ys, ∃ x : Int × Int, rep K G y x) → Paired (rep K G) ys (ys.map (keyP H))
  | [], _ => .nil
  | y :: ys, h => by
    obtain ⟨x, r⟩ := h y List.mem_cons_self
    refine .cons ?_ (keyP_pair s ys fun z hz => h z (List.mem_cons_of_mem _ hz))
    rw [(keyP_of s r).1]
    exact r
theorem psort_go {K : PySem.W.Frag} {G H : Hp} (s : Same G H) {us ys : List V} {xs : List (Int × Int)} (pr : Paired (rep K G) us xs) (h : SrtO.Srtd (ltP (keyP H)) ys) (hb : SrtO.Stb (ltP (keyP H)) ys us) : Paired (rep K G) ys (psort xs) := by
  have e : ys.map (keyP H) = psort xs := by
    refine psorted_one ?_ ?_ (psort_sorted xs)
    · have := hb.perm.map (keyP H)
      rw [keyP_map s pr] at this
      exact this.trans (psort_perm xs).symm
    · refine List.pairwise_map.mpr (List.Pairwise.imp (fun {x y} hxy => ?_) h)
      have := SrtO.lexB_no.mp hxy
      unfold leP
      omega
  rw [← e]
  exact keyP_pair s ys fun y hy => keyP_mem pr y (hb.perm.mem_iff.mp hy)
theorem ev_sortedP {xs : List (Int × Int)} [m : MonoC P] [s : AsSeq X.K P (Int × Int) instRepProd xs] (B : Bl X "sorted") (h : EvP X e σ G H P) (he : starEach [e] X.env = (false, eval e X.env) :: starEach [] X.env := by rfl) : Ev X (.Call (.Name "sorted" p) [e] [] pos) σ G H (psort xs) :=
  ev_callB cr_sortedPO B.g B.m PyProof.Rows.boot_sorted (ea_cons h ea_nil he) (fun G1 H1 vs y l ⟨v, r, e1, pv, e2⟩ Q q => by
    obtain ⟨a, us, e, g, pr⟩ := s.seq _ _ _ y.s pv
    refine ⟨a, us, keyP H1, by rw [e1, e2, e], g, fun u hu => ?_, fun ys p srt stb hp => ?_⟩
    · obtain ⟨x, rx⟩ := keyP_mem pr u hu
      obtain ⟨k, t, e, g⟩ := keyP_of y.s rx
      exact ⟨t, e, by rw [k]; exact g⟩
    · exact q (upd G1 p (.lst ys)) _ _ ((Ext.refl y.s).new hp) ⟨p, _, rfl, upd_same, pair_up (same_new (y.s.free hp)) (psort_go y.s pr srt stb)⟩) (by decide) (by decide) he rfl
theorem evN_sortedP {xs : List (Int × Int)} [m : MonoC P] [s : AsSeq X.K P (Int × Int) instRepProd xs] (B : Bl X "sorted") (h : EvP X e σ G H P) (he : starEach [e] X.env = (false, eval e X.env) :: starEach [] X.env := by rfl) : EvN X (.Call (.Name "sorted" p) [e] [] pos) σ G H (Is X.K (psort xs)) :=
  evN_of (pe_callB cr_sortedPO B.g B.m PyProof.Rows.boot_sorted (pa_cons pe_sem pa_nil he) (by decide) (by decide) he rfl) fun G1 H1 x1 Q q => h G1 H1 x1 _ fun G2 H2 v x2 _ pv => by
    obtain ⟨a, us, e, g, pr⟩ := s.seq _ _ _ x2.s pv
    refine ⟨a, us, keyP H2, by rw [e], g, fun u hu => ?_, fun ys p srt stb hp => ?_⟩
    · obtain ⟨x, rx⟩ := keyP_mem pr u hu
      obtain ⟨k, t, e, g⟩ := keyP_of x2.s rx
      exact ⟨t, e, by rw [k]; exact g⟩
    · exact q (upd G2 p (.lst ys)) _ _ (x2.new hp) ⟨p, _, rfl, upd_same, pair_up (same_new (x2.s.free hp)) (psort_go x2.s pr srt stb)⟩ fun p' e => by cases e; exact x2.h.free hp
end
end RL
namespace RL
theorem psort_len (xs : List (Int × Int)) : (psort xs).length = xs.length := (psort_perm xs).length_eq
theorem isort_len (xs : List Int) : (isort xs).length = xs.length := (isort_perm xs).length_eq
theorem flat_len {α β : Type} {g : α → List β} {c : Nat} : ∀ (xs : List α), (∀ x ∈ xs, (g x).length ≤ c) → (xs.flatMap g).length ≤ c * xs.length
  | [], _ => Nat.zero_le _
  | x :: xs, h => by
    have h1 := h x List.mem_cons_self
    have h2 := flat_len xs fun y hy => h y (List.mem_cons_of_mem _ hy)
    rw [List.flatMap_cons, List.length_append, List.length_cons, Nat.mul_succ]
    omega
end RL
namespace RL
theorem enum_range {α : Type} (f : Nat → α) (n : Nat) : enum ((List.range n).map f) = (List.range n).map fun (k : Nat) => ((k : Int), f k) := by
  unfold enum
  refine List.ext_getElem (by simp) fun i h1 h2 => ?_
  simp
theorem psort_head {x : Int × Int} {xs : List (Int × Int)} (h : x ∈ xs) (hm : ∀ y ∈ xs, leP x y) : ∃ r, psort xs = x :: r := by
  have p := psort_perm xs
  have s := psort_sorted xs
  cases e : psort xs with
  | nil => rw [e] at p; rw [List.nil_perm.mp p] at h; cases h
  | cons y r =>
    rw [e] at p s
    have hx : x ∈ y :: r := p.mem_iff.mpr h
    have hy : leP x y := hm y (p.mem_iff.mp List.mem_cons_self)
    rcases List.mem_cons.mp hx with rfl | hx
    · exact ⟨r, rfl⟩
    · exact ⟨r, by rw [leP_anti hy ((List.pairwise_cons.mp s).1 x hx)]⟩
end RL
namespace RL
open PySem PySem.Spec PyProof.Rows L2 Rep
theorem paired_set {α β : Type} {F : α → β → Prop} {w : α} {y : β} (h : F w y) : ∀ {xs : List α} {ys : List β} (j : Nat), Paired F xs ys → Paired F (xs.set j w) (ys.set j y)
  | _, _, _, .nil => .nil
  | _, _, 0, .cons _ t => .cons h t
  | _, _, j + 1, .cons r t => .cons r (paired_set h j t)
section
variable {X : Cx} {σ : St} {G H : Hp} {D : Ends} {P Pa Pb : PV} {e a b c : Expr} {es : List Expr} {pos p : Pos} {α β γ : Type} [Rep α] [Rep β] [Rep γ]
/-- xs[i] = v, of an own list -/
theorem s_setix {xs : List α} {y : α} {k : Nat} {n : Str} {q : Addr} {i : Int} {np sp : Pos} (sl : Sl X k n) (s0 : Same G H) (o : Own X.K G H q xs) (hv : Ev X c σ G H y) (hi : Ev X a σ G H i) (h0 : 0 ≤ i) (h1 : i < (xs.length : Int))
    (kk : ∀ G1 H1 vs', Ext G H G1 H1 → HLen H1 → Own X.K G1 (upd H1 q (.lst vs')) q (xs.set i.toNat y) → D.nx σ (upd H1 q (.lst vs'))) (hq : σ[k]? = some (some (.ref q)) := by rfl)
    (hs : swapsWithSole [.Subscript (.Name n np) a sp] c pos.line X.env = pure false := by rfl) (hw : swappedStores [.Subscript (.Name n np) a sp] c X.env = pure none := by rfl)
    (hh : (assignEach [.Subscript (.Name n np) a sp] X.env).map (·.2) = [assign (.Subscript (.Name n np) a sp) X.env] := by rfl)
    (ha : ∀ v, assign (.Subscript (.Name n np) a sp) X.env v = (do
      let ov ← holding [v] (eval (.Name n np) X.env)
      let iv ← holding [v, ov] (eval a X.env)
      standAt sp
      holding [v, ov, iv] (setItem ov iv v)
      release [v, ov, iv] []) := by intro _; rfl) : tS X (.Assign [.Subscript (.Name n np) a sp] c pos) D σ H := by
  refine s_of (ps_asg pe_sem (pg_sub (pe_var sl.hN sl.hv sl.nm.hd sl.nm.hcd) pe_sem set_list ha) hs hw hh) ?_
  refine hv G H (Ext.refl s0) _ fun G1 H1 w x1 _ rw' => ⟨_, hq, hi G1 H1 x1 _ fun G2 H2 u x2 l2 ru => ?_⟩
  obtain ⟨vs, e, pr⟩ := (o.mono (x1.trans x2)).at_
  have ru : u = V.int i := ru
  exact ⟨q, vs, i, i.toNat, rfl, ru, e, by rw [paired_len pr]; exact ixN_of h0 h1, kk G2 H2 _ (x1.trans x2) l2 ⟨⟨_, upd_same, paired_set (up x2.g rw') _ pr⟩, (o.mono (x1.trans x2)).off⟩⟩
/-- xs[i], xs[j] = v, w, of an own list, i and j plain names -/
theorem s_swapix {xs : List α} {y z : α} {k k1 k2 : Nat} {n n1 n2 : Str} {q : Addr} {i j : Int} {np np2 sp sp2 tp tp2 ap ap2 : Pos} {kt kt2 : Nat} {c2 : Expr} (sl : Sl X k n) (sl1 : Sl X k1 n1) (sl2 : Sl X k2 n2) (s0 : Same G H) (o : Own X.K G H q xs) (hc : X.calm = true) (hv : Ev X c σ G H y) (hv2 : Ev X c2 σ G H z)
    {vi vj : V} (ri : rep X.K G vi i) (rj : rep X.K G vj j) (h0 : 0 ≤ i) (h1 : i < (xs.length : Int)) (h2 : 0 ≤ j) (h3 : j < (xs.length : Int))
    (kk : ∀ G1 H1 vs', Ext G H G1 H1 → HLen H1 → Own X.K G1 (upd H1 q (.lst vs')) q ((xs.set i.toNat y).set j.toNat z) → D.nx σ (upd H1 q (.lst vs'))) (hq : σ[k]? = some (some (.ref q)) := by rfl) (hqi : σ[k1]? = some (some vi) := by rfl) (hqj : σ[k2]? = some (some vj) := by rfl)
    (he : starEach [c, c2] X.env = (false, eval c X.env) :: starEach [c2] X.env := by rfl) (he2 : starEach [c2] X.env = (false, eval c2 X.env) :: starEach [] X.env := by rfl)
    (hs : swapsWithSole [.Tuple [.Subscript (.Name n np) (.Name n1 ap) sp, .Subscript (.Name n np2) (.Name n2 ap2) sp2] kt tp] (.Tuple [c, c2] kt2 tp2) pos.line X.env = pure false := by rfl) (hw : swappedStores [.Tuple [.Subscript (.Name n np) (.Name n1 ap) sp, .Subscript (.Name n np2) (.Name n2 ap2) sp2] kt tp] (.Tuple [c, c2] kt2 tp2) X.env = pure none := by rfl)
    (hh : (assignEach [.Tuple [.Subscript (.Name n np) (.Name n1 ap) sp, .Subscript (.Name n np2) (.Name n2 ap2) sp2] kt tp] X.env).map (·.2) = [assign (.Tuple [.Subscript (.Name n np) (.Name n1 ap) sp, .Subscript (.Name n np2) (.Name n2 ap2) sp2] kt tp) X.env] := by rfl) :
    tS X (.Assign [.Tuple [.Subscript (.Name n np) (.Name n1 ap) sp, .Subscript (.Name n np2) (.Name n2 ap2) sp2] kt tp] (.Tuple [c, c2] kt2 tp2) pos) D σ H := by
  have ri : vi = V.int i := ri
  have rj : vj = V.int j := rj
  have hg := pg_tup (k := kt) (pos := tp) hc (pgs_cons (pg_sub (pos := sp) (pe_var (pos := np) sl.hN sl.hv sl.nm.hd sl.nm.hcd) (pe_var (pos := ap) sl1.hN sl1.hv sl1.nm.hd sl1.nm.hcd) set_list) (pgs_cons (pg_sub (pos := sp2) (pe_var (pos := np2) sl.hN sl.hv sl.nm.hd sl.nm.hcd) (pe_var (pos := ap2) sl2.hN sl2.hv sl2.nm.hd sl2.nm.hcd) set_list) pgs_nil))
  refine tS_len (s_of (ps_asg pe_sem hg hs hw hh) ?_)
  refine ev_tup hv hv2 he he2 G H (Ext.refl s0) _ fun G1 H1 w x1 l1 ⟨t, u1, u2, e, gt, r1, r2⟩ => ?_
  obtain ⟨vs, e1, pr⟩ := (o.mono x1).at_
  have pr1 : Paired (rep X.K G1) (vs.set i.toNat u1) (xs.set i.toNat y) := paired_set r1 _ pr
  refine ⟨t, [u1, u2], e, .of (x1.s _ _ gt), rfl, u1, [u2], rfl, _, hq, _, hqi, q, vs, i, i.toNat, rfl, ri, e1, by rw [paired_len pr]; exact ixN_of h0 h1, u2, [], rfl, _, hq, _, hqj, q, _, j, j.toNat, rfl, rj, upd_same, ?_, rfl, ?_⟩
  · rw [paired_len pr1, List.length_set]; exact ixN_of h2 h3
  · rw [upd_upd]
    exact fun l => kk G1 H1 _ x1 l1 ⟨⟨_, upd_same, paired_set r2 _ pr1⟩, (o.mono x1).off⟩
/-- x, y = a, b: plain names -/
theorem s_par {x : α} {y : β} {i j : Nat} {n1 n2 : Str} {p1 p2 tp tp2 : Pos} {kt kt2 : Nat} (hc : X.calm = true) (hN : X.N.Nodup) (s1 : Ss X i n1) (s2 : Ss X j n2) (hij : i ≠ j) (s0 : Same G H) (ha : Ev X a σ G H x) (hb : Ev X b σ G H y)
    (kk : ∀ G1 H1 v w, Ext G H G1 H1 → HLen H1 → rep X.K G1 v x → rep X.K G1 w y → D.nx ((σ.set i (some v)).set j (some w)) H1)
    (hx : X.env.scope.names.lookup n1 = some .local := by rfl) (hy : X.env.scope.names.lookup n2 = some .local := by rfl)
    (he : starEach [a, b] X.env = (false, eval a X.env) :: starEach [b] X.env := by rfl) (he2 : starEach [b] X.env = (false, eval b X.env) :: starEach [] X.env := by rfl)
    (hw : swappedStores [.Tuple [.Name n1 p1, .Name n2 p2] kt tp] (.Tuple [a, b] kt2 tp2) X.env = pure (some [n1, n2]) := by rfl)
    (hs : swapsWithSole [.Tuple [.Name n1 p1, .Name n2 p2] kt tp] (.Tuple [a, b] kt2 tp2) pos.line X.env = pure false := by rfl) :
    tS X (.Assign [.Tuple [.Name n1 p1, .Name n2 p2] kt tp] (.Tuple [a, b] kt2 tp2) pos) D σ H := by
  refine s_of (ps_par hc hN s1.hN s2.hN hij hx hy pa_sem hw hs) ?_
  refine ea_cons ha (ea_cons hb ea_nil he2) he G H (Ext.refl s0) _ fun G1 H1 vs x1 l ⟨v, r, e, rv, v2, r2, e2, rv2, e3⟩ => ?_
  exact ⟨v, v2, by rw [e, e2, e3], kk G1 H1 v v2 x1 l rv rv2⟩
/-- x, y = e, a pair -/
theorem s_unp {x : α × β} {i j : Nat} {n1 n2 : Str} {p1 p2 tp : Pos} {kt : Nat} (hc : X.calm = true) (hN : X.N.Nodup) (s1 : Ss X i n1) (s2 : Ss X j n2) (s0 : Same G H) (h : Ev X e σ G H x)
    (kk : ∀ G1 H1 v w, Ext G H G1 H1 → HLen H1 → rep X.K G1 v x.1 → rep X.K G1 w x.2 → D.nx ((σ.set i (some v)).set j (some w)) H1)
    (hs : swapsWithSole [.Tuple [.Name n1 p1, .Name n2 p2] kt tp] e pos.line X.env = pure false := by rfl) (hw : swappedStores [.Tuple [.Name n1 p1, .Name n2 p2] kt tp] e X.env = pure none := by rfl)
    (hh : (assignEach [.Tuple [.Name n1 p1, .Name n2 p2] kt tp] X.env).map (·.2) = [assign (.Tuple [.Name n1 p1, .Name n2 p2] kt tp) X.env] := by rfl) :
    tS X (.Assign [.Tuple [.Name n1 p1, .Name n2 p2] kt tp] e pos) D σ H := by
  refine s_of (ps_asg pe_sem (pg_tup hc (pgs_cons (pg_name hN s1.hN s1.hx s1.hf) (pgs_cons (pg_name hN s2.hN s2.hx s2.hf) pgs_nil))) hs hw hh) ?_
  refine h G H (Ext.refl s0) _ fun G1 H1 v x1 l ⟨t, u1, u2, e, gt, r1, r2⟩ => ?_
  exact ⟨t, [u1, u2], e, .of (x1.s _ _ gt), rfl, u1, [u2], rfl, u2, [], rfl, rfl, kk G1 H1 u1 u2 x1 l r1 r2⟩
theorem rgV_pair {K : PySem.W.Frag} {G : Hp} (a b : Int) : Paired (rep K G) (rgV a b) (rng a b) := by
  have : rgV a b = (rng a b).map V.int := by
    unfold rgV rng
    rw [List.map_map]
    rfl
  rw [this]
  exact ints_paired _
/-- list(range(..)) -/
theorem evN_lrg1 {j : Int} {p2 pos2 : Pos} (hc : X.calm = true) (B : Bl X "list") (B2 : Bl X "range") (h : Ev X a σ G H j) (hs : RgOk 0 j) (na : starEach [a] X.env = (false, eval a X.env) :: starEach [] X.env := by rfl) (na2 : starEach [.Call (.Name "range" p2) [a] [] pos2] X.env = (false, eval (.Call (.Name "range" p2) [a] [] pos2) X.env) :: starEach [] X.env := by rfl) :
    EvN X (.Call (.Name "list" p) [.Call (.Name "range" p2) [a] [] pos2] [] pos) σ G H (Is X.K (rng 0 j)) :=
  evN_of (pe_listRg hc B.g B.m (prg_1 B2.g B2.m pe_sem na) na2) fun G1 H1 x1 Q q => h G1 H1 x1 _ fun G2 H2 v x2 _ pv =>
    ⟨j, pv, hs, fun l hl => q (upd G2 l (.lst (rgV 0 j))) _ _ (x2.new hl) ⟨l, _, rfl, upd_same, rgV_pair _ _⟩ fun p' e => by cases e; exact x2.h.free hl⟩
theorem evN_lrg2 {i j : Int} {p2 pos2 : Pos} (hc : X.calm = true) (B : Bl X "list") (B2 : Bl X "range") (h : Ev X a σ G H i) (h' : Ev X b σ G H j) (hs : RgOk i j) (na : starEach [a, b] X.env = (false, eval a X.env) :: starEach [b] X.env := by rfl) (nb : starEach [b] X.env = (false, eval b X.env) :: starEach [] X.env := by rfl) (hp : (backTo pos2 (starEach [b] X.env)).any (·.1) = false := by rfl) (na2 : starEach [.Call (.Name "range" p2) [a, b] [] pos2] X.env = (false, eval (.Call (.Name "range" p2) [a, b] [] pos2) X.env) :: starEach [] X.env := by rfl) :
    EvN X (.Call (.Name "list" p) [.Call (.Name "range" p2) [a, b] [] pos2] [] pos) σ G H (Is X.K (rng i j)) :=
  evN_of (pe_listRg hc B.g B.m (prg_2 B2.g B2.m pe_sem pe_sem na nb hp) na2) fun G1 H1 x1 Q q => h G1 H1 x1 _ fun G2 H2 v x2 _ pv => h' G2 H2 (x1.trans x2) _ fun G3 H3 u x3 _ pu =>
    ⟨i, j, pv, pu, hs, fun l hl => q (upd G3 l (.lst (rgV i j))) _ _ ((x2.trans x3).new hl) ⟨l, _, rfl, upd_same, rgV_pair _ _⟩ fun p' e => by cases e; exact (x2.trans x3).h.free hl⟩
theorem ev_lrg1 {j : Int} {p2 pos2 : Pos} (hc : X.calm = true) (B : Bl X "list") (B2 : Bl X "range") (h : Ev X a σ G H j) (hs : RgOk 0 j) (na : starEach [a] X.env = (false, eval a X.env) :: starEach [] X.env := by rfl) (na2 : starEach [.Call (.Name "range" p2) [a] [] pos2] X.env = (false, eval (.Call (.Name "range" p2) [a] [] pos2) X.env) :: starEach [] X.env := by rfl) :
    Ev X (.Call (.Name "list" p) [.Call (.Name "range" p2) [a] [] pos2] [] pos) σ G H (rng 0 j) := (evN_lrg1 hc B B2 h hs na na2).ev
theorem ev_lrg2 {i j : Int} {p2 pos2 : Pos} (hc : X.calm = true) (B : Bl X "list") (B2 : Bl X "range") (h : Ev X a σ G H i) (h' : Ev X b σ G H j) (hs : RgOk i j) (na : starEach [a, b] X.env = (false, eval a X.env) :: starEach [b] X.env := by rfl) (nb : starEach [b] X.env = (false, eval b X.env) :: starEach [] X.env := by rfl) (hp : (backTo pos2 (starEach [b] X.env)).any (·.1) = false := by rfl) (na2 : starEach [.Call (.Name "range" p2) [a, b] [] pos2] X.env = (false, eval (.Call (.Name "range" p2) [a, b] [] pos2) X.env) :: starEach [] X.env := by rfl) :
    Ev X (.Call (.Name "list" p) [.Call (.Name "range" p2) [a, b] [] pos2] [] pos) σ G H (rng i j) := (evN_lrg2 hc B B2 h h' hs na nb hp na2).ev
end
end RL
namespace RL
open PySem PySem.Spec PyProof.Rows L2 Rep
section
variable {X : Cx} {σ : St} {G H : Hp} {D : Ends} {P : PV} {e : Expr} {pos p : Pos} {α : Type} [Rep α]
theorem flat_paired [Flat α] {K : PySem.W.Frag} {G G' : Hp} : ∀ {vs : List V} {xs : List α}, Paired (rep K G) vs xs → Paired (rep K G') vs xs
  | _, _, .nil => .nil
  | _, _, .cons h t => .cons (Flat.flat h) (flat_paired t)
/-- name = a new list, the def's own from here on -/
theorem s_setO [Flat α] {xs : List α} {i : Nat} {n : Str} (hN : X.N.Nodup) (sl : Ss X i n) (s0 : Same G H) (h : EvN X e σ G H (Is X.K xs)) (k : ∀ G1 H1 q, Ext G H G1 H1 → HLen H1 → H q = none → Own X.K G1 H1 q xs → D.nx (σ.set i (some (.ref q))) H1)
    (hs : swapsWith e (some (.Name n p)) pos.line X.env = pure false := by rfl) : tS X (.Assign [.Name n p] e pos) D σ H :=
  s_setN hN sl s0 h (fun G1 H1 v x l r nw => by
    obtain ⟨q, vs, rfl, g, pr⟩ := r
    have hq : H q = none := nw q rfl
    refine k (fun a => if a = q then none else G1 a) H1 q ⟨x.h, fun a o e => ?_, fun a o e => ?_, fun a o e => ?_⟩ l hq ⟨⟨vs, x.s _ _ g, ?_⟩, if_pos rfl⟩
    · by_cases ha : a = q
      · subst ha; rw [s0 _ _ e] at hq; cases hq
      · show (if a = q then none else G1 a) = _
        rw [if_neg ha]; exact x.g _ _ e
    · by_cases ha : a = q
      · have e : (if a = q then none else G1 a) = some o := e
        rw [if_pos ha] at e; cases e
      · have e : (if a = q then none else G1 a) = some o := e
        rw [if_neg ha] at e; exact x.s _ _ e
    · by_cases ha : a = q
      · have e : (if a = q then none else G1 a) = some o := e
        rw [if_pos ha] at e; cases e
      · have e : (if a = q then none else G1 a) = some o := e
        rw [if_neg ha] at e; exact x.n _ _ e
    · exact flat_paired pr) hs
theorem ev_abs {i : Int} (B : Bl X "abs") (h : Ev X e σ G H i) (he : starEach [e] X.env = (false, eval e X.env) :: starEach [] X.env := by rfl) : Ev X (.Call (.Name "abs" p) [e] [] pos) σ G H (if i < 0 then -i else i) :=
  ev_callB call_abs B.g B.m PyProof.Rows.boot_abs (ea_cons h ea_nil he) (fun G1 H1 vs y l ⟨v, r, e1, pv, e2⟩ Q q => ⟨i, by rw [e1, e2, show v = _ from pv], q G1 H1 _ (Ext.refl y.s) rfl⟩) (by decide) (by decide) he rfl
theorem rep_of2 {ζ : Type} [Rep ζ] {K : PySem.W.Frag} {G : Hp} {v : V} {y z : ζ × List Int} (e : y = z) (r : rep K G v z.1) : rep K G v y.1 := e ▸ r
theorem own_of {ζ : Type} {K : PySem.W.Frag} {G H : Hp} {q : Addr} {y z : ζ × List Int} (e : y = z) (o : Own K G H q z.2) : Own K G H q y.2 := e ▸ o
end
end RL
namespace RL
theorem cut_but {α : Type} (xs : List α) : cut xs none (some (-1)) = xs.dropLast := by
  have e : cut xs none (some (-1)) = xs.take (xs.length - 1) := by
    unfold cut
    have h1 : HT.sIx xs.length 0 none = 0 := rfl
    have h2 : HT.sIx xs.length xs.length (some (-1)) = xs.length - 1 := by
      simp only [HT.sIx]
      rw [if_pos (by decide)]
      omega
    rw [h1, h2, List.drop_zero, Nat.sub_zero]
  rw [e, List.dropLast_eq_take]
end RL
namespace RL
open PySem PySem.Spec PyProof.Rows L2 Rep
/-- i, i + c, .. below j -/
def rng3 (i j c : Int) : List Int := (List.range (if i < j then (j - i - 1) / c + 1 else 0).toNat).map fun (k : Nat) => i + (k : Int) * c
theorem rng3_len {i j c : Int} : (rng3 i j c).length = (if i < j then (j - i - 1) / c + 1 else 0).toNat := by simp [rng3]
theorem small_pos {a b c : Int} (ha : -(2 ^ 62) ≤ a) (ha' : a < 2 ^ 62) (hb : -(2 ^ 62) ≤ b) (hb' : b < 2 ^ 62) (hc : 1 ≤ c) (hc' : c < 1073741824) : Builtin.Range.small a b c = true := by
  unfold Builtin.Range.small
  have h0 : Builtin.Range.rangeSize a b c = if a < b then (b - a - 1) / c + 1 else 0 := by
    unfold Builtin.Range.rangeSize
    rw [if_pos (by omega)]
  rw [h0]
  simp only [Builtin.Range.rangeFitsLong, Bool.and_eq_true, Bool.or_eq_true, decide_eq_true_eq, beq_iff_eq, show c > 0 by omega, if_true]
  by_cases h : a < b
  · rw [if_pos h]
    have h1 : (b - a - 1) / c ≤ b - a - 1 := Int.ediv_le_self c (by omega)
    have h2 : 0 ≤ (b - a - 1) / c := Int.ediv_nonneg (by omega) (by omega)
    omega
  · rw [if_neg h]
    omega
theorem walk_rng3 {K : PySem.W.Frag} {G : Hp} {lo hi c : Int} {n : Nat} (e : n = (if lo < hi then (hi - lo - 1) / c + 1 else 0).toNat) : WalkOf K (Itc lo c n) G (rng3 lo hi c) := fun G' H' s1 s2 => by
  subst e
  refine ⟨fun i h => by rw [rng3_len] at h; exact h, by rw [rng3_len]; exact Nat.le_refl _, fun i x v H'' hx y => ?_⟩
  obtain ⟨rfl, y⟩ := y
  unfold rng3 at hx
  rw [List.getElem?_map] at hx
  cases hq : (List.range (if lo < hi then (hi - lo - 1) / c + 1 else 0).toNat)[i]? with
  | none => rw [hq] at hx; cases hx
  | some t =>
    rw [hq] at hx
    obtain ⟨ht, he⟩ := List.getElem?_eq_some_iff.mp hq
    simp at he
    subst he
    cases hx
    exact ⟨G', Ext.refl s2, y⟩
section
variable {X : Cx} {σ : St} {G H : Hp} {D : Ends} {P : PV} {a b c tg : Expr} {pos p : Pos} {i j k : Int}
theorem ei_range3 (B : Bl X "range") (h : Ev X a σ G H i) (h' : Ev X b σ G H j) (h'' : Ev X c σ G H k) (hb : (-(2 ^ 62) ≤ i ∧ i < 2 ^ 62) ∧ -(2 ^ 62) ≤ j ∧ j < 2 ^ 62 ∧ j - i ≤ 16777216) (hk : 1 ≤ k) (hk' : k < 1073741824)
    (he : starEach [a, b, c] X.env = (false, eval a X.env) :: starEach [b, c] X.env := by rfl) (he2 : starEach [b, c] X.env = (false, eval b X.env) :: starEach [c] X.env := by rfl) (he3 : starEach [c] X.env = (false, eval c X.env) :: starEach [] X.env := by rfl) (hpl : (backTo pos (starEach [b, c] X.env)).any (·.1) = false := by rfl) :
    EvI X tg (.Call (.Name "range" p) [a, b, c] [] pos) σ G H (rng3 i j k) :=
  ⟨_, pi_range3 B.g B.m (pa_cons pe_sem (pa_cons pe_sem (pa_cons pe_sem pa_nil he3) he2) he) he hpl, fun G1 H1 x1 R r => h G1 H1 x1 _ fun G2 H2 v x2 _ pv => h' G2 H2 (x1.trans x2) _ fun G3 H3 u x3 _ pu => h'' G3 H3 ((x1.trans x2).trans x3) _ fun G4 H4 w x4 _ pw => by
    have h0 : Builtin.Range.rangeSize i j k = if i < j then (j - i - 1) / k + 1 else 0 := by
      unfold Builtin.Range.rangeSize
      rw [if_pos (by omega)]
    have h1 : (j - i - 1) / k ≤ j - i - 1 ∨ ¬ i < j := by
      by_cases z : i < j
      · exact .inl (Int.ediv_le_self k (by omega))
      · exact .inr z
    have h2 : 0 ≤ (j - i - 1) / k ∨ ¬ i < j := by
      by_cases z : i < j
      · exact .inl (Int.ediv_nonneg (by omega) (by omega))
      · exact .inr z
    refine ⟨i, j, k, (if i < j then (j - i - 1) / k + 1 else 0).toNat, by rw [show v = _ from pv, show u = _ from pu, show w = _ from pw], ⟨by omega, by omega, small_pos hb.1.1 hb.1.2 hb.2.1 hb.2.2.1 hk hk', ?_⟩, r _ G4 H4 ((x2.trans x3).trans x4) ?_ (walk_rng3 rfl)⟩
    · rw [h0]; split <;> omega
    · rw [rng3_len, sizeLine_eq]; split <;> omega⟩
/-! ### while -/
def wrun {S : Type} (c : S → Bool) (f : S → S) : Nat → S → S
  | 0, s => s
  | n + 1, s => if c s = true then wrun c f n (f s) else s
theorem wrun_step {S : Type} {c : S → Bool} {f : S → S} {m : Nat} {s s' y : S} (e : wrun c f m s = y) (hc : c s = true) (hm : 1 ≤ m) (hs : f s = s') : wrun c f (m - 1) s' = y := by
  cases m with
  | zero => omega
  | succ m =>
    rw [wrun, if_pos hc, hs] at e
    exact e
theorem wrun_stop {S : Type} {c : S → Bool} {f : S → S} {m : Nat} {s y : S} (e : wrun c f m s = y) (hc : c s = false) : s = y := by
  cases m with
  | zero => exact e
  | succ m =>
    rw [wrun, if_neg (by rw [hc]; decide)] at e
    exact e
theorem tk_whl {α S : Type} {a : α} {k : S → α} {c : S → Bool} {f : S → S} {m M : Nat} {s s0 : S} (h : a = k (wrun c f M s0)) (e : wrun c f m s = wrun c f M s0) (hc : c s = false) : a = k s := by
  rw [h, ← e, ← wrun_stop rfl hc]
theorem s_while {body : List Stmt} (hp : PassesOwn (model X.prog X.w) X.A X.env X.xe) (s0 : Same G H) (I : Nat → St → Hp → Hp → Prop) (M : Nat) (h0 : I M σ G H)
    (ht : ∀ m σ1 G1 H1, Same G G1 → Same G1 H1 → I m σ1 G1 H1 → ∃ b, EvT X c σ1 G1 H1 b ∧
      (b = true → ∀ G2 H2, Ext G1 H1 G2 H2 → HLen H2 → tSs X body { D with nx := fun σ' H' => ∃ m' G', m' < m ∧ Same G2 G' ∧ Same G' H' ∧ I m' σ' G' H', ct := fun σ' H' => ∃ m' G', m' < m ∧ Same G2 G' ∧ Same G' H' ∧ I m' σ' G' H', bk := D.nx } σ1 H2) ∧
      (b = false → ∀ G2 H2, Ext G1 H1 G2 H2 → HLen H2 → D.nx σ1 H2)) : tS X (.While c body [] pos) D σ H := by
  refine s_of (ps_while hp pt_sem pss_sem) ⟨fun m σ' H' => ∃ G', Same G G' ∧ Same G' H' ∧ I m σ' G' H', ⟨M, G, Same.refl _, s0, h0⟩, ?_⟩
  rintro m σ1 H1 ⟨G1, sg, sh, Iv⟩
  obtain ⟨b, hc, h1, h2⟩ := ht m σ1 G1 H1 sg sh Iv
  refine hc G1 H1 (Ext.refl sh) _ fun G2 H2 x2 l => ?_
  cases b with
  | false => exact h2 rfl G2 H2 x2 l
  | true =>
    refine ⟨fun σ2 H2 => ∃ m' G', m' < m ∧ Same G G' ∧ Same G' H2 ∧ I m' σ2 G' H2, fun σ2 H2 ⟨m', G', hm, a, b, c⟩ => ⟨m', hm, G', a, b, c⟩, ?_⟩
    refine .mk fun pins s Iv' => ?_
    refine thn ((h1 rfl G2 H2 x2 l).run pins s Iv') fun f s' q => ?_
    have fin : ∀ {H3 : Hp} {σ3 : St}, (∃ m' G', m' < m ∧ Same G2 G' ∧ Same G' H3 ∧ I m' σ3 G' H3) → ∃ m' G', m' < m ∧ Same G G' ∧ Same G' H3 ∧ I m' σ3 G' H3 := fun ⟨m', G', hm, a, b, c⟩ => ⟨m', G', hm, sg.trans (x2.g.trans a), b, c⟩
    cases f with
    | next =>
      obtain ⟨σ3, H3, I3, q⟩ := q
      exact ⟨σ3, H3, I3, fin q⟩
    | cont =>
      obtain ⟨σ3, H3, I3, q⟩ := q
      exact ⟨σ3, H3, I3, fin q⟩
    | brk => exact q
    | ret u => exact q
end
end RL
namespace RL
theorem enum_mem {α : Type} {z : Int × α} {xs : List α} (h : z ∈ enum xs) : 0 ≤ z.1 ∧ z.1 < (xs.length : Int) := by
  obtain ⟨i, hi, e⟩ := List.getElem_of_mem h
  have e2 : (enum xs)[i]? = some z := by rw [List.getElem?_eq_getElem hi, e]
  obtain ⟨e1, _⟩ := enum_get e2
  rw [enum_len] at hi
  omega
theorem rep_len {α : Type} (n : Nat) (a : α) : (List.replicate n [a]).flatten.length = n := by simp
theorem rep_len2 {α : Type} (n : Nat) (a b : α) : (List.replicate n [a, b]).flatten.length = n * 2 := by simp
end RL
namespace RL
theorem getD_set {xs : List Int} {i : Nat} {v : Int} (h : i < xs.length) : (xs.set i v).getD i 0 = v := by
  rw [List.getD_eq_getElem?_getD, List.getElem?_set_self h]
  rfl
end RL
namespace RL
open PySem PySem.Spec PyProof.Rows L2 Rep
section
variable {X : Cx} {σ : St} {G H : Hp} {p : Pos}
/-- a constant of the text -/
theorem ev_globI {n : Str} {i : Int} (hg : Gl X n) (h : ∃ t, X.mg n = some (.int i t)) (hd : (n == ("__debug__" : Str)) = false := by decide) : Ev X (.Name n p) σ G H i :=
  let ⟨t, h⟩ := h; ev_glob (v := .int i) hg h ⟨t, rfl⟩ (fun _ => rfl) hd
theorem ev_globS {n x : Str} (hg : Gl X n) (h : ∃ t, X.mg n = some (.str x t)) (hd : (n == ("__debug__" : Str)) = false := by decide) : Ev X (.Name n p) σ G H x :=
  let ⟨t, h⟩ := h; ev_glob (v := .str x) hg h ⟨t, rfl⟩ (fun _ => rfl) hd
end
end RL
namespace RL
open PySem PySem.Spec PyProof.Rows L2 Rep
section
variable {X : Cx} {σ : St} {G H : Hp} {es : List Expr} {pos p lp : Pos} {D : Ends}
/-- n = [..]: the def's own at once, whatever its items -/
theorem s_listO {α : Type} [Rep α] {xs : List α} {i : Nat} {n : Str} (hN : X.N.Nodup) (sl : Ss X i n) (s0 : Same G H) (h : EvA X es σ G H (AAll X.K xs)) (k : ∀ G1 H1 q, Ext G H G1 H1 → HLen H1 → H q = none → Own X.K G1 H1 q xs → D.nx (σ.set i (some (.ref q))) H1)
    (hl : xs.length ≤ 1000 := by exact Nat.le_of_ble_eq_true rfl) (hs : swapsWith (.List es lp) (some (.Name n p)) pos.line X.env = pure false := by rfl) : tS X (.Assign [.Name n p] (.List es lp) pos) D σ H :=
  s_of (ps_set hN sl.hN sl.hx pe_sem hs sl.hf) (tE_lenF fun pins s I => (pe_lst pa_sem).run pins s σ H _ I (h G H (Ext.refl s0) _ fun G1 H1 vs x _ pa => ⟨by rw [paired_len pa]; exact Nat.le_of_lt (small1000 hl), fun q hq l =>
    k G1 _ q (x.newH hq) l (x.h.free hq) ⟨⟨vs, upd_same, pa⟩, x.s.free hq⟩⟩))
end
end RL
namespace RL
open PySem PySem.Spec PyProof.Rows L2
/-- names of a block within a block -/
def relS (scope sc0 : Scope) : Scope := { scope with names := scope.names.map fun (n, k) => if (k == NameKind.free && sc0.kind == .function && sc0.names.lookup n == some NameKind.cell) then (n, NameKind.cell) else (n, k) }
theorem blk_in {X : Cx} {N : List Str} {sc0 scope scope2 : Scope} {own : List (Str × Nat)} {s : Shared} {H0 : Hp} {C : Addr} {cl : List (Str × Addr)} {fp : List Addr} (hs : X.env.scope = sc0) (h : blkC N (relS scope sc0) scope2 own = true) : BlkOk N (InB X scope s H0 C cl fp).env.scope scope2 own := by
  subst hs
  exact blkOk_by h
end RL
namespace RL
open PySem PySem.Spec PyProof.Rows L2 Rep
section
variable {X : Cx} {σ : St} {G H : Hp} {pos p : Pos} {α β γ δ ζ : Type} [Rep α] [Rep β] [Rep γ] [Rep δ] [Rep ζ] {k : Nat} {n : Str} {e1 e2 e3 e4 : Expr} {x1 : α} {x2 : β} {x3 : γ} {x4 : δ}
theorem evN_c4 {pre : α → β → γ → δ → Prop} {f : α → β → γ → δ → ζ} (C : Cal X.prog X.w X.K X.mg X.base k n (Sp4 X.K true pre f)) (hr : Room k X.A) (hg : Gl X n) (h1 : Ev X e1 σ G H x1) (h2 : Ev X e2 σ G H x2) (h3 : Ev X e3 σ G H x3) (h4 : Ev X e4 σ G H x4) (hp : pre x1 x2 x3 x4) (hdb : (n == ("__debug__" : Str)) = false := by decide)
    (he : starEach [e1, e2, e3, e4] X.env = (false, eval e1 X.env) :: starEach [e2, e3, e4] X.env := by rfl) (he2 : starEach [e2, e3, e4] X.env = (false, eval e2 X.env) :: starEach [e3, e4] X.env := by rfl) (he3 : starEach [e3, e4] X.env = (false, eval e3 X.env) :: starEach [e4] X.env := by rfl) (he4 : starEach [e4] X.env = (false, eval e4 X.env) :: starEach [] X.env := by rfl) (hpl : (backTo pos (starEach [e2, e3, e4] X.env)).any (·.1) = false := by rfl) : EvN X (.Call (.Name n p) [e1, e2, e3, e4] [] pos) σ G H (Is X.K (f x1 x2 x3 x4)) :=
  evN_call C hr hg (ea_cons h1 (ea_cons h2 (ea_cons h3 (ea_cons h4 ea_nil he4) he3) he2) he) (fun G1 H1 vs x l ⟨v, r, e, rv, v2, r2, e', rv2, v3, r3, e'', rv3, v4, r4, e3', rv4, e4'⟩ Q q => ⟨G1, v, v2, v3, v4, x1, x2, x3, x4, by rw [e, e', e'', e3', e4'], x.s, rv, rv2, rv3, rv4, hp, fun G2 H2 w x r n => q G2 H2 w x r (n rfl)⟩) hdb he hpl
end
end RL
namespace RL
open PySem PySem.Spec PyProof.Rows L2 Rep
section
variable {α β : Type} [Rep α] [Rep β] {K : PySem.W.Frag} {G H G0 H0 : Hp} {q p : Addr} {xs : List α} {ys : List β}
/-- an own list frozen beside others -/
theorem Own.frzK (o : Own K G H q xs) (x0 : Ext G0 H0 G H) (n : H0 q = none) : ∃ G', Ext G0 H0 G' H ∧ Same G G' ∧ rep K G' (.ref q) xs ∧ ∀ b, b ≠ q → G' b = G b :=
  let ⟨vs, e, p⟩ := o.at_; ⟨upd G q (.lst vs), x0.frz n e, same_new o.off, ⟨q, vs, rfl, upd_same, pair_up (same_new o.off) p⟩, fun _ h => upd_ne h⟩
theorem Own.reK {G' : Hp} (o : Own K G H p ys) (s : Same G G') (k : ∀ b, b ≠ q → G' b = G b) (h : p ≠ q) : Own K G' H p ys :=
  let ⟨vs, e, r⟩ := o.at_; ⟨⟨vs, e, pair_up s r⟩, (k p h).trans o.off⟩
end
end RL

set_option Elab.async false
set_option linter.all false
set_option maxRecDepth 100000
set_option maxHeartbeats 4000000
/-! RX: own errors: defs that refuse, try .. except .. as e, a def that is asked of the error in hand. -/
namespace RL
open PySem PySem.Spec PyProof.Rows L2 Rep
theorem cx_no {P : Program} {w : World} {outer : List Env} {H : Hp} {s s' : Shared} {e : Value} (h : L2.CX P w outer H s (fun _ _ _ => False) e s') : False := by
  obtain ⟨_, _, _, _, _, _, _, _, _, _, _, _, z⟩ := h
  exact z
theorem roomS {k : Nat} {A : Around} {v : Option Value} (r : Room k A) : L2H.RoomH k (A.mark v) := ⟨r.dp, r.un⟩
/-- an error class of the text without own __init__, over ValueError -/
structure XC (K : PySem.W.Frag) (mg : Str → Option Value) (x : Str) (C : Addr) : Prop where
  g : mg x = some (.ref C)
  k : PySem.W.keepIn K (.ref C) = true
  q : PySem.W.excIn K C [.type "ValueError", .type "Exception", .type "BaseException", .type "object"] "ValueError.__new__" = true
  s : PySem.W.subIn K (.ref C) (.type "BaseException") = some true
  t : PySem.W.typeIn K (.ref C) = some (.type "type")
  c : ExcC K C
section
variable {X : Cx} {σ : St} {G H : Hp} {P : PV} {W : WX} {D : Ends} {e a b tg : Expr} {es : List Expr} {st : Stmt} {sts body suite : List Stmt} {b0 : Stmt} {pos p p2 p3 : Pos}
/-! ### what never comes to a value -/
def EvR (X : Cx) (e : Expr) (σ : St) (H : Hp) : Prop := ∀ Q : VK, tE X e σ H Q
theorem s_raise {x m : Str} {C : Addr} {j : Nat} (hc : X.calm = true) (tk : Takes X W) (c : XC X.K X.mg x C) (hg : Gl X x) (h : W (.ref C) none σ H) (hdb : (x == ("__debug__" : Str)) = false := by decide) :
    tS X (.Raise (some (.Call (.Name x p) [.Constant (.str m) j p2] [] p3)) none pos) D σ H :=
  s_of (ps_raise hc tk (pmk_own PySem.F.excBase_ValueError c.q c.g c.k (raises_own c.s c.t) hg hdb)) h
theorem s_exprR (h : EvR X e σ H) (hs : swapsWith e none pos.line X.env = pure false := by rfl) : tS X (.Expr e pos) D σ H := s_of (ps_expr pe_sem hs) (h _)
theorem s_retR (h : EvR X e σ H) : tS X (.Return (some e) pos) D σ H := s_of (ps_ret pe_sem) (h _)
theorem s_setR {i : Nat} {n : Str} (hN : X.N.Nodup) (sl : Ss X i n) (h : EvR X e σ H) (hs : swapsWith e (some (.Name n p)) pos.line X.env = pure false := by rfl) : tS X (.Assign [.Name n p] e pos) D σ H :=
  s_of (ps_set hN sl.hN sl.hx pe_sem hs sl.hf) (h _)
def EiR (X : Cx) (tg iter : Expr) (σ : St) (H : Hp) : Prop := ∃ wi, PI X tg iter wi ∧ ∀ R : It → Hp → Prop, wi σ H R
theorem eir_list (h : EvR X e σ H) : EiR X tg e σ H := ⟨_, pi_list pe_sem, fun _ => h _⟩
theorem eir_enum {elts : List Expr} {kk : Nat} {tpos : Pos} (B : Bl X "enumerate") (h : EvR X e σ H) (he : starEach [e] X.env = (false, eval e X.env) :: starEach [] X.env := by rfl) (hs : starEach [e] X.env = [(false, eval e X.env)] := by rfl) :
    EiR X (.Tuple elts kk tpos) (.Call (.Name "enumerate" p) [e] [] pos) σ H := ⟨_, pi_enum B.g B.m (pa_cons pe_sem pa_nil he) hs, fun _ => h _⟩
theorem s_forR {g : TG} (hp : PassesOwn (model X.prog X.w) X.A X.env X.xe) (hc : X.calm = true) (hg : PG X tg g) (h : EiR X tg e σ H) (hsf : ∀ x, foldedSetIterable e X.env x = pure x := by intro _; rfl) : tS X (.For tg e body [] pos) D σ H :=
  let ⟨_, pi, h⟩ := h; s_of (ps_for hp hc pi hg pss_sem hsf) (h _)
/-! ### defs that refuse -/
section sps
variable {α β γ δ : Type} [Rep α] [Rep β] [Rep γ] [Rep δ]
def SpR1 (K : PySem.W.Frag) (pre : α → Prop) (C : Addr) : Sp := fun vs H _ E => ∃ (G : Hp) (v1 : V) (x1 : α), vs = [v1] ∧ Same G H ∧ rep K G v1 x1 ∧ pre x1 ∧ ∀ G2 H2, Ext G H G2 H2 → E (.ref C) none H2
def SpR2 (K : PySem.W.Frag) (pre : α → β → Prop) (C : Addr) : Sp := fun vs H _ E => ∃ (G : Hp) (v1 v2 : V) (x1 : α) (x2 : β), vs = [v1, v2] ∧ Same G H ∧ rep K G v1 x1 ∧ rep K G v2 x2 ∧ pre x1 x2 ∧ ∀ G2 H2, Ext G H G2 H2 → E (.ref C) none H2
def SpR3 (K : PySem.W.Frag) (pre : α → β → γ → Prop) (C : Addr) : Sp := fun vs H _ E => ∃ (G : Hp) (v1 v2 v3 : V) (x1 : α) (x2 : β) (x3 : γ), vs = [v1, v2, v3] ∧ Same G H ∧ rep K G v1 x1 ∧ rep K G v2 x2 ∧ rep K G v3 x3 ∧ pre x1 x2 x3 ∧ ∀ G2 H2, Ext G H G2 H2 → E (.ref C) none H2
def SpR4 (K : PySem.W.Frag) (pre : α → β → γ → δ → Prop) (C : Addr) : Sp := fun vs H _ E => ∃ (G : Hp) (v1 v2 v3 v4 : V) (x1 : α) (x2 : β) (x3 : γ) (x4 : δ), vs = [v1, v2, v3, v4] ∧ Same G H ∧ rep K G v1 x1 ∧ rep K G v2 x2 ∧ rep K G v3 x3 ∧ rep K G v4 x4 ∧ pre x1 x2 x3 x4 ∧ ∀ G2 H2, Ext G H G2 H2 → E (.ref C) none H2
variable {k : Nat} {n : Str} {e1 e2 e3 e4 : Expr} {x1 : α} {x2 : β} {x3 : γ} {x4 : δ} {C : Addr}
theorem evR_call {sp : Sp} {A : Hp → Hp → List V → Prop} (c : Cal X.prog X.w X.K X.mg X.base k n sp) (hr : Room k X.A) (hg : Gl X n) (tk : Takes X W) (s0 : Same G H) (ha : EvA X (e :: es) σ G H A)
    (h : ∀ G1 H1 vs Q, Ext G H G1 H1 → A G1 H1 vs → sp vs H1 Q (WE W σ)) (hdb : (n == ("__debug__" : Str)) = false := by decide)
    (he : starEach (e :: es) X.env = (false, eval e X.env) :: starEach es X.env := by rfl) (hpl : (backTo pos (starEach es X.env)).any (·.1) = false := by rfl) : EvR X (.Call (.Name n p) (e :: es) [] pos) σ H := by
  obtain ⟨f, fd, ps, F, hm, hk, hb⟩ := c.ex
  refine fun Q => .mk fun pins s I => ?_
  exact (pe_callS F hr hg hm hk hb (fun τ => passAt tk τ) pa_sem hdb he hpl).run pins s σ H Q I (ha G H (Ext.refl s0) _ fun G1 H1 vs x _ q => h G1 H1 vs Q x q)
theorem evR_c1 {pre : α → Prop} (c : Cal X.prog X.w X.K X.mg X.base k n (SpR1 X.K pre C)) (hr : Room k X.A) (hg : Gl X n) (tk : Takes X W) (s0 : Same G H) (h1 : Ev X e1 σ G H x1) (hp : pre x1) (w : ∀ G2 H2, Ext G H G2 H2 → W (.ref C) none σ H2)
    (hdb : (n == ("__debug__" : Str)) = false := by decide) (he : starEach [e1] X.env = (false, eval e1 X.env) :: starEach [] X.env := by rfl) : EvR X (.Call (.Name n p) [e1] [] pos) σ H :=
  evR_call c hr hg tk s0 (ea_cons h1 ea_nil he) (fun G1 H1 vs Q x ⟨v, r, e, rv, e'⟩ => ⟨G1, v, x1, by rw [e, e'], x.s, rv, hp, fun G2 H2 y => w G2 H2 (x.trans y)⟩) hdb he rfl
theorem evR_c2 {pre : α → β → Prop} (c : Cal X.prog X.w X.K X.mg X.base k n (SpR2 X.K pre C)) (hr : Room k X.A) (hg : Gl X n) (tk : Takes X W) (s0 : Same G H) (h1 : Ev X e1 σ G H x1) (h2 : Ev X e2 σ G H x2) (hp : pre x1 x2) (w : ∀ G2 H2, Ext G H G2 H2 → W (.ref C) none σ H2)
    (hdb : (n == ("__debug__" : Str)) = false := by decide) (he : starEach [e1, e2] X.env = (false, eval e1 X.env) :: starEach [e2] X.env := by rfl) (he2 : starEach [e2] X.env = (false, eval e2 X.env) :: starEach [] X.env := by rfl)
    (hpl : (backTo pos (starEach [e2] X.env)).any (·.1) = false := by rfl) : EvR X (.Call (.Name n p) [e1, e2] [] pos) σ H :=
  evR_call c hr hg tk s0 (ea_cons h1 (ea_cons h2 ea_nil he2) he) (fun G1 H1 vs Q x ⟨v, r, e, rv, v2, r2, e', rv2, e''⟩ => ⟨G1, v, v2, x1, x2, by rw [e, e', e''], x.s, rv, rv2, hp, fun G2 H2 y => w G2 H2 (x.trans y)⟩) hdb he hpl
theorem evR_c3 {pre : α → β → γ → Prop} (c : Cal X.prog X.w X.K X.mg X.base k n (SpR3 X.K pre C)) (hr : Room k X.A) (hg : Gl X n) (tk : Takes X W) (s0 : Same G H) (h1 : Ev X e1 σ G H x1) (h2 : Ev X e2 σ G H x2) (h3 : Ev X e3 σ G H x3) (hp : pre x1 x2 x3) (w : ∀ G2 H2, Ext G H G2 H2 → W (.ref C) none σ H2)
    (hdb : (n == ("__debug__" : Str)) = false := by decide) (he : starEach [e1, e2, e3] X.env = (false, eval e1 X.env) :: starEach [e2, e3] X.env := by rfl) (he2 : starEach [e2, e3] X.env = (false, eval e2 X.env) :: starEach [e3] X.env := by rfl)
    (he3 : starEach [e3] X.env = (false, eval e3 X.env) :: starEach [] X.env := by rfl) (hpl : (backTo pos (starEach [e2, e3] X.env)).any (·.1) = false := by rfl) : EvR X (.Call (.Name n p) [e1, e2, e3] [] pos) σ H :=
  evR_call c hr hg tk s0 (ea_cons h1 (ea_cons h2 (ea_cons h3 ea_nil he3) he2) he) (fun G1 H1 vs Q x ⟨v, r, e, rv, v2, r2, e', rv2, v3, r3, e'', rv3, e3'⟩ => ⟨G1, v, v2, v3, x1, x2, x3, by rw [e, e', e'', e3'], x.s, rv, rv2, rv3, hp, fun G2 H2 y => w G2 H2 (x.trans y)⟩) hdb he hpl
theorem evR_c4 {pre : α → β → γ → δ → Prop} (c : Cal X.prog X.w X.K X.mg X.base k n (SpR4 X.K pre C)) (hr : Room k X.A) (hg : Gl X n) (tk : Takes X W) (s0 : Same G H) (h1 : Ev X e1 σ G H x1) (h2 : Ev X e2 σ G H x2) (h3 : Ev X e3 σ G H x3) (h4 : Ev X e4 σ G H x4) (hp : pre x1 x2 x3 x4) (w : ∀ G2 H2, Ext G H G2 H2 → W (.ref C) none σ H2)
    (hdb : (n == ("__debug__" : Str)) = false := by decide) (he : starEach [e1, e2, e3, e4] X.env = (false, eval e1 X.env) :: starEach [e2, e3, e4] X.env := by rfl) (he2 : starEach [e2, e3, e4] X.env = (false, eval e2 X.env) :: starEach [e3, e4] X.env := by rfl)
    (he3 : starEach [e3, e4] X.env = (false, eval e3 X.env) :: starEach [e4] X.env := by rfl) (he4 : starEach [e4] X.env = (false, eval e4 X.env) :: starEach [] X.env := by rfl) (hpl : (backTo pos (starEach [e2, e3, e4] X.env)).any (·.1) = false := by rfl) : EvR X (.Call (.Name n p) [e1, e2, e3, e4] [] pos) σ H :=
  evR_call c hr hg tk s0 (ea_cons h1 (ea_cons h2 (ea_cons h3 (ea_cons h4 ea_nil he4) he3) he2) he) (fun G1 H1 vs Q x ⟨v, r, e, rv, v2, r2, e', rv2, v3, r3, e'', rv3, v4, r4, e3', rv4, e4'⟩ => ⟨G1, v, v2, v3, v4, x1, x2, x3, x4, by rw [e, e', e'', e3', e4'], x.s, rv, rv2, rv3, rv4, hp, fun G2 H2 y => w G2 H2 (x.trans y)⟩) hdb he hpl
end sps
/-! ### try: body / except x as n: suite -/
theorem s_try {x n : Str} {c : Value} {i : Nat} {np pos' : Pos} (hs : X.stack = X.env :: X.outer) (hf : X.env.frame = some X.env.locals) (hN : X.N.Nodup) (hi : X.N[i]? = some n) (hln : X.env.kindOf n = some .local) (hc : Names X x c)
    (h : ∀ (pn : List (Addr × Obj)) (xe : Value → Shared → Prop) (W : WX),
      (∀ cls τ H', PySem.W.exmOne X.K (.ref cls) c = some true → (∀ a oe pn', H' a = none → Zc (.ref cls) none oe → (∃ vs, oe.data = .fields vs) →
        tSs (X.suite a ((a, oe) :: pn')) (b0 :: suite) { nx := fun σ' H' => D.nx (σ'.set i none) H', rt := D.rt, bk := fun σ' H' => D.bk (σ'.set i none) H', ct := fun σ' H' => D.ct (σ'.set i none) H' } (τ.set i (some (.ref a))) H') → W (.ref cls) none τ H') →
      Takes (X.tr pn xe) W → PassesOwn (model X.prog X.w) X.A X.env xe → tSs (X.tr pn xe) body D σ H) :
    tS X (.Try body [.ExceptHandler (some (.Name x np)) (some n) (b0 :: suite) pos'] [] [] pos) D σ H :=
  s_of (ps_try_as (i := i) (c := c) (Wout := fun _ _ _ _ => False)
    (tb := fun W D σ H => ∀ pn xe, Takes (X.tr pn xe) W → PassesOwn (model X.prog X.w) X.A X.env xe → tSs (X.tr pn xe) body D σ H)
    (ts := fun a cls d D σ H => ∀ oe pn, Zc cls d oe → (∃ vs, oe.data = .fields vs) → tSs (X.suite a ((a, oe) :: pn)) (b0 :: suite) D σ H)
    hs hf hN hi hln hc takes0 (fun W pn xe tk po => ⟨fun pins s σ H D I q => (q pn xe tk po).run pins s I⟩) (fun a oe cls d pn hz hv => ⟨fun pins s σ H D I q => (q oe pn hz hv).run pins s I⟩))
    fun pn xe tk po => h pn xe _ (fun cls τ H' hx k => ⟨true, hx, fun _ a ha oe pn' hz hv => k a oe pn' ha hz hv, fun z => nomatch z⟩) tk po
/-! ### the error in hand, asked -/
/-- isinstance(e, c), where e's object is pinned -/
theorem cr_isE {a C : Addr} {oe : Obj} (c : ExcC X.K C) (hz : Zc (.ref C) none oe) (hf : ∃ vs, oe.data = .fields vs) (hp : (a, oe) ∈ X.pn) : CallR X (.builtin "isinstance") (rIsE X.K C a) := by
  rintro pins s σ H xs us Q I r ⟨u, cv, y, rfl, hcv, k, q⟩
  rcases r with _ | ⟨rx, _ | ⟨rt, _ | _⟩⟩
  cases rx
  cases hcv _ rt
  have P := (I.pin (a, oe) (List.mem_append_left _ hp)).1
  rcases oe with ⟨oc, od, oda, osl⟩
  rcases hf with ⟨vs, rfl⟩
  rcases hz with ⟨rfl, rfl⟩
  exact PySem.W.kia_one (PySem.W.handS_kitx_exc c.hg c.hk c.hs c.hd c.ha c.hn c.ht c.hm) I.kIn (⟨P, rfl, rfl, trivial⟩ : PySem.W.InstAt s.heap a _ C none) k (fun z => nomatch z) fun tk => ⟨.bl y, H, I.kept (t' := tk) fun _ _ z => z, rfl, q⟩
theorem ev_isE {a C : Addr} {oe : Obj} {u : V} {cv : Value} {y : Bool} (B : Bl X "isinstance") (c : ExcC X.K C) (hz : Zc (.ref C) none oe) (hf : ∃ vs, oe.data = .fields vs) (hp : (a, oe) ∈ X.pn) (h1 : Ev X e σ G H (V.ref a)) (h2 : Ev X b σ G H u) (hu : ∀ z, RelV u z → z = cv)
    (k : PySem.W.kitOne X.K (.ref C) cv = some y) (he : starEach [e, b] X.env = (false, eval e X.env) :: starEach [b] X.env := by rfl) (he2 : starEach [b] X.env = (false, eval b X.env) :: starEach [] X.env := by rfl)
    (hpl : (backTo pos (starEach [b] X.env)).any (·.1) = false := by rfl) : Ev X (.Call (.Name "isinstance" p) [e, b] [] pos) σ G H y :=
  ev_callB (cr_isE c hz hf hp) B.g B.m PyProof.Rows.boot_isinstance (ea_cons h1 (ea_cons h2 ea_nil he2) he) (fun G1 H1 vs x l ⟨v, r, e1, pv, v2, r2, e2, pv2, e3⟩ Q q =>
    ⟨u, cv, y, by rw [e1, e2, e3, show v = _ from pv, show v2 = _ from pv2], hu, k, q G1 H1 _ (Ext.refl x.s) rfl⟩) (by decide) (by decide) he hpl
/-- a def of one argument, asked of an error of the class C while that is in hand, hands back y -/
structure FlE (P : Program) (w : World) (K : PySem.W.Frag) (mg : Str → Option Value) (base : Heap) (k : Nat) (n : Str) (C : Addr) {β : Type} [Rep β] (y : β) : Prop where
  ex : ∃ (f : Addr) (fd : FuncData) (x : Str), mg n = some (.ref f) ∧ PySem.W.keepIn K (.ref f) = true ∧ Binds K fd [x] [] ∧
    ∀ (A : Around) (outer : List Env) (s : Shared) (H : Hp) (args : Args) (Q : VK) (a : Addr) (oe : Obj), L2H.RoomH k A → L2H.PinOk outer H s (a, oe) → Zc (.ref C) none oe → (∃ vs, oe.data = .fields vs) → Env0 P w K mg base A outer s H → BindsTo s fd args [(x, .ref a)] →
      (∃ G, Same G H ∧ ∀ G2 H2 v, Ext G H G2 H2 → rep K G2 v y → Q v H2) → codeAny (model P w) A (.call (.ref f) args) (CR (L2.CX P w) outer P w H s Q (fun _ _ _ => False)) s
theorem ev_flE {β : Type} [Rep β] {y : β} {k i : Nat} {n en : Str} {a C : Addr} {oe : Obj} {pe : Pos} (c : FlE X.prog X.w X.K X.mg X.base k n C y) (hr : L2H.RoomH k X.A) (hg : Gl X n) (hz : Zc (.ref C) none oe) (hf : ∃ vs, oe.data = .fields vs) (hp : (a, oe) ∈ X.pn)
    (sl : Sl X i en) (h0 : σ[i]? = some (some (.ref a)) := by rfl) (hdb : (n == ("__debug__" : Str)) = false := by decide) (he : starEach [.Name en pe] X.env = (false, eval (.Name en pe) X.env) :: starEach [] X.env := by rfl) :
    Ev X (.Call (.Name n p) [.Name en pe] [] pos) σ G H y := by
  obtain ⟨f, fd, x, hm, hk, hb, run⟩ := c.ex
  intro G1 H1 x1 Q q
  refine tE_lenF fun pins s I => wpAny_Call_Name_kw (ld_glob I hg hm ?_ hdb)
  refine PySem.W.callWith_K (h₀ := X.base) I.ok.mod.kin hk (thn ((pa_cons (pe_var sl.hN sl.hv sl.nm.hd sl.nm.hcd) pa_nil he).run pos pins s σ H1 (fun vs H2 => vs = [.ref a] ∧ H2 = H1) I ⟨_, h0, rfl, rfl⟩) fun us s1 z => ?_) he rfl
  obtain ⟨vs, H2, I2, r, rfl, rfl⟩ := z
  refine ⟨I2.kIn, ?_⟩
  rcases r with _ | ⟨ra, _ | _⟩
  cases ra
  have pk := I2.pin (a, oe) (List.mem_append_left _ hp)
  have b := hb s1 [.ref a] I2.kIn rfl
  refine wpAny_call (codeAny_mono (run X.A X.stack s1 H2 _ (fun v H' => HLen H' → Q v H') a oe hr ⟨pk.1, pk.2.1, fun z => (List.mem_cons.mp (I2.stkSub a z)).elim pk.2.2.1 pk.2.2.2.1, pk.2.2.2.2⟩ hz hf I2.env0 (by simpa using b)
    ⟨G1, x1.s, fun G2 H2 v x2 rv l => q G2 H2 v x2 l rv⟩) fun fr s2 z => ?_)
  rcases fr with e | fl
  · exact (cx_no z).elim
  · rcases fl with _ | u
    all_goals first | exact I2.after z | exact z.elim
end
/-- .. by its body -/
theorem flE_of {P : Program} {w : World} {K : PySem.W.Frag} {mg : Str → Option Value} {base : Heap} {x n : Str} {st : Stmt} {f : Addr} {fd : FuncData} {N : List Str} {k : Nat} {C : Addr} {β : Type} [Rep β] {y : β} (F : Fun K n n st f fd) (hm : mg n = some (.ref f)) (hb : Binds K fd [x] []) (S : FnScope N [x] (defScope st))
    (body : ∀ (cdv : Value) (A : Around) (outer : List Env) (s : Shared) (H : Hp) (a : Addr) (oe : Obj) (G : Hp) (D : Ends), Zc (.ref C) none oe → (∃ vs, oe.data = .fields vs) → Same G H → End K false G H y D →
      tSs (L2H.cxH (L2.CX P w) P w K mg base N n (defScope st) f cdv A outer s H (fun _ _ _ => False) (a, oe)) (defBody st) D (start N [.ref a]) H) : FlE P w K mg base (k + 1) n C y := by
  obtain ⟨oc, od, kV, dc, pm, an, cdv, ct, osl, rfl, lk, hcd⟩ := F.ex
  refine ⟨f, _, x, hm, F.kp, hb, fun A outer s H args Q a oe hr pk hz hv E0 bt ⟨G, s0, q⟩ => ?_⟩
  have kin := E0.mod.kin.keeps fun b o z => (E0.bs b o z).1
  have lim := E0.mod.nolimit.keeps fun b o z => (E0.bs b o z).1
  have knd : ∀ z ∈ [(x, Value.ref a)], (defScope st).names.lookup z.1 = some .local ∨ ((defScope st).names.lookup z.1 = some .cell ∧ ((cellsFrom (s.heap.objs.size + 1) (defScope st).names []).lookup z.1).isSome = true) := fun z hz => by
    cases List.mem_singleton.mp hz
    exact (S.par x (List.mem_singleton.mpr rfl)).imp id fun t => ⟨t, PySem.W.cellsFrom_some _ _ _ (.inl t)⟩
  refine codeAny_call_function hr.depth (kin _ _ lk) rfl S.co S.gen rfl (PySem.W.codeRec_of kin hcd) (bt _ _ _ _ (wpAny_newFunctionEnv_cells S.kind knd fun env en s1 z => ?_))
  subst en
  refine ⟨lim.keeps z.toInCall.keep, codeAny_func ?_⟩
  have I : Inv (L2H.cxH (L2.CX P w) P w K mg base N n (defScope st) f cdv A outer s H (fun _ _ _ => False) (a, oe)) [] (start N [.ref a]) H s1 := L2H.inv_startH S pk E0 (show [V.ref a].length = [x].length from rfl) (.cons rfl .nil) z
  refine wpAny_mono (body cdv A outer s H a oe G _ hz hv s0 (end_of fun G2 H2 v x r _ => q G2 H2 v x r) |>.run [] s1 I) (fun fl s2 t => ?_) fun _ _ t => t
  rcases fl with _ | u | _ | _
  all_goals first
    | (obtain ⟨v, τ, H', J, rv, t⟩ := t; exact ⟨v, H', J.os, J.bare, J.base, J.hok, rv, t⟩)
    | (obtain ⟨τ, H', J, t⟩ := t; exact ⟨.non, H', J.os, J.bare, J.base, J.hok, rfl, t⟩)
    | (obtain ⟨_, _, _, t⟩ := t; exact t.elim)
/-! ### defs that refuse, by their bodies -/
section
variable {P : Program} {w : World} {K : PySem.W.Frag} {mg : Str → Option Value} {base : Heap} {x : Str} {st : Stmt} {f C : Addr} {fd : FuncData} {N ps : List Str} {k : Nat} {α β γ δ : Type} [Rep α] [Rep β] [Rep γ] [Rep δ]
theorem fnR1 {pre : α → Prop} (F : Fun K x x st f fd) (hm : mg x = some (.ref f)) (hb : Binds K fd ps []) (S : FnScope N ps (defScope st)) (hl : ps.length = 1)
    (body : ∀ (cdv : Value) (A : Around) (outer : List Env) (s : Shared) (H : Hp) (E : XK), Room k (A.deeper (envOfC x (defScope st) s.heap.objs.size f cdv)) → ∀ (G : Hp) (v1 : V) (x1 : α) (D : Ends), Same G H → rep K G v1 x1 → pre x1 → (∀ G2 H2, Ext G H G2 H2 → E (.ref C) none H2) →
      tSs (cxOf (L2.CX P w) P w K mg base N x (defScope st) f cdv A outer s H E) (defBody st) D (start N [v1]) H) : Cal P w K mg base (k + 1) x (SpR1 K pre C) :=
  cal_of F hm hb S (fun vs H Q E h => by obtain ⟨_, _, _, rfl, _⟩ := h; exact hl.symm) fun cdv A outer s H vs Q E hr h => by
    obtain ⟨G, v1, x1, rfl, s0, r1, hp, q⟩ := h
    exact body cdv A outer s H E hr G v1 x1 _ s0 r1 hp q
theorem fnR2 {pre : α → β → Prop} (F : Fun K x x st f fd) (hm : mg x = some (.ref f)) (hb : Binds K fd ps []) (S : FnScope N ps (defScope st)) (hl : ps.length = 2)
    (body : ∀ (cdv : Value) (A : Around) (outer : List Env) (s : Shared) (H : Hp) (E : XK), Room k (A.deeper (envOfC x (defScope st) s.heap.objs.size f cdv)) → ∀ (G : Hp) (v1 v2 : V) (x1 : α) (x2 : β) (D : Ends), Same G H → rep K G v1 x1 → rep K G v2 x2 → pre x1 x2 → (∀ G2 H2, Ext G H G2 H2 → E (.ref C) none H2) →
      tSs (cxOf (L2.CX P w) P w K mg base N x (defScope st) f cdv A outer s H E) (defBody st) D (start N [v1, v2]) H) : Cal P w K mg base (k + 1) x (SpR2 K pre C) :=
  cal_of F hm hb S (fun vs H Q E h => by obtain ⟨_, _, _, _, _, rfl, _⟩ := h; exact hl.symm) fun cdv A outer s H vs Q E hr h => by
    obtain ⟨G, v1, v2, x1, x2, rfl, s0, r1, r2, hp, q⟩ := h
    exact body cdv A outer s H E hr G v1 v2 x1 x2 _ s0 r1 r2 hp q
theorem fnR3 {pre : α → β → γ → Prop} (F : Fun K x x st f fd) (hm : mg x = some (.ref f)) (hb : Binds K fd ps []) (S : FnScope N ps (defScope st)) (hl : ps.length = 3)
    (body : ∀ (cdv : Value) (A : Around) (outer : List Env) (s : Shared) (H : Hp) (E : XK), Room k (A.deeper (envOfC x (defScope st) s.heap.objs.size f cdv)) → ∀ (G : Hp) (v1 v2 v3 : V) (x1 : α) (x2 : β) (x3 : γ) (D : Ends), Same G H → rep K G v1 x1 → rep K G v2 x2 → rep K G v3 x3 → pre x1 x2 x3 → (∀ G2 H2, Ext G H G2 H2 → E (.ref C) none H2) →
      tSs (cxOf (L2.CX P w) P w K mg base N x (defScope st) f cdv A outer s H E) (defBody st) D (start N [v1, v2, v3]) H) : Cal P w K mg base (k + 1) x (SpR3 K pre C) :=
  cal_of F hm hb S (fun vs H Q E h => by obtain ⟨_, _, _, _, _, _, _, rfl, _⟩ := h; exact hl.symm) fun cdv A outer s H vs Q E hr h => by
    obtain ⟨G, v1, v2, v3, x1, x2, x3, rfl, s0, r1, r2, r3, hp, q⟩ := h
    exact body cdv A outer s H E hr G v1 v2 v3 x1 x2 x3 _ s0 r1 r2 r3 hp q
theorem fnR4 {pre : α → β → γ → δ → Prop} (F : Fun K x x st f fd) (hm : mg x = some (.ref f)) (hb : Binds K fd ps []) (S : FnScope N ps (defScope st)) (hl : ps.length = 4)
    (body : ∀ (cdv : Value) (A : Around) (outer : List Env) (s : Shared) (H : Hp) (E : XK), Room k (A.deeper (envOfC x (defScope st) s.heap.objs.size f cdv)) → ∀ (G : Hp) (v1 v2 v3 v4 : V) (x1 : α) (x2 : β) (x3 : γ) (x4 : δ) (D : Ends), Same G H → rep K G v1 x1 → rep K G v2 x2 → rep K G v3 x3 → rep K G v4 x4 → pre x1 x2 x3 x4 → (∀ G2 H2, Ext G H G2 H2 → E (.ref C) none H2) →
      tSs (cxOf (L2.CX P w) P w K mg base N x (defScope st) f cdv A outer s H E) (defBody st) D (start N [v1, v2, v3, v4]) H) : Cal P w K mg base (k + 1) x (SpR4 K pre C) :=
  cal_of F hm hb S (fun vs H Q E h => by obtain ⟨_, _, _, _, _, _, _, _, _, rfl, _⟩ := h; exact hl.symm) fun cdv A outer s H vs Q E hr h => by
    obtain ⟨G, v1, v2, v3, v4, x1, x2, x3, x4, rfl, s0, r1, r2, r3, r4, hp, q⟩ := h
    exact body cdv A outer s H E hr G v1 v2 v3 v4 x1 x2 x3 x4 _ s0 r1 r2 r3 r4 hp q
end
end RL
namespace RL
open PySem PySem.Spec PyProof.Rows L2 Rep
theorem evR_sum {X : Cx} {σ : St} {H : Hp} {e : Expr} {pos p : Pos} (B : Bl X "sum") (hc : X.calm = true) (h : EvR X e σ H) (he : starEach [e] X.env = (false, eval e X.env) :: starEach [] X.env := by rfl) : EvR X (.Call (.Name "sum" p) [e] [] pos) σ H := fun Q => .mk fun pins s I =>
  (pe_callB (cr_sum hc) B.g B.m boot_sum (pa_cons pe_sem pa_nil he) (by decide) (by decide) he rfl).run pins s σ H Q I (h _)
end RL

set_option Elab.async false
set_option linter.all false
set_option maxRecDepth 100000
set_option maxHeartbeats 4000000
/-! RE: an error in hand that is kept behind its try (found = e). -/
namespace L2
open PySem PySem.Spec PyProof.Rows
section
variable {X : Cx} {x n : Str} {c : Value} {i : Nat} {body suite rest : List Stmt} {b0 : Stmt} {np pos pos' : Pos} {tb : WX → TS} {ts tk : Addr → Value → Option Addr → Obj → TS} {tr : TS}
theorem inv_keep {a : Addr} {q : Addr × Obj} {pn : List (Addr × Obj)} {σ : St} {H : Hp} {s : Shared} (S : Inv (X.suite a (q :: pn)) [] σ H s) (ok : X.Ok) : Inv (X.tr (q :: pn) X.xe) [] σ H s := ⟨ok.toTry _ _, S.os, S.bare, S.base, S.loc, S.cell, S.free, S.freeC, S.pin, S.hok, S.len⟩
theorem inv_drop {q : Addr × Obj} {pins pn' : List (Addr × Obj)} {xe : Value → Shared → Prop} {σ : St} {H : Hp} {s : Shared} (S : Inv (X.tr (q :: (X.pn ++ pins)) xe) pn' σ H s) (ok : X.Ok) : Inv X pins σ H s :=
  ⟨ok, S.os, S.bare, S.base, S.loc, S.cell, S.free, S.freeC, fun p hp => S.pin p (List.mem_append_left _ (List.mem_cons_of_mem _ hp)), S.hok, S.len⟩
/-- what flies is no frame of those that stand -/
theorem no_frame {B h : Heap} {es : List Env} {a : Addr} {o : Obj} {vs : Array Value} (ff : h.FunFrames B es) (e : h.get? a = some o) (dd : o.data = .fields vs) : a ∉ frs es := fun hm => by
  obtain ⟨_, o1, e1, hn⟩ := ff.mem hm
  have : o1 = o := Option.some.inj (e1.symm.trans e)
  exact hn _ (this ▸ dd)
/-- try: body / except x as n: suite, and what follows: where the clause was gone through, its error is still in hand -/
theorem pss_try_keep (hs : X.stack = X.env :: X.outer) (hf : X.env.frame = some X.env.locals) (hN : X.N.Nodup) (hi : X.N[i]? = some n) (hln : X.env.kindOf n = some .local) (hc : Names X x c)
    (hb : ∀ (W : WX) pn xe, Takes (X.tr pn xe) W → PassesOwn (model X.prog X.w) X.A X.env xe → PSs (X.tr pn xe) body (tb W))
    (hsu : ∀ a oe cls d pn, Zc cls d oe → (∃ vs, oe.data = .fields vs) → PSs (X.suite a ((a, oe) :: pn)) (b0 :: suite) (ts a cls d oe)) (hr : PSs X rest tr)
    (hk : ∀ a oe cls d pn, Zc cls d oe → (∃ vs, oe.data = .fields vs) → PSs (X.tr ((a, oe) :: pn) X.xe) rest (tk a cls d oe)) :
    PSs X (.Try body [.ExceptHandler (some (.Name x np)) (some n) (b0 :: suite) pos'] [] [] pos :: rest) (fun D σ H =>
      tb (fun cls d τ H' => PySem.W.exmOne X.K cls c = some true ∧ ∀ a oe, H' a = none → Zc cls d oe → (∃ vs, oe.data = .fields vs) → ts a cls d oe { nx := fun σ6 H6 => tk a cls d oe D (σ6.set i none) H6, rt := fun _ _ => False } (τ.set i (some (.ref a))) H') { nx := tr D, rt := fun _ _ => False } σ H) := by
  refine ⟨fun pins s σ H D I h => wpAny_execs_cons (wpAny_Try_except (wpAny_mono ((hb _ (X.pn ++ pins) _ (fun u s' fly => ?_) PassesOwn.looking).run [] s σ H _ (I.toTry _) h) (fun f s1 q => ?_) fun _ _ z => z))⟩
  · obtain ⟨a, B, sI, pq, τ, H1, cls, d, rfl, I1, nb, up, sky, na, os, ag, hm, hgo⟩ := fly
    have ok := I.ok
    have I1 : Inv X pins τ H1 sI := I1.ofTry ok
    rw [hs] at sky
    refine Sky.land Zc.steady (by rw [ok.frames, hs]) hf sky fun hA flA upA => ?_
    have IA : Inv X pins τ H1 { s' with heap := hA } := I1.landed nb flA.1 (up.trans upA) os ag
    obtain ⟨oA, vA, eA, zA, dA⟩ := flA.there
    have nfr := no_frame flA.2.2.1 eA dA
    have nL : a ≠ X.env.locals := fun z => nfr (by rw [z]; exact List.mem_filterMap.mpr ⟨X.env, List.mem_cons_self, hf⟩)
    have nF : a ∉ X.fs := fun z => by
      obtain ⟨en, hen, hq⟩ := List.mem_filterMap.mp z
      exact nfr (List.mem_filterMap.mpr ⟨en, List.mem_cons_of_mem _ hen, hq⟩)
    have SA := IA.suite eA dA na nL nF
    have look := PySem.W.exm_one (M := model X.prog X.w) IA.kIn (fun A Q E s k q => wpAny_typeOf_ref (k _ _ eA) (zA.1.symm ▸ q)) hm
    have go : ∀ {Q : Value → Shared → Prop} {E : Value → Shared → Prop}, Q c { s' with heap := hA } → wpAny (model X.prog X.w) (X.A.mark (some (.ref a))) (eval (.Name x np) X.env) Q E { s' with heap := hA } := fun {Q E} q => by
      obtain ⟨g1, g2, g3⟩ := hc
      rcases g3 with g3 | ⟨g3, g4, g5⟩
      · exact ld_glob SA g1 g3 q g2
      · exact ld_blt SA g1 g3 g4 q g5 g2
    refine wpAny_handleBy_cons (codeAny_handlers_test (go (look.here (codeAny_handlers_suite_as (HandSPX.lands_againZ flA fun hB flB upB => ?_))))) fun z => by cases z
    have IB : Inv X pins τ H1 { s' with heap := hB } := I1.landed nb flB.1 ((up.trans upA).trans upB) os ag
    obtain ⟨oB, vB, eB, zB, dB⟩ := flB.there
    refine store_ok (v := .ref a) (X := X.suite a ((a, oB) :: (X.pn ++ pins))) (IB.suite eB dB na nL nF) hN hi (show Loc X.env.scope n from .inl hln) rfl (fun s5 S5 => ?_) (.inr hln)
    refine wpAny_mono ((hsu a oB cls d (X.pn ++ pins) zB ⟨_, dB⟩).run [] s5 _ H1 _ S5 (hgo a oB na zB ⟨_, dB⟩)) (fun f s6 q => ?_) fun _ _ z => z.elim
    cases f with
    | next =>
      obtain ⟨σ6, H6, S6, q6⟩ := q
      refine gone_ok (X := X.tr ((a, oB) :: (X.pn ++ pins)) X.xe) (inv_keep S6 ok) hN hi hln fun s7 J7 => ?_
      refine thn ((hk a oB cls d (X.pn ++ pins) zB ⟨_, dB⟩).run [] s7 _ H6 D J7 q6) fun f s8 q8 => ?_
      cases f with
      | next => obtain ⟨σ8, H8, J8, q8⟩ := q8; exact ⟨σ8, H8, inv_drop J8 ok, q8⟩
      | brk => obtain ⟨σ8, H8, J8, q8⟩ := q8; exact ⟨σ8, H8, inv_drop J8 ok, q8⟩
      | cont => obtain ⟨σ8, H8, J8, q8⟩ := q8; exact ⟨σ8, H8, inv_drop J8 ok, q8⟩
      | ret u => obtain ⟨v8, σ8, H8, J8, r8, q8⟩ := q8; exact ⟨v8, σ8, H8, inv_drop J8 ok, r8, q8⟩
    | brk => obtain ⟨_, _, _, q⟩ := q; exact q.elim
    | cont => obtain ⟨_, _, _, q⟩ := q; exact q.elim
    | ret u => obtain ⟨_, _, _, _, _, q⟩ := q; exact q.elim
  · cases f with
    | next =>
      obtain ⟨σ1, H1, J1, q1⟩ := q
      exact wpAny_execs_nil (hr.run pins s1 σ1 H1 D (J1.ofTry I.ok) q1)
    | brk => obtain ⟨_, _, _, q⟩ := q; exact q.elim
    | cont => obtain ⟨_, _, _, q⟩ := q; exact q.elim
    | ret u => obtain ⟨_, _, _, _, _, q⟩ := q; exact q.elim
end
end L2
namespace RL
open PySem PySem.Spec PyProof.Rows L2 Rep
theorem roomT {k : Nat} {A : Around} (r : Room k A) : L2H.RoomH k A := ⟨r.dp, r.un⟩
section
variable {X : Cx} {σ : St} {G H : Hp} {P : PV} {D : Ends} {e a b : Expr} {es : List Expr} {body suite rest : List Stmt} {b0 : Stmt} {pos p : Pos}
theorem b_tryK {x n : Str} {c : Value} {i : Nat} {np pos' : Pos} (hs : X.stack = X.env :: X.outer) (hf : X.env.frame = some X.env.locals) (hN : X.N.Nodup) (hi : X.N[i]? = some n) (hln : X.env.kindOf n = some .local) (hc : Names X x c)
    (h : ∀ (pn : List (Addr × Obj)) (xe : Value → Shared → Prop) (W : WX),
      (∀ cls τ H', PySem.W.exmOne X.K (.ref cls) c = some true → (∀ a oe pn', H' a = none → Zc (.ref cls) none oe → (∃ vs, oe.data = .fields vs) →
        tSs (X.suite a ((a, oe) :: pn')) (b0 :: suite) { nx := fun σ' H'' => ∀ pn2, tSs (X.tr ((a, oe) :: pn2) X.xe) rest D (σ'.set i none) H'', rt := fun _ _ => False } (τ.set i (some (.ref a))) H') → W (.ref cls) none τ H') →
      Takes (X.tr pn xe) W → PassesOwn (model X.prog X.w) X.A X.env xe → tSs (X.tr pn xe) body { nx := fun σ' H' => tSs X rest D σ' H', rt := fun _ _ => False } σ H) :
    tSs X (.Try body [.ExceptHandler (some (.Name x np)) (some n) (b0 :: suite) pos'] [] [] pos :: rest) D σ H := .mk fun pins s I =>
  (pss_try_keep (i := i) (c := c) (tb := fun W D σ H => ∀ pn xe, Takes (X.tr pn xe) W → PassesOwn (model X.prog X.w) X.A X.env xe → tSs (X.tr pn xe) body D σ H)
    (ts := fun a _ _ oe D σ H => ∀ pn, tSs (X.suite a ((a, oe) :: pn)) (b0 :: suite) D σ H) (tr := fun D σ H => tSs X rest D σ H) (tk := fun a _ _ oe D σ H => ∀ pn, tSs (X.tr ((a, oe) :: pn) X.xe) rest D σ H)
    hs hf hN hi hln hc (fun W pn xe tk po => ⟨fun pins s σ H D I q => (q pn xe tk po).run pins s I⟩) (fun a oe cls d pn _ _ => ⟨fun pins s σ H D I q => (q pn).run pins s I⟩) ⟨fun pins s σ H D I q => q.run pins s I⟩
    (fun a oe cls d pn _ _ => ⟨fun pins s σ H D I q => (q pn).run pins s I⟩)).run pins s σ H D I fun pn xe tk po => h pn xe _ (fun cls τ H' hx k => ⟨hx, fun a oe ha hz hv pn' => k a oe pn' ha hz hv⟩) tk po
/-! the error asked of more classes -/
theorem vals_refs : ∀ {as : List Addr} {us : List Value}, Vals (as.map V.ref) us → us = as.map Value.ref
  | [], _, .nil => rfl
  | a :: as, _, .cons r t => by rw [vals_refs t]; cases r; rfl
theorem cr_isET {a C : Addr} {oe : Obj} (c : ExcC X.K C) (hz : Zc (.ref C) none oe) (hf : ∃ vs, oe.data = .fields vs) (hp : (a, oe) ∈ X.pn) :
    CallR X (.builtin "isinstance") (fun xs H Q => ∃ (tp : Addr) (as : List Addr) (y : Bool), xs = [.ref a, .ref tp] ∧ H tp = some (.tup (as.map V.ref)) ∧ PySem.W.kitAny X.K (.ref C) (as.map Value.ref) = some y ∧ Q (.bl y) H) := by
  rintro pins s σ H xs us Q I r ⟨tp, as, y, rfl, hT, k, q⟩
  rcases r with _ | ⟨rx, _ | ⟨rt, _ | _⟩⟩
  cases rx
  cases rt
  have P := (I.pin (a, oe) (List.mem_append_left _ hp)).1
  obtain ⟨_, its, rv, o, h1, h2, n, h3⟩ := (show ObjOk X.prog X.w H s.heap tp (.tup _) from I.hok tp _ hT)
  have e3 := vals_refs rv
  subst e3
  rcases o with ⟨qc, qd, qt, ql⟩
  simp only at h2 h3
  subst h2 h3
  rcases oe with ⟨oc, od, oda, osl⟩
  rcases hf with ⟨vs, rfl⟩
  rcases hz with ⟨rfl, rfl⟩
  exact PySem.W.kia_tup (PySem.W.handS_kitx_exc c.hg c.hk c.hs c.hd c.ha c.hn c.ht c.hm) I.kIn (⟨P, rfl, rfl, trivial⟩ : PySem.W.InstAt s.heap a _ C none) h1 k (fun z => nomatch z) fun tk => ⟨.bl y, H, I.kept (t' := tk) fun _ _ z => z, rfl, q⟩
theorem vs_refs {K : PySem.W.Frag} {G : Hp} : ∀ {vs : List V} {xs : List V}, Paired (rep K G) vs xs → vs = xs
  | _, _, .nil => rfl
  | _, _, .cons (h : _ = _) t => by rw [h, vs_refs t]
theorem ev_isET {a C : Addr} {oe : Obj} {as : List Addr} {y : Bool} {kk : Nat} {tp : Pos} (B : Bl X "isinstance") (c : ExcC X.K C) (hz : Zc (.ref C) none oe) (hf : ∃ vs, oe.data = .fields vs) (hp : (a, oe) ∈ X.pn) (h1 : Ev X e σ G H (V.ref a)) (h2 : EvA X es σ G H (AAll X.K (as.map V.ref))) (hl : as.length ≤ 1000)
    (k : PySem.W.kitAny X.K (.ref C) (as.map Value.ref) = some y) (he : starEach [e, .Tuple es kk tp] X.env = (false, eval e X.env) :: starEach [.Tuple es kk tp] X.env := by rfl) (he2 : starEach [.Tuple es kk tp] X.env = (false, eval (.Tuple es kk tp) X.env) :: starEach [] X.env := by rfl)
    (hpl : (backTo pos (starEach [.Tuple es kk tp] X.env)).any (·.1) = false := by rfl) : Ev X (.Call (.Name "isinstance" p) [e, .Tuple es kk tp] [] pos) σ G H y := by
  have ht : EvP X (.Tuple es kk tp) σ G H (fun _ H v => ∃ t, v = .ref t ∧ H t = some (.tup (as.map V.ref))) := evP_of (pe_tup pa_sem) fun G1 H1 x1 Q q => h2 G1 H1 x1 _ fun G2 H2 vs x2 _ pa => by
    have e := vs_refs pa
    subst e
    exact ⟨by rw [List.length_map]; exact Nat.le_of_lt (small1000 hl), fun t ht => q G2 _ _ (x2.newH ht) ⟨t, rfl, upd_same⟩⟩
  have : MonoC (fun (_ : Hp) (H : Hp) v => ∃ t, v = V.ref t ∧ H t = some (.tup (as.map V.ref))) := ⟨fun _ _ _ _ _ x ⟨t, e, g⟩ => ⟨t, e, x.h _ _ g⟩⟩
  exact ev_callB (cr_isET c hz hf hp) B.g B.m PyProof.Rows.boot_isinstance (ea_cons h1 (ea_cons ht ea_nil he2) he) (fun G1 H1 vs x l ⟨v, r, e1, pv, v2, r2, e2, ⟨t, e3, g⟩, e4⟩ Q q =>
    ⟨t, as, y, by rw [e1, e2, e4, e3, show v = _ from pv], g, k, q G1 H1 _ (Ext.refl x.s) rfl⟩) (by decide) (by decide) he hpl
theorem c_isR {t : Addr} : Bin X (compareOp .Is) (Is X.K (V.ref t)) (Is X.K ()) (Is X.K false) G H :=
  ⟨_, op_isN, fun G1 H1 v u y _ e1 e2 Q q => ⟨e2, by rw [decide_eq_false (by rw [show v = V.ref t from e1]; exact fun z => nomatch z)]; exact q G1 H1 _ (Ext.refl y.s) rfl⟩⟩
/-- xs.index(b), of truths -/
theorem bls_paired {K : PySem.W.Frag} {G : Hp} : ∀ {vs : List V} {xs : List Bool}, Paired (rep K G) vs xs → vs = xs.map V.bl
  | _, _, .nil => rfl
  | _, _, .cons (h : _ = _) t => by rw [h, bls_paired t]; rfl
theorem ev_indexB {xs : List Bool} {y : Bool} {j : Nat} {ap cp : Pos} [m : MonoC P] [s : AsSeq X.K P Bool instRepBool xs] (h : EvP X a σ G H P) (hi : Ev X b σ G H y) (hj : xs[j]? = some y) (hn : ∀ k, k < j → xs[k]? ≠ some y)
    (hbase : attributeBase a "index" X.env (eval a X.env) = eval a X.env := by rfl)
    (hfew : ((backTo cp (starEach [b] X.env)).all (fun x => !x.1) && (backToKw cp (keywordEach [] X.env)).all (fun x => x.1.isSome)
      && decide ([b].length + ([] : List Keyword).length + (if ([] : List Keyword).isEmpty then 0 else 1) < 30)) = true := by rfl)
    (hline : (ap.endLine == cp.line) = true := by rfl) (he : starEach [b] X.env = (false, eval b X.env) :: starEach [] X.env := by rfl) (hplain : (backTo cp (starEach [] X.env)).any (·.1) = false := by rfl) :
    Ev X (.Call (.Attribute a "index" ap) [b] [] cp) σ G H (j : Int) :=
  evP_of (pe_bm PySem.F.plainAttrs_list PySem.F.slot_list_index PySem.F.type_list_index mt_index pe_sem (pa_cons pe_sem pa_nil he) hbase hfew hline he hplain) fun G1 H1 x1 Q q => h G1 H1 x1 _ fun G2 H2 v x2 _ pv => by
    obtain ⟨t, us, rfl, g, pr⟩ := s.seq _ _ _ x2.s pv
    refine ⟨.inl ⟨rfl, us, g⟩, hi G2 H2 (x1.trans x2) _ fun G3 H3 w x3 _ rw' => ?_⟩
    have rw' : w = V.bl y := rw'
    have e := bls_paired pr
    subst e rw'
    refine ⟨t, _, V.bl y, j, V.bl y, rfl, rfl, x3.h.seq g, rfl, ?_, ?_, by simp [eqV], fun k z hk hz => ?_, q G3 H3 _ (x2.trans x3) rfl⟩
    · rw [List.all_map]
      exact List.all_eq_true.mpr fun _ _ => rfl
    · rw [List.getElem?_map, hj]; rfl
    · rw [List.getElem?_map] at hz
      cases e : xs[k]? with
      | none => rw [e] at hz; cases hz
      | some u =>
        rw [e] at hz
        cases hz
        have hu : u ≠ y := fun c => hn k hk (by rw [e, c])
        show (u == y) = false
        simpa using hu
end
end RL
namespace RL
open PySem PySem.Spec PyProof.Rows L2 Rep
/-- the body's context of a def that is given an error kept in hand -/
abbrev cxK (P : Program) (w : World) (K : PySem.W.Frag) (mg : Str → Option Value) (base : Heap) (N : List Str) (n : Str) (sc : Scope) (f : Addr) (cdv : Value) (A : Around) (outer : List Env) (s : Shared) (H : Hp) (q : Addr × Obj) : Cx :=
  (cxOf (L2.CX P w) P w K mg base N n sc f cdv A outer s H (fun _ _ _ => False)).tr [q] (cxOf (L2.CX P w) P w K mg base N n sc f cdv A outer s H (fun _ _ _ => False)).xe
/-- a def of one argument, asked of an error of the class C behind its try, hands back y -/
structure FlK (P : Program) (w : World) (K : PySem.W.Frag) (mg : Str → Option Value) (base : Heap) (k : Nat) (n : Str) (C : Addr) {β : Type} [Rep β] (y : β) : Prop where
  ex : ∃ (f : Addr) (fd : FuncData) (x : Str), mg n = some (.ref f) ∧ PySem.W.keepIn K (.ref f) = true ∧ Binds K fd [x] [] ∧
    ∀ (A : Around) (outer : List Env) (s : Shared) (H : Hp) (args : Args) (Q : VK) (a : Addr) (oe : Obj), Room k A → A.handled = none → L2H.PinOk outer H s (a, oe) → Zc (.ref C) none oe → (∃ vs, oe.data = .fields vs) → Env0 P w K mg base A outer s H → BindsTo s fd args [(x, .ref a)] →
      (∃ G, Same G H ∧ ∀ G2 H2 v, Ext G H G2 H2 → rep K G2 v y → Q v H2) → codeAny (model P w) A (.call (.ref f) args) (CR (L2.CX P w) outer P w H s Q (fun _ _ _ => False)) s
theorem ev_flK {X : Cx} {σ : St} {G H : Hp} {pos p : Pos} {β : Type} [Rep β] {y : β} {k i : Nat} {n en : Str} {a C : Addr} {oe : Obj} {pe : Pos} (c : FlK X.prog X.w X.K X.mg X.base k n C y) (hc : X.calm = true) (hr : Room k X.A) (hg : Gl X n) (hz : Zc (.ref C) none oe) (hf : ∃ vs, oe.data = .fields vs) (hp : (a, oe) ∈ X.pn)
    (sl : Sl X i en) (h0 : σ[i]? = some (some (.ref a)) := by rfl) (hdb : (n == ("__debug__" : Str)) = false := by decide) (he : starEach [.Name en pe] X.env = (false, eval (.Name en pe) X.env) :: starEach [] X.env := by rfl) :
    Ev X (.Call (.Name n p) [.Name en pe] [] pos) σ G H y := by
  obtain ⟨f, fd, x, hm, hk, hb, run⟩ := c.ex
  intro G1 H1 x1 Q q
  refine tE_lenF fun pins s I => wpAny_Call_Name_kw (ld_glob I hg hm ?_ hdb)
  refine PySem.W.callWith_K (h₀ := X.base) I.ok.mod.kin hk (thn ((pa_cons (pe_var sl.hN sl.hv sl.nm.hd sl.nm.hcd) pa_nil he).run pos pins s σ H1 (fun vs H2 => vs = [.ref a] ∧ H2 = H1) I ⟨_, h0, rfl, rfl⟩) fun us s1 z => ?_) he rfl
  obtain ⟨vs, H2, I2, r, rfl, rfl⟩ := z
  refine ⟨I2.kIn, ?_⟩
  rcases r with _ | ⟨ra, _ | _⟩
  cases ra
  have pk := I2.pin (a, oe) (List.mem_append_left _ hp)
  have b := hb s1 [.ref a] I2.kIn rfl
  refine wpAny_call (codeAny_mono (run X.A X.stack s1 H2 _ (fun v H' => HLen H' → Q v H') a oe hr (I2.ok.hd hc) ⟨pk.1, pk.2.1, fun z => (List.mem_cons.mp (I2.stkSub a z)).elim pk.2.2.1 pk.2.2.2.1, pk.2.2.2.2⟩ hz hf I2.env0 (by simpa using b)
    ⟨G1, x1.s, fun G2 H2 v x2 rv l => q G2 H2 v x2 l rv⟩) fun fr s2 z => ?_)
  rcases fr with e | fl
  · exact (cx_no z).elim
  · rcases fl with _ | u
    all_goals first | exact I2.after z | exact z.elim
/-- .. by its body -/
theorem flK_of {P : Program} {w : World} {K : PySem.W.Frag} {mg : Str → Option Value} {base : Heap} {x n : Str} {st : Stmt} {f : Addr} {fd : FuncData} {N : List Str} {k : Nat} {C : Addr} {β : Type} [Rep β] {y : β} (F : Fun K n n st f fd) (hm : mg n = some (.ref f)) (hb : Binds K fd [x] []) (S : FnScope N [x] (defScope st))
    (body : ∀ (cdv : Value) (A : Around) (outer : List Env) (s : Shared) (H : Hp) (a : Addr) (oe : Obj), Room k (A.deeper (envOfC n (defScope st) s.heap.objs.size f cdv)) → ∀ (G : Hp) (D : Ends), Zc (.ref C) none oe → (∃ vs, oe.data = .fields vs) → Same G H → End K false G H y D →
      tSs (cxK P w K mg base N n (defScope st) f cdv A outer s H (a, oe)) (defBody st) D (start N [.ref a]) H) : FlK P w K mg base (k + 1) n C y := by
  obtain ⟨oc, od, kV, dc, pm, an, cdv, ct, osl, rfl, lk, hcd⟩ := F.ex
  refine ⟨f, _, x, hm, F.kp, hb, fun A outer s H args Q a oe hr hh pk hz hv E0 bt ⟨G, s0, q⟩ => ?_⟩
  have kin := E0.mod.kin.keeps fun b o z => (E0.bs b o z).1
  have lim := E0.mod.nolimit.keeps fun b o z => (E0.bs b o z).1
  have knd : ∀ z ∈ [(x, Value.ref a)], (defScope st).names.lookup z.1 = some .local ∨ ((defScope st).names.lookup z.1 = some .cell ∧ ((cellsFrom (s.heap.objs.size + 1) (defScope st).names []).lookup z.1).isSome = true) := fun z hz => by
    cases List.mem_singleton.mp hz
    exact (S.par x (List.mem_singleton.mpr rfl)).imp id fun t => ⟨t, PySem.W.cellsFrom_some _ _ _ (.inl t)⟩
  refine codeAny_call_function hr.depth (kin _ _ lk) rfl S.co S.gen rfl (PySem.W.codeRec_of kin hcd) (bt _ _ _ _ (wpAny_newFunctionEnv_cells S.kind knd fun env en s1 z => ?_))
  subst en
  refine ⟨lim.keeps z.toInCall.keep, codeAny_func ?_⟩
  have I := L2H.inv_startH (CX := L2.CX P w) (E := fun _ _ _ => False) S pk E0 (show [V.ref a].length = [x].length from rfl) (.cons rfl .nil) z
  have J : Inv (cxK P w K mg base N n (defScope st) f cdv A outer s H (a, oe)) [] (start N [.ref a]) H s1 :=
    ⟨⟨I.ok.mod, I.ok.kind, I.ok.glob, I.ok.blt, I.ok.above, I.ok.inj, I.ok.has, I.ok.cab, fun _ => hh, I.ok.frames, I.ok.stk, I.ok.exf, I.ok.bs, I.ok.bsz, I.ok.noex, I.ok.exfs, I.ok.funs, I.ok.frf⟩, I.os, I.bare, I.base, I.loc, I.cell, I.free, I.freeC, I.pin, I.hok, I.len⟩
  refine wpAny_mono (body cdv A outer s H a oe (hr.deeper _) G _ hz hv s0 (end_of fun G2 H2 v x r _ => q G2 H2 v x r) |>.run [] s1 J) (fun fl s2 t => ?_) fun _ _ t => t
  rcases fl with _ | u | _ | _
  all_goals first
    | (obtain ⟨v, τ, H', J, rv, t⟩ := t; exact ⟨v, H', J.os, J.bare, J.base, J.hok, rv, t⟩)
    | (obtain ⟨τ, H', J, t⟩ := t; exact ⟨.non, H', J.os, J.bare, J.base, J.hok, rfl, t⟩)
    | (obtain ⟨_, _, _, t⟩ := t; exact t.elim)
end RL

set_option Elab.async false
set_option linter.all false
set_option maxRecDepth 100000
set_option maxHeartbeats 4000000
/-! RM: a list of ints that defs draw from and change on the way (an own list handed to callees). -/
namespace RL
open PySem PySem.Spec PyProof.Rows L2 Rep
structure SameX (q : Addr) (H H' : Hp) : Prop where
  e : ∀ a o, a ≠ q → H a = some o → H' a = some o
  k : ∃ o, H' q = some o ∧ ∀ xs, o ≠ .tup xs
theorem SameX.free {q p : Addr} {H H' : Hp} (s : SameX q H H') (h : H' p = none) : H p = none := by
  cases e : H p with
  | none => rfl
  | some o =>
    by_cases hp : p = q
    · subst hp
      obtain ⟨u, hu, _⟩ := s.k
      rw [hu] at h
      cases h
    · rw [s.e p o hp e] at h
      cases h
/-- as Ext, but the list at q may be another one -/
structure ExtM (q : Addr) (G H G' H' : Hp) : Prop where
  h : SameX q H H'
  g : Same G G'
  s : Same G' H'
  n : ∀ b o, G' b = some o → G b = some o ∨ H b = none ∨ ∃ xs, o = .tup xs
section
variable {q p : Addr} {G H G1 H1 G2 H2 G0 H0 : Hp} {o : HO}
theorem ExtM.refl (s : Same G H) (k : ∃ o, H q = some o ∧ ∀ xs, o ≠ .tup xs) : ExtM q G H G H := ⟨⟨fun _ _ _ e => e, k⟩, Same.refl _, s, fun _ _ e => .inl e⟩
theorem ExtM.transM (a : ExtM q G H G1 H1) (b : ExtM q G1 H1 G2 H2) : ExtM q G H G2 H2 :=
  ⟨⟨fun x o hx e => b.h.e x o hx (a.h.e x o hx e), b.h.k⟩, a.g.trans b.g, b.s, fun x o e => by
    rcases b.n x o e with z | z | z
    · exact a.n x o z
    · exact .inr (.inl (a.h.free z))
    · exact .inr (.inr z)⟩
theorem Ext.toM (x : Ext G H G1 H1) (k : ∃ o, H q = some o ∧ ∀ xs, o ≠ .tup xs) : ExtM q G H G1 H1 := ⟨⟨fun a o _ e => x.h a o e, let ⟨o, e, t⟩ := k; ⟨o, x.h q o e, t⟩⟩, x.g, x.s, x.n⟩
theorem ExtM.trans (a : ExtM q G H G1 H1) (b : Ext G1 H1 G2 H2) : ExtM q G H G2 H2 := a.transM (b.toM a.h.k)
theorem Ext.transM (a : Ext G0 H0 G H) (n : H0 q = none) (b : ExtM q G H G1 H1) : Ext G0 H0 G1 H1 :=
  ⟨fun x o e => b.h.e x o (fun z => by rw [z, n] at e; cases e) (a.h x o e), a.g.trans b.g, b.s, fun x o e => by
    rcases b.n x o e with z | z | z
    · exact a.n x o z
    · exact .inr (.inl (a.h.free z))
    · exact .inr (.inr z)⟩
/-- a store at q itself -/
theorem ExtM.wrq (a : ExtM q G H G1 H1) (g : G1 q = none) (ho : ∀ xs, o ≠ .tup xs := by intro _ z; cases z) : ExtM q G H G1 (upd H1 q o) :=
  ⟨⟨fun x u hx e => by rw [upd_ne hx]; exact a.h.e x u hx e, o, upd_same, ho⟩, a.g, fun x u e => by
    rw [upd_ne (ne_of_none e g)]
    exact a.s _ _ e, a.n⟩
/-- .. at another own one -/
theorem ExtM.wr (a : ExtM q G H G1 H1) (h0 : H p = none) (g : G1 p = none) (ho : ∀ xs, o ≠ .tup xs := by intro _ z; cases z) : ExtM q G H G1 (upd H1 p o) :=
  ⟨⟨fun x u hx e => by rw [upd_ne (ne_of_none e h0)]; exact a.h.e x u hx e, by
    by_cases hp : q = p
    · subst hp; exact ⟨o, upd_same, ho⟩
    · rw [upd_ne hp]; exact a.h.k⟩, a.g, fun x u e => by
    rw [upd_ne (ne_of_none e g)]
    exact a.s _ _ e, a.n⟩
theorem ExtM.frz (a : ExtM q G H G1 H1) (h0 : H p = none) (e : H1 p = some o) : ExtM q G H (upd G1 p o) H1 := by
  refine ⟨a.h, fun b x q' => ?_, fun b x q' => ?_, fun b x q' => ?_⟩
  · by_cases hb : b = p
    · subst hb
      rw [upd_same, ← e]
      exact a.s _ _ (a.g _ _ q')
    · rw [upd_ne hb]
      exact a.g _ _ q'
  · by_cases hb : b = p
    · subst hb
      rw [upd_same] at q'
      rw [e, q']
    · rw [upd_ne hb] at q'
      exact a.s _ _ q'
  · by_cases hb : b = p
    · subst hb
      exact .inr (.inl h0)
    · rw [upd_ne hb] at q'
      exact a.n _ _ q'
variable {α : Type} [Rep α] {K : PySem.W.Frag} {xs : List α}
theorem Own.ex' (o : Own K G H q xs) : ∃ u, H q = some u ∧ ∀ xs, u ≠ .tup xs := let ⟨_, e, _⟩ := o.at_; ⟨_, e, fun _ z => nomatch z⟩
theorem Own.monoM (o : Own K G H p xs) (x : ExtM q G H G1 H1) (hne : p ≠ q) : Own K G1 H1 p xs := by
  obtain ⟨vs, e, pr⟩ := o.at_
  refine ⟨⟨vs, x.h.e _ _ hne e, pair_up x.g pr⟩, ?_⟩
  cases z : G1 p with
  | none => rfl
  | some u =>
    rcases x.n _ _ z with y | y | ⟨ys, y⟩
    · rw [o.off] at y; cases y
    · rw [e] at y; cases y
    · have y1 := x.h.e _ _ hne e; have y2 := x.s _ _ z; rw [y1, y] at y2; cases y2
theorem Own.frzM {G0 H0 : Hp} (o : Own K G H p xs) (x0 : ExtM q G0 H0 G H) (n : H0 p = none) : ∃ G', ExtM q G0 H0 G' H ∧ Same G G' ∧ rep K G' (.ref p) xs :=
  let ⟨vs, e, pr⟩ := o.at_; ⟨upd G p (.lst vs), x0.frz n e, same_new o.off, p, vs, rfl, upd_same, pair_up (same_new o.off) pr⟩
theorem thawM {α : Type} [Rep α] [Flat α] {K : PySem.W.Frag} {xs : List α} {Ga Ha Gb Hb Gw Hw : Hp} {v : V} (xa : ExtM q G0 H0 Ga Ha) (x : Ext Ga Ha Gb Hb) (n : New Ha v) (xw : ExtM q G0 H0 Gw Hw) (s : Same Hb Hw) (r : rep K Gb v xs) :
    ∃ p, v = .ref p ∧ H0 p = none ∧ Own K Ga Hw p xs ∧ ExtM q G0 H0 Ga Hw := by
  obtain ⟨p, vs, rfl, e, pr⟩ := r
  have hq : Ha p = none := n p rfl
  refine ⟨p, rfl, xa.h.free hq, ⟨⟨vs, s _ _ (x.s _ _ e), ?_⟩, xa.s.free hq⟩, ⟨xw.h, xa.g, fun b o h => s _ _ (x.h _ _ (xa.s _ _ h)), xa.n⟩⟩
  clear e
  induction pr with
  | nil => exact .nil
  | cons h t ih => exact .cons (Flat.flat h) ih
end
section
variable {X : Cx} {σ : St} {G H : Hp} {D : Ends} {q : Addr} {P : PV} {e a b c tg : Expr} {es : List Expr} {pos p : Pos} {α β γ δ ζ : Type} [Rep α] [Rep β] [Rep γ] [Rep δ] [Rep ζ] {xs xs1 xs2 xs' : List Int}
/-- e draws from the list at q: xs ahead, xs' behind; its value is x -/
def EvM (X : Cx) (e : Expr) (σ : St) (q : Addr) (G H : Hp) (xs : List Int) (x : α) (xs' : List Int) : Prop :=
  ∀ G1 H1, ExtM q G H G1 H1 → Own X.K G1 H1 q xs → ∀ Q : VK, (∀ G2 H2 v, ExtM q G1 H1 G2 H2 → HLen H2 → Own X.K G2 H2 q xs' → rep X.K G2 v x → Q v H2) → tE X e σ H1 Q
theorem evM_of {x : α} {t : TE} (hp : PE X e t) (k : ∀ G1 H1, ExtM q G H G1 H1 → Own X.K G1 H1 q xs → ∀ Q : VK, (∀ G2 H2 v, ExtM q G1 H1 G2 H2 → Own X.K G2 H2 q xs' → rep X.K G2 v x → Q v H2) → t σ H1 Q) : EvM X e σ q G H xs x xs' :=
  fun G1 H1 x1 o _ kk => tE_lenF fun pins s I => hp.run pins s σ H1 _ I (k G1 H1 x1 o _ fun G2 H2 v x2 o2 r hl => kk G2 H2 v x2 hl o2 r)
theorem evM_pure {x : α} (h : ∀ G1 H1, ExtM q G H G1 H1 → Own X.K G1 H1 q xs → Ev X e σ G1 H1 x) : EvM X e σ q G H xs x xs :=
  fun G1 H1 x1 o Q k => h G1 H1 x1 o G1 H1 (Ext.refl x1.s) Q fun G2 H2 v y l r => k G2 H2 v (y.toM o.ex') l (o.mono y) r
theorem EvM.to {x y : α} (h : EvM X e σ q G H xs x xs') (z : x = y) : EvM X e σ q G H xs y xs' := z ▸ h
def bot : Hp := fun _ => none
theorem bot_ext {G H : Hp} (s : Same G H) : Ext bot bot G H := ⟨fun _ _ e => (by cases e), fun _ _ e => (by cases e), s, fun _ _ _ => Or.inr (Or.inl rfl)⟩
theorem binM {rr : R2} {i : α} {j : β} {r : γ} (k : ∀ G1 H1 v u, Ext bot bot G1 H1 → HLen H1 → Is X.K i G1 H1 v → Is X.K j G1 H1 u → ∀ Q : VK, (∀ G2 H2 w, Ext G1 H1 G2 H2 → Is X.K r G2 H2 w → Q w H2) → rr v u H1 Q)
    (ha : EvM X a σ q G H xs i xs1) (hb : EvM X b σ q G H xs1 j xs2) : ∀ G1 H1, ExtM q G H G1 H1 → Own X.K G1 H1 q xs → ∀ Q : VK, (∀ G2 H2 v, ExtM q G1 H1 G2 H2 → Own X.K G2 H2 q xs2 → rep X.K G2 v r → Q v H2) → tOp rr (tE X a) (tE X b) σ H1 Q := fun G1 H1 x1 o Q kk =>
  ha G1 H1 x1 o _ fun G2 H2 v x2 _ o2 rv => hb G2 H2 (x1.transM x2) o2 _ fun G3 H3 u x3 l3 o3 ru => k G3 H3 v u (bot_ext x3.s) l3 (up x3.g rv) ru Q fun G4 H4 w x4 rw' => kk G4 H4 w ((x2.transM x3).trans x4) (o3.mono x4) rw'
theorem evM_bin {op : Operator} {i : α} {j : β} {r : γ} (k : Bin X (binaryOp op) (Is X.K i) (Is X.K j) (Is X.K r) bot bot) (ha : EvM X a σ q G H xs i xs1) (hb : EvM X b σ q G H xs1 j xs2) : EvM X (.BinOp a op b pos) σ q G H xs r xs2 :=
  let ⟨_, ho, k⟩ := k; evM_of (pe_op ho pe_sem pe_sem) (binM k ha hb)
theorem evM_cmp {op : CmpOp} {i : α} {j : β} {r : Bool} (k : Bin X (compareOp op) (Is X.K i) (Is X.K j) (Is X.K r) bot bot) (ha : EvM X a σ q G H xs i xs1) (hb : EvM X b σ q G H xs1 j xs2) (hm : behindInMarks op b = false := by first | exact nomark _ | rfl) : EvM X (.Compare a [op] [b] pos) σ q G H xs r xs2 :=
  let ⟨_, ho, k⟩ := k; evM_of (pe_cmpR ho pe_sem pe_sem hm) (binM k ha hb)
/-- items -/
def EsM (X : Cx) (es : List Expr) (σ : St) (q : Addr) (G H : Hp) (xs : List Int) (ys : List α) (xs' : List Int) : Prop :=
  ∀ G1 H1, ExtM q G H G1 H1 → Own X.K G1 H1 q xs → ∀ Q : List V → Hp → Prop, (∀ G2 H2 vs, ExtM q G1 H1 G2 H2 → HLen H2 → Own X.K G2 H2 q xs' → Paired (rep X.K G2) vs ys → Q vs H2) → tA X es σ H1 Q
theorem esM_nil : EsM X [] σ q G H xs ([] : List α) xs := fun G1 H1 x1 o Q k => tA_lenF fun pos pins s I => (pa_nil (X := X)).run pos pins s σ H1 _ I fun hl => k G1 H1 [] (ExtM.refl x1.s x1.h.k) hl o .nil
theorem esM_cons {y : α} {ys : List α} (h : EvM X e σ q G H xs y xs1) (hr : EsM X es σ q G H xs1 ys xs2) (hs : starEach (e :: es) X.env = (false, eval e X.env) :: starEach es X.env := by rfl) : EsM X (e :: es) σ q G H xs (y :: ys) xs2 :=
  fun G1 H1 x1 o Q k => tA_lenF fun pos pins s I => (pa_cons pe_sem pa_sem hs).run pos pins s σ H1 _ I (h G1 H1 x1 o _ fun G2 H2 v x2 _ o2 rv => hr G2 H2 (x1.transM x2) o2 _ fun G3 H3 vs x3 l3 o3 pr => fun hl => k G3 H3 _ (x2.transM x3) hl o3 (.cons (up x3.g rv) pr))
theorem evM_list {ys : List α} (h : EsM X es σ q G H xs ys xs') (hl : ys.length ≤ 1000 := by exact Nat.le_of_ble_eq_true rfl) : EvM X (.List es pos) σ q G H xs ys xs' :=
  evM_of (pe_lst pa_sem) fun G1 H1 x1 o Q k => h G1 H1 x1 o _ fun G2 H2 vs x2 _ o2 pa => ⟨by rw [paired_len pa]; exact Nat.le_of_lt (small1000 hl), fun p hp =>
    have xn : Ext G2 H2 _ _ := (Ext.refl x2.s).new hp
    k (upd G2 p (.lst vs)) _ _ (x2.trans xn) (o2.mono xn) ⟨p, vs, rfl, upd_same, pair_up (same_new (x2.s.free hp)) pa⟩⟩
theorem evM_ix {ys : List α} {i : Int} (d : α) (ha : EvM X a σ q G H xs ys xs1) (hb : EvM X b σ q G H xs1 i xs2) (h0 : 0 ≤ i) (h1 : i < (ys.length : Int)) (hs : PlainIx b := by intro _ _; rfl) : EvM X (.Subscript a b pos) σ q G H xs (ys.getD i.toNat d) xs2 :=
  evM_of (pe_ix ix_list pe_sem pe_sem hs) (binM (fun G1 H1 v u x _ e1 e2 Q k => by
    obtain ⟨a, us, e, g, pr⟩ := e1
    have hj := ixN_of h0 h1
    have hlt := ixN_lt hj
    have hg : ys[i.toNat]? = some (ys.getD i.toNat d) := by
      rw [List.getD_eq_getElem?_getD, List.getElem?_eq_getElem hlt]
      rfl
    obtain ⟨w, hw, rw'⟩ := paired_get pr hg
    refine ⟨a, us, i, w, e, e2, .of (x.s _ _ g), ?_, k G1 H1 w (Ext.refl x.s) rw'⟩
    unfold atI
    rw [paired_len pr, hj]
    exact hw) ha hb)
/-- arguments -/
def EaM (X : Cx) (es : List Expr) (σ : St) (q : Addr) (G H : Hp) (xs : List Int) (A : Hp → Hp → List V → Prop) (xs' : List Int) : Prop :=
  ∀ G1 H1, ExtM q G H G1 H1 → Own X.K G1 H1 q xs → ∀ Q : List V → Hp → Prop, (∀ G2 H2 vs, ExtM q G1 H1 G2 H2 → HLen H2 → Own X.K G2 H2 q xs' → A G2 H2 vs → Q vs H2) → tA X es σ H1 Q
theorem eaM_nil : EaM X [] σ q G H xs (fun _ _ vs => vs = []) xs := fun G1 H1 x1 o Q k => tA_lenF fun pos pins s I => (pa_nil (X := X)).run pos pins s σ H1 _ I fun hl => k G1 H1 [] (ExtM.refl x1.s x1.h.k) hl o rfl
theorem eaM_cons {y : α} {A : Hp → Hp → List V → Prop} (h : EvM X e σ q G H xs y xs1) (hr : EaM X es σ q G H xs1 A xs2) (hs : starEach (e :: es) X.env = (false, eval e X.env) :: starEach es X.env := by rfl) : EaM X (e :: es) σ q G H xs (ACons (Is X.K y) A) xs2 :=
  fun G1 H1 x1 o Q k => tA_lenF fun pos pins s I => (pa_cons pe_sem pa_sem hs).run pos pins s σ H1 _ I (h G1 H1 x1 o _ fun G2 H2 v x2 _ o2 rv => hr G2 H2 (x1.transM x2) o2 _ fun G3 H3 vs x3 l3 o3 pr => fun hl => k G3 H3 _ (x2.transM x3) hl o3 ⟨v, vs, rfl, up x3.g rv, pr⟩)
/-- a call of a def that draws from its first argument -/
theorem evM_call {y : α} {k i : Nat} {n : Str} {rn : Str} {rp p : Pos} {sp : Sp} {A : Hp → Hp → List V → Prop} (C : Cal X.prog X.w X.K X.mg X.base k n sp) (hr : Room k X.A) (hg : Gl X n) (sl : Sl X i rn) (hq : σ[i]? = some (some (.ref q))) (ha : EaM X es σ q G H xs A xs1)
    (h : ∀ G1 H1 vs, Same G1 H1 → HLen H1 → Own X.K G1 H1 q xs1 → A G1 H1 vs → ∀ Q : VK, (∀ G2 H2 v, ExtM q G1 H1 G2 H2 → Own X.K G2 H2 q xs2 → rep X.K G2 v y → Q v H2) → sp (.ref q :: vs) H1 Q E0) (hdb : (n == ("__debug__" : Str)) = false := by decide)
    (he : starEach (.Name rn rp :: es) X.env = (false, eval (.Name rn rp) X.env) :: starEach es X.env := by rfl) (hpl : (backTo pos (starEach es X.env)).any (·.1) = false := by rfl) : EvM X (.Call (.Name n p) (.Name rn rp :: es) [] pos) σ q G H xs y xs2 := by
  obtain ⟨f, fd, ps, F, hm, hk, hb⟩ := C.ex
  exact evM_of (pe_call F hr hg hm hk hb .nil passL (pa_cons (pe_var sl.hN sl.hv sl.nm.hd sl.nm.hcd) pa_sem he) hdb he hpl) fun G1 H1 x1 o Q kk => ⟨_, hq, ha G1 H1 x1 o _ fun G2 H2 vs x2 l2 o2 pa => by
    show sp ((V.ref q :: vs) ++ []) H2 Q E0
    rw [List.append_nil]
    exact h G2 H2 vs x2.s l2 o2 pa Q fun G3 H3 v x3 o3 r => kk G3 H3 v (x2.transM x3) o3 r⟩
/-- a call of a def that takes data, some drawn -/
theorem evM_callP {y : α} {k : Nat} {n : Str} {p : Pos} {sp : Sp} {A : Hp → Hp → List V → Prop} (C : Cal X.prog X.w X.K X.mg X.base k n sp) (hr : Room k X.A) (hg : Gl X n) (ha : EaM X (e :: es) σ q G H xs A xs1)
    (h : ∀ G1 H1 vs, Same G1 H1 → HLen H1 → A G1 H1 vs → ∀ Q : VK, (∀ G2 H2 v, Ext G1 H1 G2 H2 → rep X.K G2 v y → Q v H2) → sp vs H1 Q E0) (hdb : (n == ("__debug__" : Str)) = false := by decide)
    (he : starEach (e :: es) X.env = (false, eval e X.env) :: starEach es X.env := by rfl) (hpl : (backTo pos (starEach es X.env)).any (·.1) = false := by rfl) : EvM X (.Call (.Name n p) (e :: es) [] pos) σ q G H xs y xs1 := by
  obtain ⟨f, fd, ps, F, hm, hk, hb⟩ := C.ex
  exact evM_of (pe_call F hr hg hm hk hb .nil passL pa_sem hdb he hpl) fun G1 H1 x1 o Q kk => ha G1 H1 x1 o _ fun G2 H2 vs x2 l2 o2 pa => by
    show sp (vs ++ []) H2 Q E0
    rw [List.append_nil]
    exact h G2 H2 vs x2.s l2 pa Q fun G3 H3 v x3 r => kk G3 H3 v (x2.trans x3) (o2.mono x3) r
theorem evM_callB {y : α} {id : String} {r : List V → Hp → VK → Prop} {n : Str} {p : Pos} {A : Hp → Hp → List V → Prop} (hc : CallR X (.builtin id) r) (hg : Gl X n) (hm : X.mg n = none) (hv : bootBuiltins n = some (.builtin id)) (ha : EaM X (e :: es) σ q G H xs A xs1)
    (h : ∀ G1 H1 vs, Same G1 H1 → HLen H1 → A G1 H1 vs → ∀ Q : VK, (∀ G2 H2 v, Ext G1 H1 G2 H2 → rep X.K G2 v y → Q v H2) → r vs H1 Q)
    (hn : n ≠ "__name__" := by decide) (hdb : (n == ("__debug__" : Str)) = false := by decide) (he : starEach (e :: es) X.env = (false, eval e X.env) :: starEach es X.env := by rfl) (hpl : (backTo pos (starEach es X.env)).any (·.1) = false := by rfl) : EvM X (.Call (.Name n p) (e :: es) [] pos) σ q G H xs y xs1 :=
  evM_of (pe_callB hc hg hm hv pa_sem hn hdb he hpl) fun G1 H1 x1 o Q kk => ha G1 H1 x1 o _ fun G2 H2 vs x2 l2 o2 pa => h G2 H2 vs x2.s l2 pa Q fun G3 H3 w x3 r => kk G3 H3 w (x2.trans x3) (o2.mono x3) r
theorem evM_max {i j : Int} (B : Bl X "max") (hc : X.calm = true) (h1 : EvM X a σ q G H xs i xs1) (h2 : EvM X b σ q G H xs1 j xs2) (he : starEach [a, b] X.env = (false, eval a X.env) :: starEach [b] X.env := by rfl) (he2 : starEach [b] X.env = (false, eval b X.env) :: starEach [] X.env := by rfl)
    (hpl : (backTo pos (starEach [b] X.env)).any (·.1) = false := by rfl) : EvM X (.Call (.Name "max" p) [a, b] [] pos) σ q G H xs (if j > i then j else i) xs2 :=
  evM_callB (call_max2 hc) B.g B.m boot_max (eaM_cons h1 (eaM_cons h2 eaM_nil he2) he) (fun G1 H1 vs s l ⟨v, r, e1, pv, v2, r2, e2, pv2, e3⟩ Q k =>
    ⟨i, j, by rw [e1, e2, e3, show v = _ from pv, show v2 = _ from pv2], k G1 H1 _ (Ext.refl s) rfl⟩) (by decide) (by decide) he hpl
theorem evM_min {i j : Int} (B : Bl X "min") (hc : X.calm = true) (h1 : EvM X a σ q G H xs i xs1) (h2 : EvM X b σ q G H xs1 j xs2) (he : starEach [a, b] X.env = (false, eval a X.env) :: starEach [b] X.env := by rfl) (he2 : starEach [b] X.env = (false, eval b X.env) :: starEach [] X.env := by rfl)
    (hpl : (backTo pos (starEach [b] X.env)).any (·.1) = false := by rfl) : EvM X (.Call (.Name "min" p) [a, b] [] pos) σ q G H xs (if j < i then j else i) xs2 :=
  evM_callB (call_min2 hc) B.g B.m boot_min (eaM_cons h1 (eaM_cons h2 eaM_nil he2) he) (fun G1 H1 vs s l ⟨v, r, e1, pv, v2, r2, e2, pv2, e3⟩ Q k =>
    ⟨i, j, by rw [e1, e2, e3, show v = _ from pv, show v2 = _ from pv2], k G1 H1 _ (Ext.refl s) rfl⟩) (by decide) (by decide) he hpl
end
section
variable {α β γ δ ζ : Type} [Rep α] [Rep β] [Rep γ] [Rep δ] [Rep ζ]
/-- promises of defs that draw from their first argument: the answer, and the list behind -/
def SpM1 (K : PySem.W.Frag) (fr : Bool) (pre : List Int → Prop) (f : List Int → ζ × List Int) : Sp := fun vs H Q _ => ∃ (G : Hp) (q : Addr) (xs : List Int), vs = [.ref q] ∧ Same G H ∧ Own K G H q xs ∧ pre xs ∧
  ∀ G2 H2 w, ExtM q G H G2 H2 → Own K G2 H2 q (f xs).2 → rep K G2 w (f xs).1 → (fr = true → New H w) → Q w H2
def SpM2 (K : PySem.W.Frag) (fr : Bool) (pre : List Int → β → Prop) (f : List Int → β → ζ × List Int) : Sp := fun vs H Q _ => ∃ (G : Hp) (q : Addr) (v2 : V) (xs : List Int) (x2 : β), vs = [.ref q, v2] ∧ Same G H ∧ Own K G H q xs ∧ rep K G v2 x2 ∧ pre xs x2 ∧
  ∀ G2 H2 w, ExtM q G H G2 H2 → Own K G2 H2 q (f xs x2).2 → rep K G2 w (f xs x2).1 → (fr = true → New H w) → Q w H2
def SpM3 (K : PySem.W.Frag) (fr : Bool) (pre : List Int → β → γ → Prop) (f : List Int → β → γ → ζ × List Int) : Sp := fun vs H Q _ => ∃ (G : Hp) (q : Addr) (v2 v3 : V) (xs : List Int) (x2 : β) (x3 : γ), vs = [.ref q, v2, v3] ∧ Same G H ∧ Own K G H q xs ∧ rep K G v2 x2 ∧ rep K G v3 x3 ∧ pre xs x2 x3 ∧
  ∀ G2 H2 w, ExtM q G H G2 H2 → Own K G2 H2 q (f xs x2 x3).2 → rep K G2 w (f xs x2 x3).1 → (fr = true → New H w) → Q w H2
def SpM4 (K : PySem.W.Frag) (fr : Bool) (pre : List Int → β → γ → δ → Prop) (f : List Int → β → γ → δ → ζ × List Int) : Sp := fun vs H Q _ => ∃ (G : Hp) (q : Addr) (v2 v3 v4 : V) (xs : List Int) (x2 : β) (x3 : γ) (x4 : δ), vs = [.ref q, v2, v3, v4] ∧ Same G H ∧ Own K G H q xs ∧ rep K G v2 x2 ∧ rep K G v3 x3 ∧ rep K G v4 x4 ∧ pre xs x2 x3 x4 ∧
  ∀ G2 H2 w, ExtM q G H G2 H2 → Own K G2 H2 q (f xs x2 x3 x4).2 → rep K G2 w (f xs x2 x3 x4).1 → (fr = true → New H w) → Q w H2
structure EndM (K : PySem.W.Frag) (fr : Bool) (q : Addr) (G H : Hp) (y : ζ × List Int) (D : Ends) : Prop where
  rt : ∀ G2 H2 w, ExtM q G H G2 H2 → Own K G2 H2 q y.2 → rep K G2 w y.1 → (fr = true → New H w) → D.rt w H2
  nx : ∀ G2 H2 σ, ExtM q G H G2 H2 → Own K G2 H2 q y.2 → rep K G2 .non y.1 → D.nx σ H2
theorem endM_of {K : PySem.W.Frag} {fr : Bool} {q : Addr} {G H : Hp} {y : ζ × List Int} {Q : VK} (k : ∀ G2 H2 w, ExtM q G H G2 H2 → Own K G2 H2 q y.2 → rep K G2 w y.1 → (fr = true → New H w) → Q w H2) : EndM K fr q G H y { nx := fun _ H' => Q .non H', rt := Q } :=
  ⟨k, fun G2 H2 _ x o r => k G2 H2 _ x o r fun _ p e => nomatch e⟩
section
variable {X : Cx} {σ : St} {G H : Hp} {D : Ends} {q : Addr} {P : PV} {e a b c tg e2 e3 e4 : Expr} {es : List Expr} {pos p : Pos} {xs xs1 xs2 xs3 xs' : List Int} {k i : Nat} {n rn : Str} {rp : Pos} {fr : Bool} {x1 : α} {x2 : β} {x3 : γ} {x4 : δ}
theorem evM_m1 {pre : List Int → Prop} {f : List Int → ζ × List Int} (C : Cal X.prog X.w X.K X.mg X.base k n (SpM1 X.K fr pre f)) (hr : Room k X.A) (hg : Gl X n) (sl : Sl X i rn) (hp : pre xs) (hq : σ[i]? = some (some (.ref q)) := by rfl) (hdb : (n == ("__debug__" : Str)) = false := by decide)
    (he : starEach [.Name rn rp] X.env = (false, eval (.Name rn rp) X.env) :: starEach [] X.env := by rfl) : EvM X (.Call (.Name n p) [.Name rn rp] [] pos) σ q G H xs (f xs).1 (f xs).2 :=
  evM_call C hr hg sl hq eaM_nil (fun G1 H1 vs s l o e Q kk => ⟨G1, q, xs, by rw [e], s, o, hp, fun G2 H2 w x o r _ => kk G2 H2 w x o r⟩) hdb he rfl
theorem evM_m2 {pre : List Int → β → Prop} {f : List Int → β → ζ × List Int} (C : Cal X.prog X.w X.K X.mg X.base k n (SpM2 X.K fr pre f)) (hr : Room k X.A) (hg : Gl X n) (sl : Sl X i rn) (h2 : EvM X e2 σ q G H xs x2 xs1) (hp : pre xs1 x2) (hq : σ[i]? = some (some (.ref q)) := by rfl) (hdb : (n == ("__debug__" : Str)) = false := by decide)
    (he : starEach [.Name rn rp, e2] X.env = (false, eval (.Name rn rp) X.env) :: starEach [e2] X.env := by rfl) (he2 : starEach [e2] X.env = (false, eval e2 X.env) :: starEach [] X.env := by rfl) (hpl : (backTo pos (starEach [e2] X.env)).any (·.1) = false := by rfl) : EvM X (.Call (.Name n p) [.Name rn rp, e2] [] pos) σ q G H xs (f xs1 x2).1 (f xs1 x2).2 :=
  evM_call C hr hg sl hq (eaM_cons h2 eaM_nil he2) (fun G1 H1 vs s l o ⟨v, r, e, rv, e'⟩ Q kk => ⟨G1, q, v, xs1, x2, by rw [e, e'], s, o, rv, hp, fun G2 H2 w x o r _ => kk G2 H2 w x o r⟩) hdb he hpl
theorem evM_m3 {pre : List Int → β → γ → Prop} {f : List Int → β → γ → ζ × List Int} (C : Cal X.prog X.w X.K X.mg X.base k n (SpM3 X.K fr pre f)) (hr : Room k X.A) (hg : Gl X n) (sl : Sl X i rn) (h2 : EvM X e2 σ q G H xs x2 xs1) (h3 : EvM X e3 σ q G H xs1 x3 xs2) (hp : pre xs2 x2 x3) (hq : σ[i]? = some (some (.ref q)) := by rfl) (hdb : (n == ("__debug__" : Str)) = false := by decide)
    (he : starEach [.Name rn rp, e2, e3] X.env = (false, eval (.Name rn rp) X.env) :: starEach [e2, e3] X.env := by rfl) (he2 : starEach [e2, e3] X.env = (false, eval e2 X.env) :: starEach [e3] X.env := by rfl) (he3 : starEach [e3] X.env = (false, eval e3 X.env) :: starEach [] X.env := by rfl) (hpl : (backTo pos (starEach [e2, e3] X.env)).any (·.1) = false := by rfl) : EvM X (.Call (.Name n p) [.Name rn rp, e2, e3] [] pos) σ q G H xs (f xs2 x2 x3).1 (f xs2 x2 x3).2 :=
  evM_call C hr hg sl hq (eaM_cons h2 (eaM_cons h3 eaM_nil he3) he2) (fun G1 H1 vs s l o ⟨v, r, e, rv, v3, r3, e', rv3, e''⟩ Q kk => ⟨G1, q, v, v3, xs2, x2, x3, by rw [e, e', e''], s, o, rv, rv3, hp, fun G2 H2 w x o r _ => kk G2 H2 w x o r⟩) hdb he hpl
theorem evM_m4 {pre : List Int → β → γ → δ → Prop} {f : List Int → β → γ → δ → ζ × List Int} (C : Cal X.prog X.w X.K X.mg X.base k n (SpM4 X.K fr pre f)) (hr : Room k X.A) (hg : Gl X n) (sl : Sl X i rn) (h2 : EvM X e2 σ q G H xs x2 xs1) (h3 : EvM X e3 σ q G H xs1 x3 xs2) (h4 : EvM X e4 σ q G H xs2 x4 xs3) (hp : pre xs3 x2 x3 x4) (hq : σ[i]? = some (some (.ref q)) := by rfl) (hdb : (n == ("__debug__" : Str)) = false := by decide)
    (he : starEach [.Name rn rp, e2, e3, e4] X.env = (false, eval (.Name rn rp) X.env) :: starEach [e2, e3, e4] X.env := by rfl) (he2 : starEach [e2, e3, e4] X.env = (false, eval e2 X.env) :: starEach [e3, e4] X.env := by rfl) (he3 : starEach [e3, e4] X.env = (false, eval e3 X.env) :: starEach [e4] X.env := by rfl) (he4 : starEach [e4] X.env = (false, eval e4 X.env) :: starEach [] X.env := by rfl) (hpl : (backTo pos (starEach [e2, e3, e4] X.env)).any (·.1) = false := by rfl) : EvM X (.Call (.Name n p) [.Name rn rp, e2, e3, e4] [] pos) σ q G H xs (f xs3 x2 x3 x4).1 (f xs3 x2 x3 x4).2 :=
  evM_call C hr hg sl hq (eaM_cons h2 (eaM_cons h3 (eaM_cons h4 eaM_nil he4) he3) he2) (fun G1 H1 vs s l o ⟨v, r, e, rv, v3, r3, e', rv3, v4, r4, e'', rv4, e3'⟩ Q kk => ⟨G1, q, v, v3, v4, xs3, x2, x3, x4, by rw [e, e', e'', e3'], s, o, rv, rv3, rv4, hp, fun G2 H2 w x o r _ => kk G2 H2 w x o r⟩) hdb he hpl
theorem evM_c1 {pre : α → Prop} {f : α → ζ} (C : Cal X.prog X.w X.K X.mg X.base k n (Sp1 X.K fr pre f)) (hr : Room k X.A) (hg : Gl X n) (h1 : EvM X a σ q G H xs x1 xs1) (hp : pre x1) (hdb : (n == ("__debug__" : Str)) = false := by decide)
    (he : starEach [a] X.env = (false, eval a X.env) :: starEach [] X.env := by rfl) : EvM X (.Call (.Name n p) [a] [] pos) σ q G H xs (f x1) xs1 :=
  evM_callP C hr hg (eaM_cons h1 eaM_nil he) (fun G1 H1 vs s l ⟨v, r, e, rv, e'⟩ Q kk => ⟨G1, v, x1, by rw [e, e'], s, rv, hp, fun G2 H2 w x r _ => kk G2 H2 w x r⟩) hdb he rfl
theorem evM_c2 {pre : α → β → Prop} {f : α → β → ζ} (C : Cal X.prog X.w X.K X.mg X.base k n (Sp2 X.K fr pre f)) (hr : Room k X.A) (hg : Gl X n) (h1 : EvM X a σ q G H xs x1 xs1) (h2 : EvM X e2 σ q G H xs1 x2 xs2) (hp : pre x1 x2) (hdb : (n == ("__debug__" : Str)) = false := by decide)
    (he : starEach [a, e2] X.env = (false, eval a X.env) :: starEach [e2] X.env := by rfl) (he2 : starEach [e2] X.env = (false, eval e2 X.env) :: starEach [] X.env := by rfl) (hpl : (backTo pos (starEach [e2] X.env)).any (·.1) = false := by rfl) : EvM X (.Call (.Name n p) [a, e2] [] pos) σ q G H xs (f x1 x2) xs2 :=
  evM_callP C hr hg (eaM_cons h1 (eaM_cons h2 eaM_nil he2) he) (fun G1 H1 vs s l ⟨v, r, e, rv, v2, r2, e', rv2, e''⟩ Q kk => ⟨G1, v, v2, x1, x2, by rw [e, e', e''], s, rv, rv2, hp, fun G2 H2 w x r _ => kk G2 H2 w x r⟩) hdb he hpl
/-! statements -/
theorem s_setM {y : α} {i : Nat} {n : Str} (hN : X.N.Nodup) (sl : Ss X i n) (s0 : Same G H) (o : Own X.K G H q xs) (h : EvM X e σ q G H xs y xs') (k : ∀ G1 H1 v, ExtM q G H G1 H1 → HLen H1 → Own X.K G1 H1 q xs' → rep X.K G1 v y → D.nx (σ.set i (some v)) H1)
    (hs : swapsWith e (some (.Name n p)) pos.line X.env = pure false := by rfl) : tS X (.Assign [.Name n p] e pos) D σ H :=
  s_of (ps_set hN sl.hN sl.hx pe_sem hs sl.hf) (h G H (ExtM.refl s0 o.ex') o _ fun G1 H1 v x l o r => k G1 H1 v x l o r)
theorem s_retM {y : α} (s0 : Same G H) (o : Own X.K G H q xs) (h : EvM X e σ q G H xs y xs') (k : ∀ G1 H1 v, ExtM q G H G1 H1 → HLen H1 → Own X.K G1 H1 q xs' → rep X.K G1 v y → D.rt v H1) : tS X (.Return (some e) pos) D σ H :=
  s_of (ps_ret pe_sem) (h G H (ExtM.refl s0 o.ex') o _ fun G1 H1 v x l o r => k G1 H1 v x l o r)
theorem s_exprM {y : α} (s0 : Same G H) (o : Own X.K G H q xs) (h : EvM X e σ q G H xs y xs') (k : ∀ G1 H1 v, ExtM q G H G1 H1 → HLen H1 → Own X.K G1 H1 q xs' → rep X.K G1 v y → D.nx σ H1) (hs : swapsWith e none pos.line X.env = pure false := by rfl) : tS X (.Expr e pos) D σ H :=
  s_of (ps_expr pe_sem hs) (h G H (ExtM.refl s0 o.ex') o _ fun G1 H1 v x l o r => k G1 H1 v x l o r)
theorem s_ifM {y : Bool} {sts sts' : List Stmt} (s0 : Same G H) (o : Own X.K G H q xs) (h : EvM X c σ q G H xs y xs') (h1 : y = true → ∀ G1 H1, ExtM q G H G1 H1 → HLen H1 → Own X.K G1 H1 q xs' → tSs X sts D σ H1) (h2 : y = false → ∀ G1 H1, ExtM q G H G1 H1 → HLen H1 → Own X.K G1 H1 q xs' → tSs X sts' D σ H1)
    (ht : ∀ whole, isTrue c X.env whole = (do let v ← whole; standAt c.pos; holding [v] (truthy v)) := by intro _; rfl) : tS X (.If c sts sts' pos) D σ H :=
  s_of (ps_if (pt_val pe_sem ht) pss_sem pss_sem) (h G H (ExtM.refl s0 o.ex') o _ fun G1 H1 v x1 l o1 r => ⟨y, r, by
    cases y with
    | true =>
      show tSs X sts D σ H1
      exact h1 rfl G1 H1 x1 l o1
    | false =>
      show tSs X sts' D σ H1
      exact h2 rfl G1 H1 x1 l o1⟩)
/-- what a for walks, drawn -/
def EvIM (X : Cx) (tg iter : Expr) (σ : St) (q : Addr) (G H : Hp) (xs : List Int) (ys : List α) (xs' : List Int) : Prop :=
  ∃ wi : TI, PI X tg iter wi ∧ ∀ G1 H1, ExtM q G H G1 H1 → Own X.K G1 H1 q xs → ∀ R : It → Hp → Prop, (∀ J G2 H2, ExtM q G1 H1 G2 H2 → ys.length ≤ sizeLine → Own X.K G2 H2 q xs' → WalkOf X.K J G2 ys → R J H2) → wi σ H1 R
theorem eiM_list {ys : List α} (h : EvM X e σ q G H xs ys xs') : EvIM X tg e σ q G H xs ys xs' :=
  ⟨_, pi_list pe_sem, fun G1 H1 x1 o R r => h G1 H1 x1 o _ fun G2 H2 v x2 l2 o2 pv => by
    obtain ⟨a, us, e, g, pr⟩ := pv
    have g : SqL X.K G2 a us := .of g
    refine ⟨a, e, ⟨us, x2.s.seq g⟩, r _ G2 H2 x2 (by rw [← paired_len pr]; exact sql_len l2 (x2.s.seq g)) o2 fun G' H' s1 s2 => ?_⟩
    have hq : SqL X.K H' a us := s2.seq (s1.seq g)
    refine ⟨fun i hi => ?_, ⟨us, hq, by rw [paired_len pr]; exact Nat.le_refl _⟩, fun i x v H'' hx y => ?_⟩
    · rw [← paired_len pr] at hi
      exact ⟨us, us[i], hq, List.getElem?_eq_getElem hi⟩
    · obtain ⟨rfl, y⟩ := y
      obtain ⟨w, hw, rw'⟩ := paired_get pr hx
      have e : w = v := Option.some.inj (hw.symm.trans (y us hq))
      subst e
      exact ⟨G', Ext.refl s2, up s1 rw'⟩⟩
theorem s_forM {ys : List α} {T : TgT α} {g : TG} {iter : Expr} {body : List Stmt} (hp : PassesOwn (model X.prog X.w) X.A X.env X.xe) (hc : X.calm = true) (hg : PG X tg g) (ha : Acts X.K g T) (s0 : Same G H) (o : Own X.K G H q xs) (hi : EvIM X tg iter σ q G H xs ys xs')
    (I : List α → St → Hp → Hp → Prop) (h0 : ∀ G1 H1, ExtM q G H G1 H1 → Own X.K G1 H1 q xs' → I ys σ G1 H1)
    (hs : ∀ x rest σ1 G1 H1 G2 H2 σ2, (∃ l, l ++ x :: rest = ys) ∧ ys.length ≤ sizeLine → Same G G1 → Same G1 H1 → I (x :: rest) σ1 G1 H1 → Ext G1 H1 G2 H2 → HLen H2 → T G2 x σ1 σ2 →
      tSs X body { D with nx := fun σ' H' => ∃ G', Same G2 G' ∧ Same G' H' ∧ I rest σ' G' H', ct := fun σ' H' => ∃ G', Same G2 G' ∧ Same G' H' ∧ I rest σ' G' H', bk := D.nx } σ2 H2)
    (hd : ∀ σ1 G1 H1, Same G G1 → Same G1 H1 → I [] σ1 G1 H1 → D.nx σ1 H1) (hsf : ∀ x, foldedSetIterable iter X.env x = pure x := by intro _; rfl) : tS X (.For tg iter body [] pos) D σ H := by
  obtain ⟨wi, pi, hi⟩ := hi
  refine s_of (ps_for hp hc pi hg pss_sem hsf) (hi G H (ExtM.refl s0 o.ex') o _ fun J Gs Hs xs0 hl os hw => ?_)
  refine ⟨fun i m σ' H' => m = ys.length - i ∧ i ≤ ys.length ∧ ∃ G', Same Gs G' ∧ Same G' H' ∧ I (ys.drop i) σ' G' H', ⟨ys.length, rfl, Nat.zero_le _, Gs, Same.refl _, xs0.s, h0 Gs Hs xs0 os⟩, ?_⟩
  rintro i m σ' H' ⟨rfl, hi', G', sg, sh, Iv⟩
  obtain ⟨go, stop, yld⟩ := hw G' H' sg sh
  by_cases hlt : i < ys.length
  · have hx : ys[i]? = some ys[i] := List.getElem?_eq_getElem hlt
    have ed : ys.drop i = ys[i] :: ys.drop (i + 1) := List.drop_eq_getElem_cons hlt
    rw [ed] at Iv
    refine .inr ⟨go i hlt, fun σ2 H2 => ∃ G2, Same Gs G2 ∧ Same G2 H2 ∧ I (ys.drop (i + 1)) σ2 G2 H2, fun σ2 H2 q => ⟨_, by omega, rfl, hlt, q⟩, fun v H'' y => ?_⟩
    obtain ⟨G'', x'', rv⟩ := yld i _ v H'' hx y
    refine ha _ v G'' H'' _ _ x''.s rv fun σ2 hT => tSs_lenI fun l => ?_
    refine .mk fun pins s Iv' => ?_
    refine thn (hs ys[i] (ys.drop (i + 1)) σ' G' H' G'' H'' σ2 ⟨⟨ys.take i, by rw [← ed, List.take_append_drop]⟩, hl⟩ (xs0.g.trans sg) sh Iv x'' l hT |>.run pins s Iv') fun f s' q => ?_
    have fin : ∀ {H3 : Hp} {σ3 : St}, (∃ G3, Same G'' G3 ∧ Same G3 H3 ∧ I (ys.drop (i + 1)) σ3 G3 H3) → ∃ G2, Same Gs G2 ∧ Same G2 H3 ∧ I (ys.drop (i + 1)) σ3 G2 H3 := fun ⟨G3, a, b, c⟩ => ⟨G3, sg.trans (x''.g.trans a), b, c⟩
    cases f with
    | next =>
      obtain ⟨σ3, H3, I3, q⟩ := q
      exact ⟨σ3, H3, I3, fin q⟩
    | cont =>
      obtain ⟨σ3, H3, I3, q⟩ := q
      exact ⟨σ3, H3, I3, fin q⟩
    | brk => exact q
    | ret u => exact q
  · have e : i = ys.length := by omega
    subst e
    rw [List.drop_length] at Iv
    exact .inl ⟨stop, hd σ' G' H' (xs0.g.trans sg) sh Iv⟩
end
section
variable {P : Program} {w : World} {K : PySem.W.Frag} {mg : Str → Option Value} {base : Heap} {x : Str} {st : Stmt} {f : Addr} {fd : FuncData} {N ps : List Str} {k : Nat} {fr : Bool}
theorem fnM1 {pre : List Int → Prop} {m : List Int → ζ × List Int} (F : Fun K x x st f fd) (hm : mg x = some (.ref f)) (hb : Binds K fd ps []) (S : FnScope N ps (defScope st)) (hl : ps.length = 1)
    (body : ∀ (cdv : Value) (A : Around) (outer : List Env) (s : Shared) (H : Hp) (E : XK), Room k (A.deeper (envOfC x (defScope st) s.heap.objs.size f cdv)) → ∀ (G : Hp) (q : Addr) (xs : List Int) (D : Ends), Same G H → Own K G H q xs → pre xs → EndM K fr q G H (m xs) D →
      tSs (cxOf (L2.CX P w) P w K mg base N x (defScope st) f cdv A outer s H E) (defBody st) D (start N [.ref q]) H) : Cal P w K mg base (k + 1) x (SpM1 K fr pre m) :=
  cal_of F hm hb S (fun vs H Q E h => by obtain ⟨_, _, _, rfl, _⟩ := h; exact hl.symm) fun cdv A outer s H vs Q E hr h => by
    obtain ⟨G, q, xs, rfl, s0, o, hp, kk⟩ := h
    exact body cdv A outer s H E hr G q xs _ s0 o hp (endM_of kk)
theorem fnM2 {pre : List Int → β → Prop} {m : List Int → β → ζ × List Int} (F : Fun K x x st f fd) (hm : mg x = some (.ref f)) (hb : Binds K fd ps []) (S : FnScope N ps (defScope st)) (hl : ps.length = 2)
    (body : ∀ (cdv : Value) (A : Around) (outer : List Env) (s : Shared) (H : Hp) (E : XK), Room k (A.deeper (envOfC x (defScope st) s.heap.objs.size f cdv)) → ∀ (G : Hp) (q : Addr) (v2 : V) (xs : List Int) (x2 : β) (D : Ends), Same G H → Own K G H q xs → rep K G v2 x2 → pre xs x2 → EndM K fr q G H (m xs x2) D →
      tSs (cxOf (L2.CX P w) P w K mg base N x (defScope st) f cdv A outer s H E) (defBody st) D (start N [.ref q, v2]) H) : Cal P w K mg base (k + 1) x (SpM2 K fr pre m) :=
  cal_of F hm hb S (fun vs H Q E h => by obtain ⟨_, _, _, _, _, rfl, _⟩ := h; exact hl.symm) fun cdv A outer s H vs Q E hr h => by
    obtain ⟨G, q, v2, xs, x2, rfl, s0, o, r2, hp, kk⟩ := h
    exact body cdv A outer s H E hr G q v2 xs x2 _ s0 o r2 hp (endM_of kk)
theorem fnM3 {pre : List Int → β → γ → Prop} {m : List Int → β → γ → ζ × List Int} (F : Fun K x x st f fd) (hm : mg x = some (.ref f)) (hb : Binds K fd ps []) (S : FnScope N ps (defScope st)) (hl : ps.length = 3)
    (body : ∀ (cdv : Value) (A : Around) (outer : List Env) (s : Shared) (H : Hp) (E : XK), Room k (A.deeper (envOfC x (defScope st) s.heap.objs.size f cdv)) → ∀ (G : Hp) (q : Addr) (v2 v3 : V) (xs : List Int) (x2 : β) (x3 : γ) (D : Ends), Same G H → Own K G H q xs → rep K G v2 x2 → rep K G v3 x3 → pre xs x2 x3 → EndM K fr q G H (m xs x2 x3) D →
      tSs (cxOf (L2.CX P w) P w K mg base N x (defScope st) f cdv A outer s H E) (defBody st) D (start N [.ref q, v2, v3]) H) : Cal P w K mg base (k + 1) x (SpM3 K fr pre m) :=
  cal_of F hm hb S (fun vs H Q E h => by obtain ⟨_, _, _, _, _, _, _, rfl, _⟩ := h; exact hl.symm) fun cdv A outer s H vs Q E hr h => by
    obtain ⟨G, q, v2, v3, xs, x2, x3, rfl, s0, o, r2, r3, hp, kk⟩ := h
    exact body cdv A outer s H E hr G q v2 v3 xs x2 x3 _ s0 o r2 r3 hp (endM_of kk)
theorem fnM4 {pre : List Int → β → γ → δ → Prop} {m : List Int → β → γ → δ → ζ × List Int} (F : Fun K x x st f fd) (hm : mg x = some (.ref f)) (hb : Binds K fd ps []) (S : FnScope N ps (defScope st)) (hl : ps.length = 4)
    (body : ∀ (cdv : Value) (A : Around) (outer : List Env) (s : Shared) (H : Hp) (E : XK), Room k (A.deeper (envOfC x (defScope st) s.heap.objs.size f cdv)) → ∀ (G : Hp) (q : Addr) (v2 v3 v4 : V) (xs : List Int) (x2 : β) (x3 : γ) (x4 : δ) (D : Ends), Same G H → Own K G H q xs → rep K G v2 x2 → rep K G v3 x3 → rep K G v4 x4 → pre xs x2 x3 x4 → EndM K fr q G H (m xs x2 x3 x4) D →
      tSs (cxOf (L2.CX P w) P w K mg base N x (defScope st) f cdv A outer s H E) (defBody st) D (start N [.ref q, v2, v3, v4]) H) : Cal P w K mg base (k + 1) x (SpM4 K fr pre m) :=
  cal_of F hm hb S (fun vs H Q E h => by obtain ⟨_, _, _, _, _, _, _, _, _, rfl, _⟩ := h; exact hl.symm) fun cdv A outer s H vs Q E hr h => by
    obtain ⟨G, q, v2, v3, v4, xs, x2, x3, x4, rfl, s0, o, r2, r3, r4, hp, kk⟩ := h
    exact body cdv A outer s H E hr G q v2 v3 v4 xs x2 x3 x4 _ s0 o r2 r3 r4 hp (endM_of kk)
end
end
end RL
namespace RL
open PySem PySem.Spec PyProof.Rows L2 Rep
theorem offM {α : Type} [Rep α] {K : PySem.W.Frag} {q : Addr} {G0 H0 G H : Hp} {xs : List α} (x : ExtM q G0 H0 G H) (o : Own K G0 H0 q xs) : G q = none := by
  cases z : G q with
  | none => rfl
  | some u =>
    obtain ⟨v, e, _⟩ := o.ex'
    rcases x.n _ _ z with y | y | ⟨ys, y⟩
    · rw [o.off] at y; cases y
    · rw [e] at y; cases y
    · obtain ⟨w, y1, y2⟩ := x.h.k
      have y3 := x.s _ _ z
      rw [y1] at y3
      exact absurd ((Option.some.inj y3).trans y) (y2 ys)
theorem Own.re {α : Type} [Rep α] {K : PySem.W.Frag} {q : Addr} {G G' H : Hp} {xs : List α} (o : Own K G H q xs) (s : Same G G') (h : G' q = none) : Own K G' H q xs :=
  let ⟨vs, e, p⟩ := o.at_; ⟨⟨vs, e, pair_up s p⟩, h⟩
end RL
namespace RL
open PySem PySem.Spec PyProof.Rows L2 Rep
section
variable {X : Cx} {σ : St} {G H : Hp} {D : Ends} {q : Addr} {e a b c : Expr} {es : List Expr} {pos p : Pos} {α : Type} [Rep α] {xs xs1 xs2 xs' : List Int}
/-- a and b, b drawn only where a holds -/
theorem evM_and {x y : Bool} (ha : EvM X a σ q G H xs x xs1) (hb : x = true → EvM X b σ q G H xs1 y xs2) : EvM X (.BoolOp .And [a, b] pos) σ q G H xs (x && y) (if x = true then xs2 else xs1) :=
  evM_of (pe_and pe_sem (pe_one pe_sem)) fun G1 H1 x1 o Q k => ha G1 H1 x1 o _ fun G2 H2 v x2 _ o2 r => ⟨x, r, by
    cases x with
    | true =>
      show tE X b σ H2 Q
      exact hb rfl G2 H2 (x1.transM x2) o2 Q fun G3 H3 w x3 _ o3 rw' => k G3 H3 w (x2.transM x3) o3 rw'
    | false =>
      show Q (.bl false) H2
      exact k G2 H2 _ x2 o2 rfl⟩
theorem evM_intB {x : Bool} (B : Bl X "int") (h : EvM X e σ q G H xs x xs1) (he : starEach [e] X.env = (false, eval e X.env) :: starEach [] X.env := by rfl) : EvM X (.Call (.Name "int" p) [e] [] pos) σ q G H xs (if x = true then 1 else 0 : Int) xs1 :=
  evM_of (pe_callTy call_int1 B.g B.m PyProof.Rows.boot_int (pa_cons pe_sem pa_nil he) (by decide) (by decide) he rfl) fun G1 H1 x1 o Q k => h G1 H1 x1 o _ fun G2 H2 v x2 _ o2 r => .inr ⟨x, by rw [show v = _ from r], k G2 H2 _ x2 o2 rfl⟩
/-- a drawn test -/
def EvTM (X : Cx) (e : Expr) (σ : St) (q : Addr) (G H : Hp) (xs : List Int) (b : Bool) (xs' : List Int) : Prop :=
  ∀ G1 H1, ExtM q G H G1 H1 → Own X.K G1 H1 q xs → ∀ Q : Bool → Hp → Prop, (∀ G2 H2, ExtM q G1 H1 G2 H2 → HLen H2 → Own X.K G2 H2 q xs' → Q b H2) → tT X e σ H1 Q
theorem evTM_of {b : Bool} {t : TT} (hp : PT X e t) (k : ∀ G1 H1, ExtM q G H G1 H1 → Own X.K G1 H1 q xs → ∀ Q : Bool → Hp → Prop, (∀ G2 H2, ExtM q G1 H1 G2 H2 → Own X.K G2 H2 q xs' → Q b H2) → t σ H1 Q) : EvTM X e σ q G H xs b xs' :=
  fun G1 H1 x1 o _ kk => tT_lenF fun pins s I => hp.run pins s σ H1 _ I (k G1 H1 x1 o _ fun G2 H2 x2 o2 hl => kk G2 H2 x2 hl o2)
theorem etM_val {x : Bool} (h : EvM X e σ q G H xs x xs') (he : ∀ whole, isTrue e X.env whole = (do let v ← whole; standAt e.pos; holding [v] (truthy v)) := by intro _; rfl) : EvTM X e σ q G H xs x xs' :=
  evTM_of (pt_val pe_sem he) fun G1 H1 x1 o Q k => h G1 H1 x1 o _ fun G2 H2 _ x2 _ o2 r => ⟨x, r, k G2 H2 x2 o2⟩
theorem etM_pure {x : Bool} (h : ∀ G1 H1, ExtM q G H G1 H1 → Own X.K G1 H1 q xs → EvT X e σ G1 H1 x) : EvTM X e σ q G H xs x xs :=
  fun G1 H1 x1 o Q k => h G1 H1 x1 o G1 H1 (Ext.refl x1.s) Q fun G2 H2 y l => k G2 H2 (y.toM o.ex') l (o.mono y)
theorem etM_and {x y : Bool} (ha : EvTM X a σ q G H xs x xs1) (hb : x = true → EvTM X b σ q G H xs1 y xs2) : EvTM X (.BoolOp .And [a, b] pos) σ q G H xs (x && y) (if x = true then xs2 else xs1) :=
  evTM_of (pw_and (pos := pos) pt_sem (pw_and1 pt_sem)).pt fun G1 H1 x1 o Q k => ha G1 H1 x1 o _ fun G2 H2 x2 _ o2 => by
    cases x with
    | true =>
      show tT X b σ H2 Q
      exact hb rfl G2 H2 (x1.transM x2) o2 Q fun G3 H3 x3 _ o3 => k G3 H3 (x2.transM x3) o3
    | false =>
      show Q false H2
      exact k G2 H2 x2 o2
theorem s_ifT {y : Bool} {sts sts' : List Stmt} (s0 : Same G H) (o : Own X.K G H q xs) (h : EvTM X c σ q G H xs y xs') (h1 : y = true → ∀ G1 H1, ExtM q G H G1 H1 → HLen H1 → Own X.K G1 H1 q xs' → tSs X sts D σ H1) (h2 : y = false → ∀ G1 H1, ExtM q G H G1 H1 → HLen H1 → Own X.K G1 H1 q xs' → tSs X sts' D σ H1) : tS X (.If c sts sts' pos) D σ H :=
  s_of (ps_if pt_sem pss_sem pss_sem) (h G H (ExtM.refl s0 o.ex') o _ fun G1 H1 x1 l o1 => by
    cases y with
    | true =>
      show tSs X sts D σ H1
      exact h1 rfl G1 H1 x1 l o1
    | false =>
      show tSs X sts' D σ H1
      exact h2 rfl G1 H1 x1 l o1)
end
end RL

set_option Elab.async false
set_option linter.all false
set_option maxRecDepth 100000
set_option maxHeartbeats 4000000
/-! RA: sorted(xs) of data that are alike: lists, tuples, to any depth. -/
namespace RL
open PySem PySem.Spec PyProof.Rows L2 Rep
open PySem.W (alike alikeAll dataLe EachIs Sortable AllAlike)
/-- data of one kind, such as sorting compares -/
class DatS (α : Type) [Rep α] [DecidableEq α] [Dat α] : Prop where
  al : ∀ x y : α, alike (Dat.toD x) (Dat.toD y) = true
  srt : (∀ x : α, ∃ y r, Dat.toD x = .tuple (y :: r)) ∨ ∀ x : α, Dat.toD x ≠ .none ∧ ∀ xs, Dat.toD x ≠ .tuple xs
instance : DatS Int := ⟨fun x y => by show alike (.int x) (.int y) = true; simp [alike], .inr fun x => ⟨(fun z => by cases z), (fun xs z => by cases z)⟩⟩
theorem al_all {α : Type} [Rep α] [DecidableEq α] [Dat α] [d : DatS α] : ∀ xs ys : List α, alikeAll (xs.map Dat.toD) (ys.map Dat.toD) = true
  | [], _ => by simp [alikeAll]
  | _ :: _, [] => by simp [alikeAll]
  | x :: xs, y :: ys => by
    show alikeAll (Dat.toD x :: xs.map Dat.toD) (Dat.toD y :: ys.map Dat.toD) = true
    rw [alikeAll, al_all xs ys, d.al x y]
    rfl
instance {α : Type} [Rep α] [DecidableEq α] [Dat α] [d : DatS α] : DatS (List α) := ⟨fun x y => by
  show alike (.list (x.map Dat.toD)) (.list (y.map Dat.toD)) = true
  rw [alike]
  exact al_all x y, .inr fun x => ⟨(fun z => by cases z), (fun xs z => by cases z)⟩⟩
instance {α β : Type} [Rep α] [Rep β] [DecidableEq α] [DecidableEq β] [Dat α] [Dat β] [d : DatS α] [e : DatS β] : DatS (α × β) := ⟨fun x y => by
  show alike (.tuple [Dat.toD x.1, Dat.toD x.2]) (.tuple [Dat.toD y.1, Dat.toD y.2]) = true
  rw [alike, alikeAll, alikeAll, alikeAll, d.al, e.al]
  rfl, .inl fun x => ⟨_, _, rfl⟩⟩
/-- sorted, of any such data -/
def dsort {α : Type} [Rep α] [DecidableEq α] [Dat α] (xs : List α) : List α := xs.mergeSort (dataLe false Dat.toD)
theorem dsort_perm {α : Type} [Rep α] [DecidableEq α] [Dat α] (xs : List α) : (dsort xs).Perm xs := List.mergeSort_perm _ _
theorem dsort_len {α : Type} [Rep α] [DecidableEq α] [Dat α] (xs : List α) : (dsort xs).length = xs.length := (dsort_perm xs).length_eq
theorem mem_dsort {α : Type} [Rep α] [DecidableEq α] [Dat α] {x : α} {xs : List α} : x ∈ dsort xs ↔ x ∈ xs := (dsort_perm xs).mem_iff
section
variable {α : Type} [Rep α] [DecidableEq α] [Dat α] {X : Cx} {σ : St} {G H : Hp} {P : PV} {e : Expr} {pos p : Pos}
theorem zip_each {R : Value → V × α → Prop} {K : PySem.W.Frag} : ∀ {us : List V} {xs : List α} {its : List Value}, Vals us its → Paired (rep K G) us xs → (∀ u x v, rep K G u x → RelV u v → R v (u, x)) → EachIs R its (us.zip xs)
  | _, _, _, .nil, .nil, _ => .nil
  | _, _, _, .cons r t, .cons pr pt, h => .cons (h _ _ _ pr r) (zip_each t pt h)
theorem each_vals {its : List Value} {bs : List (V × α)} (h : EachIs (fun (u : Value) (b : V × α) => RelV b.1 u) its bs) : Vals (bs.map (·.1)) its := by
  induction h with
  | nil => exact .nil
  | cons r t ih => exact .cons r ih
theorem zip_fst {K : PySem.W.Frag} : ∀ {us : List V} {xs : List α}, Paired (rep K G) us xs → (us.zip xs).map (·.1) = us ∧ (us.zip xs).map (·.2) = xs ∧ ∀ b ∈ us.zip xs, rep K G b.1 b.2
  | _, _, .nil => ⟨rfl, rfl, fun b hb => by cases hb⟩
  | _, _, .cons r t => by
    obtain ⟨a, b, c⟩ := zip_fst t
    refine ⟨by rw [List.zip_cons_cons, List.map_cons, a], by rw [List.zip_cons_cons, List.map_cons, b], fun z hz => ?_⟩
    rw [List.zip_cons_cons] at hz
    rcases List.mem_cons.mp hz with rfl | hz
    · exact r
    · exact c z hz
theorem pair_of {K : PySem.W.Frag} : ∀ {bs : List (V × α)}, (∀ b ∈ bs, rep K G b.1 b.2) → Paired (rep K G) (bs.map (·.1)) (bs.map (·.2))
  | [], _ => .nil
  | b :: bs, h => .cons (h b List.mem_cons_self) (pair_of fun c hc => h c (List.mem_cons_of_mem _ hc))
theorem cr_sortedA [ds : DatS α] (hu : X.A.units + 64 < cLine) (hd : Dat.deep α ≤ 60) : CallR X (.builtin "sorted") (fun vs H Q => ∃ (a : Addr) (us : List V) (xs : List α) (G : Hp), vs = [.ref a] ∧ SqL X.K H a us ∧ Same G H ∧ Paired (rep X.K G) us xs ∧
    ∀ ys p, Paired (rep X.K G) ys (dsort xs) → H p = none → Q (.ref p) (upd H p (.lst ys))) := by
  intro pins s σ H vs us Q I r h
  obtain ⟨a, us', xs, G, rfl, hs, sg, pr, q⟩ := h
  obtain ⟨its, rv, hl, hz⟩ := I.list hs
  obtain ⟨u, rfl, ru⟩ := vals1 r
  obtain rfl : u = Value.ref a := ru
  obtain ⟨z1, z2, z3⟩ := zip_fst pr
  have hlen : (us'.zip xs).length = us'.length := by rw [← List.length_map (f := fun b : V × α => b.1), z1]
  refine PySem.W.sorted_data (R := fun (u : Value) (b : V × α) => RelV b.1 u) (enc := fun b => Dat.toD b.2) (bs := us'.zip xs) hl.isList (zip_each rv pr fun _ _ _ _ r => r) (zip_each rv pr fun u x v r1 r2 => Dp.reads I _ _ _ (Dat.dp sg r1) r2)
    (AllAlike.of fun b b' => ds.al b.2 b'.2) ?_ (by rw [hlen]; exact hz) (fun b _ => ?_) fun out ho he => ?_
  · rcases ds.srt with h | h
    · exact Sortable.tuples fun b => h b.2
    · exact Sortable.others fun b => h b.2
  · have := Dat.dep b.2
    show X.A.units + 2 + (Dat.toD b.2).depth < cLine
    omega
  · obtain ⟨n, hn⟩ := sortedAll_at s.heap its out.toArray
    have hm : ((us'.zip xs).mergeSort (dataLe false fun b => Dat.toD b.2)).map (·.2) = dsort xs := by
      have := List.map_mergeSort (r := dataLe false fun b : V × α => Dat.toD b.2) (s := dataLe false (Dat.toD (α := α))) (f := fun b : V × α => b.2) (l := us'.zip xs) fun a _ b _ => rfl
      rw [this, z2]
      rfl
    have hp : Paired (rep X.K G) (((us'.zip xs).mergeSort (dataLe false fun b => Dat.toD b.2)).map (·.1)) (dsort xs) := by
      rw [← hm]
      exact pair_of fun b hb => z3 b ((List.mergeSort_perm _ _).mem_iff.mp hb)
    have hd := I.laid (a := s.heap.objs.size + 1) (t' := s.toks) (fun b o e => sortedAll_old e) (Nat.le_succ _) (o := .lst (((us'.zip xs).mergeSort (dataLe false fun b => Dat.toD b.2)).map (·.1))) ⟨?_, out, n, each_vals he, hn⟩
    · exact ⟨.ref (s.heap.objs.size + 1), _, hd, rfl, q _ _ hp (I.hok.fresh (Nat.le_succ _))⟩
    · rw [List.length_map, List.length_mergeSort, hlen]
      have := rv.length
      omega
theorem ev_sortedA {xs : List α} [DatS α] (hu : X.A.units + 64 < cLine) (B : Bl X "sorted") (h : Ev X e σ G H xs) (hd : Dat.deep α ≤ 60 := by decide) (he : starEach [e] X.env = (false, eval e X.env) :: starEach [] X.env := by rfl) : Ev X (.Call (.Name "sorted" p) [e] [] pos) σ G H (dsort xs) :=
  ev_callB (cr_sortedA (α := α) hu hd) B.g B.m PyProof.Rows.boot_sorted (ea_cons h ea_nil he) (fun G1 H1 vs y l ⟨v, r, e1, pv, e2⟩ Q q => by
    obtain ⟨a, us, e, g, pr⟩ := pv
    exact ⟨a, us, xs, G1, by rw [e1, e2, e], .of (y.s _ _ g), y.s, pr, fun ys p py hp => q (upd G1 p (.lst ys)) _ _ ((Ext.refl y.s).new hp) ⟨p, _, rfl, upd_same, pair_up (same_new (y.s.free hp)) py⟩⟩) (by decide) (by decide) he rfl
end
section
variable {α : Type} [Rep α] [DecidableEq α] [Dat α]
theorem dle_trans (a b c : α) (h1 : dataLe false Dat.toD a b = true) (h2 : dataLe false Dat.toD b c = true) : dataLe false Dat.toD a c = true := by
  rw [PySem.W.dataLe_eq] at *
  simp only [cond_false, Bool.not_eq_true'] at *
  cases h : PySem.W.dataLt (Dat.toD c) (Dat.toD a) with
  | false => rfl
  | true =>
    rcases (PyProof.Rows.listOrd PyProof.Rows.itemOrd).negTrans (PySem.W.keyToks (Dat.toD c)) (PySem.W.keyToks (Dat.toD b)) (PySem.W.keyToks (Dat.toD a)) h with z | z
    · have z : PySem.W.dataLt (Dat.toD c) (Dat.toD b) = true := z
      rw [h2] at z; cases z
    · have z : PySem.W.dataLt (Dat.toD b) (Dat.toD a) = true := z
      rw [h1] at z; cases z
theorem dle_total (a b : α) : (dataLe false Dat.toD a b || dataLe false Dat.toD b a) = true := by
  rw [PySem.W.dataLe_eq]
  simp only [cond_false]
  cases h1 : PySem.W.dataLt (Dat.toD b) (Dat.toD a) with
  | false => rfl
  | true =>
    cases h2 : PySem.W.dataLt (Dat.toD a) (Dat.toD b) with
    | false => rfl
    | true =>
      have := (PyProof.Rows.listOrd PyProof.Rows.itemOrd).trans _ _ _ h1 h2
      rw [(PyProof.Rows.listOrd PyProof.Rows.itemOrd).irrefl] at this
      cases this
def insB (le : α → α → Bool) (x : α) : List α → List α
  | [] => [x]
  | y :: ys => if le x y = true then x :: y :: ys else y :: insB le x ys
def isortB (le : α → α → Bool) : List α → List α
  | [] => []
  | x :: xs => insB le x (isortB le xs)
theorem insB_go {le : α → α → Bool} {x : α} : ∀ {l1 l2 : List α}, (∀ b ∈ l1, le x b = false) → (∀ b ∈ l2, le x b = true) → insB le x (l1 ++ l2) = l1 ++ x :: l2
  | [], [], _, _ => rfl
  | [], y :: ys, _, h => by
    show insB le x (y :: ys) = x :: y :: ys
    unfold insB
    rw [if_pos (h y List.mem_cons_self)]
  | y :: l1, l2, h, h2 => by
    show insB le x (y :: (l1 ++ l2)) = y :: (l1 ++ x :: l2)
    unfold insB
    rw [if_neg (by rw [h y List.mem_cons_self]; decide), insB_go (fun b hb => h b (List.mem_cons_of_mem _ hb)) h2]
theorem dsort_eq {le : α → α → Bool} (h : ∀ x y, dataLe false Dat.toD x y = le x y) : ∀ xs : List α, dsort xs = isortB le xs
  | [] => by
    unfold dsort isortB
    exact List.mergeSort_nil
  | x :: xs => by
    have ih := dsort_eq h xs
    obtain ⟨l1, l2, e1, e2, e3⟩ := List.mergeSort_cons (le := dataLe false (Dat.toD (α := α))) dle_trans dle_total x xs
    have hs := List.pairwise_mergeSort (le := dataLe false (Dat.toD (α := α))) dle_trans dle_total (x :: xs)
    rw [e1] at hs
    show (x :: xs).mergeSort (dataLe false Dat.toD) = insB le x (isortB le xs)
    rw [← ih, e1]
    show _ = insB le x (xs.mergeSort (dataLe false Dat.toD))
    rw [e2, insB_go]
    · intro b hb
      have := e3 b hb
      rw [h] at this
      simpa using this
    · intro b hb
      rw [← h]
      exact (List.pairwise_cons.mp (List.pairwise_append.mp hs).2.1).1 b hb
end
def leLI (p q : List Int × Int) : Bool := !(if q.1 = p.1 then decide (q.2 < p.2) else decide (q.1 < p.1))
theorem leLI_eq (p q : List Int × Int) : dataLe false Dat.toD p q = leLI p q := by
  rw [PySem.W.dataLe_eq]
  show (!PySem.W.dataLt (.tuple [.list (q.1.map .int), .int q.2]) (.tuple [.list (p.1.map .int), .int p.2])) = _
  rw [PySem.W.dataLt_pair (by rw [alike]; exact PySem.W.alike_ints _ _) (by simp [alike])]
  unfold leLI
  have e : PyData.eqv (.list (q.1.map .int)) (.list (p.1.map .int)) = decide (q.1 = p.1) := Dat.eqv (α := List Int) q.1 p.1
  have e2 : PyData.eqv (.int q.2) (.int p.2) = decide (q.2 = p.2) := Dat.eqv (α := Int) q.2 p.2
  have e3 : PySem.W.dataLt (.list (q.1.map .int)) (.list (p.1.map .int)) = decide (q.1 < p.1) := PySem.W.dataLt_ints q.1 p.1
  rw [e, e2, e3, PySem.W.dataLt_int]
  by_cases h : q.1 = p.1
  · rw [if_pos (by simpa using h), if_pos h]
    by_cases h2 : q.2 = p.2
    · simp [h2]
    · simp [h2]
  · rw [if_neg (by simpa using h), if_neg h]
end RL

set_option Elab.async false
set_option linter.all false
set_option maxRecDepth 100000
set_option maxHeartbeats 4000000
/-! RD: dicts of ints or of pairs of ints as data: copied, displayed, walked by their keys. -/
namespace L2
open PySem PySem.Spec PyProof.Rows
abbrev edict : Obj := { cls := .type "dict", data := .dict #[] }
theorem upd_twice {H : Hp} {a : Addr} {u v : HO} : upd (upd H a u) a v = upd H a v := by
  funext b
  by_cases h : b = a
  · subst h; rw [upd_same, upd_same]
  · rw [upd_ne h, upd_ne h, upd_ne h]
theorem dt_new {P : Program} {w : World} {H : Hp} {h : Heap} {a : Addr} {kvs : List (List Key × V)} {xs : List (List Key × Addr × Value)} (z : kvs.length ≤ sizeLine) (hd : (a == sysModules) = false) (r : KT H kvs xs) (d : h.DictOfH (tupleKind (mixKind P w)) a xs) : ObjOk P w H h a (.dT kvs) :=
  let ⟨o, es, ep, e1, e2, e3, e4, _, e6⟩ := d; ⟨z, hd, xs, r, o, es, ep, e1, e2, e3, e4, e6⟩
/-- dict(d), d's keys tuples whose hashes differ -/
def rDictT (P : Program) (w : World) : List V → Hp → VK → Prop := fun xs H Q => ∃ (a : Addr) (kvs : List (List Key × V)), xs = [.ref a] ∧ Rd H a (.dT kvs) ∧ (kvs.map fun kv => tupleKeyHash (mixKind P w) kv.1).Nodup ∧ ∀ p, H p = none → Q (.ref p) (upd H p (.dT kvs))
theorem kt_keys {H : Hp} : ∀ {kvs : List (List Key × V)} {xs : List (List Key × Addr × Value)}, KT H kvs xs → xs.map (·.1) = kvs.map (·.1)
  | _, _, .nil => rfl
  | _, _, .cons h t => by rw [List.map_cons, List.map_cons, kt_keys t, h.1]
theorem kt_at {H : Hp} : ∀ {kvs : List (List Key × V)} {xs : List (List Key × Addr × Value)}, KT H kvs xs → ∀ x ∈ xs, H x.2.1 = some (.tup (x.1.map kV))
  | _, _, .nil, _, hx => by cases hx
  | _, _, .cons h t, x, hx => by
    rcases List.mem_cons.mp hx with rfl | hx
    · rw [← h.1]; exact h.2.1
    · exact kt_at t x hx
theorem cr_dictT {X : Cx} (hu : X.A.units + 64 < cLine) : CallR X (.type "dict") (rDictT X.prog X.w) := by
  rintro pins s σ H xs us Q I r ⟨a, kvs, rfl, hd, hh, q⟩
  rw [Vals.ref1 r]
  have nn : H s.heap.objs.size = none := I.hok.fresh (Nat.le_refl _)
  have na : a ≠ s.heap.objs.size := fun z => by rcases hd with h | ⟨o, h⟩ <;> rw [z, nn] at h <;> cases h
  have I1 := I.laid (a := s.heap.objs.size) (o := .dT []) (h' := s.heap.push edict) (t' := s.toks) (fun _ _ q => Heap.get?_push_of_some _ q) (Nat.le_refl _) (dt_empty s.heap I.big)
  have hd1 : Rd (upd H s.heap.objs.size (.dT [])) a (.dT kvs) := hd.imp (fun h => by rw [upd_ne na]; exact h) fun ⟨o, h⟩ => ⟨o, by rw [upd_ne na]; exact h⟩
  obtain ⟨z, lo, vs, rel, dd⟩ := dt_rd I1.hok hd1
  have hm : (s.heap.objs.size == sysModules) = false := beq_eq_false_iff_ne.mpr (Nat.ne_of_gt I.big)
  have n0 := Heap.DictOfH.new (knd := tupleKind (mixKind X.prog X.w)) s.heap
  have hl : vs.length = kvs.length := by have := congrArg List.length (kt_keys rel); simpa using this
  refine callType_codes (Q₁ := fun v t => v = .ref s.heap.objs.size ∧ t = { s with heap := s.heap.push edict }) F.kt_called_dict (F.kt_typeCall_dict_1 _) F.entry_dict_init (kt_code_dict_new _ ⟨rfl, rfl⟩) ?_
  rintro _ _ ⟨rfl, rfl⟩
  refine ⟨n0.typeIs, F.args_dict_init_2 _ _, ?_⟩
  unfold Builtin.«dict.__init__»; refine wpAny_bind ?_; unfold Builtin.Dict.selfAndRest
  refine wpAny_bind (wpAny_notOrdered_dict n0.typeIs ?_)
  show wpAny _ _ (pure (s.heap.objs.size, [Value.ref a])) _ _ _
  refine wpAny_pure ?_
  show wpAny _ X.A.in1.in1 (Builtin.Dict.updateFrom "dict.__init__" s.heap.objs.size (.ref a) [] .none) _ _ _
  refine updateFrom_dictH (A := X.A.in1) (knd := tupleKind (mixKind X.prog X.w)) .none ?_ (Ne.symm na) lo n0 dd (.inr ⟨fun x hx => ?_, ?_⟩) (by rw [hl]; simpa using z) fun h' d' _ sb => ?_
  · show X.A.in1.in1.units < cLine
    simp only [units_in1]
    omega
  · exact (key_of I1.hok (kt_at rel x hx)).typeIs
  · have e : (vs.map fun x => (tupleKind (mixKind X.prog X.w)).hash x.1) = (vs.map (·.1)).map (tupleKeyHash (mixKind X.prog X.w)) := by rw [List.map_map]; rfl
    rw [e, kt_keys rel, List.map_map]
    exact hh
  · rw [storedAllH_nil_of_nodup vs dd.nodup] at d'
    have he : ∃ u, h'.get? s.heap.objs.size = some u := let ⟨u, _, _, g, _⟩ := d'; ⟨u, g⟩
    have rel2 : KT (upd (upd H s.heap.objs.size (.dT [])) s.heap.objs.size (.dT kvs)) kvs vs := KT.keeps rel fun b ys e => by
      rw [upd_ne fun c => by rw [c, upd_same] at e; cases e]; exact e
    have J := d_write (t' := s.toks) I1 (by rw [upd_same]; exact True.intro) sb he (dt_new z hm rel2 d')
    rw [upd_twice] at J
    exact ⟨rfl, .ref s.heap.objs.size, _, J, rfl, q _ nn⟩
/-- {k: v}, k a tuple -/
theorem pe_disp1T {X : Cx} {k v : Expr} {tk tv : TE} {pos : Pos} (hu : X.A.units + 64 < cLine) (hk : PE X k tk) (hv : PE X v tv) : PE X (.Dict [some k] [v] pos) (fun σ H Q => ∀ p, H p = none → tk σ (upd H p (.dT [])) fun x H1 => tv σ H1 fun y H2 =>
    H2 p = some (.dT []) ∧ ∃ (b : Addr) (ks : List Key), x = .ref b ∧ H2 b = some (.tup (ks.map kV)) ∧ Q (.ref p) (upd H2 p (.dT [(ks, y)]))) := by
  refine ⟨fun pins s σ H Q I q => ?_⟩
  have I1 := I.laid (a := s.heap.objs.size) (o := .dT []) (h' := s.heap.push edict) (t' := s.toks) (fun _ _ q => Heap.get?_push_of_some _ q) (Nat.le_refl _) (dt_empty s.heap I.big)
  have hm : (s.heap.objs.size == sysModules) = false := beq_eq_false_iff_ne.mpr (Nat.ne_of_gt I.big)
  rw [arm_eval_Dict, zip_pairTrees [some k] [v] X.env pos rfl rfl, dictDisplay_pairs _ (by simp [pairTrees]) (by simp [pairTrees])]
  refine wpAny_bind (wpAny_standAt (wpAny_bind (wpAny_subDictH (knd := tupleKind (mixKind X.prog X.w)) (Q := fun d s' => wpAny (model X.prog X.w) X.A (pure (Value.ref d)) (EP X pins σ Q) X.xe s') (by show X.A.units < cLine; omega) (by simp [pairTrees]) ?_)))
  refine pairTrees_cons_walk (thn (hk.run pins _ σ _ _ I1 (q _ (I.hok.fresh (Nat.le_refl _)))) fun u s1 ⟨x, H1, I2, rx, q1⟩ => thn (hv.run pins s1 σ H1 _ I2 q1) fun u2 s2 ⟨y, H2, I3, ry, e, b, ks, ex, eb, q2⟩ => pairTrees_nil_walk ?_)
  subst ex
  obtain rfl : u = Value.ref b := rx
  obtain ⟨_, _, vs, rel, dd⟩ := dt_of I3.hok e
  cases rel
  refine ⟨[(ks, b, u2)], ⟨rfl, rfl, key_of I3.hok eb, trivial⟩, dd, fun h' tk d' sb => wpAny_pure ⟨.ref s.heap.objs.size, _, ?_, rfl, q2⟩⟩
  have nb : b ≠ s.heap.objs.size := fun z => by rw [z, e] at eb; cases eb
  have he : ∃ u, h'.get? s.heap.objs.size = some u := let ⟨u, _, _, g, _⟩ := d'; ⟨u, g⟩
  exact d_write I3 (by rw [e]; exact True.intro) sb he (dt_new (by show 1 ≤ sizeLine; rw [sizeLine_eq]; decide) hm (.cons ⟨rfl, by rw [upd_ne nb]; exact eb, ry⟩ .nil) d')
end L2
namespace RL
open PySem PySem.Spec PyProof.Rows L2 Rep
theorem tE_imp {X : Cx} {e : Expr} {σ : St} {H : Hp} {Q Q' : VK} (h : tE X e σ H Q) (k : ∀ v H', Q v H' → Q' v H') : tE X e σ H Q' := ⟨fun pins s I => thn (h.run pins s I) fun _ _ ⟨v, H', I', r, q⟩ => ⟨v, H', I', r, k _ _ q⟩⟩
/-- kinds of keys: how such a dict is copied, displayed, walked -/
class DKeyC (κ : Type) [Rep κ] [DecidableEq κ] [DKey κ] where
  hok : Program → World → List κ → Prop
  copy : ∀ {X : Cx}, X.A.units + 64 < cLine → CallR X (.type "dict") (fun xs H Q => ∃ (a : Addr) (ps : List (κ × V)), xs = [.ref a] ∧ Rd H a (DKey.obj ps) ∧ hok X.prog X.w (ps.map (·.1)) ∧ ∀ p, H p = none → Q (.ref p) (upd H p (DKey.obj ps)))
  disp : ∀ {X : Cx} {k v : Expr} {pos : Pos}, X.A.units + 64 < cLine → PE X (.Dict [some k] [v] pos) (fun σ H Q => ∀ p, H p = none → tE X k σ (upd H p (DKey.obj ([] : List (κ × V)))) fun x H1 => tE X v σ H1 fun y H2 =>
    H2 p = some (DKey.obj ([] : List (κ × V))) ∧ ∃ (G : Hp) (key : κ), Same G H2 ∧ rep X.K G x key ∧ Q (.ref p) (upd H2 p (DKey.obj [(key, y)])))
  it : Addr → Obj → List (κ × V) → It
  lift : ∀ {H : Hp} {a : Addr} {o : Obj} {ps : List (κ × V)} {R : It → Hp → Prop}, H a = some (.frz o (DKey.obj ps)) → R (it a o ps) H → ((∃ kvs, H a = some (.frz o (.dK kvs)) ∧ R (Itk a o kvs) H) ∨ ∃ kvs, H a = some (.frz o (.dT kvs)) ∧ R (Itkt a o kvs) H)
  walk : ∀ {K : PySem.W.Frag} {G : Hp} {a : Addr} {o : Obj} {ps : List (κ × V)}, G a = some (.frz o (DKey.obj ps)) → WalkOf K (it a o ps) G (ps.map (·.1))
instance : DKeyC Int where
  hok _ _ _ := True
  copy _ := by
    rintro pins s σ H xs us Q I r ⟨a, ps, rfl, hd, _, q⟩
    exact call_dictD pins s σ H _ us Q I r ⟨a, _, rfl, hd, q⟩
  disp {X k v pos} hu := ⟨fun pins s σ H Q I q => (pe_disp (keys := [some k]) (values := [v]) (pps_cons pe_sem pe_sem pps_nil) rfl rfl (fun z => by cases z) (by show 1 ≤ 15; decide)).run pins s σ H Q I fun p hp =>
    tE_imp (q p hp) fun x H1 h => tE_imp h fun y H2 ⟨e, G, key, s2, r, q⟩ => ⟨e, [(Sum.inl key, y)], by rw [show x = V.int key from r]; rfl, by show 1 ≤ 15; decide, q⟩⟩
  it a o ps := Itk a o (ps.map fun p => (Sum.inl p.1, p.2))
  lift h r := .inl ⟨_, h, r⟩
  walk {K G a o ps} g := fun G' H' s1 s2 => by
    have e : H' a = some (.frz o (.dK (ps.map fun p => (Sum.inl p.1, p.2)))) := s2 _ _ (s1 _ _ g)
    refine ⟨fun i hi => ⟨e, by simpa using hi⟩, ⟨e, by simp⟩, fun i x v H'' hx y => ?_⟩
    obtain ⟨rfl, k, w, hk, rfl⟩ := y
    refine ⟨G', Ext.refl s2, ?_⟩
    rw [List.getElem?_map] at hx hk
    cases q : ps[i]? with
    | none => rw [q] at hx; cases hx
    | some p =>
      rw [q] at hx hk
      cases hx
      cases hk
      rfl
instance : DKeyC (Int × Int) where
  hok P w ks := (ks.map fun k => tupleKeyHash (mixKind P w) [Sum.inl k.1, Sum.inl k.2]).Nodup
  copy hu := by
    rintro pins s σ H xs us Q I r ⟨a, ps, rfl, hd, hh, q⟩
    refine cr_dictT hu pins s σ H _ us Q I r ⟨a, _, rfl, hd, ?_, q⟩
    rw [List.map_map] at hh ⊢
    exact hh
  disp {X k v pos} hu := ⟨fun pins s σ H Q I q => (pe_disp1T hu pe_sem pe_sem).run pins s σ H Q I fun p hp =>
    tE_imp (q p hp) fun x H1 h => tE_imp h fun y H2 ⟨e, G, key, s2, r, q⟩ => by
      obtain ⟨b, u, w, rfl, g, p1, p2⟩ := r
      have p1 : u = V.int key.1 := p1
      have p2 : w = V.int key.2 := p2
      subst p1 p2
      exact ⟨e, b, [Sum.inl key.1, Sum.inl key.2], rfl, s2 _ _ g, q⟩⟩
  it a o ps := Itkt a o (ps.map fun p => ([Sum.inl p.1.1, Sum.inl p.1.2], p.2))
  lift h r := .inr ⟨_, h, r⟩
  walk {K G a o ps} g := fun G' H' s1 s2 => by
    have e : H' a = some (.frz o (.dT (ps.map fun p => ([Sum.inl p.1.1, Sum.inl p.1.2], p.2)))) := s2 _ _ (s1 _ _ g)
    refine ⟨fun i hi => ⟨e, by simpa using hi⟩, ⟨e, by simp⟩, fun i x v H'' hx y => ?_⟩
    obtain ⟨rfl, k, w, q, hk, rfl, hq⟩ := y
    obtain ⟨G'', x2, _, g2⟩ := (Ext.refl s2).tup hq
    refine ⟨G'', x2, ?_⟩
    rw [List.getElem?_map] at hx hk
    cases z : ps[i]? with
    | none => rw [z] at hx; cases hx
    | some p =>
      rw [z] at hx hk
      cases hx
      cases hk
      exact ⟨q, _, _, rfl, g2, rfl, rfl⟩
section
variable {X : Cx} {σ : St} {G H : Hp} {P : PV} {e a b tg : Expr} {pos p p2 : Pos} {D : Ends} {κ α : Type} {r1 : Rep κ} {dk : DecidableEq κ} {k1 : DKey κ} {r2 : Rep α}
/-- a new thing is locked at once -/
theorem tE_lock {Q : VK} (h : tE X e σ H fun v H' => ∃ d u, v = .ref d ∧ H' d = some u ∧ Mut (some u) ∧ ∀ od, Q v (upd H' d (.frz od u))) : tE X e σ H Q := .mk fun pins s I => thn (h.run pins s I) fun _ _ ⟨v, H', I', r, d, u, _, hd, mu, q⟩ =>
  let ⟨od, I2⟩ := I'.lock hd mu; ⟨v, _, I2, r, q od⟩
/-- {k: v} -/
theorem ev_disp1 [kc : DKeyC κ] {x : κ} {y : α} (hu : X.A.units + 64 < cLine) (ha : Ev X a σ G H x) (hb : Ev X b σ G H y) : Ev X (.Dict [some a] [b] pos) σ G H (⟨[(x, y)]⟩ : Dct κ α) := fun G1 H1 x1 Q q =>
  tE_len (tE_lock <| .mk fun pins s I => (kc.disp hu).run pins s σ H1 _ I fun p hp => by
    have x2 : Ext G1 H1 G1 (upd H1 p (DKey.obj ([] : List (κ × V)))) := (Ext.refl x1.s).newH hp
    refine ha G1 _ (x1.trans x2) _ fun G3 H3 u x3 _ ru => hb G3 H3 ((x1.trans x2).trans x3) _ fun G4 H4 w x4 l4 rw' => ⟨x4.h _ _ (x3.h _ _ upd_same), G4, x, x4.s, up x4.g ru, p, DKey.obj [(x, w)], rfl, upd_same, DKey.isM _, fun od hl => ?_⟩
    have x5 := (x2.trans x3).trans x4
    have g4 : G4 p = none := (x3.trans x4).off (x1.s.free hp) (upd_same (H := H1) (a := p) (o := DKey.obj ([] : List (κ × V)))) fun xs z => by have := DKey.isM (κ := κ) []; rw [z] at this; exact this
    refine q (upd G4 p (.frz od (DKey.obj [(x, w)]))) _ _ (((x5.wr hp g4).wr hp g4).frz hp upd_same) hl ⟨p, od, [(x, w)], rfl, upd_same, .cons ⟨rfl, up (same_new g4) rw'⟩ .nil⟩)
/-- a dict that stands still -/
class AsLkd (K : PySem.W.Frag) (P : PV) (κ α : outParam Type) (r1 : outParam (Rep κ)) (dk : outParam (DecidableEq κ)) (k1 : outParam (DKey κ)) (r2 : outParam (Rep α)) (d : outParam (Dct κ α)) : Prop where
  lkd : ∀ G H v, P G H v → rep K G v d
instance {K : PySem.W.Frag} {d : Dct κ α} : AsLkd K (Is K d) κ α r1 dk k1 r2 d := ⟨fun _ _ _ h => h⟩
theorem pairD_keys {K : PySem.W.Frag} : ∀ {ps : List (κ × V)} {es : List (κ × α)}, PairD K G ps es → ps.map (·.1) = es.map (·.1)
  | _, _, .nil => rfl
  | _, _, .cons h t => by rw [List.map_cons, List.map_cons, pairD_keys t, h.1]
/-- for k in d -/
theorem ei_keys {d : Dct κ α} [kc : DKeyC κ] [A : AsLkd X.K P κ α r1 dk k1 r2 d] (h : EvP X e σ G H P) : EvI X tg e σ G H (d.kvs.map (·.1)) :=
  ⟨_, pi_keys pe_sem, fun G1 H1 x1 R r => h G1 H1 x1 _ fun G2 H2 v x2 l2 pv => by
    obtain ⟨a, o, ps, e, g, pr⟩ := A.lkd _ _ _ pv
    have hl : d.kvs.length ≤ sizeLine := by
      have z := l2 _ _ (x2.s _ _ g)
      rw [← paired_len pr, ← DKey.len ps]
      exact z
    exact ⟨a, o, e, kc.lift (x2.s _ _ g) (r _ G2 H2 x2 (by rw [List.length_map]; exact hl) (by rw [← pairD_keys pr]; exact kc.walk g))⟩⟩
/-- n = dict(e): a copy, the def's own -/
theorem s_dcopy {d : Dct κ α} [kc : DKeyC κ] [mc : MonoC P] [A : AsDct X.K P κ α r1 dk k1 r2 d] {i : Nat} {n : Str} {cp dp np : Pos} (hN : X.N.Nodup) (sl : Ss X i n) (B : Bl X "dict") (s0 : Same G H) (hu : X.A.units + 64 < cLine) (hok : kc.hok X.prog X.w (d.kvs.map (·.1))) (h : EvP X e σ G H P)
    (k : ∀ G1 H1 q, Ext G H G1 H1 → HLen H1 → H q = none → OwnD X.K G1 H1 q d → D.nx (σ.set i (some (.ref q))) H1) (he : starEach [e] X.env = (false, eval e X.env) :: starEach [] X.env := by rfl)
    (hs : swapsWith (.Call (.Name "dict" dp) [e] [] cp) (some (.Name n np)) pos.line X.env = pure false := by rfl) : tS X (.Assign [.Name n np] (.Call (.Name "dict" dp) [e] [] cp) pos) D σ H :=
  s_of (ps_set hN sl.hN sl.hx pe_sem hs sl.hf) (tE_lenF fun pins s I => (pe_callTy (kc.copy hu) B.g B.m PyProof.Rows.boot_dict (pa_cons pe_sem pa_nil he) (by decide) (by decide) he rfl).run pins s σ H _ I (h G H (Ext.refl s0) _ fun G1 H1 v x _ pv => by
    obtain ⟨a, ps, e, g, pr⟩ := A.dct _ _ _ x.s pv
    refine ⟨a, ps, by rw [e], g, by rw [pairD_keys pr]; exact hok, fun q hq l => ?_⟩
    exact k G1 _ q (x.newH hq) l (x.h.free hq) ⟨⟨ps, upd_same, pr⟩, x.s.free hq⟩))
end
/-- what such a dict's keys hash to -/
def hP (k : Int × Int) : Int := reduceHash (Builtin.Tuple.tupleHashOf [PySem.hashInt k.1, PySem.hashInt k.2])
def boxI (n m : Nat) : List (Int × Int) := (List.range n).flatMap fun (i : Nat) => (List.range m).map fun (j : Nat) => (Int.ofNat i, Int.ofNat j)
def nodupB : List Int → Bool
  | [] => true
  | x :: r => !r.contains x && nodupB r
theorem nodupB_nd : ∀ {l : List Int}, nodupB l = true → l.Nodup
  | [], _ => List.nodup_nil
  | x :: r, h => by
    simp only [nodupB, Bool.and_eq_true, Bool.not_eq_true'] at h
    exact List.nodup_cons.mpr ⟨fun z => (by have := List.contains_iff_mem.mpr z; rw [h.1] at this; cases this), nodupB_nd h.2⟩
theorem box_hash : ((boxI 16 8).map hP).Nodup := nodupB_nd (by decide +kernel)
theorem mem_boxI {n m : Nat} {k : Int × Int} (h1 : 0 ≤ k.1) (h2 : k.1 < n) (h3 : 0 ≤ k.2) (h4 : k.2 < m) : k ∈ boxI n m := by
  refine List.mem_flatMap.mpr ⟨k.1.toNat, List.mem_range.mpr (by omega), List.mem_map.mpr ⟨k.2.toNat, List.mem_range.mpr (by omega), ?_⟩⟩
  obtain ⟨a, b⟩ := k
  simp only at h1 h3 ⊢
  show (((a.toNat : Nat) : Int), ((b.toNat : Nat) : Int)) = (a, b)
  rw [Int.toNat_of_nonneg h1, Int.toNat_of_nonneg h3]
theorem nodup_inj {α β : Type} {f : α → β} : ∀ {l : List α}, (l.map f).Nodup → ∀ x ∈ l, ∀ y ∈ l, f x = f y → x = y
  | [], _, x, hx, _, _, _ => by cases hx
  | a :: r, h, x, hx, y, hy, e => by
    rw [List.map_cons, List.nodup_cons] at h
    rcases List.mem_cons.mp hx with e1 | hx
    · rcases List.mem_cons.mp hy with e2 | hy
      · rw [e1, e2]
      · rw [e1] at e
        exact absurd (e ▸ List.mem_map_of_mem hy) h.1
    · rcases List.mem_cons.mp hy with e2 | hy
      · rw [e2] at e
        exact absurd (e ▸ List.mem_map_of_mem hx) h.1
      · exact nodup_inj h.2 x hx y hy e
theorem nodup_map_on {α β : Type} {f : α → β} : ∀ {l : List α}, l.Nodup → (∀ x ∈ l, ∀ y ∈ l, f x = f y → x = y) → (l.map f).Nodup
  | [], _, _ => List.nodup_nil
  | a :: r, h, k => by
    rw [List.map_cons, List.nodup_cons]
    rw [List.nodup_cons] at h
    refine ⟨fun z => ?_, nodup_map_on h.2 fun x hx y hy => k x (List.mem_cons_of_mem _ hx) y (List.mem_cons_of_mem _ hy)⟩
    obtain ⟨y, hy, e⟩ := List.mem_map.mp z
    exact h.1 (k y (List.mem_cons_of_mem _ hy) a List.mem_cons_self e ▸ hy)
/-- keys of a small box, each once -/
structure Box (ks : List (Int × Int)) : Prop where
  nd : ks.Nodup
  bd : ∀ k ∈ ks, (0 ≤ k.1 ∧ k.1 < 16) ∧ 0 ≤ k.2 ∧ k.2 < 8
theorem Box.hok {P : Program} {w : World} {ks : List (Int × Int)} (h : Box ks) : DKeyC.hok (κ := Int × Int) P w ks :=
  nodup_map_on (f := hP) h.nd fun x hx y hy e =>
    have bx := h.bd x hx
    have by_ := h.bd y hy
    nodup_inj box_hash x (mem_boxI bx.1.1 bx.1.2 bx.2.1 bx.2.2) y (mem_boxI by_.1.1 by_.1.2 by_.2.1 by_.2.2) e
theorem nodup_sub_len {α : Type} [DecidableEq α] : ∀ {l m : List α}, l.Nodup → (∀ x ∈ l, x ∈ m) → l.length ≤ m.length
  | [], _, _, _ => Nat.zero_le _
  | a :: r, m, h, k => by
    rw [List.nodup_cons] at h
    have hm := k a List.mem_cons_self
    have := nodup_sub_len (l := r) (m := m.erase a) h.2 fun x hx => (List.mem_erase_of_ne (show x ≠ a from fun z => h.1 (by rw [← z]; exact hx))).mpr (k x (List.mem_cons_of_mem _ hx))
    rw [List.length_erase_of_mem hm] at this
    have : 0 < m.length := List.length_pos_of_mem hm
    rw [List.length_cons]
    omega
theorem Box.len {ks : List (Int × Int)} (h : Box ks) : ks.length ≤ 128 := nodup_sub_len (m := boxI 16 8) h.nd fun k hk => have b := h.bd k hk; mem_boxI b.1.1 b.1.2 b.2.1 b.2.2
theorem box_one : Box [((0 : Int), (0 : Int))] := ⟨by simp, fun k hk => by rw [List.mem_singleton.mp hk]; decide⟩
theorem dput_keys {κ α : Type} [DecidableEq κ] (kvs : List (κ × α)) (k : κ) (v : α) : (dput kvs k v).map (·.1) = if k ∈ kvs.map (·.1) then kvs.map (·.1) else kvs.map (·.1) ++ [k] := by
  unfold dput
  by_cases h : (kvs.any fun kv => decide (kv.1 = k)) = true
  · have hm : k ∈ kvs.map (·.1) := by
      obtain ⟨p, hp, e⟩ := List.any_eq_true.mp h
      exact List.mem_map.mpr ⟨p, hp, of_decide_eq_true e⟩
    rw [if_pos h, if_pos hm, List.map_map]
    refine List.map_congr_left fun p _ => ?_
    show (if p.1 = k then (p.1, v) else p).1 = p.1
    split <;> rfl
  · have hm : k ∉ kvs.map (·.1) := fun z => by
      obtain ⟨p, hp, e⟩ := List.mem_map.mp z
      exact h (List.any_eq_true.mpr ⟨p, hp, decide_eq_true e⟩)
    rw [if_neg h, if_neg hm, List.map_append]
    rfl
theorem Box.put {α : Type} {kvs : List ((Int × Int) × α)} {k : Int × Int} {v : α} (h : Box (kvs.map (·.1))) (hk : (0 ≤ k.1 ∧ k.1 < 16) ∧ 0 ≤ k.2 ∧ k.2 < 8) : Box ((dput kvs k v).map (·.1)) := by
  rw [dput_keys]
  split
  · exact h
  · rename_i hn
    refine ⟨?_, fun x hx => ?_⟩
    · rw [List.nodup_append]
      refine ⟨h.nd, List.nodup_cons.mpr ⟨by simp, List.nodup_nil⟩, fun a ha b hb z => ?_⟩
      rw [List.mem_singleton.mp hb] at z
      exact hn (z ▸ ha)
    · rcases List.mem_append.mp hx with hx | hx
      · exact h.bd x hx
      · rw [List.mem_singleton.mp hx]; exact hk
end RL

set_option Elab.async false
set_option linter.all false
set_option maxRecDepth 100000
set_option maxHeartbeats 4000000
/-! RG: an own list of own dicts; walks of d.items(); insert. -/
namespace RL
open PySem PySem.Spec PyProof.Rows L2 Rep
theorem gp_imp {α β : Type} {F F' : α → β → Prop} : ∀ {xs : List α} {ys : List β}, (∀ x ∈ xs, ∀ y, F x y → F' x y) → Paired F xs ys → Paired F' xs ys
  | _, _, _, .nil => .nil
  | _, _, h, .cons r t => .cons (h _ List.mem_cons_self _ r) (gp_imp (fun x hx => h x (List.mem_cons_of_mem _ hx)) t)
theorem gp_mem {α β : Type} {F : α → β → Prop} : ∀ {xs : List α} {ys : List β} {x : α}, Paired F xs ys → x ∈ xs → ∃ y, F x y
  | _, _, _, .nil, h => by cases h
  | _, _, _, .cons r t, h => by
    rcases List.mem_cons.mp h with rfl | h
    · exact ⟨_, r⟩
    · exact gp_mem t h
section
variable {κ α : Type} [Rep κ] [DecidableEq κ] [DKey κ] [Rep α] {K : PySem.W.Frag}
theorem OwnD.nl {d : Dct κ α} {G H : Hp} {q : Addr} (o : OwnD K G H q d) : ∀ xs, H q ≠ some (.lst xs) := fun xs z => by
  obtain ⟨ps, e, _⟩ := o.at_
  have l : IsD H q := DKey.isD (κ := κ) (ps := ps) (.inl e)
  rcases l with ⟨kvs, l | ⟨o, l⟩⟩ | ⟨kvs, l | ⟨o, l⟩⟩ <;> rw [z] at l <;> cases l
theorem OwnD.re2 {d : Dct κ α} {G H G' H' : Hp} {q : Addr} (o : OwnD K G H q d) (s : Same G G') (h : H' q = H q) (g : G' q = none) : OwnD K G' H' q d := let ⟨vs, e, p⟩ := o.at_; ⟨⟨vs, h.trans e, pairD_up s p⟩, g⟩
/-- a list of the def's own dicts, the def's own itself -/
structure OwnLD (K : PySem.W.Frag) (H0 G H : Hp) (p : Addr) (ds : List (Dct κ α)) : Prop where
  at_ : ∃ qs : List Addr, H p = some (.lst (qs.map V.ref)) ∧ Paired (fun q d => OwnD K G H q d) qs ds ∧ qs.Nodup ∧ ∀ q ∈ qs, H0 q = none
  off : G p = none
  nw : H0 p = none
variable {ds : List (Dct κ α)} {H0 G H G1 H1 Ha : Hp} {p : Addr}
theorem OwnLD.mono (o : OwnLD K H0 G H p ds) (x : Ext G H G1 H1) : OwnLD K H0 G1 H1 p ds := let ⟨qs, e, pr, nd, nw⟩ := o.at_; ⟨⟨qs, x.h _ _ e, gp_imp (fun _ _ _ r => r.mono x) pr, nd, nw⟩, x.off o.off e, o.nw⟩
theorem OwnLD.back (o : OwnLD K Ha G H p ds) (h : Same H0 Ha) : OwnLD K H0 G H p ds := let ⟨qs, e, pr, nd, nw⟩ := o.at_; ⟨⟨qs, e, pr, nd, fun q hq => h.free (nw q hq)⟩, o.off, h.free o.nw⟩
theorem OwnLD.ex (o : OwnLD K H0 G H p ds) : ∃ u, H p = some u := let ⟨_, e, _⟩ := o.at_; ⟨_, e⟩
/-- .. as it may be read -/
def LDAt (K : PySem.W.Frag) (ds : List (Dct κ α)) : PV := fun G H v => ∃ p qs, v = .ref p ∧ H p = some (.lst (qs.map V.ref)) ∧ Paired (fun q d => OwnD K G H q d) qs ds
instance : MonoC (LDAt K ds) := ⟨fun _ _ _ _ _ x ⟨p, qs, e, g, pr⟩ => ⟨p, qs, e, x.h _ _ g, gp_imp (fun _ _ _ r => r.mono x) pr⟩⟩
theorem OwnLD.pv (o : OwnLD K H0 G H p ds) : LDAt K ds G H (.ref p) := let ⟨qs, e, pr, _⟩ := o.at_; ⟨p, qs, rfl, e, pr⟩
theorem ld_set {G H : Hp} {o' : HO} {d' : Dct κ α} {q : Addr} {qs : List Addr} {ds : List (Dct κ α)} (pr : Paired (fun q d => OwnD K G H q d) qs ds) : ∀ {j : Nat}, qs.Nodup → qs[j]? = some q → OwnD K G (upd H q o') q d' → Paired (fun z d => OwnD K G (upd H q o') z d) qs (ds.set j d') := by
  induction pr with
  | nil => intro j _ h; simp at h
  | cons r t ih =>
    intro j nd h o
    have nd' := List.nodup_cons.mp nd
    cases j with
    | zero =>
      simp only [List.getElem?_cons_zero, Option.some.injEq] at h
      subst h
      exact .cons o (gp_imp (fun z hz d r => r.wr fun e => nd'.1 (by rw [← e]; exact hz)) t)
    | succ j =>
      have h' := List.mem_of_getElem? (show _ = some q by simpa using h)
      exact .cons (r.wr fun e => nd'.1 (by rw [e]; exact h')) (ih nd'.2 (by simpa using h) o)
/-! new dicts, new lists of new dicts -/
def EvND (X : Cx) (e : Expr) (σ : St) (G H : Hp) (d : Dct κ α) : Prop :=
  ∀ G1 H1, Ext G H G1 H1 → ∀ Q : VK, (∀ G2 H2 q, Ext G1 H1 G2 H2 → HLen H2 → H1 q = none → OwnD X.K G2 H2 q d → Q (.ref q) H2) → tE X e σ H1 Q
def EvLD (X : Cx) (e : Expr) (σ : St) (G H : Hp) (ds : List (Dct κ α)) : Prop :=
  ∀ G1 H1, Ext G H G1 H1 → ∀ Q : VK, (∀ G2 H2 p, Ext G1 H1 G2 H2 → HLen H2 → OwnLD X.K H1 G2 H2 p ds → Q (.ref p) H2) → tE X e σ H1 Q
end
section
variable {X : Cx} {σ : St} {G H H0 G0 : Hp} {P : PV} {e a b c tg : Expr} {es : List Expr} {pos : Pos} {D : Ends} {sts : List Stmt} {κ α : Type} {r1 : Rep κ} {dk : DecidableEq κ} {k1 : DKey κ} {r2 : Rep α} {d : Dct κ α} {ds ds2 : List (Dct κ α)} {p : Addr}
theorem ev_vLD {i : Nat} {n : Str} {np : Pos} (s : Sl X i n) (o : OwnLD X.K H0 G H p ds) (h : σ[i]? = some (some (.ref p)) := by rfl) : EvP X (.Name n np) σ G H (LDAt X.K ds) := ev_vP s o.pv h
/-- x[i], a dict of such a list -/
theorem ev_ixLD {i : Int} (h : EvP X a σ G H (LDAt X.K ds)) (hi : Ev X b σ G H i) (h0 : 0 ≤ i) (h1 : i < (ds.length : Int)) (hs : PlainIx b := by intro _ _; rfl) : EvP X (.Subscript a b pos) σ G H (DctAt X.K (ds.getD i.toNat ⟨[]⟩)) :=
  evP_of (pe_ix ix_list pe_sem pe_sem hs) (bin_go h hi fun G1 H1 v u x _ e1 e2 Q q => by
    obtain ⟨p, qs, e, g, pr⟩ := e1
    have hg : ds[i.toNat]? = some (ds.getD i.toNat ⟨[]⟩) := by
      rw [List.getD_eq_getElem?_getD, List.getElem?_eq_getElem (show i.toNat < ds.length by omega)]
      rfl
    obtain ⟨w, hw, o⟩ := paired_get pr hg
    refine ⟨p, _, i, .ref w, e, e2, .of g, ?_, q G1 H1 _ (Ext.refl x.s) o.pv⟩
    unfold atI
    rw [List.length_map, paired_len pr, ixN_of h0 h1]
    show (qs.map V.ref)[i.toNat]? = _
    rw [List.getElem?_map, hw]
    rfl)
/-- x[i][k] = v -/
theorem s_putLD {k : κ} {v : α} {i : Nat} {n : Str} {ix : Int} {sp sp2 np : Pos} (sl : Sl X i n) (hu : X.A.units + 1 < cLine) (s0 : Same G H) (o : OwnLD X.K H0 G H p ds) (hv : Ev X c σ G H v) (hi : Ev X a σ G H ix) (hk : Ev X b σ G H k) (h0 : 0 ≤ ix) (h1 : ix < (ds.length : Int))
    (hz : (ds.getD ix.toNat ⟨[]⟩).kvs.length < sizeLine)
    (kk : ∀ G1 H1 q o', Ext G H G1 H1 → HLen H1 → H0 q = none → G1 q = none → (∀ xs, H1 q ≠ some (.lst xs)) → OwnLD X.K H0 G1 (upd H1 q o') p (ds.set ix.toNat (⟨dput (ds.getD ix.toNat ⟨[]⟩).kvs k v⟩ : Dct κ α)) → D.nx σ (upd H1 q o')) (hq : σ[i]? = some (some (.ref p)) := by rfl) (hps : PlainIx a := by intro _ _; rfl)
    (hs : swapsWith c (some (.Subscript (.Subscript (.Name n np) a sp2) b sp)) pos.line X.env = pure false := by rfl) : tS X (.Assign [.Subscript (.Subscript (.Name n np) a sp2) b sp] c pos) D σ H := by
  refine s_of (ps_dput hu (pe_ix ix_list (pe_var sl.hN sl.hv sl.nm.hd sl.nm.hcd) pe_sem hps) pe_sem pe_sem hs) ?_
  refine hv G H (Ext.refl s0) _ fun G1 H1 w x1 _ rw' => ⟨_, hq, hi G1 H1 x1 _ fun G2 H2 u x2 _ ru => ?_⟩
  obtain ⟨qs, e, pr, nd, nw⟩ := (o.mono (x1.trans x2)).at_
  have hg : ds[ix.toNat]? = some (ds.getD ix.toNat ⟨[]⟩) := by
    rw [List.getD_eq_getElem?_getD, List.getElem?_eq_getElem (show ix.toNat < ds.length by omega)]
    rfl
  obtain ⟨q, hqq, oq⟩ := paired_get pr hg
  refine ⟨p, _, ix, .ref q, rfl, ru, .of e, ?_, ?_⟩
  · unfold atI
    rw [List.length_map, paired_len pr, ixN_of h0 h1]
    show (qs.map V.ref)[ix.toNat]? = _
    rw [List.getElem?_map, hqq]
    rfl
  · refine hk G2 H2 (x1.trans x2) _ fun G3 H3 y x3 l3 ry => ?_
    have oq3 := oq.mono x3
    obtain ⟨ps, eq, prq⟩ := oq3.at_
    have hpq : p ≠ q := fun z => oq3.nl _ (by rw [← z]; exact x3.h _ _ e)
    refine ⟨q, _, rfl, DKey.put (k := k) x3.s ry eq (by rw [paired_len prq]; exact hz), kk G3 H3 q _ ((x1.trans x2).trans x3) l3 (nw q (List.mem_of_getElem? hqq)) oq3.off oq3.nl ?_⟩
    refine ⟨⟨qs, by rw [upd_ne hpq]; exact x3.h _ _ e, ld_set (gp_imp (fun _ _ _ r => r.mono x3) pr) nd hqq ⟨⟨_, upd_same, pairD_put (k := k) prq (up (x2.trans x3).g rw')⟩, oq3.off⟩, nd, nw⟩, (o.mono ((x1.trans x2).trans x3)).off, o.nw⟩
theorem evND_of {t : TE} (hp : PE X e t) (k : ∀ G1 H1, Ext G H G1 H1 → ∀ Q : VK, (∀ G2 H2 q, Ext G1 H1 G2 H2 → H1 q = none → OwnD X.K G2 H2 q d → Q (.ref q) H2) → t σ H1 Q) : EvND X e σ G H d :=
  fun G1 H1 x1 _ q => tE_lenF fun pins s I => hp.run pins s σ H1 _ I (k G1 H1 x1 _ fun G2 H2 a x n o hl => q G2 H2 a x hl n o)
theorem evLD_of {t : TE} (hp : PE X e t) (k : ∀ G1 H1, Ext G H G1 H1 → ∀ Q : VK, (∀ G2 H2 p, Ext G1 H1 G2 H2 → OwnLD X.K H1 G2 H2 p ds → Q (.ref p) H2) → t σ H1 Q) : EvLD X e σ G H ds :=
  fun G1 H1 x1 _ q => tE_lenF fun pins s I => hp.run pins s σ H1 _ I (k G1 H1 x1 _ fun G2 H2 a x o hl => q G2 H2 a x hl o)
/-- dict(d) -/
theorem evND_copy [kc : DKeyC κ] [mc : MonoC P] [A : AsDct X.K P κ α r1 dk k1 r2 d] {dp : Pos} (B : Bl X "dict") (hu : X.A.units + 64 < cLine) (hok : kc.hok X.prog X.w (d.kvs.map (·.1))) (h : EvP X e σ G H P)
    (he : starEach [e] X.env = (false, eval e X.env) :: starEach [] X.env := by rfl) : EvND X (.Call (.Name "dict" dp) [e] [] pos) σ G H d :=
  evND_of (pe_callTy (kc.copy hu) B.g B.m PyProof.Rows.boot_dict (pa_cons pe_sem pa_nil he) (by decide) (by decide) he rfl) fun G1 H1 x1 Q q => h G1 H1 x1 _ fun G2 H2 v x _ pv => by
    obtain ⟨a, ps, e, g, pr⟩ := A.dct _ _ _ x.s pv
    exact ⟨a, ps, by rw [e], g, by rw [pairD_keys pr]; exact hok, fun p hp => q G2 _ p (x.newH hp) (x.h.free hp) ⟨⟨ps, upd_same, pr⟩, x.s.free hp⟩⟩
/-- {} -/
theorem evND_nil : EvND X (.Dict [] [] pos) σ G H (⟨[]⟩ : Dct κ α) :=
  evND_of (DKey.new (κ := κ)) fun G1 H1 x1 Q q p hp => q G1 _ p ((Ext.refl x1.s).newH hp) hp ⟨⟨[], upd_same, .nil⟩, x1.s.free hp⟩
/-- [d] -/
theorem evLD_one (h : EvND X e σ G H d) (he : starEach [e] X.env = (false, eval e X.env) :: starEach [] X.env := by rfl) : EvLD X (.List [e] pos) σ G H [d] :=
  evLD_of (pe_lst (pa_cons pe_sem pa_nil he)) fun G1 H1 x1 Q k => h G1 H1 x1 _ fun G2 H2 q x2 _ hq ow => by
    refine ⟨by show 1 ≤ sizeLine; rw [sizeLine_eq]; decide, fun a ha => ?_⟩
    have hne : q ≠ a := fun z => by obtain ⟨u, hu⟩ := ow.ex; rw [z, ha] at hu; cases hu
    refine k _ _ a (x2.newH ha) ⟨⟨[q], upd_same, .cons (ow.wr hne) .nil, List.nodup_cons.mpr ⟨by simp, List.nodup_nil⟩, fun z hz => by rw [List.mem_singleton.mp hz]; exact hq⟩, x2.s.free ha, x2.h.free ha⟩
/-- a + b -/
theorem evLD_cat (ha : EvLD X a σ G H ds) (hb : EvLD X b σ G H ds2) (hl : ds.length + ds2.length ≤ sizeLine) : EvLD X (.BinOp a .Add b pos) σ G H (ds ++ ds2) :=
  evLD_of (pe_op op_cat pe_sem pe_sem) fun G1 H1 x1 Q k => ha G1 H1 x1 _ fun G2 H2 p1 x2 _ o1 => hb G2 H2 (x1.trans x2) _ fun G3 H3 p2 x3 _ o2 => by
    obtain ⟨qs1, e1, pr1, nd1, nw1⟩ := o1.at_
    obtain ⟨qs2, e2, pr2, nd2, nw2⟩ := o2.at_
    refine ⟨p1, p2, _, _, rfl, rfl, x3.h _ _ e1, e2, by rw [List.length_map, List.length_map, paired_len pr1, paired_len pr2]; exact hl, fun p hp => ?_⟩
    have x4 := x2.trans x3
    have w1 : Paired (fun q d => OwnD X.K G3 (upd H3 p (.lst (qs1.map V.ref ++ qs2.map V.ref))) q d) qs1 ds := gp_imp (fun q hq d r => (r.mono x3).wr fun z => by
      obtain ⟨u, hu⟩ := (r.mono x3).ex
      rw [z, hp] at hu; cases hu) pr1
    have w2 : Paired (fun q d => OwnD X.K G3 (upd H3 p (.lst (qs1.map V.ref ++ qs2.map V.ref))) q d) qs2 ds2 := gp_imp (fun q hq d r => r.wr fun z => by
      obtain ⟨u, hu⟩ := r.ex
      rw [z, hp] at hu; cases hu) pr2
    refine k G3 _ p (x4.newH hp) ⟨⟨qs1 ++ qs2, by rw [List.map_append]; exact upd_same, paired_app w1 w2, ?_, fun q hq => ?_⟩, x4.s.free hp, x4.h.free hp⟩
    · rw [List.nodup_append]
      refine ⟨nd1, nd2, fun a ha b hb z => ?_⟩
      obtain ⟨d1, r1⟩ := gp_mem pr1 ha
      obtain ⟨u, hu⟩ := r1.ex
      rw [z, nw2 b hb] at hu
      cases hu
    · rcases List.mem_append.mp hq with hq | hq
      · exact nw1 q hq
      · exact x2.h.free (nw2 q hq)
theorem ld_goP {β : Type} [Rep β] {elt : Expr} {scope : Scope} {xs : List β} {f : β → Dct κ α} {vs : List Nat} {i : Nat} {wi : TI}
    (hi : ∀ G1 H1, Ext G H G1 H1 → ∀ R : It → Hp → Prop, (∀ J G2 H2, Ext G1 H1 G2 H2 → xs.length ≤ sizeLine → WalkOf X.K J G2 xs → R J H2) → wi σ H1 R) (hw : ∀ v, wipe ((wipe σ vs).set i (some v)) vs = wipe σ vs)
    (he : ∀ x v G1 H1, x ∈ xs → Ext G H G1 H1 → rep X.K G1 v x → ∀ s H0 C cl fp, EvND (InB X scope s H0 C cl fp) elt ((wipe σ vs).set i (some v)) G1 H1 (f x)) :
    ∀ G1 H1, Ext G H G1 H1 → ∀ Q : VK, (∀ G2 H2 p, Ext G1 H1 G2 H2 → OwnLD X.K H1 G2 H2 p (xs.map f) → Q (.ref p) H2) → tLc wi (gName i) (lcT X scope []) (lcE X scope elt) vs σ H1 Q := by
  intro G1 H1 x1 Q k
  refine hi G1 H1 x1 _ fun J G2 H2 x2 hl hwk Dd hD => ?_
  have hD1 : H1 Dd = none := x2.h.free hD
  let Pv : Nat → Hp → Prop := fun n H' => ∃ G' qs, Ext G1 H1 G' H' ∧ Same G2 G' ∧ G' Dd = none ∧ H' Dd = some (.lst (qs.map V.ref)) ∧ qs.length = n ∧ Paired (fun q d => OwnD X.K G' H' q d) qs ((xs.take n).map f) ∧ qs.Nodup ∧ ∀ q ∈ qs, H1 q = none
  refine ⟨fun n m H' => m = xs.length - n ∧ n ≤ xs.length ∧ Pv n H', ⟨xs.length, rfl, Nat.zero_le _, G2, [], x2.newH hD, Same.refl _, x2.s.free hD, upd_same, rfl, .nil, List.nodup_nil, fun z hz => by cases hz⟩, ?_⟩
  rintro n m H' ⟨rfl, hn, G', qs, x', sg, gD, eD, hq, pr, nd, nw⟩
  obtain ⟨go, stop, yld⟩ := hwk G' H' sg x'.s
  by_cases hlt : n < xs.length
  · have hx : xs[n]? = some xs[n] := List.getElem?_eq_getElem hlt
    refine .inr ⟨go n hlt, Pv (n + 1), fun H'' z => ⟨_, by omega, rfl, hlt, z⟩, fun v H'' y => ?_⟩
    obtain ⟨G'', x'', rv⟩ := yld n _ v H'' hx y
    have gD2 : G'' Dd = none := x''.off gD eD
    have eD2 := x''.h _ _ eD
    refine ⟨hw v, fun s H0 C cl fp pins s' I => pts_nil.run pins s' _ H'' _ I fun s1 H01 C1 cl1 fp1 => ?_⟩
    refine he _ v G'' H'' (List.getElem_mem hlt) (x1.trans (x'.trans x'')) rv s1 H01 C1 cl1 fp1 G'' H'' (Ext.refl x''.s) _ fun G3 H3 q x3 _ hq0 oq => ?_
    have x03 := x''.trans x3
    have eD3 := x3.h _ _ eD2
    have gD3 : G3 Dd = none := x3.off gD2 eD2
    have hqD : q ≠ Dd := fun z => by rw [z, eD2] at hq0; cases hq0
    have hqn : q ∉ qs := fun z => by
      obtain ⟨d0, r0⟩ := gp_mem pr z
      obtain ⟨u, hu⟩ := (r0.mono x'').ex
      rw [hq0] at hu; cases hu
    have xx : Ext G1 H1 G3 H3 := (x'.trans x'').trans x3
    have ek : (xs.take (n + 1)).map f = (xs.take n).map f ++ [f xs[n]] := by rw [List.take_add_one, hx, List.map_append]; rfl
    have w1 : Paired (fun z d => OwnD X.K G3 (upd H3 Dd (.lst (qs.map V.ref ++ [V.ref q]))) z d) qs ((xs.take n).map f) := gp_imp (fun q' hq' d r => (r.mono x03).wr fun z => (r.mono x03).nl _ (by rw [z]; exact eD3)) pr
    refine ⟨qs.map V.ref, eD3, by rw [List.length_map, hq]; exact Nat.lt_of_lt_of_le hlt hl, G3, qs ++ [q], xx.wr hD1 gD3, sg.trans x03.g, gD3, by rw [List.map_append]; exact upd_same, by rw [List.length_append, hq]; rfl, ?_, ?_, fun z hz => ?_⟩
    · rw [ek]
      exact paired_app w1 (.cons (oq.wr hqD) .nil)
    · rw [List.nodup_append]
      refine ⟨nd, List.nodup_cons.mpr ⟨by simp, List.nodup_nil⟩, fun a ha b hb z => ?_⟩
      rw [List.mem_singleton.mp hb] at z
      exact hqn (z ▸ ha)
    · rcases List.mem_append.mp hz with hz | hz
      · exact nw z hz
      · rw [List.mem_singleton.mp hz]; exact (x'.trans x'').h.free hq0
  · have e : n = xs.length := by omega
    subst e
    rw [List.take_length] at pr
    exact .inl ⟨stop, k G' H' Dd x' ⟨⟨qs, eD, pr, nd, nw⟩, gD, hD1⟩⟩
/-- [dict(..) for n in iter] -/
theorem evLD_lc {β : Type} [Rep β] {elt iter : Expr} {scope : Scope} {xs : List β} {n : Str} {np : Pos} {i : Nat} (f : β → Dct κ α) (hc : X.calm = true) (hN : X.N.Nodup) (hi : EvI X (.Name n np) iter σ G H xs) (own : List (Str × Nat)) (ok : BlkOk X.N X.env.scope scope own)
    (hg : ∀ (s : Shared) (H : Hp) (C : Addr) (cl : List (Str × Addr)) (fp : List Addr), PG (X.blk s H scope (compEnvC scope cl C X.env) fp) (.Name n np) (gName i))
    (he : ∀ x v G1 H1, x ∈ xs → Ext G H G1 H1 → rep X.K G1 v x → ∀ s H0 C cl fp, EvND (InB X scope s H0 C cl fp) elt ((wipe σ (own.map (·.2))).set i (some v)) G1 H1 (f x))
    (hw : ∀ v, wipe ((wipe σ (own.map (·.2))).set i (some v)) (own.map (·.2)) = wipe σ (own.map (·.2)) := by intro _; rfl) (hs : ∀ x, foldedSetIterable iter X.env x = pure x := by intro _; rfl) :
    EvLD X (.ListComp elt [⟨.Name n np, iter, [], 0⟩] scope pos) σ G H (xs.map f) := by
  obtain ⟨wi, pi, hi⟩ := hi
  exact evLD_of (pe_lc hc hN pi ok hg pts_lc pe_lcE hs) (ld_goP hi hw he)
/-- n = such a list -/
theorem s_setLD {i : Nat} {n : Str} {np : Pos} (hN : X.N.Nodup) (sl : Ss X i n) (s0 : Same G H) (h : EvLD X e σ G H ds) (k : ∀ G1 H1 p, Ext G H G1 H1 → HLen H1 → OwnLD X.K H G1 H1 p ds → D.nx (σ.set i (some (.ref p))) H1)
    (hs : swapsWith e (some (.Name n np)) pos.line X.env = pure false := by rfl) : tS X (.Assign [.Name n np] e pos) D σ H :=
  s_of (ps_set hN sl.hN sl.hx pe_sem hs sl.hf) (h G H (Ext.refl s0) _ fun G1 H1 p x l o => k G1 H1 p x l o)
theorem ld_lockL : ∀ {qs : List Addr} {ds : List (Dct κ α)} {G H : Hp}, Paired (fun q d => OwnD X.K G H q d) qs ds → qs.Nodup → (∀ q ∈ qs, H0 q = none) → Ext G0 H0 G H →
    (∀ G' H', Ext G0 H0 G' H' → Same G G' → (∀ b, b ∉ qs → H' b = H b ∧ G' b = G b) → Paired (fun q d => rep X.K G' (.ref q) d) qs ds → tSs X sts D σ H') → tSs X sts D σ H
  | _, _, G, H, .nil, _, _, x0, k => k G H x0 (Same.refl _) (fun _ _ => ⟨rfl, rfl⟩) .nil
  | _, _, G, H, .cons r t, nd, nw, x0, k => by
    rename_i q d qs ds
    have nd' := List.nodup_cons.mp nd
    refine OwnD.lock r x0 (nw q List.mem_cons_self) fun u x1 r1 => ?_
    refine ld_lockL (gp_imp (fun z hz d' rz => ?_) t) nd'.2 (fun z hz => nw z (List.mem_cons_of_mem _ hz)) x1 fun G' H' x2 sg keep pr => ?_
    · have hne : z ≠ q := fun c => nd'.1 (c ▸ hz)
      exact rz.re2 (same_new r.off) (upd_ne hne) ((upd_ne hne).trans rz.off)
    · refine k G' H' x2 ((same_new r.off).trans sg) (fun b hb => ?_) (.cons (up sg r1) pr)
      have hb1 : b ≠ q := fun c => hb (c ▸ List.mem_cons_self)
      obtain ⟨e1, e2⟩ := keep b fun c => hb (List.mem_cons_of_mem _ c)
      exact ⟨e1.trans (upd_ne hb1), e2.trans (upd_ne hb1)⟩
theorem refs_up {K : PySem.W.Frag} {G' G'' : Hp} (ss : Same G' G'') : ∀ {qs : List Addr} {ds : List (Dct κ α)}, Paired (fun q d => rep K G' (.ref q) d) qs ds → Paired (rep K G'') (qs.map V.ref) ds
  | _, _, .nil => .nil
  | _, _, .cons r t => .cons (up ss r) (refs_up ss t)
/-- .. from now on as it is -/
theorem OwnLD.lock (o : OwnLD X.K H0 G H p ds) (x0 : Ext G0 H0 G H)
    (k : ∀ G' H', Ext G0 H0 G' H' → Same G G' → (∀ {β : Type} [Rep β] {q : Addr} {xs : List β}, q ≠ p → Own X.K G H q xs → Own X.K G' H' q xs) → rep X.K G' (.ref p) ds → tSs X sts D σ H') : tSs X sts D σ H := by
  obtain ⟨qs, e, pr, nd, nw⟩ := o.at_
  refine ld_lockL pr nd nw x0 fun G' H' x1 sg keep pr' => ?_
  have np : p ∉ qs := fun z => by
    obtain ⟨d, r⟩ := gp_mem pr z
    exact r.nl _ e
  obtain ⟨e1, e2⟩ := keep p np
  have hp : G' p = none := e2.trans o.off
  have ss : Same G' (upd G' p (.lst (qs.map V.ref))) := same_new hp
  refine k (upd G' p (.lst (qs.map V.ref))) H' (x1.frz o.nw (e1.trans e)) (sg.trans ss) (fun {β _ q xs} hne oq => ?_) ⟨p, qs.map V.ref, rfl, upd_same, ?_⟩
  · obtain ⟨vs, eq, prq⟩ := oq.at_
    have nq : q ∉ qs := fun z => by
      obtain ⟨d, r⟩ := gp_mem pr z
      exact r.nl _ eq
    obtain ⟨f1, f2⟩ := keep q nq
    exact ⟨⟨vs, f1.trans eq, pair_up (sg.trans ss) prq⟩, by rw [upd_ne hne]; exact f2.trans oq.off⟩
  · exact refs_up ss pr'
/-- for k, v in d.items() -/
theorem ei_items {d : Dct Int α} {elts : List Expr} {kk : Nat} {tpos ap cp : Pos} [A : AsLkd X.K P Int α instRepInt inferInstance inferInstance r2 d] (h : EvP X e σ G H P) (hbase : attributeBase e "items" X.env (eval e X.env) = eval e X.env := by rfl) (hline : (ap.endLine == cp.line) = true := by rfl) : EvI X (.Tuple elts kk tpos) (.Call (.Attribute e "items" ap) [] [] cp) σ G H d.kvs :=
  ⟨_, pi_items pe_sem hbase hline, fun G1 H1 x1 R r => h G1 H1 x1 _ fun G2 H2 v x2 l2 pv => by
    obtain ⟨a, o, ps, e, g, pr⟩ := A.lkd _ _ _ pv
    have hl : d.kvs.length ≤ sizeLine := by
      have z := l2 _ _ (x2.s _ _ g)
      rw [← paired_len pr, ← DKey.len ps]
      exact z
    refine ⟨a, o, _, e, x2.s _ _ g, r _ G2 H2 x2 hl fun G' H' s1 s2 => ?_⟩
    have eq : H' a = some (.frz o (.dK (ps.map fun p => (Sum.inl p.1, p.2)))) := s2 _ _ (s1 _ _ g)
    refine ⟨fun i hi => ⟨eq, by rw [List.length_map, paired_len pr]; exact hi⟩, ⟨eq, by rw [List.length_map, paired_len pr]; exact Nat.le_refl _⟩, fun i x v H'' hx y => ?_⟩
    obtain ⟨z, hz, e1, rz⟩ := paired_get pr hx
    obtain ⟨T, kv, w, hk, rfl, hT, rfl⟩ := y
    rw [List.getElem?_map, hz] at hk
    cases hk
    obtain ⟨x1, x2⟩ := x
    have e1 : z.1 = x1 := e1
    exact pair_new (x := x1) (y := x2) (K := X.K) s2 hT (by rw [← e1]; rfl) (up s1 rz)⟩
/-- x.insert(0, y) -/
theorem s_insert0 {β : Type} [Rep β] {xs : List β} {y : β} {i : Nat} {n : Str} {q : Addr} {kk : Nat} {ap cp np p0 : Pos} (sl : Sl X i n) (s0 : Same G H) (o : Own X.K G H q xs) (h : Ev X e σ G H y) (hz : xs.length < sizeLine)
    (k : ∀ G1 H1 vs', Ext G H G1 H1 → HLen H1 → Own X.K G1 (upd H1 q (.lst vs')) q (y :: xs) → D.nx σ (upd H1 q (.lst vs'))) (h0 : σ[i]? = some (some (.ref q)) := by rfl)
    (hbase : attributeBase (.Name n np) "insert" X.env (eval (.Name n np) X.env) = eval (.Name n np) X.env := by rfl)
    (hfew : ((backTo cp (starEach [.Constant (.int 0) kk p0, e] X.env)).all (fun x => !x.1) && (backToKw cp (keywordEach [] X.env)).all (fun x => x.1.isSome)
      && decide ([.Constant (.int 0) kk p0, e].length + ([] : List Keyword).length + (if ([] : List Keyword).isEmpty then 0 else 1) < 30)) = true := by rfl)
    (hline : (ap.endLine == cp.line) = true := by rfl) (he : starEach [.Constant (.int 0) kk p0, e] X.env = (false, eval (.Constant (.int 0) kk p0) X.env) :: starEach [e] X.env := by rfl) (he2 : starEach [e] X.env = (false, eval e X.env) :: starEach [] X.env := by rfl)
    (hplain : (backTo cp (starEach [e] X.env)).any (·.1) = false := by rfl)
    (hsw : swapsWith (.Call (.Attribute (.Name n np) "insert" ap) [.Constant (.int 0) kk p0, e] [] cp) none pos.line X.env = pure false := by rfl) :
    tS X (.Expr (.Call (.Attribute (.Name n np) "insert" ap) [.Constant (.int 0) kk p0, e] [] cp) pos) D σ H := by
  obtain ⟨vs, eq, pr⟩ := o.at_
  refine s_of (ps_expr (pe_bm PySem.F.plainAttrs_list PySem.F.slot_list_insert PySem.F.type_list_insert mt_insert (pe_var sl.hN sl.hv sl.nm.hd sl.nm.hcd) (pa_cons pe_sem (pa_cons pe_sem pa_nil he2) he) hbase hfew hline he hplain) hsw) ?_
  refine ⟨_, h0, .inl ⟨rfl, _, SqL.of eq⟩, (ev_int (σ := σ) (G := G) (H := H) : Ev X (.Constant (.int 0) kk p0) σ G H (0 : Int)) G H (Ext.refl s0) _ fun G1 H1 w0 x1 _ r0 => h G1 H1 x1 _ fun G2 H2 w x2 l2 rw' => ?_⟩
  obtain ⟨vs, eq, pr⟩ := (o.mono (x1.trans x2)).at_
  have r0 : w0 = V.int 0 := r0
  subst r0
  refine ⟨q, vs, 0, w, rfl, rfl, eq, by rw [paired_len pr]; exact hz, by decide, by decide, ?_⟩
  show D.nx σ (upd H2 q (.lst ([] ++ [w] ++ vs)))
  exact k G2 H2 _ (x1.trans x2) l2 ⟨⟨_, upd_same, .cons rw' pr⟩, (o.mono (x1.trans x2)).off⟩
/-! sorted(d), dict(pairs): int keys -/
theorem rd_dk {ps : List (Int × V)} {a : Addr} (g : Rd H a (DKey.obj ps)) : Rd H a (.dK (ps.map fun p => (Sum.inl p.1, p.2))) := g
theorem evN_sortedDI {p : Pos} {d : Dct Int α} [mc : MonoC P] [A : AsDct X.K P Int α instRepInt inferInstance inferInstance r2 d] (hc : X.calm = true) (B : Bl X "sorted") (h64 : d.kvs.length < 64) (h : EvP X e σ G H P) (he : starEach [e] X.env = (false, eval e X.env) :: starEach [] X.env := by rfl) :
    EvN X (.Call (.Name "sorted" p) [e] [] pos) σ G H (Is X.K (isort (d.kvs.map (·.1)))) :=
  evN_of (pe_callB (call_sortedDI hc) B.g B.m PyProof.Rows.boot_sorted (pa_cons pe_sem pa_nil he) (by decide) (by decide) he rfl) fun G1 H1 x1 Q q => h G1 H1 x1 _ fun G2 H2 v x2 _ pv => by
    obtain ⟨a, ps, e, g, pr⟩ := A.dct _ _ _ x2.s pv
    refine ⟨a, _, d.kvs.map (·.1), by rw [e], rd_dk g, ?_, by rw [List.length_map]; exact h64, fun ns' p perm srt hp => ?_⟩
    · rw [← pairD_keys pr, List.map_map, List.map_map]
      rfl
    have e : ns' = isort (d.kvs.map (·.1)) := sorted_one (perm.trans (isort_perm _).symm) srt (isort_sorted _)
    subst e
    exact q (upd G2 p (.lst _)) _ _ (x2.new hp) ⟨p, _, rfl, upd_same, ints_paired _⟩ fun p' e => by cases e; exact x2.h.free hp
theorem ev_sortedDI {p : Pos} {d : Dct Int α} [mc : MonoC P] [A : AsDct X.K P Int α instRepInt inferInstance inferInstance r2 d] (hc : X.calm = true) (B : Bl X "sorted") (h64 : d.kvs.length < 64) (h : EvP X e σ G H P) (he : starEach [e] X.env = (false, eval e X.env) :: starEach [] X.env := by rfl) :
    Ev X (.Call (.Name "sorted" p) [e] [] pos) σ G H (isort (d.kvs.map (·.1))) := (evN_sortedDI hc B h64 h he).ev
theorem Own.ne_nl {β : Type} [Rep β] {K : PySem.W.Frag} {q q' : Addr} {xs : List β} (o : Own K G H q' xs) (h : ∀ xs, H q ≠ some (.lst xs)) : q' ≠ q := fun z => let ⟨vs, e, _⟩ := o.at_; h vs (by rw [← z]; exact e)
def dmerge {κ α : Type} [DecidableEq κ] (xs : List (κ × α)) : List (κ × α) := xs.foldl (fun acc kv => dput acc kv.1 kv.2) []
theorem merge_pair {K : PySem.W.Frag} : ∀ {ps : List (Int × V)} {xs : List (Int × α)} {qs : List (Int × V)} {ys : List (Int × α)}, PairD K G ps xs → PairD K G qs ys →
    ∃ rs : List (Int × V), mergeK (qs.map fun p => ((Sum.inl p.1 : Key), p.2)) (ps.map fun p => (Sum.inl p.1, p.2)) = rs.map (fun p => (Sum.inl p.1, p.2)) ∧ PairD K G rs (xs.foldl (fun acc kv => dput acc kv.1 kv.2) ys)
  | [], [], qs, ys, .nil, h => ⟨qs, rfl, h⟩
  | p :: ps, x :: xs, qs, ys, .cons r t, h => by
    have e1 : p.1 = x.1 := r.1
    obtain ⟨rs, e, pr⟩ := merge_pair (qs := putK qs p.1 p.2) (ys := dput ys x.1 x.2) t (by rw [e1]; exact pairD_put h r.2)
    refine ⟨rs, ?_, pr⟩
    rw [← e]
    show mergeK (putK (qs.map fun p => ((Sum.inl p.1 : Key), p.2)) (Sum.inl p.1) p.2) _ = _
    rw [map_put (f := (Sum.inl : Int → Key)) (fun _ _ => Sum.inl.inj) qs p.1 p.2]
theorem unpairs {K : PySem.W.Frag} {H : Hp} (s : Same G H) : ∀ {us : List V} {xs : List (Int × α)}, Paired (rep K G) us xs → ∃ (qs : List Addr) (ps : List (Int × V)), us = qs.map V.ref ∧ PairD K G ps xs ∧ Paired (fun p (kv : Key × V) => SqT K H p [kV kv.1, kv.2]) qs (ps.map fun p => (Sum.inl p.1, p.2))
  | _, _, .nil => ⟨[], [], rfl, .nil, .nil⟩
  | _, _, .cons r t => by
    obtain ⟨qs, ps, e1, e2, e3⟩ := unpairs s t
    obtain ⟨q, u, w, e, g, p1, p2⟩ := r
    have p1 : u = V.int _ := p1
    refine ⟨q :: qs, (_, w) :: ps, by rw [e, e1]; rfl, .cons ⟨rfl, p2⟩ e2, .cons (.of ?_) e3⟩
    rw [s _ _ g, p1]
    rfl
/-- dict(e), e a list of pairs (int, ..) -/
theorem evND_pairs {p : Pos} {xs : List (Int × α)} [mc : MonoC P] [S : AsSeq X.K P (Int × α) instRepProd xs] (hc : X.calm = true) (B : Bl X "dict") (h : EvP X e σ G H P) (he : starEach [e] X.env = (false, eval e X.env) :: starEach [] X.env := by rfl) :
    EvND X (.Call (.Name "dict" p) [e] [] pos) σ G H (⟨dmerge xs⟩ : Dct Int α) :=
  evND_of (pe_callTy (call_dictP hc) B.g B.m PyProof.Rows.boot_dict (pa_cons pe_sem pa_nil he) (by decide) (by decide) he rfl) fun G1 H1 x1 Q q => h G1 H1 x1 _ fun G2 H2 v x _ pv => by
    obtain ⟨a, us, e, g, pr⟩ := S.seq _ _ _ x.s pv
    obtain ⟨qs, ps, e1, e2, e3⟩ := unpairs x.s pr
    obtain ⟨rs, e4, e5⟩ := merge_pair (G := G2) (qs := []) (ys := []) e2 .nil
    refine ⟨a, qs, _, by rw [e], by rw [← e1]; exact g, e3, fun p hp => ?_⟩
    rw [show mergeK [] (ps.map fun p => ((Sum.inl p.1 : Key), p.2)) = _ from e4]
    exact q G2 _ p (x.newH hp) (x.h.free hp) ⟨⟨rs, upd_same, e5⟩, x.s.free hp⟩
/-- n = a new dict, the def's own -/
theorem s_setND {i : Nat} {n : Str} {np : Pos} (hN : X.N.Nodup) (sl : Ss X i n) (s0 : Same G H) (h : EvND X e σ G H d) (k : ∀ G1 H1 q, Ext G H G1 H1 → HLen H1 → H q = none → OwnD X.K G1 H1 q d → D.nx (σ.set i (some (.ref q))) H1)
    (hs : swapsWith e (some (.Name n np)) pos.line X.env = pure false := by rfl) : tS X (.Assign [.Name n np] e pos) D σ H :=
  s_of (ps_set hN sl.hN sl.hx pe_sem hs sl.hf) (h G H (Ext.refl s0) _ fun G1 H1 q x l n o => k G1 H1 q x l n o)
end
end RL

set_option Elab.async false
set_option linter.all false
set_option maxRecDepth 100000
set_option maxHeartbeats 4000000
/-! RN: more that is drawn: tuples, comprehensions, sorted, a place set, a place taken away; lists of two unlike things. -/
namespace RL
open PySem PySem.Spec PyProof.Rows L2 Rep
/-- drawn item by item -/
def dmap {α β : Type} (f : α → List Int → β × List Int) : List α → List Int → List β × List Int
  | [], st => ([], st)
  | x :: xs, st => ((f x st).1 :: (dmap f xs (f x st).2).1, (dmap f xs (f x st).2).2)
theorem dmap_snoc {α β : Type} {f : α → List Int → β × List Int} {x : α} : ∀ (xs : List α) (st : List Int), dmap f (xs ++ [x]) st = ((dmap f xs st).1 ++ [(f x (dmap f xs st).2).1], (f x (dmap f xs st).2).2)
  | [], st => rfl
  | y :: ys, st => by
    show ((f y st).1 :: (dmap f (ys ++ [x]) (f y st).2).1, (dmap f (ys ++ [x]) (f y st).2).2) = _
    rw [dmap_snoc ys]
    rfl
theorem dmap_len {α β : Type} {f : α → List Int → β × List Int} : ∀ (xs : List α) (st : List Int), (dmap f xs st).1.length = xs.length
  | [], _ => rfl
  | x :: xs, st => by
    show (dmap f xs (f x st).2).1.length + 1 = xs.length + 1
    rw [dmap_len xs]
/-- what holds of the list all along -/
theorem dmap_inv {α β : Type} {f : α → List Int → β × List Int} {J : List Int → Prop} : ∀ {xs : List α} {st : List Int}, J st → (∀ x ∈ xs, ∀ st, J st → J (f x st).2) → J (dmap f xs st).2
  | [], _, h, _ => h
  | y :: ys, st, h, k => dmap_inv (xs := ys) (st := (f y st).2) (k y List.mem_cons_self st h) fun x hx => k x (List.mem_cons_of_mem _ hx)
/-- .. and of the items -/
theorem dmap_all {α β : Type} {f : α → List Int → β × List Int} {J : List Int → Prop} {F : β → Prop} : ∀ {xs : List α} {st : List Int}, J st → (∀ x ∈ xs, ∀ st, J st → J (f x st).2 ∧ F (f x st).1) → ∀ y ∈ (dmap f xs st).1, F y
  | [], _, _, _, _, h => by cases h
  | x :: xs, st, h, k, y, hy => by
    rcases List.mem_cons.mp hy with rfl | hy
    · exact (k _ List.mem_cons_self _ h).2
    · exact dmap_all (k _ List.mem_cons_self _ h).1 (fun x hx => k x (List.mem_cons_of_mem _ hx)) y hy
section
variable {X : Cx} {σ : St} {G H : Hp} {D : Ends} {q : Addr} {P : PV} {e a b c tg : Expr} {es : List Expr} {pos p : Pos} {α β γ δ ζ : Type} [Rep α] [Rep β] [Rep γ] [Rep δ] [Rep ζ] {xs xs1 xs2 xs' : List Int}
theorem evM_tup {x : α} {y : β} {k : Nat} (ha : EvM X a σ q G H xs x xs1) (hb : EvM X b σ q G H xs1 y xs2) (hs : starEach [a, b] X.env = (false, eval a X.env) :: starEach [b] X.env := by rfl) (hs' : starEach [b] X.env = (false, eval b X.env) :: starEach [] X.env := by rfl) :
    EvM X (.Tuple [a, b] k pos) σ q G H xs (x, y) xs2 :=
  evM_of (pe_tup (pa_cons pe_sem (pa_cons pe_sem pa_nil hs') hs)) fun G1 H1 x1 o Q k => ha G1 H1 x1 o _ fun G2 H2 v x2 _ o2 pv => hb G2 H2 (x1.transM x2) o2 _ fun G3 H3 u x3 _ o3 pu =>
    ⟨by show 2 ≤ sizeLine; decide, fun p hp =>
      have xn : Ext G3 H3 _ _ := (Ext.refl x3.s).new hp
      k (upd G3 p (.tup [v, u])) _ _ ((x2.transM x3).trans xn) (o3.mono xn) ⟨p, v, u, rfl, upd_same, up (same_new (x3.s.free hp)) (up x3.g pv), up (same_new (x3.s.free hp)) pu⟩⟩
theorem evM_sorted {ys : List Int} (B : Bl X "sorted") (h : EvM X e σ q G H xs ys xs') (he : starEach [e] X.env = (false, eval e X.env) :: starEach [] X.env := by rfl) : EvM X (.Call (.Name "sorted" p) [e] [] pos) σ q G H xs (isort ys) xs' :=
  evM_callB cr_sortedI B.g B.m PyProof.Rows.boot_sorted (eaM_cons h eaM_nil he) (fun G1 H1 vs s l ⟨v, r, e1, pv, e2⟩ Q k => by
    obtain ⟨a, us, e, g, pr⟩ := pv
    have g : SqL X.K H1 a us := .of (s _ _ g)
    rw [paired_ints pr] at g
    refine ⟨a, ys, by rw [e1, e2, e], g, fun ns' p perm srt hp => ?_⟩
    have e : ns' = isort ys := sorted_one (perm.trans (isort_perm ys).symm) srt (isort_sorted ys)
    subst e
    exact k (upd G1 p (.lst _)) _ _ ((Ext.refl s).new hp) ⟨p, _, rfl, upd_same, ints_paired _⟩) (by decide) (by decide) he rfl
theorem etM_cmp {op : CmpOp} {i : α} {j : β} {d : Bool} (k : Bin X (compareOp op) (Is X.K i) (Is X.K j) (Is X.K d) bot bot) (ha : EvM X a σ q G H xs i xs1) (hb : EvM X b σ q G H xs1 j xs2) (hm : behindInMarks op b = false := by first | exact nomark _ | rfl) : EvTM X (.Compare a [op] [b] pos) σ q G H xs d xs2 :=
  let ⟨_, ho, k⟩ := k; evTM_of (pt_cmpR ho pe_sem pe_sem hm) fun G1 H1 x1 o Q kk => binM k ha hb G1 H1 x1 o _ fun G2 H2 v x2 o2 r => ⟨d, r, kk G2 H2 x2 o2⟩
/-- [elt for n in iter], elt drawn -/
theorem lcM_goO {β : Type} [Rep β] {elt : Expr} {scope : Scope} {ys : List α} {f : α → List Int → β × List Int} {J : List Int → Prop} {vs : List Nat} {i : Nat} {wi : TI}
    {G1 H1 : Hp} (x1 : ExtM q G H G1 H1) (o : Own X.K G1 H1 q xs) (hi : ∀ R : It → Hp → Prop, (∀ J G2 H2, Ext G1 H1 G2 H2 → ys.length ≤ sizeLine → WalkOf X.K J G2 ys → R J H2) → wi σ H1 R) (hw : ∀ v, wipe ((wipe σ vs).set i (some v)) vs = wipe σ vs)
    (h0 : J xs) (hJ : ∀ x ∈ ys, ∀ st, J st → J (f x st).2)
    (he : ∀ x v st G1 H1, x ∈ ys → J st → ExtM q G H G1 H1 → rep X.K G1 v x → ∀ s H0 C cl fp, EvM (InB X scope s H0 C cl fp) elt ((wipe σ vs).set i (some v)) q G1 H1 st (f x st).1 (f x st).2) :
    ∀ Q : VK, (∀ G2 H2 p, ExtM q G1 H1 G2 H2 → Own X.K G2 H2 q (dmap f ys xs).2 → H1 p = none → p ≠ q → Own X.K G2 H2 p (dmap f ys xs).1 → Q (.ref p) H2) → tLc wi (gName i) (lcT X scope []) (lcE X scope elt) vs σ H1 Q := by
  intro Q k
  refine hi _ fun It G2 H2 x2 hl hwk Dd hD => ?_
  have hD1 : H1 Dd = none := x2.h.free hD
  have hqD : q ≠ Dd := fun z => by obtain ⟨u, hu, _⟩ := o.ex'; rw [z, hD1] at hu; cases hu
  let Pv : Nat → Hp → Prop := fun n H' => ∃ G' acc, ExtM q G1 H1 G' H' ∧ Same G2 G' ∧ G' Dd = none ∧ H' Dd = some (.lst acc) ∧ acc.length = n ∧ Own X.K G' H' q (dmap f (ys.take n) xs).2 ∧ Paired (rep X.K G') acc (dmap f (ys.take n) xs).1
  refine ⟨fun n m H' => m = ys.length - n ∧ n ≤ ys.length ∧ Pv n H', ⟨ys.length, rfl, Nat.zero_le _, G2, [], ?_, Same.refl _, x2.s.free hD, upd_same, rfl, ?_, .nil⟩, ?_⟩
  · exact (x2.newH hD).toM o.ex'
  · exact o.mono (x2.newH hD)
  rintro n m H' ⟨rfl, hn, G', acc, x', sg, gD, eD, hq, ow, pr⟩
  obtain ⟨go, stop, yld⟩ := hwk G' H' sg x'.s
  by_cases hlt : n < ys.length
  · have hx : ys[n]? = some ys[n] := List.getElem?_eq_getElem hlt
    refine .inr ⟨go n hlt, Pv (n + 1), fun H'' z => ⟨_, by omega, rfl, hlt, z⟩, fun v H'' y => ?_⟩
    obtain ⟨G'', x'', rv⟩ := yld n _ v H'' hx y
    have gD2 : G'' Dd = none := x''.off gD eD
    have eD2 := x''.h _ _ eD
    have hst : J (dmap f (ys.take n) xs).2 := dmap_inv h0 fun x hx => hJ x (List.mem_of_mem_take hx)
    refine ⟨hw v, fun s H0 C cl fp pins s' I => pts_nil.run pins s' _ H'' _ I fun s1 H01 C1 cl1 fp1 => ?_⟩
    refine he _ v _ G'' H'' (List.getElem_mem hlt) hst ((x1.transM x').trans x'') rv s1 H01 C1 cl1 fp1 G'' H'' (ExtM.refl x''.s (ow.mono x'').ex') (ow.mono x'') _ fun G3 H3 w x3 _ o3 rw' => ?_
    have eD3 := x3.h.e _ _ (Ne.symm hqD) eD2
    have gD3 : G3 Dd = none := by
      cases z : G3 Dd with
      | none => rfl
      | some u =>
        rcases x3.n _ _ z with y | y | ⟨ys', y⟩
        · rw [gD2] at y; cases y
        · rw [eD2] at y; cases y
        · have y2 := x3.s _ _ z; rw [eD3, y] at y2; cases y2
    have ek : dmap f (ys.take (n + 1)) xs = ((dmap f (ys.take n) xs).1 ++ [(f ys[n] (dmap f (ys.take n) xs).2).1], (f ys[n] (dmap f (ys.take n) xs).2).2) := by
      rw [List.take_add_one, hx]; exact dmap_snoc _ _
    have xx : ExtM q G1 H1 G3 H3 := (x'.trans x'').transM x3
    refine ⟨acc, eD3, by rw [hq]; exact Nat.lt_of_lt_of_le hlt hl, G3, acc ++ [w], xx.wr hD1 gD3, sg.trans (x''.g.trans x3.g), gD3, upd_same, by rw [List.length_append, hq]; rfl, ?_, ?_⟩
    · rw [ek]; exact o3.wr hqD
    · rw [ek]; exact paired_app (pair_up (x''.g.trans x3.g) pr) (.cons rw' .nil)
  · have e : n = ys.length := by omega
    subst e
    rw [List.take_length] at pr ow
    exact .inl ⟨stop, k G' H' Dd x' ow hD1 (Ne.symm hqD) ⟨⟨acc, eD, pr⟩, gD⟩⟩
/-- such a comprehension -/
def LcOkM (X : Cx) (elt : Expr) (gen : Comprehension) (scope : Scope) (σ : St) (q : Addr) (G H : Hp) (xs : List Int) (ys : List α) (xs' : List Int) : Prop :=
  ∀ G1 H1, ExtM q G H G1 H1 → Own X.K G1 H1 q xs → ∃ (tg iter : Expr) (ifs : List Expr) (wi : TI) (g : TG) (own : List (Str × Nat)), gen = ⟨tg, iter, ifs, 0⟩ ∧ X.calm = true ∧ X.N.Nodup ∧ PI X tg iter wi ∧ BlkOk X.N X.env.scope scope own ∧
    (∀ (s : Shared) (H : Hp) (C : Addr) (cl : List (Str × Addr)) (fp : List Addr), PG (X.blk s H scope (compEnvC scope cl C X.env) fp) tg g) ∧ (∀ x, foldedSetIterable iter X.env x = pure x) ∧
    ∀ Q : VK, (∀ G2 H2 p, ExtM q G1 H1 G2 H2 → Own X.K G2 H2 q xs' → H1 p = none → p ≠ q → Own X.K G2 H2 p ys → Q (.ref p) H2) → tLc wi g (lcT X scope ifs) (lcE X scope elt) (own.map (·.2)) σ H1 Q
theorem lcM {β : Type} [Rep β] {elt iter : Expr} {scope : Scope} {ys : List α} {n : Str} {np : Pos} {i : Nat} (f : α → List Int → β × List Int) (J : List Int → Prop) (hc : X.calm = true) (hN : X.N.Nodup) (hi : ∀ G1 H1, ExtM q G H G1 H1 → Own X.K G1 H1 q xs → EvI X (.Name n np) iter σ G1 H1 ys) (own : List (Str × Nat)) (ok : BlkOk X.N X.env.scope scope own)
    (hg : ∀ (s : Shared) (H : Hp) (C : Addr) (cl : List (Str × Addr)) (fp : List Addr), PG (X.blk s H scope (compEnvC scope cl C X.env) fp) (.Name n np) (gName i))
    (h0 : J xs) (hJ : ∀ x ∈ ys, ∀ st, J st → J (f x st).2)
    (he : ∀ x v st G1 H1, x ∈ ys → J st → ExtM q G H G1 H1 → rep X.K G1 v x → ∀ s H0 C cl fp, EvM (InB X scope s H0 C cl fp) elt ((wipe σ (own.map (·.2))).set i (some v)) q G1 H1 st (f x st).1 (f x st).2)
    (hw : ∀ v, wipe ((wipe σ (own.map (·.2))).set i (some v)) (own.map (·.2)) = wipe σ (own.map (·.2)) := by intro _; rfl) (hs : ∀ x, foldedSetIterable iter X.env x = pure x := by intro _; rfl) :
    LcOkM X elt ⟨.Name n np, iter, [], 0⟩ scope σ q G H xs (dmap f ys xs).1 (dmap f ys xs).2 := by
  intro G1 H1 x1 o
  obtain ⟨wi, pi, hi'⟩ := hi G1 H1 x1 o
  exact ⟨_, _, _, wi, _, own, rfl, hc, hN, pi, ok, hg, hs, lcM_goO x1 o (hi' G1 H1 (Ext.refl x1.s)) hw h0 hJ he⟩
theorem frzP {G1 H1 G2 H2 : Hp} {p : Addr} {ys : List α} (x : ExtM q G1 H1 G2 H2) (o : Own X.K G2 H2 q xs) (n : H1 p = none) (hpq : p ≠ q) (op : Own X.K G2 H2 p ys) : ∃ G3, ExtM q G1 H1 G3 H2 ∧ Own X.K G3 H2 q xs ∧ rep X.K G3 (.ref p) ys :=
  let ⟨vs, e, pr⟩ := op.at_; ⟨upd G2 p (.lst vs), x.frz n e, o.re (same_new op.off) (by rw [upd_ne (Ne.symm hpq)]; exact o.off), p, vs, rfl, upd_same, pair_up (same_new op.off) pr⟩
theorem evM_lc {ys : List α} {elt : Expr} {gen : Comprehension} {scope : Scope} (h : LcOkM X elt gen scope σ q G H xs ys xs') : EvM X (.ListComp elt [gen] scope pos) σ q G H xs ys xs' := by
  intro G1 H1 x1 o Q k
  obtain ⟨tg, iter, ifs, wi, g, own, rfl, hc, hN, pi, ok, hg, hs, go⟩ := h G1 H1 x1 o
  exact tE_lenF fun pins s I => (pe_lc hc hN pi ok hg pts_lc pe_lcE hs).run pins s σ H1 _ I (go _ fun G2 H2 p x2 o2 n hpq op hl => by
    obtain ⟨G3, x3, o3, r3⟩ := frzP x2 o2 n hpq op
    exact k G3 H2 _ x3 hl o3 r3)
/-- n = such a one -/
theorem s_setLcM {ys : List α} {elt : Expr} {gen : Comprehension} {scope : Scope} {pos' : Pos} {i : Nat} {n : Str} (hN : X.N.Nodup) (sl : Ss X i n) (s0 : Same G H) (o : Own X.K G H q xs) (h : LcOkM X elt gen scope σ q G H xs ys xs')
    (k : ∀ G1 H1 v, ExtM q G H G1 H1 → HLen H1 → Own X.K G1 H1 q xs' → rep X.K G1 v ys → D.nx (σ.set i (some v)) H1)
    (hl : X.env.scope.names.lookup n = some .local := by rfl) (hsw : swapsWith (.ListComp elt [gen] scope pos) (some (.Name n p)) pos'.line X.env = pure true := by exact sw_true rfl rfl rfl (by decide +kernel)) :
    tS X (.Assign [.Name n p] (.ListComp elt [gen] scope pos) pos') D σ H := by
  obtain ⟨tg, iter, ifs, wi, g, own, rfl, hc, hN', pi, ok, hg, hs, go⟩ := h G H (ExtM.refl s0 o.ex') o
  exact tS_len (s_of (ps_setLc hc hN sl.hN hl hsw pi ok hg pts_lc pe_lcE hs) (go _ fun G2 H2 p x2 o2 n hpq op l => by
    obtain ⟨G3, x3, o3, r3⟩ := frzP x2 o2 n hpq op
    exact k G3 H2 _ x3 l o3 r3))
theorem s_setLcMO {ys : List α} {elt : Expr} {gen : Comprehension} {scope : Scope} {pos' : Pos} {i : Nat} {n : Str} (hN : X.N.Nodup) (sl : Ss X i n) (s0 : Same G H) (o : Own X.K G H q xs) (h : LcOkM X elt gen scope σ q G H xs ys xs')
    (k : ∀ G1 H1 p, ExtM q G H G1 H1 → HLen H1 → Own X.K G1 H1 q xs' → H p = none → p ≠ q → Own X.K G1 H1 p ys → D.nx (σ.set i (some (.ref p))) H1)
    (hl : X.env.scope.names.lookup n = some .local := by rfl) (hsw : swapsWith (.ListComp elt [gen] scope pos) (some (.Name n p)) pos'.line X.env = pure true := by exact sw_true rfl rfl rfl (by decide +kernel)) :
    tS X (.Assign [.Name n p] (.ListComp elt [gen] scope pos) pos') D σ H := by
  obtain ⟨tg, iter, ifs, wi, g, own, rfl, hc, hN', pi, ok, hg, hs, go⟩ := h G H (ExtM.refl s0 o.ex') o
  exact tS_len (s_of (ps_setLc hc hN sl.hN hl hsw pi ok hg pts_lc pe_lcE hs) (go _ fun G2 H2 p x2 o2 n hpq op l => k G2 H2 p x2 l o2 n hpq op))
/-- xs[i] = v, both drawn -/
theorem s_setixM {ys : List α} {y : α} {k : Nat} {n : Str} {p : Addr} {i : Int} {np sp : Pos} (sl : Sl X k n) (s0 : Same G H) (hne : p ≠ q) (o : Own X.K G H q xs) (op : Own X.K G H p ys) (hv : EvM X c σ q G H xs y xs1) (hi : EvM X a σ q G H xs1 i xs2) (h0 : 0 ≤ i) (h1 : i < (ys.length : Int))
    (kk : ∀ G1 H1 vs', ExtM q G H G1 H1 → HLen H1 → Own X.K G1 H1 q xs2 → Own X.K G1 (upd H1 p (.lst vs')) p (ys.set i.toNat y) → D.nx σ (upd H1 p (.lst vs'))) (hq : σ[k]? = some (some (.ref p)) := by rfl)
    (hs : swapsWithSole [.Subscript (.Name n np) a sp] c pos.line X.env = pure false := by rfl) (hw : swappedStores [.Subscript (.Name n np) a sp] c X.env = pure none := by rfl)
    (hh : (assignEach [.Subscript (.Name n np) a sp] X.env).map (·.2) = [assign (.Subscript (.Name n np) a sp) X.env] := by rfl)
    (ha : ∀ v, assign (.Subscript (.Name n np) a sp) X.env v = (do
      let ov ← holding [v] (eval (.Name n np) X.env)
      let iv ← holding [v, ov] (eval a X.env)
      standAt sp
      holding [v, ov, iv] (setItem ov iv v)
      release [v, ov, iv] []) := by intro _; rfl) : tS X (.Assign [.Subscript (.Name n np) a sp] c pos) D σ H := by
  refine s_of (ps_asg pe_sem (pg_sub (pe_var sl.hN sl.hv sl.nm.hd sl.nm.hcd) pe_sem set_list ha) hs hw hh) ?_
  refine hv G H (ExtM.refl s0 o.ex') o _ fun G1 H1 w x1 _ o1 rw' => ⟨_, hq, hi G1 H1 x1 o1 _ fun G2 H2 u x2 l2 o2 ru => ?_⟩
  have op2 := op.monoM (x1.transM x2) hne
  obtain ⟨vs, e, pr⟩ := op2.at_
  have ru : u = V.int i := ru
  exact ⟨p, vs, i, i.toNat, rfl, ru, e, by rw [paired_len pr]; exact ixN_of h0 h1, kk G2 H2 _ (x1.transM x2) l2 o2 ⟨⟨_, upd_same, paired_set (up x2.g rw') _ pr⟩, op2.off⟩⟩
theorem paired_era {α β : Type} {F : α → β → Prop} : ∀ {xs : List α} {ys : List β} {i : Nat}, Paired F xs ys → Paired F (xs.eraseIdx i) (ys.eraseIdx i)
  | _, _, _, .nil => .nil
  | _, _, 0, .cons r t => t
  | _, _, _ + 1, .cons r t => .cons r (paired_era t)
theorem seqIx_of {i : Int} {n : Nat} (h0 : 0 ≤ i) (h1 : i < (n : Int)) : seqIndex? i n = some i.toNat := (ixN_seq (ixN_of h0 h1)).1
/-- xs.pop(i), i drawn -/
theorem s_popM {ys : List α} {k : Nat} {n : Str} {p : Addr} {i : Int} {ap cp np : Pos} (sl : Sl X k n) (s0 : Same G H) (hne : p ≠ q) (o : Own X.K G H q xs) (op : Own X.K G H p ys) (h : EvM X e σ q G H xs i xs2) (h0' : 0 ≤ i) (h1 : i < (ys.length : Int)) (h2 : ys.length ≤ 1000000)
    (kk : ∀ G1 H1 vs', ExtM q G H G1 H1 → HLen H1 → Own X.K G1 H1 q xs2 → Own X.K G1 (upd H1 p (.lst vs')) p (ys.eraseIdx i.toNat) → D.nx σ (upd H1 p (.lst vs'))) (h0 : σ[k]? = some (some (.ref p)) := by rfl)
    (hbase : attributeBase (.Name n np) "pop" X.env (eval (.Name n np) X.env) = eval (.Name n np) X.env := by rfl)
    (hfew : ((backTo cp (starEach [e] X.env)).all (fun x => !x.1) && (backToKw cp (keywordEach [] X.env)).all (fun x => x.1.isSome)
      && decide ([e].length + ([] : List Keyword).length + (if ([] : List Keyword).isEmpty then 0 else 1) < 30)) = true := by rfl)
    (hline : (ap.endLine == cp.line) = true := by rfl) (he : starEach [e] X.env = (false, eval e X.env) :: starEach [] X.env := by rfl) (hplain : (backTo cp (starEach [] X.env)).any (·.1) = false := by rfl)
    (hsw : swapsWith (.Call (.Attribute (.Name n np) "pop" ap) [e] [] cp) none pos.line X.env = pure false := by rfl) :
    tS X (.Expr (.Call (.Attribute (.Name n np) "pop" ap) [e] [] cp) pos) D σ H := by
  obtain ⟨vs, eq, pr⟩ := op.at_
  refine s_of (ps_expr (pe_bm PySem.F.plainAttrs_list PySem.F.slot_list_pop PySem.F.type_list_pop mt_popAt (pe_var sl.hN sl.hv sl.nm.hd sl.nm.hcd) (pa_cons pe_sem pa_nil he) hbase hfew hline he hplain) hsw) ?_
  refine ⟨_, h0, .inl ⟨rfl, _, SqL.of eq⟩, h G H (ExtM.refl s0 o.ex') o _ fun G1 H1 w x l o1 rw' => ?_⟩
  have op1 := op.monoM x hne
  have e1 : H1 p = some (.lst vs) := x.h.e _ _ hne eq
  have rw' : w = V.int i := rw'
  have hlt : i.toNat < vs.length := by rw [paired_len pr]; omega
  exact ⟨p, vs, i, i.toNat, vs[i.toNat], rfl, by rw [rw'], e1, by omega, by omega, by rw [paired_len pr]; exact seqIx_of h0' h1, List.getElem?_eq_getElem hlt, kk G1 H1 _ x l o1 ⟨⟨_, upd_same, paired_era (pair_up x.g pr)⟩, op1.off⟩⟩
/-- xs.append(e), e drawn -/
theorem s_appendM {ys : List α} {y : α} {k : Nat} {n : Str} {p : Addr} {ap cp np : Pos} (sl : Sl X k n) (s0 : Same G H) (hne : p ≠ q) (o : Own X.K G H q xs) (op : Own X.K G H p ys) (h : EvM X e σ q G H xs y xs2) (hz : ys.length < sizeLine)
    (kk : ∀ G1 H1 vs', ExtM q G H G1 H1 → HLen H1 → Own X.K G1 H1 q xs2 → Own X.K G1 (upd H1 p (.lst vs')) p (ys ++ [y]) → D.nx σ (upd H1 p (.lst vs'))) (h0 : σ[k]? = some (some (.ref p)) := by rfl)
    (hbase : attributeBase (.Name n np) "append" X.env (eval (.Name n np) X.env) = eval (.Name n np) X.env := by rfl)
    (hfew : ((backTo cp (starEach [e] X.env)).all (fun x => !x.1) && (backToKw cp (keywordEach [] X.env)).all (fun x => x.1.isSome)
      && decide ([e].length + ([] : List Keyword).length + (if ([] : List Keyword).isEmpty then 0 else 1) < 30)) = true := by rfl)
    (hline : (ap.endLine == cp.line) = true := by rfl) (he : starEach [e] X.env = (false, eval e X.env) :: starEach [] X.env := by rfl) (hplain : (backTo cp (starEach [] X.env)).any (·.1) = false := by rfl)
    (hsw : swapsWith (.Call (.Attribute (.Name n np) "append" ap) [e] [] cp) none pos.line X.env = pure false := by rfl) :
    tS X (.Expr (.Call (.Attribute (.Name n np) "append" ap) [e] [] cp) pos) D σ H := by
  obtain ⟨vs, eq, pr⟩ := op.at_
  refine s_of (ps_expr (pe_bm PySem.F.plainAttrs_list PySem.F.slot_list_append PySem.F.type_list_append mt_append (pe_var sl.hN sl.hv sl.nm.hd sl.nm.hcd) (pa_cons pe_sem pa_nil he) hbase hfew hline he hplain) hsw) ?_
  refine ⟨_, h0, .inl ⟨rfl, _, SqL.of eq⟩, h G H (ExtM.refl s0 o.ex') o _ fun G1 H1 w x l o1 rw' => ?_⟩
  have op1 := op.monoM x hne
  have e1 : H1 p = some (.lst vs) := x.h.e _ _ hne eq
  exact ⟨p, vs, w, rfl, rfl, e1, by rw [paired_len pr]; exact hz, kk G1 H1 _ x l o1 ⟨⟨_, upd_same, paired_app (pair_up x.g pr) (.cons rw' .nil)⟩, op1.off⟩⟩
/-- xs[i] of an own list, i drawn -/
theorem evM_ixO {ys : List α} {i : Int} {k : Nat} {n : Str} {np : Pos} {p : Addr} (d : α) (sl : Sl X k n) (hne : p ≠ q) (op : Own X.K G H p ys) (hb : EvM X b σ q G H xs i xs2) (h0 : 0 ≤ i) (h1 : i < (ys.length : Int)) (hk : σ[k]? = some (some (.ref p)) := by rfl) (hs : PlainIx b := by intro _ _; rfl) :
    EvM X (.Subscript (.Name n np) b pos) σ q G H xs (ys.getD i.toNat d) xs2 :=
  evM_of (pe_ix ix_list (pe_var sl.hN sl.hv sl.nm.hd sl.nm.hcd) pe_sem hs) fun G1 H1 x1 o Q kk => ⟨_, hk, hb G1 H1 x1 o _ fun G2 H2 u x2 _ o2 ru => by
    obtain ⟨us, e, pr⟩ := (op.monoM (x1.transM x2) hne).at_
    have hj := ixN_of h0 h1
    have hlt := ixN_lt hj
    have hg : ys[i.toNat]? = some (ys.getD i.toNat d) := by
      rw [List.getD_eq_getElem?_getD, List.getElem?_eq_getElem hlt]
      rfl
    obtain ⟨w, hw, rw'⟩ := paired_get pr hg
    refine ⟨p, us, i, w, rfl, ru, .of e, ?_, kk G2 H2 w x2 o2 rw'⟩
    unfold atI
    rw [paired_len pr, hj]
    exact hw⟩
/-- n = a + b, the def's own -/
theorem s_catO {ys zs : List α} {Pa Pb : PV} {i : Nat} {n : Str} {cp : Pos} [m : MonoC Pa] [sa : AsOwn X.K Pa α inferInstance ys] [sb : AsOwn X.K Pb α inferInstance zs] (hN : X.N.Nodup) (sl : Ss X i n) (s0 : Same G H) (hl : ys.length + zs.length ≤ sizeLine) (ha : EvP X a σ G H Pa) (hb : EvP X b σ G H Pb)
    (k : ∀ G1 H1 q, Ext G H G1 H1 → HLen H1 → H q = none → Own X.K G1 H1 q (ys ++ zs) → D.nx (σ.set i (some (.ref q))) H1)
    (hs : swapsWith (.BinOp a .Add b cp) (some (.Name n p)) pos.line X.env = pure false := by rfl) : tS X (.Assign [.Name n p] (.BinOp a .Add b cp) pos) D σ H :=
  s_of (ps_set hN sl.hN sl.hx pe_sem hs sl.hf) (tE_lenF fun pins s I => (pe_op op_cat pe_sem pe_sem).run pins s σ H _ I (ha G H (Ext.refl s0) _ fun G1 H1 v x1 _ p1 => hb G1 H1 x1 _ fun G2 H2 u x2 _ p2 => by
    obtain ⟨a1, us, e, g, pr⟩ := sa.own _ _ _ x2.s (m.m _ _ _ _ _ x2 p1)
    obtain ⟨a2, us2, e2, g2, pr2⟩ := sb.own _ _ _ x2.s p2
    refine ⟨a1, a2, us, us2, e, e2, g, g2, by rw [paired_len pr, paired_len pr2]; exact hl, fun q hq l => k G2 _ q ((x1.trans x2).newH hq) l ((x1.trans x2).h.free hq) ⟨⟨_, upd_same, paired_app pr pr2⟩, x2.s.free hq⟩⟩))
end
/-! a list of two unlike things -/
structure Two (α β : Type) where
  a : α
  b : β
deriving DecidableEq
instance instRepTwo {α β : Type} [Rep α] [Rep β] : Rep (Two α β) where
  rep K G v x := ∃ a u w, v = .ref a ∧ G a = some (.lst [u, w]) ∧ rep K G u x.a ∧ rep K G w x.b
  up s h := let ⟨a, u, w, e, g, p, q⟩ := h; ⟨a, u, w, e, s _ _ g, up s p, up s q⟩
instance {α β : Type} [Rep α] [Rep β] [DecidableEq α] [DecidableEq β] [Dat α] [Dat β] : Dat (Two α β) :=
  ⟨fun x => .list [Dat.toD x.a, Dat.toD x.b], fun s ⟨a, u, w, e, g, p, q⟩ => by rw [e]; exact .lst (.of (s _ _ g)) (.cons (Dat.dp s p) (.cons (Dat.dp s q) .nil)),
    fun x => by
      show (PyData.canLay0 (Dat.toD x.a) && (PyData.canLay0 (Dat.toD x.b) && true)) = true
      rw [Dat.ok, Dat.ok]; rfl, max (Dat.deep α) (Dat.deep β) + 1, fun x => by
      show max (PyData.depth (Dat.toD x.a)) (max (PyData.depth (Dat.toD x.b)) 0) + 1 ≤ _
      have h1 := Dat.dep x.a
      have h2 := Dat.dep x.b
      omega, fun x y => by
      show (PyData.eqv (Dat.toD x.a) (Dat.toD y.a) && (PyData.eqv (Dat.toD x.b) (Dat.toD y.b) && true)) = _
      rw [Dat.eqv, Dat.eqv, Bool.and_true, ← Bool.decide_and]
      exact decide_eq_decide.mpr (by cases x; cases y; simp)⟩
section
variable {X : Cx} {σ : St} {G H : Hp} {e a b : Expr} {pos : Pos} {α β : Type} [Rep α] [Rep β]
theorem ev_two {x : α} {y : β} (ha : Ev X a σ G H x) (hb : Ev X b σ G H y) (hs : starEach [a, b] X.env = (false, eval a X.env) :: starEach [b] X.env := by rfl) (hs' : starEach [b] X.env = (false, eval b X.env) :: starEach [] X.env := by rfl) :
    Ev X (.List [a, b] pos) σ G H (⟨x, y⟩ : Two α β) :=
  evP_of (pe_lst (pa_cons pe_sem (pa_cons pe_sem pa_nil hs') hs)) fun G1 H1 x1 Q q => ha G1 H1 x1 _ fun G2 H2 v x2 _ pv => hb G2 H2 (x1.trans x2) _ fun G3 H3 u x3 _ pu =>
    ⟨by show 2 ≤ sizeLine; decide, fun p hp => q (upd G3 p (.lst [v, u])) _ _ ((x2.trans x3).new hp) ⟨p, v, u, rfl, upd_same, up (same_new (x3.s.free hp)) (up x3.g pv), up (same_new (x3.s.free hp)) pu⟩⟩
theorem ev_two0 {x : Two α β} (ha : Ev X a σ G H x) (hb : Ev X b σ G H (0 : Int)) (hs : PlainIx b := by intro _ _; rfl) : Ev X (.Subscript a b pos) σ G H x.a :=
  evP_of (pe_ix ix_list pe_sem pe_sem hs) (bin_go ha hb fun G1 H1 v u z _ e1 e2 Q q => by
    obtain ⟨a, s, t, e, g, p1, p2⟩ := e1
    exact ⟨a, _, 0, s, e, e2, .of (z.s _ _ g), rfl, q G1 H1 s (Ext.refl z.s) p1⟩)
theorem ev_two1 {x : Two α β} (ha : Ev X a σ G H x) (hb : Ev X b σ G H (1 : Int)) (hs : PlainIx b := by intro _ _; rfl) : Ev X (.Subscript a b pos) σ G H x.b :=
  evP_of (pe_ix ix_list pe_sem pe_sem hs) (bin_go ha hb fun G1 H1 v u z _ e1 e2 Q q => by
    obtain ⟨a, s, t, e, g, p1, p2⟩ := e1
    exact ⟨a, _, 1, t, e, e2, .of (z.s _ _ g), rfl, q G1 H1 t (Ext.refl z.s) p2⟩)
end
end RL

set_option Elab.async false
set_option linter.all false
set_option maxRecDepth 100000
set_option maxHeartbeats 4000000
/-! RT: sorted(set(xs)) of a list of ints. -/
namespace L2
open PySem PySem.Spec PyProof.Rows PySem.Builtin
abbrev fset (w : World) : Obj := { cls := .type "set", dict := none, data := .set #[] 0 (.fresh 0 0 (!w.params.followText "set-order")) }
/-- set(l), l a list of ints -/
theorem set_of_ints {P : Program} {w : World} {A : Around} {E : Value → Shared → Prop} {s : Shared} {l : Addr} {items : Array Value} (ns : List Int) {Q : Value → Shared → Prop} (calm : A.handled = none) (hl : s.heap.IsList l items) (hit : IntsAre items.toList ns)
    (hb : ns.length + 1 < scanBound) (k : ∀ (h' : Heap) (tk c : Nat), SetR w h' s.heap.objs.size (fun j => decide (j ∈ ns)) c → (∀ b o, s.heap.get? b = some o → h'.get? b = some o) → Q (.ref s.heap.objs.size) { s with heap := h', toks := tk }) :
    wpAny (model P w) A (call (Value.type "set") [Value.ref l]) Q E s := by
  have size : items.size = ns.length := by have z := IntsAre.length hit; rwa [Array.length_toList] at z
  obtain ⟨m1, m2, mro⟩ := F.called_set.mro
  have made := F.called_set.made; have sub := F.called_set.sub
  refine wpAny_call (codeAny_of_tree ?_); show wpAny _ _ (callAny (.type "set") _) _ _ _
  have quiet := Code.quiet_builtin (id := "type.__call__") ⟨[.type "set", .ref l], []⟩ (by decide +kernel)
  refine wpAny_pure ⟨quiet, codeAny_builtin F.entry_type_call ?_⟩; rw [Around.under_plain (weight_type_call_type "set" [.ref l] []) rfl]
  have n1 := F.called_set.notType; have n2 := F.called_set.canCreate; have n3 := F.typeCall_set_1 (.ref l)
  repeat any_goals (first | assumption | wp_step)
  refine codeAny_mono (code_set_led1 (.ref l) (E := E) (Q₁ := fun v s1 => v = .ref s.heap.objs.size ∧ s1 = { s with heap := s.heap.push (fset w) }) ⟨rfl, rfl⟩) fun res s1 hr => ?_
  rcases res with e | fl
  · exact hr
  rcases fl with _ | v | _ | _
  all_goals try exact hr.elim
  obtain ⟨rfl, rfl⟩ := hr
  have at0 : (s.heap.push (fset w)).get? s.heap.objs.size = some (fset w) := Heap.get?_push_size _ rfl
  have ty0 : Shared.TypeIs { s with heap := s.heap.push (fset w) } (.ref s.heap.objs.size) "set" := ⟨_, at0, rfl⟩
  have i1 := F.called_set.init.lookup; have i2 := F.called_set.init.bind (.ref s.heap.objs.size)
  repeat any_goals (first | assumption | wp_step)
  refine codeAny_mono (codeAny_call_builtin (R := wants (fun r s2 => r = .none ∧ ∃ h' tk c, s2 = { s with heap := h', toks := tk } ∧ SetR w h' s.heap.objs.size (fun j => decide (j ∈ ns)) c ∧ ∀ b o, s.heap.get? b = some o → h'.get? b = some o) E)
    F.called_set.init.plain F.entry_set_init (check_set_init_1 ty0 ?_)) fun r2 s2 h2 => ?_
  · obtain ⟨ol, gl, cl, nl, dl⟩ := hl
    obtain ⟨oc, od, oda, osl⟩ := ol
    dsimp only at cl dl; subst cl dl
    have g1 : (s.heap.push (fset w)).get? l = some { cls := .type "list", dict := od, data := .seq items nl, slots := osl } := Heap.get?_push_of_some _ gl
    have b1 := F.sub_list_set; have b2 := F.sub_list_frozenset
    have b3 : (Value.type "list" == Value.type "dict") = false := by decide
    have lst : (s.heap.push (fset w)).IsList l items := ⟨_, g1, rfl, nl, rfl⟩
    unfold «set.__init__» noKeywords Frozenset.updateFrom
    generalize pi_ : pyIter = PI
    wp_walk
    subst pi_
    refine wpAny_pyIter_list lst (wpAny_bind (wpAny_runValue ?_))
    have lt : l < s.heap.objs.size := Heap.lt_size gl
    have nI : l ≠ (s.heap.push (fset w)).objs.size := by rw [Heap.size_push]; exact Nat.ne_of_lt (Nat.lt_succ_of_lt lt)
    have nS : s.heap.objs.size ∉ [(s.heap.push (fset w)).objs.size, l] := by
      rw [Heap.size_push]; intro z
      rcases List.mem_cons.mp z with z | z
      · exact Nat.ne_of_lt (Nat.lt_succ_self _) z
      · exact Nat.ne_of_gt lt (List.mem_singleton.mp z)
    have vals : ∀ (i : Nat) (v : Value), items[i]? = some v → ∃ k t, ns[i]? = some k ∧ v = .int k t := fun i v hv => by
      have hi : i < ns.length := size ▸ (Array.getElem?_eq_some_iff.mp hv).1
      obtain ⟨t, e⟩ := IntsAre.int_at hit i v (by rwa [Array.getElem?_toList])
      exact ⟨ns[i], t, List.getElem?_eq_getElem hi, by rw [e, List.getD_eq_getElem?_getD, List.getElem?_eq_getElem hi]; rfl⟩
    refine set_update_ints ((Walks.list (A := A.in1.in1.in1) (by simp [calm]) _ l nI items).toS) s.heap.objs.size nS ns size hb vals (items.size - 0) 0 _ (by omega) (Nat.zero_le _) ⟨⟨_, Heap.get?_push_size _ rfl, rfl, rfl⟩, lst.push _⟩
      ⟨0, Nat.le_refl 0, setR_new_at (Heap.get?_push_of_some _ at0)⟩ ?_
    rintro ⟨h', g2, d2, t2, o2⟩ c mv _ sr
    obtain rfl : g2 = s.gens := mv.gens
    obtain rfl : d2 = s.drawn := mv.drawn
    obtain rfl : o2 = s.os := mv.os
    show wpAny _ _ _ _ _ _
    refine wpAny_pure ?_
    show wpAny _ _ (ret Value.none) _ _ _
    refine wpAny_pure ⟨rfl, h', t2, c, rfl, sr, fun b o e => ?_⟩
    have b0 := Heap.lt_size e
    refine mv.heap b o (fun z => ?_) (Heap.get?_push_of_some _ (Heap.get?_push_of_some _ e))
    rcases List.mem_cons.mp z with z | z
    · exact Nat.ne_of_lt b0 z
    · have z := List.mem_singleton.mp z; rw [Heap.size_push] at z; exact Nat.ne_of_lt (Nat.lt_succ_of_lt b0) z
  · rcases r2 with e | f2
    · exact h2
    rcases f2 with _ | r | _ | _
    all_goals try exact h2.elim
    obtain ⟨rfl, h', tk, c, rfl, sr, kp⟩ := h2
    repeat any_goals (first | assumption | wp_step)
    exact k _ _ _ sr kp
/-- .. as a rule -/
def rSetI (K : PySem.W.Frag) (w : World) : List V → Hp → VK → Prop := fun vs H Q => ∃ (a : Addr) (ns : List Int), vs = [V.ref a] ∧ SqL K H a (ns.map V.int) ∧ ns.length ≤ 4000 ∧ ∀ p n, H p = none → (∀ l : List Int, l.Nodup → (∀ k, k ∈ l ↔ k ∈ ns) → l.length = n) →
  Q (.ref p) (upd H p (SetO w p (fun j => decide (j ∈ ns)) n))
theorem cr_setI {X : Cx} (hc : X.calm = true) : CallR X (.type "set") (rSetI X.K X.w) := by
  rintro pins s σ H vs us Q I r ⟨a, ns, rfl, hq, hl, q⟩
  rw [Vals.ref1 r]
  obtain ⟨its, rv, il, _⟩ := I.list hq
  have hi := ints_of_vals rv
  refine set_of_ints ns (I.ok.hd hc) (show s.heap.IsList a its.toArray from let ⟨_, _, ho, hc, _, hd⟩ := il; ⟨_, ho, hc, _, hd⟩) hi (by unfold scanBound; omega) fun h' tk c sr kp => ?_
  have nn : H s.heap.objs.size = none := I.hok.fresh (Nat.le_refl _)
  refine ⟨.ref s.heap.objs.size, _, I.laid (t' := tk) kp (Nat.le_refl _) (setO_new sr), rfl, q _ c nn fun l nd hm => ?_⟩
  obtain ⟨o, es, ep, t, _, _, _, g, nd2, hm2, _, _, hn, _⟩ := sr
  have pm : l.Perm (es.toList.map keyOf) := (List.perm_ext_iff_of_nodup nd nd2).mpr fun j => by rw [hm j, ← hm2 j]; simp
  rw [pm.length_eq, List.length_map, Array.length_toList, hn]
end L2
namespace RL
open PySem PySem.Spec PyProof.Rows L2 Rep
/-- each once -/
def once : List Int → List Int
  | [] => []
  | x :: xs => if x ∈ xs then once xs else x :: once xs
theorem mem_once {k : Int} : ∀ {xs : List Int}, k ∈ once xs ↔ k ∈ xs
  | [] => Iff.rfl
  | x :: xs => by
    unfold once
    split
    · rename_i h
      rw [mem_once, List.mem_cons]
      exact ⟨.inr, fun z => z.elim (fun e => e ▸ h) id⟩
    · rw [List.mem_cons, List.mem_cons, mem_once]
theorem once_nodup : ∀ xs : List Int, (once xs).Nodup
  | [] => List.nodup_nil
  | x :: xs => by
    unfold once
    split
    · exact once_nodup xs
    · rename_i h
      exact List.nodup_cons.mpr ⟨fun z => h (mem_once.mp z), once_nodup xs⟩
/-- sorted(set(xs)) -/
def sset (xs : List Int) : List Int := isort (once xs)
theorem mem_sset {k : Int} {xs : List Int} : k ∈ sset xs ↔ k ∈ xs := ((isort_perm _).mem_iff).trans mem_once
theorem sset_nodup (xs : List Int) : (sset xs).Nodup := (isort_perm _).nodup_iff.mpr (once_nodup xs)
theorem sset_sorted (xs : List Int) : (sset xs).Pairwise (· < ·) := by
  have h1 := isort_sorted (once xs)
  have h2 := sset_nodup xs
  unfold sset at h2 ⊢
  rw [List.nodup_iff_pairwise_ne] at h2
  exact (h1.and h2).imp fun ⟨a, b⟩ => Int.lt_iff_le_and_ne.mpr ⟨a, b⟩
theorem sset_le (xs : List Int) : (sset xs).length ≤ xs.length := by
  have e : (sset xs).length = (once xs).length := (isort_perm _).length_eq
  rw [e]
  clear e
  induction xs with
  | nil => exact Nat.le_refl _
  | cons x xs ih =>
    unfold once
    split
    · exact Nat.le_succ_of_le ih
    · exact Nat.succ_le_succ ih
/-- two rising lists of the same -/
theorem rising_ext : ∀ {xs ys : List Int}, xs.Pairwise (· < ·) → ys.Pairwise (· < ·) → (∀ k, k ∈ xs ↔ k ∈ ys) → xs = ys
  | [], [], _, _, _ => rfl
  | [], y :: ys, _, _, h => absurd ((h y).mpr List.mem_cons_self) (by simp)
  | x :: xs, [], _, _, h => absurd ((h x).mp List.mem_cons_self) (by simp)
  | x :: xs, y :: ys, hx, hy, h => by
    rw [List.pairwise_cons] at hx hy
    have e : x = y := by
      rcases List.mem_cons.mp ((h x).mp List.mem_cons_self) with e | e
      · exact e
      · rcases List.mem_cons.mp ((h y).mpr List.mem_cons_self) with e' | e'
        · exact e'.symm
        · have := hy.1 x e
          have := hx.1 y e'
          omega
    subst e
    congr 1
    refine rising_ext hx.2 hy.2 fun k => ⟨fun hk => ?_, fun hk => ?_⟩
    · rcases List.mem_cons.mp ((h k).mp (List.mem_cons_of_mem _ hk)) with e | e
      · have := hx.1 k hk; omega
      · exact e
    · rcases List.mem_cons.mp ((h k).mpr (List.mem_cons_of_mem _ hk)) with e | e
      · have := hy.1 k hk; omega
      · exact e
/-- rising lists between bounds are short -/
theorem rising_len : ∀ {xs : List Int} {lo hi : Int}, xs.Pairwise (· < ·) → (∀ k ∈ xs, lo ≤ k ∧ k < hi) → xs.length ≤ (hi - lo).toNat
  | [], _, _, _, _ => Nat.zero_le _
  | x :: xs, lo, hi, h, hb => by
    rw [List.pairwise_cons] at h
    have h0 := hb x List.mem_cons_self
    have := rising_len (lo := x + 1) (hi := hi) h.2 fun k hk => ⟨by have := h.1 k hk; omega, (hb k (List.mem_cons_of_mem _ hk)).2⟩
    rw [List.length_cons]
    omega
section
variable {X : Cx} {σ : St} {G H : Hp} {P : PV} {e : Expr} {pos p p2 : Pos}
/-- sorted(set(e)) -/
theorem ev_sset {xs : List Int} [MonoC P] [s : AsSeq X.K P Int instRepInt xs] (hc : X.calm = true) (B : Bl X "sorted") (B2 : Bl X "set") (hl : xs.length ≤ 4000) (h64 : (sset xs).length < 64) (h : EvP X e σ G H P) (he : starEach [e] X.env = (false, eval e X.env) :: starEach [] X.env := by rfl)
    (he2 : starEach [.Call (.Name "set" p2) [e] [] p] X.env = (false, eval (.Call (.Name "set" p2) [e] [] p) X.env) :: starEach [] X.env := by rfl) {pn : Pos} : Ev X (.Call (.Name "sorted" pn) [.Call (.Name "set" p2) [e] [] p] [] pos) σ G H (sset xs) := by
  have hs : EvP X (.Call (.Name "set" p2) [e] [] p) σ G H (fun _ H v => ∃ a n, v = .ref a ∧ H a = some (SetO X.w a (fun j => decide (j ∈ xs)) n) ∧ n < 64) :=
    ev_callTy (cr_setI hc) B2.g B2.m PyProof.Rows.boot_set (ea_cons h ea_nil he) (fun G1 H1 vs x l ⟨v, r, e1, pv, e2⟩ Q q => by
      obtain ⟨a, us, e, g, pr⟩ := s.seq _ _ _ x.s pv
      rw [paired_ints pr] at g
      refine ⟨a, xs, by rw [e1, e2, e], g, hl, fun a n hn hc => q G1 _ _ ((Ext.refl x.s).newH hn) ⟨a, n, rfl, upd_same, ?_⟩⟩
      rw [← hc (sset xs) (sset_nodup xs) fun k => mem_sset]
      exact h64) (by decide) (by decide) he rfl
  have : MonoC (fun (_ : Hp) (H : Hp) v => ∃ a n, v = V.ref a ∧ H a = some (SetO X.w a (fun j => decide (j ∈ xs)) n) ∧ n < 64) := ⟨fun _ _ _ _ _ x ⟨a, n, e, g, z⟩ => ⟨a, n, e, x.h _ _ g, z⟩⟩
  exact ev_callB (cr_sortedSet hc) B.g B.m PyProof.Rows.boot_sorted (ea_cons hs ea_nil he2) (fun G1 H1 vs x l ⟨v, r, e1, pv, e2⟩ Q q => by
    obtain ⟨a, n, rfl, g, hn⟩ := pv
    refine ⟨a, _, n, by rw [e1, e2], g, hn, fun ns p srt mem len hp => ?_⟩
    have e : ns = sset xs := rising_ext srt (sset_sorted xs) fun k => by rw [mem k, mem_sset]; simp
    subst e
    exact q (upd G1 p (.lst _)) _ _ ((Ext.refl x.s).new hp) ⟨p, _, rfl, upd_same, ints_paired _⟩) (by decide) (by decide) he2 rfl
end
end RL

set_option Elab.async false
set_option linter.all false
set_option maxRecDepth 100000
set_option maxHeartbeats 4000000
/-! RI: min(xs) of data that are alike. -/
namespace L2
open PySem PySem.Spec PyProof.Rows
section
variable {prog : Program} {w : World} {A : Around} {R : Result → Shared → Prop} {I : Addr} {fp wr : List Addr} {n : Nat} {P : Nat → Value → Prop} {St : Nat → Heap → Prop}
theorem min_loopH (W : Walks prog w A.in1 I fp wr n P St) (bt : Nat → Nat → Bool) (s0 : Shared) (S : Addr) (hw : ∀ b o, s0.heap.get? b = some o → b ∉ wr ∧ b ≠ S)
    (hcmp : ∀ i j vi vj h' tk, P i vi → P j vj → (∀ b o, s0.heap.get? b = some o → h'.get? b = some o) → SeqAt.RcLt A.in1 { heap := h', gens := s0.gens, drawn := s0.drawn, toks := tk, os := s0.os } vi vj (bt i j))
    (hSf : S ∉ fp) : ∀ (k j : Nat) (h : Heap) (t : Nat) (vb : Value) (c : Nat), k = n - (j + 1) → j < n → St (j + 1) h → P (argBest bt j) vb → h.get? S = some { cls := .type "list", data := .seq #[vb, vb] c } → (∀ b o, s0.heap.get? b = some o → h.get? b = some o) →
    (∀ v h' tk, P (argBest bt (n - 1)) v → (∀ b o, b ∉ wr → b ≠ S → h.get? b = some o → h'.get? b = some o) → R (.ok (.ret v)) { heap := h', gens := s0.gens, drawn := s0.drawn, toks := tk, os := s0.os }) →
    codeAny (model prog w) A (.builtin "min.loop" { pos := [.ref I, .none, .ref S] }) R { heap := h, gens := s0.gens, drawn := s0.drawn, toks := t, os := s0.os } := by
  have hSw : S ∉ wr := fun h => hSf (W.sub S h)
  intro k
  induction k with
  | zero =>
    intro j h t vb c hk hj hst hPb hS hkp hR
    have hin : n = j + 1 := by omega
    refine codeAny_builtin F.entry_min_loop ?_
    rw [Around.under_plainId F.plain_min_loop]
    refine wpAny_bind (wpAny_seqItems hS rfl ?_)
    show wpAny _ _ _ _ _ _
    refine wpAny_bind (wpAny_tryCatch (W.done _ _ _ (hin ▸ hst) fun h' tk hk' => ?_))
    have hS' := hk' S _ hSw hS
    refine wpAny_bind (wpAny_updateSeq hS' rfl (wpAny_bind (wpAny_letGo (wpAny_pure (hR vb _ tk (by rw [hin]; exact hPb) fun b o hbw hbS e => (Heap.get?_update_other _ _ (Ne.symm hbS)).trans (hk' b o hbw e))))) ?_ ?_)
    all_goals (simp [sizeLine_eq])
  | succ k ih =>
    intro j h t vb c hk hj hst hPb hS hkp hR
    have hlt : j + 1 < n := by omega
    refine codeAny_builtin F.entry_min_loop ?_
    rw [Around.under_plainId F.plain_min_loop]
    refine wpAny_bind (wpAny_seqItems hS rfl ?_)
    show wpAny _ _ _ _ _ _
    refine wpAny_bind (wpAny_tryCatch (W.item (j + 1) _ _ _ hlt hst fun v h' tk hP hst' hk' => ?_))
    have hS' := hk' S _ hSw hS
    have hkp' : ∀ b o, s0.heap.get? b = some o → h'.get? b = some o := fun b o e => hk' b o (hw b o e).1 (hkp b o e)
    refine wpAny_bind (wpAny_pure ?_)
    show wpAny _ _ _ _ _ _
    refine wpAny_bind (wpAny_tryCatch (wpAny_holding (wpAny_bind (hcmp (j + 1) (argBest bt j) v vb h' tk hP hPb hkp' _ _ _ _ ?_))))
    refine wpAny_bind (wpAny_holding (wpAny_truthy_bool (wpAny_bind (wpAny_letGo (wpAny_pure ?_)))))
    cases hb : bt (j + 1) (argBest bt j) with
    | false =>
      refine wpAny_bind (wpAny_letGo (wpAny_pure ⟨plainId_quiet F.plain_min_loop _, ih (j + 1) h' tk vb c (by omega) hlt hst' ?_ hS' hkp' fun v' h'' tk'' hP' hk'' => hR v' h'' tk'' hP' fun b o hbw hbS e => hk'' b o hbw hbS (hk' b o hbw e)⟩))
      show P (if bt (j + 1) (argBest bt j) = true then j + 1 else argBest bt j) vb
      rw [hb]
      exact hPb
    | true =>
      refine wpAny_bind (wpAny_updateSeq hS' rfl (wpAny_bind (wpAny_letGo (wpAny_pure ⟨plainId_quiet F.plain_min_loop _, ih (j + 1) _ tk v _ (by omega) hlt (W.frame (j + 1 + 1) h' _ hst' fun b hbf o e => (Heap.get?_update_other h' _ fun z => hSf (by first | (rw [z]; exact hbf) | (rw [← z]; exact hbf))).trans e) ?_ (Heap.get?_update_self _ hS' rfl) (fun b o e => (Heap.get?_update_other h' _ (Ne.symm (hw b o e).2)).trans (hkp' b o e))
        fun v' h'' tk'' hP' hk'' => hR v' h'' tk'' hP' fun b o hbw hbS e => hk'' b o hbw hbS ((Heap.get?_update_other h' _ (Ne.symm hbS)).trans (hk' b o hbw e))⟩))) ?_ ?_)
      · show P (if bt (j + 1) (argBest bt j) = true then j + 1 else argBest bt j) v
        rw [hb]
        exact hP
      all_goals (simp [sizeLine_eq])
theorem min_firstH (W : Walks prog w A.in1 I fp wr n P St) (bt : Nat → Nat → Bool) (s0 : Shared) (S : Addr) (hw : ∀ b o, s0.heap.get? b = some o → b ∉ wr ∧ b ≠ S)
    (hcmp : ∀ i j vi vj h' tk, P i vi → P j vj → (∀ b o, s0.heap.get? b = some o → h'.get? b = some o) → SeqAt.RcLt A.in1 { heap := h', gens := s0.gens, drawn := s0.drawn, toks := tk, os := s0.os } vi vj (bt i j))
    (hSf : S ∉ fp) (hn : 0 < n) {h : Heap} {t c : Nat} (hst : St 0 h) (hS : h.get? S = some { cls := .type "list", data := .seq #[] c }) (hkp : ∀ b o, s0.heap.get? b = some o → h.get? b = some o)
    (hR : ∀ v h' tk, P (argBest bt (n - 1)) v → (∀ b o, b ∉ wr → b ≠ S → h.get? b = some o → h'.get? b = some o) → R (.ok (.ret v)) { heap := h', gens := s0.gens, drawn := s0.drawn, toks := tk, os := s0.os }) :
    codeAny (model prog w) A (.builtin "min.loop" { pos := [.ref I, .none, .ref S] }) R { heap := h, gens := s0.gens, drawn := s0.drawn, toks := t, os := s0.os } := by
  have hSw : S ∉ wr := fun h => hSf (W.sub S h)
  refine codeAny_builtin F.entry_min_loop ?_
  rw [Around.under_plainId F.plain_min_loop]
  refine wpAny_bind (wpAny_seqItems hS rfl ?_)
  show wpAny _ _ _ _ _ _
  refine wpAny_bind (wpAny_tryCatch (W.item 0 _ _ _ hn hst fun v h' tk hP hst' hk' => ?_))
  have hS' := hk' S _ hSw hS
  have hkp' : ∀ b o, s0.heap.get? b = some o → h'.get? b = some o := fun b o e => hk' b o (hw b o e).1 (hkp b o e)
  refine wpAny_bind (wpAny_pure ?_)
  show wpAny _ _ _ _ _ _
  refine wpAny_bind (wpAny_updateSeq hS' rfl (wpAny_pure ⟨plainId_quiet F.plain_min_loop _, min_loopH W bt s0 S hw hcmp hSf (n - (0 + 1)) 0 _ tk v _ rfl hn (W.frame (0 + 1) h' _ hst' fun b hbf o e => (Heap.get?_update_other h' _ fun z => hSf (by first | (rw [z]; exact hbf) | (rw [← z]; exact hbf))).trans e) hP (Heap.get?_update_self _ hS' rfl) (fun b o e => (Heap.get?_update_other h' _ (Ne.symm (hw b o e).2)).trans (hkp' b o e))
    fun v' h'' tk'' hP' hk'' => hR v' h'' tk'' hP' fun b o hbw hbS e => hk'' b o hbw hbS ((Heap.get?_update_other h' _ (Ne.symm hbS)).trans (hk' b o hbw e))⟩) ?_ ?_)
  all_goals (simp [sizeLine_eq])
end
/-- min(l), the items told by their places -/
theorem min_listH {prog : Program} {w : World} {A : Around} {E : Value → Shared → Prop} {s : Shared} {l : Addr} {items : Array Value} {Q : Value → Shared → Prop} (hh : A.handled = none) (hl : s.heap.IsList l items) (hne : 0 < items.size) (bt : Nat → Nat → Bool)
    (hcmp : ∀ i j vi vj h' tk, items[i]? = some vi → items[j]? = some vj → (∀ b o, s.heap.get? b = some o → h'.get? b = some o) → SeqAt.RcLt A.in1 { heap := h', gens := s.gens, drawn := s.drawn, toks := tk, os := s.os } vi vj (bt i j))
    (hQ : ∀ v h' tk, items[argBest bt (items.size - 1)]? = some v → (∀ b o, s.heap.get? b = some o → h'.get? b = some o) → Q v { heap := h', gens := s.gens, drawn := s.drawn, toks := tk, os := s.os }) :
    wpAny (model prog w) A (call (.builtin "min") [.ref l]) Q E s := by
  have lt : l < s.heap.objs.size := let ⟨_, gl, _⟩ := hl; Heap.lt_size gl
  have nI : l ≠ s.heap.objs.size := Nat.ne_of_lt lt
  refine call_function_tree F.kind_min F.plain_min F.entry_min (F.args_min1 _) ?_
  show wpAny _ _ _ _ _ _
  refine wpAny_bind (wpAny_of_eq rfl (wpAny_bind (wpAny_pure (wpAny_bind (wpAny_pyIter_list hl (wpAny_bind (wpAny_newObj_type (wpAny_pure ⟨plainId_quiet F.plain_min_loop _, ?_⟩) ?_)))))))
  · refine min_firstH (Walks.list (A := A.in1) (by simp [hh]) s.heap.objs.size l nI items) bt s (s.heap.push { cls := .type "list_iterator", data := .fields #[.ref l, .int 0 0] }).objs.size (fun b o e => ?_) hcmp ?_ hne ⟨⟨_, Heap.get?_push_of_some _ (Heap.get?_push_size _ rfl), rfl, rfl⟩, (hl.push _).push _⟩ (Heap.get?_push_size _ rfl) (fun b o e => Heap.get?_push_of_some _ (Heap.get?_push_of_some _ e)) fun v h' tk hP hk => hQ v h' tk hP fun b o e => ?_
    · have hb := Heap.lt_size e
      refine ⟨fun z => Nat.ne_of_lt hb (List.mem_singleton.mp z), ?_⟩
      rw [Heap.size_push]
      exact Nat.ne_of_lt (Nat.lt_succ_of_lt hb)
    · intro z
      rw [Heap.size_push] at z
      rcases List.mem_cons.mp z with z | z
      · exact Nat.succ_ne_self _ z
      · exact Nat.ne_of_gt (Nat.lt_succ_of_lt lt) (List.mem_singleton.mp z)
    · have hb := Heap.lt_size e
      refine hk b o (fun z => Nat.ne_of_lt hb (List.mem_singleton.mp z)) ?_ (Heap.get?_push_of_some _ (Heap.get?_push_of_some _ e))
      rw [Heap.size_push]
      exact Nat.ne_of_lt (Nat.lt_succ_of_lt hb)
  · show (#[] : Array Value).size ≤ _
    simp
end L2
namespace RL
open PySem PySem.Spec PyProof.Rows L2 Rep
open PySem.W (alike alikeAll dataLe dataLt)
/-- the least, the first of such -/
def dmin {α : Type} [Rep α] [DecidableEq α] [Dat α] (d : α) : List α → α
  | [] => d
  | x :: xs => xs.foldl (fun b y => if dataLt (Dat.toD y) (Dat.toD b) = true then y else b) x
section
variable {α : Type} [Rep α] [DecidableEq α] [Dat α] {X : Cx} {σ : St} {G H : Hp} {P : PV} {e : Expr} {pos p : Pos}
theorem dmin_snoc (d : α) (xs : List α) (y : α) (h : xs ≠ []) : dmin d (xs ++ [y]) = if dataLt (Dat.toD y) (Dat.toD (dmin d xs)) = true then y else dmin d xs := by
  cases xs with
  | nil => exact absurd rfl h
  | cons x xs => show (xs ++ [y]).foldl _ x = _; rw [List.foldl_append]; rfl
def btD (xs : List α) (i j : Nat) : Bool := match xs[i]?, xs[j]? with
  | some a, some b => dataLt (Dat.toD a) (Dat.toD b)
  | _, _ => false
theorem btD_at {xs : List α} {i j : Nat} {a b : α} (h1 : xs[i]? = some a) (h2 : xs[j]? = some b) : btD xs i j = dataLt (Dat.toD a) (Dat.toD b) := by
  unfold btD
  rw [h1, h2]
theorem vals_at : ∀ {us : List V} {its : List Value} {i : Nat} {u : V} {v : Value}, Vals us its → us[i]? = some u → its[i]? = some v → RelV u v
  | _, _, 0, _, _, .cons r _, h1, h2 => by
    simp at h1 h2
    subst h1 h2
    exact r
  | _, _, i + 1, _, _, .cons _ t, h1, h2 => vals_at t (by simpa using h1) (by simpa using h2)
theorem best_dmin (d : α) (xs : List α) : ∀ k, k < xs.length → xs[argBest (btD xs) k]? = some (dmin d (xs.take (k + 1)))
  | 0, h => by
    cases xs with
    | nil => cases h
    | cons x xs => rfl
  | k + 1, h => by
    have ih := best_dmin d xs k (by omega)
    have hx : xs[k + 1]? = some xs[k + 1] := List.getElem?_eq_getElem h
    rw [List.take_add_one (i := k + 1), hx]
    show xs[if btD xs (k + 1) (argBest (btD xs) k) = true then k + 1 else argBest (btD xs) k]? = some (dmin d (xs.take (k + 1) ++ [xs[k + 1]]))
    rw [dmin_snoc d _ _ (fun z => by have z := congrArg List.length z; rw [List.length_take] at z; have : ([] : List α).length = 0 := rfl; omega)]
    rw [btD_at hx ih]
    by_cases hc : dataLt (Dat.toD xs[k + 1]) (Dat.toD (dmin d (xs.take (k + 1)))) = true
    · rw [if_pos hc, if_pos hc, hx]
    · rw [if_neg hc, if_neg hc, ih]
theorem cr_minA [ds : DatS α] (d : α) (hc : X.calm = true) (hu : X.A.units + 64 < cLine) (hd : Dat.deep α ≤ 60) (hn : ∀ x : α, Dat.toD x ≠ .none) : CallR X (.builtin "min") (fun vs H Q => ∃ (a : Addr) (us : List V) (xs : List α) (G : Hp), vs = [.ref a] ∧ SqL X.K H a us ∧ Same G H ∧ Paired (rep X.K G) us xs ∧ 0 < xs.length ∧
    ∀ u, u ∈ us → rep X.K G u (dmin d xs) → Q u H) := by
  intro pins s σ H vs us Q I r h
  obtain ⟨a, us', xs, G, rfl, hs, sg, pr, hl0, q⟩ := h
  obtain ⟨its, rv, hl, hz⟩ := I.list hs
  obtain ⟨u, rfl, ru⟩ := vals1 r
  obtain rfl : u = Value.ref a := ru
  have l1 : us'.length = xs.length := paired_len pr
  have l2 : us'.length = its.length := rv.length
  have at_ : ∀ (i : Nat) (v : Value), its.toArray[i]? = some v → ∃ u x, us'[i]? = some u ∧ xs[i]? = some x ∧ RelV u v ∧ rep X.K G u x := fun i v hv => by
    have hv : its[i]? = some v := by simpa using hv
    have hi : i < its.length := (List.getElem?_eq_some_iff.mp hv).1
    have hx : xs[i]? = some (xs[i]'(by omega)) := List.getElem?_eq_getElem (by omega)
    obtain ⟨u, hu, r⟩ := paired_get pr hx
    refine ⟨u, _, hu, hx, ?_, r⟩
    exact vals_at rv hu hv
  refine min_listH (I.ok.hd hc) hl.isList (by simp; omega) (btD xs) (fun i j vi vj h' tk hi hj kp => ?_) fun v h' tk hv kp => ?_
  · obtain ⟨u1, x1, _, e1, r1, p1⟩ := at_ i vi hi
    obtain ⟨u2, x2, _, e2, r2, p2⟩ := at_ j vj hj
    have I2 := I.kept (t' := tk) kp
    obtain ⟨as, ra⟩ := Dp.reads I2 _ _ _ (Dat.dp sg p1) r1
    obtain ⟨bs, rb⟩ := Dp.reads I2 _ _ _ (Dat.dp sg p2) r2
    rw [btD_at e1 e2]
    have h1 := Dat.dep x1
    have h2 := Dat.dep x2
    refine PySem.W.rcLt_alike _ _ _ _ _ _ as bs ra rb (ds.al x1 x2) (hn x1) ?_
    show X.A.units + 1 + min (Dat.toD x1).depth (Dat.toD x2).depth < cLine
    omega
  · have hb := best_dmin d xs (its.toArray.size - 1) (by simp; omega)
    rw [show its.toArray.size - 1 + 1 = xs.length by simp; omega, List.take_length] at hb
    obtain ⟨u, x, hu, hx, r1, p1⟩ := at_ _ _ hv
    rw [hb] at hx
    cases hx
    exact ⟨u, H, I.kept kp, r1, q u (List.mem_of_getElem? hu) p1⟩
theorem ev_minA {xs : List α} {inst : Rep α} {de : DecidableEq α} {da : Dat α} [m : MonoC P] [s : AsSeq X.K P α inst xs] [DatS α] (hc : X.calm = true) (hu : X.A.units + 64 < cLine) (B : Bl X "min") (d : α) (h0 : 0 < xs.length) (h : EvP X e σ G H P) (hd : Dat.deep α ≤ 60 := by decide) (hn : ∀ x : α, Dat.toD x ≠ .none := by intro x z; cases z)
    (he : starEach [e] X.env = (false, eval e X.env) :: starEach [] X.env := by rfl) : Ev X (.Call (.Name "min" p) [e] [] pos) σ G H (dmin d xs) :=
  evP_of (pe_callB (cr_minA d hc hu hd hn) B.g B.m boot_min (pa_cons pe_sem pa_nil he) (by decide) (by decide) he rfl) fun G1 H1 x1 Q q => h G1 H1 x1 _ fun G2 H2 v x2 _ pv => by
    obtain ⟨a, us, e, g, pr⟩ := s.seq _ _ _ x2.s pv
    exact ⟨a, us, xs, G2, by rw [e], g, x2.s, pr, h0, fun u _ r => q G2 H2 u x2 r⟩
end
section
variable {α : Type} [Rep α] [DecidableEq α] [Dat α]
theorem dmin_spec (d : α) : ∀ (xs : List α) (x : α), dmin d (x :: xs) ∈ x :: xs ∧ ∀ y ∈ x :: xs, dataLt (Dat.toD y) (Dat.toD (dmin d (x :: xs))) = false := by
  have ir : ∀ a : α, dataLt (Dat.toD a) (Dat.toD a) = false := fun a => (PyProof.Rows.listOrd PyProof.Rows.itemOrd).irrefl _
  have nt : ∀ a b c : α, dataLt (Dat.toD a) (Dat.toD c) = true → dataLt (Dat.toD a) (Dat.toD b) = true ∨ dataLt (Dat.toD b) (Dat.toD c) = true := fun a b c h => (PyProof.Rows.listOrd PyProof.Rows.itemOrd).negTrans _ (PySem.W.keyToks (Dat.toD b)) _ h
  have tr : ∀ a b c : α, dataLt (Dat.toD a) (Dat.toD b) = true → dataLt (Dat.toD b) (Dat.toD c) = true → dataLt (Dat.toD a) (Dat.toD c) = true := fun a b c h1 h2 => (PyProof.Rows.listOrd PyProof.Rows.itemOrd).trans _ _ _ h1 h2
  intro xs
  induction xs with
  | nil => exact fun x => ⟨List.mem_singleton.mpr rfl, fun y hy => by rw [List.mem_singleton.mp hy]; exact ir x⟩
  | cons z xs ih =>
    intro x
    have e : dmin d (x :: z :: xs) = dmin d ((if dataLt (Dat.toD z) (Dat.toD x) = true then z else x) :: xs) := rfl
    rw [e]
    obtain ⟨h1, h2⟩ := ih (if dataLt (Dat.toD z) (Dat.toD x) = true then z else x)
    have h3 := h2 _ List.mem_cons_self
    generalize dmin d _ = b at h1 h2 h3
    by_cases hc : dataLt (Dat.toD z) (Dat.toD x) = true
    · rw [if_pos hc] at h1 h2 h3
      refine ⟨List.mem_cons_of_mem _ h1, fun y hy => ?_⟩
      rcases List.mem_cons.mp hy with rfl | hy
      · cases hb : dataLt (Dat.toD y) (Dat.toD b) with
        | false => rfl
        | true => exact absurd (tr _ _ _ hc hb) (by rw [h3]; decide)
      · exact h2 y hy
    · rw [if_neg hc] at h1 h2 h3
      refine ⟨?_, fun y hy => ?_⟩
      · rcases List.mem_cons.mp h1 with h | h
        · rw [h]; exact List.mem_cons_self
        · exact List.mem_cons_of_mem _ (List.mem_cons_of_mem _ h)
      · rcases List.mem_cons.mp hy with rfl | hy
        · exact h3
        · rcases List.mem_cons.mp hy with rfl | hy
          · cases hb : dataLt (Dat.toD y) (Dat.toD b) with
            | false => rfl
            | true =>
              rcases nt _ x _ hb with g | g
              · exact absurd g hc
              · rw [h3] at g; cases g
          · exact h2 y (List.mem_cons_of_mem _ hy)
theorem dmin_mem (d : α) {xs : List α} (h : xs ≠ []) : dmin d xs ∈ xs := by
  cases xs with
  | nil => exact absurd rfl h
  | cons x xs => exact (dmin_spec d xs x).1
theorem dmin_le (d : α) {xs : List α} {y : α} (h : y ∈ xs) : dataLt (Dat.toD y) (Dat.toD (dmin d xs)) = false := by
  cases xs with
  | nil => cases h
  | cons x xs => exact (dmin_spec d xs x).2 y h
end
/-- the order of pairs of ints -/
theorem dlt_pair (p q : Int × Int) : dataLt (Dat.toD p) (Dat.toD q) = (if p.1 = q.1 then decide (p.2 < q.2) else decide (p.1 < q.1)) := by
  show dataLt (.tuple [.int p.1, .int p.2]) (.tuple [.int q.1, .int q.2]) = _
  rw [PySem.W.dataLt_pair (by simp [alike]) (by simp [alike])]
  have e : PyData.eqv (.int p.1) (.int q.1) = decide (p.1 = q.1) := Dat.eqv (α := Int) p.1 q.1
  have e2 : PyData.eqv (.int p.2) (.int q.2) = decide (p.2 = q.2) := Dat.eqv (α := Int) p.2 q.2
  rw [e, e2, PySem.W.dataLt_int, PySem.W.dataLt_int]
  by_cases h : p.1 = q.1
  · rw [if_pos (by simpa using h), if_pos h]
    by_cases h2 : p.2 = q.2
    · simp [h2]
    · simp [h2]
  · rw [if_neg (by simpa using h), if_neg h]
end RL

set_option Elab.async false
set_option linter.all false
set_option maxRecDepth 100000
set_option maxHeartbeats 4000000
/-! R5: sum(lists, []); drawn comprehensions with a drawn test. -/
namespace R5
open PySem PySem.Spec PyProof.Rows L2 RL
section
variable {prog : Program} {w : World} {A : Around} {E : Value → Shared → Prop} {R : Result → Shared → Prop}
theorem args_sum2 (a b : Value) : argsOk "sum" ⟨[a, b], []⟩ := by unfold argsOk; kernel_rfl
theorem sub_list_str : isSubtype (.type "list") (.type "str") = pure false := by rw [isSubtype_type]; kernel_rfl
theorem sub_list_bytes : isSubtype (.type "list") (.type "bytes") = pure false := by rw [isSubtype_type]; kernel_rfl
theorem sub_list_bytearray : isSubtype (.type "list") (.type "bytearray") = pure false := by rw [isSubtype_type]; kernel_rfl
def LstO (h : Heap) (a : Addr) (vs : List Value) : Prop := ∃ n, h.get? a = some { cls := .type "list", data := .seq vs.toArray n }
theorem loop_lists (hh : A.handled = none) (I l S B : Addr) (hne : l ≠ I) (hSI : S ≠ I) (hSl : S ≠ l) (hIB : B ≤ I) (hSB : B ≤ S) (items : Array Value) :
    ∀ (rest : List (Addr × List Value)) (i : Nat) (s : Shared) (p : Addr) (acc : List Value) (c : Nat), i + rest.length = items.size → (∀ j q, rest[j]? = some q → items[i + j]? = some (.ref q.1) ∧ LstO s.heap q.1 q.2 ∧ q.1 < B) →
      s.heap.IsListIter I l i → s.heap.IsList l items → s.heap.get? S = some { cls := .type "list", dict := none, data := .seq #[.ref p] c, slots := #[] } → LstO s.heap p acc → p ≠ I → p ≠ S → acc.length + (rest.map (·.2)).flatten.length ≤ sizeLine →
      (∀ h' tk p', (∀ b o, b ≠ I → b ≠ S → s.heap.get? b = some o → h'.get? b = some o) → LstO h' p' (acc ++ (rest.map (·.2)).flatten) → (rest = [] ∧ p' = p ∨ B ≤ p') → R (.ok (.ret (.ref p'))) { s with heap := h', toks := tk }) →
      codeAny (model prog w) A (.builtin "sum.loop" ⟨[.ref I, .ref S, rawInt 2, rawInt 0], []⟩) R s := by
  intro rest
  induction rest with
  | nil =>
    intro i s p acc c hi hq hit hl hS hp hpI hpS hz hR
    refine codeAny_builtin F.entry_sum_loop ?_
    rw [Around.under_plainId F.plain_sum_loop _]
    show wpAny _ A.in1 (seqItems? (.ref S) >>= _) _ _ s
    refine wpAny_bind (wpAny_seqItems hS rfl ?_)
    show wpAny _ A.in1 (tryCatch (pyNext (.ref I)) _ >>= _) _ _ s
    have hi : i = items.size := by simpa using hi
    subst hi
    refine wpAny_bind (wpAny_tryCatch ((Walks.list (A := A.in1) (prog := prog) (w := w) hh I l hne items).done s _ _ ⟨hit, hl⟩ fun h' tk hk => ?_))
    obtain ⟨n, hp⟩ := hp
    exact wpAny_pure (hR h' tk p (fun b o h1 h2 e => hk b o (fun z => h1 (List.mem_singleton.mp z)) e) ⟨n, hk p _ (fun z => hpI (List.mem_singleton.mp z)) (by simpa using hp)⟩ (.inl ⟨rfl, rfl⟩))
  | cons q rest ih =>
    intro i s p acc c hi hq hit hl hS hp hpI hpS hz hR
    obtain ⟨q0, vs⟩ := q
    have h0 := hq 0 (q0, vs) rfl
    have hlt : i < items.size := by have hi2 := hi; rw [List.length_cons] at hi2; omega
    refine codeAny_builtin F.entry_sum_loop ?_
    rw [Around.under_plainId F.plain_sum_loop _]
    show wpAny _ A.in1 (seqItems? (.ref S) >>= _) _ _ s
    refine wpAny_bind (wpAny_seqItems hS rfl ?_)
    show wpAny _ A.in1 (tryCatch (pyNext (.ref I)) _ >>= _) _ _ s
    refine wpAny_bind (wpAny_tryCatch ((Walks.list (A := A.in1) (prog := prog) (w := w) hh I l hne items).item i s _ _ hlt ⟨hit, hl⟩ fun v h' tk hv st' hk => ?_))
    have hv : items[i]? = some v := hv
    have ev : v = .ref q0 := Option.some.inj (hv.symm.trans h0.1)
    subst ev
    have hk' : ∀ b o, b ≠ I → s.heap.get? b = some o → h'.get? b = some o := fun b o hb e => hk b o (fun z => hb (List.mem_singleton.mp z)) e
    have hS' := hk' S _ hSI hS
    obtain ⟨np, hp⟩ := hp
    obtain ⟨nq, hq0⟩ := h0.2.1
    have hp' := hk' p _ hpI hp
    have hq0' := hk' q0 _ (fun z => Nat.lt_irrefl _ (Nat.lt_of_lt_of_le (z ▸ (show q0 < B from h0.2.2)) hIB)) hq0
    show wpAny _ A.in1 ((holding [Value.ref q0] (binaryOp .Add (.ref p) (.ref q0))).attempt >>= _) _ _ _
    have hz3 : acc.length + (q0, vs).2.length ≤ sizeLine := by
      rw [List.map_cons, List.flatten_cons, List.length_append] at hz
      omega
    have hz3 : acc.length + vs.length ≤ sizeLine := hz3
    have hz2 : acc.length + vs.length + (rest.map (·.2)).flatten.length ≤ sizeLine := by
      rw [List.map_cons, List.flatten_cons, List.length_append] at hz
      exact Nat.le_trans (Nat.le_of_eq (Nat.add_assoc _ _ _)) hz
    refine wpAny_bind (wpAny_attempt (wpAny_holding (PySem.P.add_list hp' hq0' ?_ (by rw [List.size_toArray, List.size_toArray]; omega))))
    have ea : acc.toArray ++ vs.toArray = (acc ++ vs).toArray := by simp
    rw [ea]
    have hSsz := Heap.lt_size hS'
    have hS2 := Heap.get?_push_of_some ({ cls := .type "list", data := .seq (acc ++ vs).toArray } : Obj) hS'
    show wpAny _ A.in1 (updateSeq S (fun _ => #[.ref h'.objs.size]) >>= _) _ _ _
    refine wpAny_bind (wpAny_updateSeq hS2 rfl ?_)
    have hS₂ := Heap.get?_update_self (Obj.mapSeq fun _ => #[Value.ref h'.objs.size]) hS2 rfl
    refine wpAny_bind (wpAny_letGo ?_)
    have up : ∀ b o, b ≠ S → h'.get? b = some o → ((((h'.push ({ cls := .type "list", data := .seq (acc ++ vs).toArray } : Obj))).update S (Obj.mapSeq fun _ => #[Value.ref h'.objs.size])).update S (Obj.mapSeq fun _ => #[Value.ref h'.objs.size])).get? b = some o := fun b o h2 e => (Heap.get?_update_other _ (Obj.mapSeq fun _ => #[Value.ref h'.objs.size]) (Ne.symm h2)).trans ((Heap.get?_update_other _ (Obj.mapSeq fun _ => #[Value.ref h'.objs.size]) (Ne.symm h2)).trans (Heap.get?_push_of_some ({ cls := .type "list", data := .seq (acc ++ vs).toArray } : Obj) e))
    have hnS : h'.objs.size ≠ S := fun z => Nat.lt_irrefl _ (z ▸ hSsz)
    have hI' : I < h'.objs.size := by obtain ⟨o, e, _⟩ := st'.1; exact Heap.lt_size e
    have hnI : h'.objs.size ≠ I := fun z => Nat.lt_irrefl _ (z ▸ hI')
    refine wpAny_bind (wpAny_updateSeq hS₂ rfl (wpAny_pure ⟨plainId_quiet F.plain_sum_loop _, ih (i + 1) _ h'.objs.size (acc ++ vs) _ (by have hi2 := hi; rw [List.length_cons] at hi2; omega) (fun j q e => ?_) ?_ ?_ (Heap.get?_update_self _ hS₂ rfl) ?_ hnI hnS ?_ fun h2 tk2 p' hk2 hp2 hd => ?_⟩))
    · have hj := hq (j + 1) q e
      refine ⟨by rw [show i + 1 + j = i + (j + 1) by omega]; exact hj.1, ?_, hj.2.2⟩
      obtain ⟨n, e1⟩ := hj.2.1
      exact ⟨n, up _ _ (fun z => Nat.lt_irrefl _ (Nat.lt_of_lt_of_le (z ▸ (show q.1 < B from hj.2.2)) hSB)) (hk' _ _ (fun z => Nat.lt_irrefl _ (Nat.lt_of_lt_of_le (z ▸ (show q.1 < B from hj.2.2)) hIB)) e1)⟩
    · exact st'.1.at fun o e => up _ _ (Ne.symm hSI) e
    · exact st'.2.at fun o e => up _ _ (Ne.symm hSl) e
    · exact ⟨0, (Heap.get?_update_other _ (Obj.mapSeq fun _ => #[Value.ref h'.objs.size]) (Ne.symm hnS)).trans ((Heap.get?_update_other _ (Obj.mapSeq fun _ => #[Value.ref h'.objs.size]) (Ne.symm hnS)).trans (Heap.get?_push_size _ rfl))⟩
    · rw [List.length_append]; exact hz2
    · refine hR h2 tk2 p' (fun b o h1 h3 e => hk2 b o h1 h3 (up b o h3 (hk' b o h1 e))) ?_ (.inr ?_)
      · rw [List.map_cons, List.flatten_cons, ← List.append_assoc]
        exact hp2
      · rcases hd with ⟨_, hd⟩ | hd
        · rw [hd]; exact Nat.le_trans hIB (Nat.le_of_lt hI')
        · exact hd
theorem call_sum_lists {s : Shared} {l p : Addr} {rest : List (Addr × List Value)} {Q : Value → Shared → Prop} (hh : A.handled = none) (hl : s.heap.IsList l (rest.map fun q => Value.ref q.1).toArray) (hp : LstO s.heap p []) (hq : ∀ q ∈ rest, LstO s.heap q.1 q.2) (hz : (rest.map (·.2)).flatten.length ≤ sizeLine)
    (h : ∀ h' tk p', (∀ b o, s.heap.get? b = some o → h'.get? b = some o) → LstO h' p' (rest.map (·.2)).flatten → (rest = [] ∧ p' = p ∨ s.heap.objs.size ≤ p') → Q (.ref p') { s with heap := h', toks := tk }) :
    wpAny (model prog w) A (call (.builtin "sum") [.ref l, .ref p]) Q E s := by
  refine call_function_tree F.kind_sum F.plain_sum F.entry_sum (args_sum2 _ _) ?_
  unfold Builtin.«sum»
  simp only [List.length_cons, List.length_nil]
  rw [if_neg (by decide)]
  refine wpAny_bind (wpAny_of_eq (show Builtin.Builtins.bindParams "sum" ["start"] 0 ⟨[.ref p], []⟩ = pure [some (.ref p)] from rfl) ?_)
  have hlt : l < s.heap.objs.size := by obtain ⟨_, e, _⟩ := hl; exact Heap.lt_size e
  obtain ⟨np, hp⟩ := hp
  have hpt := Heap.lt_size hp
  refine wpAny_bind (wpAny_pyIter_list hl ?_)
  have hp1 := Heap.get?_push_of_some ({ cls := .type "list_iterator", data := .fields #[.ref l, .int 0 0] } : Obj) hp
  refine wpAny_bind (wpAny_pure ?_)
  simp only [List.forIn_cons, List.forIn_nil]
  refine wpAny_bind (wpAny_bind (wpAny_bind (wpAny_isInstance (T := "list") (b := false) ⟨_, hp1, rfl⟩ sub_list_str ?_)))
  simp only [Bool.false_eq_true, if_false]
  refine wpAny_pure (wpAny_bind (wpAny_bind (wpAny_isInstance (T := "list") (b := false) ⟨_, hp1, rfl⟩ sub_list_bytes ?_)))
  simp only [Bool.false_eq_true, if_false]
  refine wpAny_pure (wpAny_bind (wpAny_bind (wpAny_isInstance (T := "list") (b := false) ⟨_, hp1, rfl⟩ sub_list_bytearray ?_)))
  simp only [Bool.false_eq_true, if_false]
  refine wpAny_pure (wpAny_pure ?_)
  refine wpAny_bind (wpAny_newObj_type ?_)
  have sz : (s.heap.push ({ cls := .type "list_iterator", data := .fields #[.ref l, .int 0 0] } : Obj)).objs.size = s.heap.objs.size + 1 := Heap.size_push _ _
  have up : ∀ b o, s.heap.get? b = some o → ((s.heap.push ({ cls := .type "list_iterator", data := .fields #[.ref l, .int 0 0] } : Obj)).push ({ cls := .type "list", data := .seq #[.ref p] } : Obj)).get? b = some o := fun b o e => Heap.get?_push_of_some _ (Heap.get?_push_of_some _ e)
  refine wpAny_pure ⟨plainId_quiet F.plain_sum_loop _, loop_lists hh s.heap.objs.size l _ s.heap.objs.size (Nat.ne_of_lt hlt) ?_ ?_ (Nat.le_refl _) ?_ _ rest 0 _ p [] 0 (by simp) (fun j q e => ?_) ⟨_, Heap.get?_push_of_some _ (Heap.get?_push_size _ rfl), rfl, rfl⟩ (hl.at fun o e => up _ _ e) (Heap.get?_push_size _ rfl) ⟨np, up _ _ hp⟩ (Nat.ne_of_lt hpt) ?_ (by simpa using hz) fun h' tk p' hk hp' hd => ?_⟩
  · show (s.heap.push _).objs.size ≠ _
    rw [sz]; exact Nat.succ_ne_self _
  · show (s.heap.push _).objs.size ≠ _
    rw [sz]; exact fun z => Nat.lt_irrefl l (Nat.lt_of_lt_of_le hlt (by rw [← z]; exact Nat.le_succ _))
  · show _ ≤ (s.heap.push _).objs.size
    rw [sz]; exact Nat.le_succ _
  · obtain ⟨n, e1⟩ := hq q (List.mem_of_getElem? e)
    refine ⟨?_, ⟨n, up _ _ e1⟩, Heap.lt_size e1⟩
    rw [Nat.zero_add, List.getElem?_toArray, List.getElem?_map, e]
    rfl
  · show p ≠ (s.heap.push _).objs.size
    rw [sz]; exact Nat.ne_of_lt (Nat.lt_succ_of_lt hpt)
  · refine h h' tk p' (fun b o e => hk b o (Nat.ne_of_lt (Heap.lt_size e)) ?_ (up _ _ e)) (by simpa using hp') hd
    show b ≠ (s.heap.push _).objs.size
    rw [sz]
    exact Nat.ne_of_lt (Nat.lt_succ_of_lt (Heap.lt_size e))
end
section
variable {X : Cx} {σ : L2.St} {G H : Hp} {e : Expr}
def rSumL : List V → Hp → VK → Prop := fun vs H Q => ∃ (a p : Addr) (ks : List (Addr × List V)), vs = [V.ref a, V.ref p] ∧ H a = some (.lst (ks.map fun q => V.ref q.1)) ∧ H p = some (.lst []) ∧ (∀ q ∈ ks, H q.1 = some (.lst q.2)) ∧ (ks.map (·.2)).flatten.length ≤ sizeLine ∧
  (ks = [] → Q (.ref p) H) ∧ ∀ p', H p' = none → Q (.ref p') (upd H p' (.lst (ks.map (·.2)).flatten))
theorem vals_refs : ∀ (qs : List Addr) {us : List Value}, Vals (qs.map V.ref) us → us = qs.map Value.ref
  | [], us, r => by cases r; rfl
  | q :: qs, us, r => by
    cases r with
    | cons r1 r2 =>
      cases r1
      rw [vals_refs qs r2]
      rfl
theorem lists_of {pins : List (Addr × Obj)} {s : Shared} (I : Inv X pins σ H s) : ∀ ks : List (Addr × List V), (∀ q ∈ ks, H q.1 = some (.lst q.2)) → ∃ rest : List (Addr × List Value), rest.map (·.1) = ks.map (·.1) ∧ (∀ q ∈ rest, LstO s.heap q.1 q.2) ∧ Vals (ks.map (·.2)).flatten (rest.map (·.2)).flatten
  | [], _ => ⟨[], rfl, fun q h => (by cases h), .nil⟩
  | k :: ks, h => by
    obtain ⟨rest, e1, e2, e3⟩ := lists_of I ks fun q hq => h q (List.mem_cons_of_mem _ hq)
    obtain ⟨z, its, n, r, hl, e⟩ := I.lstM (h k List.mem_cons_self)
    refine ⟨(k.1, its) :: rest, by rw [List.map_cons, List.map_cons, e1], fun q hq => ?_, ?_⟩
    · rcases List.mem_cons.mp hq with rfl | hq
      · exact ⟨n, e⟩
      · exact e2 q hq
    · rw [List.map_cons, List.map_cons, List.flatten_cons, List.flatten_cons]
      exact r.append e3
theorem cr_sumL (hc : X.calm = true) : CallR X (.builtin "sum") rSumL := by
  intro pins s σ H vs us Q I r h
  obtain ⟨a, p, ks, rfl, ha, hp, hk, hz, q0, q1⟩ := h
  obtain ⟨u, w', rfl, r1, r2⟩ := vals2 r
  cases r1
  cases r2
  obtain ⟨rest, e1, e2, e3⟩ := lists_of I ks hk
  obtain ⟨z, its, n, rv, hl, el⟩ := I.lstM ha
  obtain ⟨z2, its2, n2, rv2, hl2, ep⟩ := I.lstM hp
  cases rv2
  have ei : its = rest.map fun q => Value.ref q.1 := by
    have h1 : ks.map (fun q => V.ref q.1) = (ks.map (·.1)).map V.ref := by rw [List.map_map]; rfl
    have h2 : rest.map (fun q => Value.ref q.1) = (rest.map (·.1)).map Value.ref := by rw [List.map_map]; rfl
    rw [h1] at rv
    rw [vals_refs _ rv, h2, e1]
  subst ei
  refine call_sum_lists (I.ok.hd hc) ⟨_, el, rfl, n, rfl⟩ ⟨n2, ep⟩ e2 (by rw [← e3.length]; exact hz) fun h' tk p' k1 k2 k3 => ?_
  rcases k3 with ⟨k3, rfl⟩ | k3
  · refine ⟨.ref p', H, I.kept k1, rfl, q0 ?_⟩
    rw [k3] at e1
    exact List.map_eq_nil_iff.mp e1.symm
  · obtain ⟨n3, g3⟩ := k2
    exact ⟨.ref p', _, I.laid (t' := tk) (o := .lst (ks.map (·.2)).flatten) k1 k3 ⟨hz, _, n3, e3, g3⟩, rfl, q1 p' (I.hok.fresh k3)⟩
end
end R5
namespace RL
open PySem PySem.Spec PyProof.Rows L2 Rep
section
variable {α : Type} [Rep α] {X : Cx} {σ : St} {G H : Hp} {e e2 : Expr} {pos p : Pos}
theorem lists_rep {K : PySem.W.Frag} : ∀ {vs : List V} {xss : List (List α)}, Paired (rep K G) vs xss → ∃ ks : List (Addr × List V), vs = ks.map (fun q => V.ref q.1) ∧ (∀ q ∈ ks, G q.1 = some (.lst q.2)) ∧ Paired (rep K G) (ks.map (·.2)).flatten xss.flatten ∧ ks.length = xss.length
  | _, _, .nil => ⟨[], rfl, fun _ h => (by cases h), .nil, rfl⟩
  | _, _, .cons ⟨a, us, e, g, pr⟩ t => by
    obtain ⟨ks, e1, e2, e3, e4⟩ := lists_rep t
    refine ⟨(a, us) :: ks, by rw [e, e1]; rfl, fun q hq => ?_, ?_, by rw [List.length_cons, List.length_cons, e4]⟩
    · rcases List.mem_cons.mp hq with rfl | hq
      · exact g
      · exact e2 q hq
    · rw [List.map_cons, List.flatten_cons, List.flatten_cons]
      exact paired_app pr e3
/-- sum(lists, []) -/
theorem ev_sumL {xss : List (List α)} (B : Bl X "sum") (hc : X.calm = true) (h : Ev X e σ G H xss) (h2 : Ev X e2 σ G H ([] : List α)) (hz : xss.flatten.length ≤ sizeLine) (he : starEach [e, e2] X.env = (false, eval e X.env) :: starEach [e2] X.env := by rfl) (he2 : starEach [e2] X.env = (false, eval e2 X.env) :: starEach [] X.env := by rfl) (hpl : (backTo pos (starEach [e2] X.env)).any (·.1) = false := by rfl) : Ev X (.Call (.Name "sum" p) [e, e2] [] pos) σ G H xss.flatten :=
  ev_callB (R5.cr_sumL hc) B.g B.m boot_sum (ea_cons h (ea_cons h2 ea_nil he2) he) (fun G1 H1 vs x l ⟨v, r, e1, pv, v2, r2, e1', pv2, e3⟩ Q q => by
    obtain ⟨a, us, ea, g, pr⟩ := pv
    have pv2' := pv2
    obtain ⟨b, us2, eb, g2, pr2⟩ := pv2
    cases pr2
    obtain ⟨ks, f1, f2, f3, f4⟩ := lists_rep pr
    refine ⟨a, b, ks, by rw [e1, e1', e3, ea, eb], x.s _ _ (f1 ▸ g), x.s _ _ g2, fun q hq => x.s _ _ (f2 q hq), by rw [paired_len f3]; exact hz, fun hn => ?_, fun p' hp => ?_⟩
    · have en : xss = [] := List.eq_nil_of_length_eq_zero (by rw [← f4, hn]; rfl)
      subst en
      exact q G1 H1 _ (Ext.refl x.s) (eb ▸ pv2')
    · exact q (upd G1 p' (.lst _)) _ _ ((Ext.refl x.s).new hp) ⟨p', _, rfl, upd_same, pair_up (same_new (x.s.free hp)) f3⟩) (by decide) (by decide) he hpl
end
theorem c_notR {X : Cx} {G H : Hp} {t : Addr} : Bin X (compareOp .IsNot) (Is X.K (V.ref t)) (Is X.K ()) (Is X.K true) G H :=
  ⟨_, op_notN, fun G1 H1 v u y _ e1 e2 Q q => ⟨e2, by rw [decide_eq_false (by rw [show v = V.ref t from e1]; exact fun z => nomatch z)]; exact q G1 H1 _ (Ext.refl y.s) rfl⟩⟩
/-- filtered by draws -/
def dfil {α β : Type} (t : α → List Int → Bool × List Int) (f : α → β) : List α → List Int → List β × List Int
  | [], st => ([], st)
  | x :: xs, st => ((if (t x st).1 = true then f x :: (dfil t f xs (t x st).2).1 else (dfil t f xs (t x st).2).1), (dfil t f xs (t x st).2).2)
theorem dfil_snoc {α β : Type} {t : α → List Int → Bool × List Int} {f : α → β} {x : α} : ∀ (xs : List α) (st : List Int), dfil t f (xs ++ [x]) st = ((if (t x (dfil t f xs st).2).1 = true then (dfil t f xs st).1 ++ [f x] else (dfil t f xs st).1), (t x (dfil t f xs st).2).2)
  | [], st => by
    show ((if (t x st).1 = true then [f x] else []), (t x st).2) = _
    rfl
  | y :: ys, st => by
    show ((if (t y st).1 = true then f y :: (dfil t f (ys ++ [x]) (t y st).2).1 else (dfil t f (ys ++ [x]) (t y st).2).1), (dfil t f (ys ++ [x]) (t y st).2).2) = _
    rw [dfil_snoc ys]
    by_cases h1 : (t y st).1 = true <;> by_cases h2 : (t x (dfil t f ys (t y st).2).2).1 = true <;> simp [dfil, h1, h2]
theorem dfil_inv {α β : Type} {t : α → List Int → Bool × List Int} {f : α → β} {J : List Int → Prop} : ∀ {xs : List α} {st : List Int}, J st → (∀ x ∈ xs, ∀ st, J st → J (t x st).2) → J (dfil t f xs st).2
  | [], _, h, _ => h
  | y :: ys, st, h, k => dfil_inv (xs := ys) (st := (t y st).2) (k y List.mem_cons_self st h) fun x hx => k x (List.mem_cons_of_mem _ hx)
theorem dfil_sub {α β : Type} {t : α → List Int → Bool × List Int} {f : α → β} : ∀ (xs : List α) (st : List Int), ((dfil t f xs st).1).Sublist (xs.map f)
  | [], _ => .slnil
  | x :: xs, st => by
    show (if (t x st).1 = true then f x :: (dfil t f xs (t x st).2).1 else (dfil t f xs (t x st).2).1).Sublist (f x :: xs.map f)
    split
    · exact (dfil_sub xs _).cons₂ _
    · exact (dfil_sub xs _).cons _
theorem dfil_len {α β : Type} {t : α → List Int → Bool × List Int} {f : α → β} (xs : List α) (st : List Int) : (dfil t f xs st).1.length ≤ xs.length := by
  have := (dfil_sub (t := t) (f := f) xs st).length_le
  rwa [List.length_map] at this
section
variable {X : Cx} {σ : St} {G H : Hp} {D : Ends} {q : Addr} {e : Expr} {pos p : Pos} {α : Type} [Rep α] {xs xs1 : List Int}
theorem lcM_goF {β : Type} [Rep β] {elt c : Expr} {scope : Scope} {ys : List α} {t : α → List Int → Bool × List Int} {f : α → β} {J : List Int → Prop} {vs : List Nat} {i : Nat} {wi : TI}
    {G1 H1 : Hp} (x1 : ExtM q G H G1 H1) (o : Own X.K G1 H1 q xs) (hi : ∀ R : It → Hp → Prop, (∀ J G2 H2, Ext G1 H1 G2 H2 → ys.length ≤ sizeLine → WalkOf X.K J G2 ys → R J H2) → wi σ H1 R) (hw : ∀ v, wipe ((wipe σ vs).set i (some v)) vs = wipe σ vs)
    (h0 : J xs) (hJ : ∀ x ∈ ys, ∀ st, J st → J (t x st).2)
    (ht : ∀ x v st G1 H1, x ∈ ys → J st → ExtM q G H G1 H1 → rep X.K G1 v x → ∀ s H0 C cl fp, EvTM (InB X scope s H0 C cl fp) c ((wipe σ vs).set i (some v)) q G1 H1 st (t x st).1 (t x st).2)
    (he : ∀ x v G1 H1, x ∈ ys → ExtM q G H G1 H1 → rep X.K G1 v x → ∀ s H0 C cl fp, Ev (InB X scope s H0 C cl fp) elt ((wipe σ vs).set i (some v)) G1 H1 (f x)) :
    ∀ Q : VK, (∀ G2 H2 p, ExtM q G1 H1 G2 H2 → Own X.K G2 H2 q (dfil t f ys xs).2 → H1 p = none → p ≠ q → Own X.K G2 H2 p (dfil t f ys xs).1 → Q (.ref p) H2) → tLc wi (gName i) (lcT X scope [c]) (lcE X scope elt) vs σ H1 Q := by
  intro Q k
  refine hi _ fun It G2 H2 x2 hl hwk Dd hD => ?_
  have hD1 : H1 Dd = none := x2.h.free hD
  have hqD : q ≠ Dd := fun z => by obtain ⟨u, hu, _⟩ := o.ex'; rw [z, hD1] at hu; cases hu
  let Pv : Nat → Hp → Prop := fun n H' => ∃ G' acc, ExtM q G1 H1 G' H' ∧ Same G2 G' ∧ G' Dd = none ∧ H' Dd = some (.lst acc) ∧ acc.length ≤ n ∧ Own X.K G' H' q (dfil t f (ys.take n) xs).2 ∧ Paired (rep X.K G') acc (dfil t f (ys.take n) xs).1
  refine ⟨fun n m H' => m = ys.length - n ∧ n ≤ ys.length ∧ Pv n H', ⟨ys.length, rfl, Nat.zero_le _, G2, [], ?_, Same.refl _, x2.s.free hD, upd_same, Nat.zero_le _, ?_, .nil⟩, ?_⟩
  · exact (x2.newH hD).toM o.ex'
  · exact o.mono (x2.newH hD)
  rintro n m H' ⟨rfl, hn, G', acc, x', sg, gD, eD, hq, ow, pr⟩
  obtain ⟨go, stop, yld⟩ := hwk G' H' sg x'.s
  by_cases hlt : n < ys.length
  · have hx : ys[n]? = some ys[n] := List.getElem?_eq_getElem hlt
    refine .inr ⟨go n hlt, Pv (n + 1), fun H'' z => ⟨_, by omega, rfl, hlt, z⟩, fun v H'' y => ?_⟩
    obtain ⟨G'', x'', rv⟩ := yld n _ v H'' hx y
    have gD2 : G'' Dd = none := x''.off gD eD
    have eD2 := x''.h _ _ eD
    have hst : J (dfil t f (ys.take n) xs).2 := dfil_inv h0 fun x hx => hJ x (List.mem_of_mem_take hx)
    have ek : dfil t f (ys.take (n + 1)) xs = ((if (t ys[n] (dfil t f (ys.take n) xs).2).1 = true then (dfil t f (ys.take n) xs).1 ++ [f ys[n]] else (dfil t f (ys.take n) xs).1), (t ys[n] (dfil t f (ys.take n) xs).2).2) := by
      rw [List.take_add_one, hx]; exact dfil_snoc _ _
    refine ⟨hw v, fun s H0 C cl fp pins s' I => (pts_one pt_sem).run pins s' _ H'' _ I ?_⟩
    refine ht _ v _ G'' H'' (List.getElem_mem hlt) hst ((x1.transM x').trans x'') rv s H0 C cl fp G'' H'' (ExtM.refl x''.s (ow.mono x'').ex') (ow.mono x'') _ fun G3 H3 x3 _ o3 => ?_
    have eD3 := x3.h.e _ _ (Ne.symm hqD) eD2
    have gD3 : G3 Dd = none := by
      cases z : G3 Dd with
      | none => rfl
      | some u =>
        rcases x3.n _ _ z with y | y | ⟨ys', y⟩
        · rw [gD2] at y; cases y
        · rw [eD2] at y; cases y
        · have y2 := x3.s _ _ z; rw [eD3, y] at y2; cases y2
    by_cases hb : (t ys[n] (dfil t f (ys.take n) xs).2).1 = true
    · rw [hb, if_pos rfl]
      intro s1 H01 C1 cl1 fp1
      refine he _ v G3 H3 (List.getElem_mem hlt) (((x1.transM x').trans x'').transM x3) (up x3.g rv) s1 H01 C1 cl1 fp1 G3 H3 (Ext.refl x3.s) _ fun G4 H4 w x4 _ rw' => ?_
      have gD4 : G4 Dd = none := x4.off gD3 eD3
      have xx : ExtM q G1 H1 G4 H4 := ((x'.trans x'').transM x3).trans x4
      refine ⟨acc, x4.h _ _ eD3, Nat.lt_of_le_of_lt hq (Nat.lt_of_lt_of_le hlt hl), G4, acc ++ [w], xx.wr hD1 gD4, sg.trans (x''.g.trans (x3.g.trans x4.g)), gD4, upd_same, by rw [List.length_append]; exact Nat.succ_le_succ hq, ?_, ?_⟩
      · rw [ek]; exact (o3.mono x4).wr hqD
      · rw [ek, if_pos hb]; exact paired_app (pair_up (x''.g.trans (x3.g.trans x4.g)) pr) (.cons rw' .nil)
    · rw [if_neg hb]
      have xx : ExtM q G1 H1 G3 H3 := (x'.trans x'').transM x3
      refine ⟨G3, acc, xx, sg.trans (x''.g.trans x3.g), gD3, eD3, Nat.le_succ_of_le hq, ?_, ?_⟩
      · rw [ek]; exact o3
      · rw [ek, if_neg hb]; exact pair_up (x''.g.trans x3.g) pr
  · have e : n = ys.length := by omega
    subst e
    rw [List.take_length] at pr ow
    exact .inl ⟨stop, k G' H' Dd x' ow hD1 (Ne.symm hqD) ⟨⟨acc, eD, pr⟩, gD⟩⟩
theorem lcMF {β : Type} [Rep β] {elt iter c : Expr} {scope : Scope} {ys : List α} {n : Str} {np : Pos} {i : Nat} (t : α → List Int → Bool × List Int) (f : α → β) (J : List Int → Prop) (hc : X.calm = true) (hN : X.N.Nodup) (hi : ∀ G1 H1, ExtM q G H G1 H1 → Own X.K G1 H1 q xs → EvI X (.Name n np) iter σ G1 H1 ys) (own : List (Str × Nat)) (ok : BlkOk X.N X.env.scope scope own)
    (hg : ∀ (s : Shared) (H : Hp) (C : Addr) (cl : List (Str × Addr)) (fp : List Addr), PG (X.blk s H scope (compEnvC scope cl C X.env) fp) (.Name n np) (gName i))
    (h0 : J xs) (hJ : ∀ x ∈ ys, ∀ st, J st → J (t x st).2)
    (ht : ∀ x v st G1 H1, x ∈ ys → J st → ExtM q G H G1 H1 → rep X.K G1 v x → ∀ s H0 C cl fp, EvTM (InB X scope s H0 C cl fp) c ((wipe σ (own.map (·.2))).set i (some v)) q G1 H1 st (t x st).1 (t x st).2)
    (he : ∀ x v G1 H1, x ∈ ys → ExtM q G H G1 H1 → rep X.K G1 v x → ∀ s H0 C cl fp, Ev (InB X scope s H0 C cl fp) elt ((wipe σ (own.map (·.2))).set i (some v)) G1 H1 (f x))
    (hw : ∀ v, wipe ((wipe σ (own.map (·.2))).set i (some v)) (own.map (·.2)) = wipe σ (own.map (·.2)) := by intro _; rfl) (hs : ∀ x, foldedSetIterable iter X.env x = pure x := by intro _; rfl) :
    LcOkM X elt ⟨.Name n np, iter, [c], 0⟩ scope σ q G H xs (dfil t f ys xs).1 (dfil t f ys xs).2 := by
  intro G1 H1 x1 o
  obtain ⟨wi, pi, hi'⟩ := hi G1 H1 x1 o
  exact ⟨_, _, _, wi, _, own, rfl, hc, hN, pi, ok, hg, hs, lcM_goF x1 o (hi' G1 H1 (Ext.refl x1.s)) hw h0 hJ ht he⟩
end
end RL

set_option Elab.async false
set_option linter.all false
set_option maxRecDepth 100000
set_option maxHeartbeats 4000000
/-! RQ: a new list of new lists of ints: read, then each of them changed. -/
namespace RL
open PySem PySem.Spec PyProof.Rows L2 Rep
theorem Ext.drop {G H G1 H1 : Hp} (x : Ext G H G1 H1) : Ext G H G H1 := ⟨x.h, Same.refl _, fun b o e => x.s _ _ (x.g _ _ e), fun _ _ e => .inl e⟩
def noneH : Hp := fun _ => none
theorem same_none {H : Hp} : Same noneH H := fun _ _ e => by cases e
def unionH (G1 G2 : Hp) : Hp := fun b => match G1 b with
  | some o => some o
  | none => G2 b
theorem union_l {G1 G2 : Hp} : Same G1 (unionH G1 G2) := fun b o e => by unfold unionH; rw [e]
theorem union_c {G1 G2 : Hp} {b : Addr} {o : HO} (e : unionH G1 G2 b = some o) : G1 b = some o ∨ G2 b = some o := by
  unfold unionH at e
  cases h : G1 b with
  | some u => rw [h] at e; exact .inl e
  | none => rw [h] at e; exact .inr e
theorem union_s {G1 G2 H : Hp} (a : Same G1 H) (b : Same G2 H) : Same (unionH G1 G2) H := fun c o e => by
  rcases union_c e with e | e
  · exact a _ _ e
  · exact b _ _ e
theorem union_r {G1 G2 H : Hp} (a : Same G1 H) (b : Same G2 H) : Same G2 (unionH G1 G2) := fun c o e => by
  unfold unionH
  cases h : G1 c with
  | some u => exact (a _ _ h).symm.trans (b _ _ e)
  | none => exact e
theorem ext_union {G H G3 H3 : Hp} (s : Same G H) (x : Ext noneH H G3 H3) : Ext G H (unionH G G3) H3 :=
  ⟨x.h, union_l, union_s (fun b o e => x.h _ _ (s _ _ e)) x.s, fun b o e => by
    rcases union_c e with e | e
    · exact .inl e
    · rcases x.n _ _ e with z | z | z
      · cases z
      · exact .inr (.inl z)
      · exact .inr (.inr z)⟩
/-- a list of lists of ints, none of which stood in H0 -/
structure DeepNew (H0 G : Hp) (v : V) (xss : List (List Int)) : Prop where
  ex : ∃ a qs, v = .ref a ∧ G a = some (.lst (qs.map V.ref)) ∧ H0 a = none ∧ Paired (fun q xs => G q = some (.lst (xs.map V.int)) ∧ H0 q = none) qs xss ∧ qs.Nodup ∧ a ∉ qs
theorem deep_core {H G3 : Hp} {a : Addr} {qs : List Addr} {xss : List (List Int)} (e : G3 a = some (.lst (qs.map V.ref))) (na : H a = none) (p : Paired (fun q xs => G3 q = some (.lst (xs.map V.int)) ∧ H q = none) qs xss) (nd : xss.Nodup) : DeepNew H G3 (.ref a) xss := by
  have hm : ∀ {qs : List Addr} {yss : List (List Int)}, Paired (fun q xs => G3 q = some (.lst (xs.map V.int)) ∧ H q = none) qs yss → ∀ q ∈ qs, ∃ xs ∈ yss, G3 q = some (.lst (xs.map V.int)) := by
    intro qs yss p
    induction p with
    | nil => intro q hq; cases hq
    | cons h t ih =>
      intro q hq
      rcases List.mem_cons.mp hq with rfl | hq
      · exact ⟨_, List.mem_cons_self, h.1⟩
      · obtain ⟨xs, m, g⟩ := ih q hq
        exact ⟨xs, List.mem_cons_of_mem _ m, g⟩
  have inj : ∀ {xs ys : List Int}, xs.map V.int = ys.map V.int → xs = ys := by
    intro xs
    induction xs with
    | nil => intro ys h; cases ys with
      | nil => rfl
      | cons _ _ => cases h
    | cons x xs ih => intro ys h; cases ys with
      | nil => cases h
      | cons y ys =>
        rw [List.map_cons, List.map_cons] at h
        injection h with h1 h2
        injection h1 with h1
        rw [h1, ih h2]
  have ndq : ∀ {qs : List Addr} {yss : List (List Int)}, Paired (fun q xs => G3 q = some (.lst (xs.map V.int)) ∧ H q = none) qs yss → yss.Nodup → qs.Nodup := by
    intro qs yss p
    induction p with
    | nil => intro _; exact List.nodup_nil
    | cons h t ih =>
      intro n
      rw [List.nodup_cons] at n
      refine List.nodup_cons.mpr ⟨fun z => ?_, ih n.2⟩
      obtain ⟨xs, m, g⟩ := hm t _ z
      rw [h.1] at g
      injection g with g
      injection g with g
      exact n.1 (inj g ▸ m)
  refine ⟨a, qs, rfl, e, na, p, ndq p nd, fun z => ?_⟩
  obtain ⟨xs, m, g⟩ := hm p a z
  rw [e] at g
  injection g with g
  injection g with g
  cases qs with
  | nil => cases z
  | cons q qs => cases xs with
    | nil => cases g
    | cons x xs => rw [List.map_cons, List.map_cons] at g; injection g with g1 _; cases g1
theorem deep_of {K : PySem.W.Frag} {H G3 H3 : Hp} {w : V} {xss : List (List Int)} (x : Ext noneH H G3 H3) (r : rep K G3 w xss) (nd : xss.Nodup) : DeepNew H G3 w xss := by
  obtain ⟨a, vs, rfl, e, pr⟩ := r
  have new : ∀ {b : Addr} {ys : List V}, G3 b = some (.lst ys) → H b = none := fun {b ys} g => by
    rcases x.n _ _ g with z | z | ⟨_, z⟩
    · cases z
    · exact z
    · cases z
  have key : ∀ {vs : List V} {yss : List (List Int)}, Paired (rep K G3) vs yss → ∃ qs : List Addr, vs = qs.map V.ref ∧ Paired (fun q xs => G3 q = some (.lst (xs.map V.int)) ∧ H q = none) qs yss := by
    intro vs yss p
    induction p with
    | nil => exact ⟨[], rfl, .nil⟩
    | cons h t ih =>
      obtain ⟨qs, e1, p1⟩ := ih
      obtain ⟨q, us, e2, g, pu⟩ := h
      rw [paired_ints pu] at g
      exact ⟨q :: qs, by rw [e1, e2]; rfl, .cons ⟨g, new g⟩ p1⟩
  obtain ⟨qs, rfl, p⟩ := key pr
  exact deep_core e (new e) p nd
/-- a list of ints that did not stand in H0 -/
structure NwI (H0 : Hp) where
  l : List Int
instance instRepNwI {H0 : Hp} : Rep (NwI H0) where
  rep K G v x := rep K G v x.l ∧ New H0 v
  up s h := ⟨up s h.1, h.2⟩
def nw (H0 : Hp) (xs : List (List Int)) : List (NwI H0) := xs.map (NwI.mk (H0 := H0))
theorem nw_len {H0 : Hp} {xs : List (List Int)} : (nw H0 xs).length = xs.length := List.length_map ..
theorem nw_snoc {H0 : Hp} {xs : List (List Int)} {y : List Int} : nw H0 xs ++ [⟨y⟩] = nw H0 (xs ++ [y]) := by
  unfold nw
  rw [List.map_append]
  rfl
theorem paired_fg {K : PySem.W.Frag} {H0 G : Hp} : ∀ {vs : List V} {xs : List (List Int)}, Paired (rep K G) vs (nw H0 xs) → Paired (rep K G) vs xs
  | [], [], _ => .nil
  | _ :: _, _ :: _, .cons h t => .cons h.1 (paired_fg t)
theorem Own.fg {K : PySem.W.Frag} {H0 G H : Hp} {q : Addr} {xs : List (List Int)} (o : Own K G H q (nw H0 xs)) : Own K G H q xs :=
  let ⟨vs, e, p⟩ := o.at_; ⟨⟨vs, e, paired_fg p⟩, o.off⟩
theorem deep_nw {K : PySem.W.Frag} {H G3 : Hp} {w : V} {xss : List (List Int)} (r : rep K G3 w (nw H xss)) (nw_ : New H w) (nd : xss.Nodup) : DeepNew H G3 w xss := by
  obtain ⟨a, vs, rfl, e, pr⟩ := r
  have key : ∀ {vs : List V} {yss : List (List Int)}, Paired (rep K G3) vs (nw H yss) → ∃ qs : List Addr, vs = qs.map V.ref ∧ Paired (fun q xs => G3 q = some (.lst (xs.map V.int)) ∧ H q = none) qs yss := by
    intro vs yss p
    induction yss generalizing vs with
    | nil => cases p; exact ⟨[], rfl, .nil⟩
    | cons y yss ih =>
      cases p with
      | cons h t =>
        obtain ⟨qs, e1, p1⟩ := ih t
        obtain ⟨⟨q, us, e2, g, pu⟩, hn⟩ := h
        rw [paired_ints pu] at g
        exact ⟨q :: qs, by rw [e1, e2]; rfl, .cons ⟨g, hn q e2⟩ p1⟩
  obtain ⟨qs, rfl, p⟩ := key pr
  exact deep_core e (nw_ a rfl) p nd
theorem rep_fg {K : PySem.W.Frag} {H0 G : Hp} {v : V} {xs : List (List Int)} (r : rep K G v (nw H0 xs)) : rep K G v xs := let ⟨a, vs, e, g, p⟩ := r; ⟨a, vs, e, g, paired_fg p⟩
theorem evN_nw {X : Cx} {σ : St} {G H H0 : Hp} {e : Expr} {x : List Int} (s : Same H0 H) (h : EvN X e σ G H (Is X.K x)) : Ev X e σ G H (⟨x⟩ : NwI H0) := fun G1 H1 x1 Q q =>
  h G1 H1 x1 Q fun G2 H2 v x2 l r n => q G2 H2 v x2 l ⟨r, fun p e => s.free (x1.h.free (n p e))⟩
/-- a def of two arguments that hands back a new list of new lists -/
def SpD2 {α β : Type} [Rep α] [Rep β] (K : PySem.W.Frag) (pre : α → β → Prop) (f : α → β → List (List Int)) : Sp := fun vs H Q _ => ∃ (G : Hp) (v1 v2 : V) (x1 : α) (x2 : β), vs = [v1, v2] ∧ Same G H ∧ rep K G v1 x1 ∧ rep K G v2 x2 ∧ pre x1 x2 ∧
  ∀ G2 H2 w, Ext G H G2 H2 → rep K G2 w (nw H (f x1 x2)) → New H w → Q w H2
structure EndD (K : PySem.W.Frag) (G H : Hp) (y : List (List Int)) (D : Ends) : Prop where
  rt : ∀ G2 H2 w, Ext G H G2 H2 → rep K G2 w (nw H y) → New H w → D.rt w H2
theorem fnD2 {P : Program} {w : World} {K : PySem.W.Frag} {mg : Str → Option Value} {base : Heap} {x : Str} {st : Stmt} {f : Addr} {fd : FuncData} {N ps : List Str} {k : Nat} {α β : Type} [Rep α] [Rep β] {pre : α → β → Prop} {m : α → β → List (List Int)} (F : Fun K x x st f fd) (hm : mg x = some (.ref f)) (hb : Binds K fd ps []) (S : FnScope N ps (defScope st)) (hl : ps.length = 2)
    (body : ∀ (cdv : Value) (A : Around) (outer : List Env) (s : Shared) (H : Hp) (E : XK), Room k (A.deeper (envOfC x (defScope st) s.heap.objs.size f cdv)) → ∀ (G : Hp) (v1 v2 : V) (x1 : α) (x2 : β) (D : Ends), Same G H → rep K G v1 x1 → rep K G v2 x2 → pre x1 x2 → EndD K G H (m x1 x2) D →
      tSs (cxOf (L2.CX P w) P w K mg base N x (defScope st) f cdv A outer s H E) (defBody st) D (start N [v1, v2]) H) : Cal P w K mg base (k + 1) x (SpD2 K pre m) :=
  cal_of F hm hb S (fun vs H Q E h => by obtain ⟨_, _, _, _, _, rfl, _⟩ := h; exact hl.symm) fun cdv A outer s H vs Q E hr h => by
    obtain ⟨G, v1, v2, x1, x2, rfl, s0, r1, r2, hp, q⟩ := h
    exact body cdv A outer s H E hr G v1 v2 x1 x2 _ s0 r1 r2 hp ⟨q⟩
section
variable {X : Cx} {σ : St} {G H : Hp} {D : Ends} {e e1 e2 : Expr} {pos p p2 : Pos} {xss : List (List Int)}
/-- e gives such a list -/
def EvD (X : Cx) (e : Expr) (σ : St) (G H : Hp) (xss : List (List Int)) : Prop :=
  ∀ G1 H1, Ext G H G1 H1 → ∀ Q : VK, (∀ G2 H2 v, Ext G1 H1 G2 H2 → HLen H2 → rep X.K G2 v xss → DeepNew H1 G2 v xss → Q v H2) → tE X e σ H1 Q
theorem evD_of {t : TE} (hp : PE X e t) (k : ∀ G1 H1, Ext G H G1 H1 → ∀ Q : VK, (∀ G2 H2 v, Ext G1 H1 G2 H2 → rep X.K G2 v xss → DeepNew H1 G2 v xss → Q v H2) → t σ H1 Q) : EvD X e σ G H xss :=
  fun G1 H1 x1 _ q => tE_lenF fun pins s I => hp.run pins s σ H1 _ I (k G1 H1 x1 _ fun G2 H2 v x r d hl => q G2 H2 v x hl r d)
theorem DeepNew.back {H0 H1 G : Hp} {v : V} (h : DeepNew H1 G v xss) (s : Same H0 H1) : DeepNew H0 G v xss := by
  obtain ⟨a, qs, e, g, n, p, nd, na⟩ := h
  refine ⟨a, qs, e, g, s.free n, ?_, nd, na⟩
  clear g nd na
  induction p with
  | nil => exact .nil
  | cons h t ih => exact .cons ⟨h.1, s.free h.2⟩ ih
theorem DeepNew.up {H0 G G2 : Hp} {v : V} (h : DeepNew H0 G v xss) (s : Same G G2) : DeepNew H0 G2 v xss := by
  obtain ⟨a, qs, e, g, n, p, nd, na⟩ := h
  refine ⟨a, qs, e, s _ _ g, n, ?_, nd, na⟩
  clear g nd na
  induction p with
  | nil => exact .nil
  | cons h t ih => exact .cons ⟨s _ _ h.1, h.2⟩ ih
theorem evD_c1 {α : Type} [Rep α] [Flat α] {fr : Bool} {k : Nat} {n : Str} {x1 : α} {pre : α → Prop} {f : α → List (List Int)} (C : Cal X.prog X.w X.K X.mg X.base k n (Sp1 X.K fr pre f)) (hr : Room k X.A) (hg : Gl X n) (h1 : Ev X e1 σ G H x1) (hp : pre x1) (nd : (f x1).Nodup)
    (hdb : (n == ("__debug__" : Str)) = false := by decide) (he : starEach [e1] X.env = (false, eval e1 X.env) :: starEach [] X.env := by rfl) : EvD X (.Call (.Name n p) [e1] [] pos) σ G H (f x1) := by
  obtain ⟨g, fd, ps, F, hm, hk, hb⟩ := C.ex
  exact evD_of (pe_call F hr hg hm hk hb .nil passL (pa_cons pe_sem pa_nil he) hdb he rfl) fun G1 H1 x2 Q q => h1 G1 H1 x2 _ fun G2 H2 v x3 _ rv => ⟨noneH, v, x1, rfl, same_none, Flat.flat (K := X.K) (G := G2) (show rep X.K G2 v x1 from rv), hp, fun G3 H3 w x4 rw' _ =>
    have x5 := ext_union x3.s x4
    have s5 : Same G3 (unionH G2 G3) := union_r (fun b o e => x4.h _ _ (x3.s _ _ e)) x4.s
    q _ H3 w (x3.trans x5) (up s5 rw') (((deep_of x4 rw' nd).up s5).back x3.h)⟩
theorem evD_c2 {α β : Type} [Rep α] [Rep β] [Flat α] [Flat β] {fr : Bool} {k : Nat} {n : Str} {x1 : α} {x2 : β} {pre : α → β → Prop} {f : α → β → List (List Int)} (C : Cal X.prog X.w X.K X.mg X.base k n (Sp2 X.K fr pre f)) (hr : Room k X.A) (hg : Gl X n) (h1 : Ev X e1 σ G H x1) (h2 : Ev X e2 σ G H x2) (hp : pre x1 x2) (nd : (f x1 x2).Nodup)
    (hdb : (n == ("__debug__" : Str)) = false := by decide) (he : starEach [e1, e2] X.env = (false, eval e1 X.env) :: starEach [e2] X.env := by rfl) (he' : starEach [e2] X.env = (false, eval e2 X.env) :: starEach [] X.env := by rfl) (hpl : (backTo pos (starEach [e2] X.env)).any (·.1) = false := by rfl) : EvD X (.Call (.Name n p) [e1, e2] [] pos) σ G H (f x1 x2) := by
  obtain ⟨g, fd, ps, F, hm, hk, hb⟩ := C.ex
  exact evD_of (pe_call F hr hg hm hk hb .nil passL (pa_cons pe_sem (pa_cons pe_sem pa_nil he') he) hdb he hpl) fun G1 H1 y1 Q q => h1 G1 H1 y1 _ fun G2 H2 v y2 _ rv => h2 G2 H2 (y1.trans y2) _ fun G3 H3 u y3 _ ru => ⟨noneH, v, u, x1, x2, rfl, same_none, Flat.flat (K := X.K) (G := G2) (show rep X.K G2 v x1 from rv), Flat.flat (K := X.K) (G := G3) (show rep X.K G3 u x2 from ru), hp, fun G4 H4 w x4 rw' _ =>
    have x5 := ext_union y3.s x4
    have s5 : Same G4 (unionH G3 G4) := union_r (fun b o e => x4.h _ _ (y3.s _ _ e)) x4.s
    q _ H4 w ((y2.trans y3).trans x5) (up s5 rw') (((deep_of x4 rw' nd).up s5).back fun b o e => y3.h _ _ (y2.h _ _ e))⟩
theorem ixN_last {n : Nat} (h : 1 ≤ n) : ixN n (-1) = some (n - 1) := ixN_neg' (by decide) (by omega) (by omega)
theorem ev_d2 {α β : Type} [Rep α] [Rep β] {k : Nat} {n : Str} {x1 : α} {x2 : β} {pre : α → β → Prop} {f : α → β → List (List Int)} (C : Cal X.prog X.w X.K X.mg X.base k n (SpD2 X.K pre f)) (hr : Room k X.A) (hg : Gl X n) (h1 : Ev X e1 σ G H x1) (h2 : Ev X e2 σ G H x2) (hp : pre x1 x2)
    (hdb : (n == ("__debug__" : Str)) = false := by decide) (he : starEach [e1, e2] X.env = (false, eval e1 X.env) :: starEach [e2] X.env := by rfl) (he' : starEach [e2] X.env = (false, eval e2 X.env) :: starEach [] X.env := by rfl) (hpl : (backTo pos (starEach [e2] X.env)).any (·.1) = false := by rfl) : Ev X (.Call (.Name n p) [e1, e2] [] pos) σ G H (f x1 x2) :=
  ev_call C hr hg (ea_cons h1 (ea_cons h2 ea_nil he') he) (fun G1 H1 vs x l ⟨v, r, e, rv, v2, r2, e', rv2, e''⟩ Q q => ⟨G1, v, v2, x1, x2, by rw [e, e', e''], x.s, rv, rv2, hp, fun G2 H2 w x r _ => q G2 H2 w x (rep_fg r)⟩) hdb he hpl
theorem evD_d2 {α β : Type} [Rep α] [Rep β] {k : Nat} {n : Str} {x1 : α} {x2 : β} {pre : α → β → Prop} {f : α → β → List (List Int)} (C : Cal X.prog X.w X.K X.mg X.base k n (SpD2 X.K pre f)) (hr : Room k X.A) (hg : Gl X n) (h1 : Ev X e1 σ G H x1) (h2 : Ev X e2 σ G H x2) (hp : pre x1 x2) (nd : (f x1 x2).Nodup)
    (hdb : (n == ("__debug__" : Str)) = false := by decide) (he : starEach [e1, e2] X.env = (false, eval e1 X.env) :: starEach [e2] X.env := by rfl) (he' : starEach [e2] X.env = (false, eval e2 X.env) :: starEach [] X.env := by rfl) (hpl : (backTo pos (starEach [e2] X.env)).any (·.1) = false := by rfl) : EvD X (.Call (.Name n p) [e1, e2] [] pos) σ G H (f x1 x2) := by
  obtain ⟨g, fd, ps, F, hm, hk, hb⟩ := C.ex
  exact evD_of (pe_call F hr hg hm hk hb .nil passL (pa_cons pe_sem (pa_cons pe_sem pa_nil he') he) hdb he hpl) fun G1 H1 y1 Q q => h1 G1 H1 y1 _ fun G2 H2 v y2 _ rv => h2 G2 H2 (y1.trans y2) _ fun G3 H3 u y3 _ ru => ⟨G3, v, u, x1, x2, rfl, y3.s, up y3.g rv, ru, hp, fun G4 H4 w x4 rw' n4 =>
    q G4 H4 w ((y2.trans y3).trans x4) (rep_fg rw') ((deep_nw rw' n4 nd).back fun b o e => y3.h _ _ (y2.h _ _ e))⟩
theorem s_setD {i : Nat} {n : Str} (hN : X.N.Nodup) (sl : Ss X i n) (s0 : Same G H) (h : EvD X e σ G H xss) (k : ∀ G1 H1 v, Ext G H G1 H1 → HLen H1 → rep X.K G1 v xss → DeepNew H G1 v xss → D.nx (σ.set i (some v)) H1)
    (hs : swapsWith e (some (.Name n p)) pos.line X.env = pure false := by rfl) : tS X (.Assign [.Name n p] e pos) D σ H :=
  s_of (ps_set hN sl.hN sl.hx pe_sem hs sl.hf) (h G H (Ext.refl s0) _ fun G1 H1 v x l r d => k G1 H1 v x l r d)
theorem paired_at {α β : Type} {F : α → β → Prop} {xs : List α} {ys : List β} {i : Nat} {x : α} {y : β} (p : Paired F xs ys) (hx : xs[i]? = some x) (hy : ys[i]? = some y) : F x y := by
  obtain ⟨z, hz, f⟩ := paired_get' p hx
  rw [hy] at hz
  cases hz
  exact f
theorem paired_mk {α β : Type} {F : α → β → Prop} : ∀ {xs : List α} {ys : List β}, xs.length = ys.length → (∀ (i : Nat) (x : α) (y : β), xs[i]? = some x → ys[i]? = some y → F x y) → Paired F xs ys
  | [], [], _, _ => .nil
  | [], _ :: _, h, _ => by cases h
  | _ :: _, [], h, _ => by cases h
  | x :: xs, y :: ys, h, k => .cons (k 0 x y rfl rfl) (paired_mk (by simpa using h) fun i x y hx hy => k (i + 1) x y (by simpa using hx) (by simpa using hy))
/-- for row in told: row.append(c) -/
theorem s_forApp {Gb Hb Hw : Hp} {v : V} {i j : Nat} {nt nr : Str} {tp np ap cp rp ep : Pos} {c : Int} {y0 : Option V} (hp : PassesOwn (model X.prog X.w) X.A X.env X.xe) (hc : X.calm = true) (hg : PG X (.Name nr np) (gName j)) (sl : Sl X i nt) (sr : Sl X j nr)
    (s0 : Same G H) (x : Ext G H Gb Hb) (dn : DeepNew H Gb v xss) (sw : Same Hb Hw) (hl : ∀ xs ∈ xss, xs.length < sizeLine) (h0 : σ[i]? = some (some v)) (hj : j < σ.length) (he : ∀ σ' G' H', Ev X e σ' G' H' c)
    (k : ∀ G1 H1 a y, Ext G H G1 H1 → H a = none → v = .ref a → Own X.K G1 H1 a (xss.map (· ++ [c])) → D.nx (σ.set j y) H1) (hy : σ[j]? = some y0 := by rfl)
    (hsf : ∀ x, foldedSetIterable (.Name nt tp) X.env x = pure x := by intro _; rfl)
    (hbase : attributeBase (.Name nr rp) "append" X.env (eval (.Name nr rp) X.env) = eval (.Name nr rp) X.env := by rfl)
    (hfew : ((backTo cp (starEach [e] X.env)).all (fun x => !x.1) && (backToKw cp (keywordEach [] X.env)).all (fun x => x.1.isSome)
      && decide ([e].length + ([] : List Keyword).length + (if ([] : List Keyword).isEmpty then 0 else 1) < 30)) = true := by rfl)
    (hline : (ap.endLine == cp.line) = true := by rfl) (hst : starEach [e] X.env = (false, eval e X.env) :: starEach [] X.env := by rfl) (hplain : (backTo cp (starEach [] X.env)).any (·.1) = false := by rfl)
    (hsw : swapsWith (.Call (.Attribute (.Name nr rp) "append" ap) [e] [] cp) none ep.line X.env = pure false := by rfl) :
    tS X (.For (.Name nr np) (.Name nt tp) [.Expr (.Call (.Attribute (.Name nr rp) "append" ap) [e] [] cp) ep] [] pos) D σ Hw := by
  obtain ⟨a, qs, rfl, ga, na, pr, nd, nq⟩ := dn
  have hne : ∀ q ∈ qs, H q = none := fun q hq => by
    obtain ⟨n, hn⟩ := List.getElem?_of_mem hq
    obtain ⟨ys, hys, f⟩ := paired_get' pr hn
    exact f.2
  have hll : qs.length = xss.length := paired_len pr
  have gw : Hw a = some (.lst (qs.map V.ref)) := sw _ _ (x.s _ _ ga)
  have xw : Ext G H G Hw := ⟨fun b o e => sw _ _ (x.h _ _ e), Same.refl _, fun b o e => sw _ _ (x.h _ _ (s0 _ _ e)), fun _ _ e => .inl e⟩
  refine s_of (ps_for hp hc (pi_list (pe_var sl.hN sl.hv sl.nm.hd sl.nm.hcd)) hg pss_sem hsf) ⟨.ref a, h0, ?_⟩
  refine ⟨a, rfl, ⟨_, .of gw⟩, fun n m σ' H' => m = xss.length - n ∧ n ≤ xss.length ∧ (∃ y, σ' = σ.set j y) ∧ Ext G H G H' ∧ H' a = some (.lst (qs.map V.ref)) ∧
    ∀ k q xs, qs[k]? = some q → xss[k]? = some xs → H' q = some (.lst ((if k < n then xs ++ [c] else xs).map V.int)),
    ⟨xss.length, rfl, Nat.zero_le _, ⟨y0, (by obtain ⟨h, e⟩ := List.getElem?_eq_some_iff.mp hy; rw [← e, List.set_getElem_self])⟩, xw, gw, fun k q xs hq hx => by
      rw [if_neg (Nat.not_lt_zero _)]
      exact sw _ _ (x.s _ _ (paired_at pr hq hx).1)⟩, ?_⟩
  rintro n m σ' H' ⟨rfl, hn, ⟨y, rfl⟩, xx, gj, cont⟩
  by_cases hlt : n < xss.length
  · have hq : n < qs.length := by omega
    have hx : (qs.map V.ref)[n]? = some (V.ref qs[n]) := by rw [List.getElem?_map, List.getElem?_eq_getElem hq]; rfl
    refine .inr ⟨⟨_, _, .of gj, hx⟩, fun σ2 H2 => n + 1 ≤ xss.length ∧ (∃ y, σ2 = σ.set j y) ∧ Ext G H G H2 ∧ H2 a = some (.lst (qs.map V.ref)) ∧
      ∀ k q xs, qs[k]? = some q → xss[k]? = some xs → H2 q = some (.lst ((if k < n + 1 then xs ++ [c] else xs).map V.int)), fun σ2 H2 z => ⟨_, by omega, rfl, z⟩, fun v H'' y' => ?_⟩
    obtain ⟨rfl, y'⟩ := y'
    have ev : V.ref qs[n] = v := Option.some.inj (hx.symm.trans (y' _ (.of gj)))
    subst ev
    show tSs X _ _ ((σ.set j y).set j (some (V.ref qs[n]))) _
    rw [List.set_set]
    have hqm : qs[n] ∈ qs := List.getElem_mem hq
    have cn := cont n qs[n] xss[n] (List.getElem?_eq_getElem hq) (List.getElem?_eq_getElem hlt)
    rw [if_neg (Nat.lt_irrefl _)] at cn
    have gq : G qs[n] = none := s0.free (hne _ hqm)
    refine b_one (s_append (G := G) (q := qs[n]) sr xx.s ⟨⟨_, cn, ints_paired _⟩, gq⟩ (he _ _ _) (hl _ (List.getElem_mem hlt)) (fun G1 H1 vs' x1 _ o1 => ?_) (by rw [List.getElem?_set_self hj]) hbase hfew hline hst hplain hsw)
    obtain ⟨us, eu, pu⟩ := o1.at_
    rw [paired_ints pu] at eu
    have g1 : G1 qs[n] = none := o1.off
    have h1q : H1 qs[n] = some (.lst (xss[n].map V.int)) := x1.h _ _ cn
    have xd := (xx.trans x1).drop
    have na' : a ≠ qs[n] := fun z => nq (by rw [z]; exact hqm)
    refine ⟨by omega, ⟨_, rfl⟩, xd.wr (hne _ hqm) gq, by rw [upd_ne na']; exact x1.h _ _ gj, fun k q xs hq' hx' => ?_⟩
    by_cases hk : k = n
    · subst hk
      have e1 : q = qs[k] := by rw [List.getElem?_eq_getElem hq] at hq'; exact (Option.some.inj hq').symm
      have e2 : xs = xss[k] := by rw [List.getElem?_eq_getElem hlt] at hx'; exact (Option.some.inj hx').symm
      rw [if_pos (Nat.lt_succ_self _), e1, e2]
      exact eu
    · have hkq : q ≠ qs[n] := fun z => by
        rw [z, ← List.getElem?_eq_getElem hq] at hq'
        exact hk ((List.getElem?_inj (by
          rcases Nat.lt_or_ge k qs.length with h | h
          · exact h
          · rw [List.getElem?_eq_none h, List.getElem?_eq_getElem hq] at hq'; cases hq') nd).mp hq')
      rw [upd_ne hkq, x1.h _ _ (cont k q xs hq' hx')]
      by_cases hkn : k < n
      · rw [if_pos hkn, if_pos (by omega)]
      · rw [if_neg hkn, if_neg (by omega)]
  · have e : n = xss.length := by omega
    subst e
    refine .inl ⟨⟨_, .of gj, by rw [List.length_map]; omega⟩, ?_⟩
    let Gz : Hp := fun b => if b ∈ qs then H' b else G b
    have gz : ∀ q ∈ qs, Gz q = H' q := fun q hq => if_pos hq
    have gn : ∀ b, b ∉ qs → Gz b = G b := fun b hb => if_neg hb
    have sz : Same G Gz := fun b o eo => by
      rw [gn b fun z => by rw [s0.free (hne b z)] at eo; cases eo]
      exact eo
    refine k Gz H' a y ⟨xx.h, sz, fun b o eo => ?_, fun b o eo => ?_⟩ na rfl ⟨⟨_, gj, paired_mk (by rw [List.length_map, List.length_map]; exact hll) fun i u ys hu hys => ?_⟩, ?_⟩
    · by_cases hb : b ∈ qs
      · rw [gz b hb] at eo; exact eo
      · rw [gn b hb] at eo; exact xx.s _ _ eo
    · by_cases hb : b ∈ qs
      · exact .inr (.inl (hne b hb))
      · rw [gn b hb] at eo; exact .inl eo
    · rw [List.getElem?_map] at hu hys
      cases hq1 : qs[i]? with
      | none => rw [hq1] at hu; cases hu
      | some q =>
        cases hx1 : xss[i]? with
        | none => rw [hx1] at hys; cases hys
        | some xs =>
          rw [hq1] at hu
          rw [hx1] at hys
          cases hu
          cases hys
          have hi : i < xss.length := by
            rcases Nat.lt_or_ge i xss.length with h | h
            · exact h
            · rw [List.getElem?_eq_none h] at hx1; cases hx1
          have cq := cont i q xs hq1 hx1
          rw [if_pos hi] at cq
          exact ⟨q, _, rfl, by rw [gz q (List.mem_of_getElem? hq1)]; exact cq, ints_paired _⟩
    · rw [gn a nq]
      exact s0.free na
end
end RL

set_option Elab.async false
set_option linter.all false
set_option maxRecDepth 100000
set_option maxHeartbeats 4000000
/-! R7: n.bit_length(); x = [] if c else [e], the def's own; a deep new answer out of a call told of new lists only. -/
namespace RL
open PySem PySem.Spec PyProof.Rows L2 Rep
section
variable {X : Cx} {σ : St} {G H G0 H0 : Hp} {D : Ends} {e c a b : Expr} {pos p : Pos} {α : Type} [Rep α]
theorem ev_bits {i : Int} {ap : Pos} (h : Ev X e σ G H i) (hbase : attributeBase e "bit_length" X.env (eval e X.env) = eval e X.env := by rfl) (hline : (ap.endLine == pos.line) = true := by rfl) : Ev X (.Call (.Attribute e "bit_length" ap) [] [] pos) σ G H ((Builtin.Int.intBits i : Nat) : Int) :=
  evP_of (pe_bits pe_sem hbase hline) fun G1 H1 x1 Q q => h G1 H1 x1 _ fun G2 H2 v x2 _ r => ⟨i, r, q G2 H2 _ x2 rfl⟩
theorem s_ifLO {x : Bool} {es es2 : List Expr} {ys zs : List α} {i : Nat} {n : Str} {p1 p2 p3 pos' : Pos} (hN : X.N.Nodup) (sl : Ss X i n) (s0 : Same G H) (ht : EvT X c σ G H x) (h1 : x = true → EvA X es σ G H (AAll X.K ys)) (h2 : x = false → EvA X es2 σ G H (AAll X.K zs))
    (k : ∀ G1 H1 q, Ext G H G1 H1 → HLen H1 → H q = none → Own X.K G1 H1 q (if x = true then ys else zs) → D.nx (σ.set i (some (.ref q))) H1)
    (hl1 : ys.length ≤ 1000 := by exact Nat.le_of_ble_eq_true rfl) (hl2 : zs.length ≤ 1000 := by exact Nat.le_of_ble_eq_true rfl) (hs : swapsWith (.IfExp c (.List es p1) (.List es2 p2) p3) (some (.Name n p)) pos'.line X.env = pure false := by rfl) :
    tS X (.Assign [.Name n p] (.IfExp c (.List es p1) (.List es2 p2) p3) pos') D σ H :=
  s_of (ps_set hN sl.hN sl.hx pe_sem hs sl.hf) (tE_lenF fun pins s I => (pe_ifExp pt_sem (pe_lst pa_sem) (pe_lst pa_sem)).run pins s σ H _ I (ht G H (Ext.refl s0) _ fun G2 H2 x2 _ => by
    cases x with
    | true =>
      exact h1 rfl G2 H2 x2 _ fun G1 H1 vs y _ pa => ⟨by rw [paired_len pa]; exact Nat.le_of_lt (small1000 hl1), fun q hq l =>
        k G1 _ q ((x2.trans y).newH hq) l ((x2.trans y).h.free hq) ⟨⟨vs, upd_same, pa⟩, (x2.trans y).s.free hq⟩⟩
    | false =>
      exact h2 rfl G2 H2 x2 _ fun G1 H1 vs y _ pa => ⟨by rw [paired_len pa]; exact Nat.le_of_lt (small1000 hl2), fun q hq l =>
        k G1 _ q ((x2.trans y).newH hq) l ((x2.trans y).h.free hq) ⟨⟨vs, upd_same, pa⟩, (x2.trans y).s.free hq⟩⟩))
/-- what was read in a frozen part of new objects alone is new -/
theorem nw_of {K : PySem.W.Frag} {Gs G3 H3 : Hp} {w : V} {xss : List (List Int)} (x : Ext Gs H G3 H3) (hs : Same H0 H) (gn : ∀ b o, Gs b = some o → H0 b = none) (r : rep K G3 w xss) : rep K G3 w (nw H0 xss) ∧ New H0 w := by
  obtain ⟨a, vs, rfl, e, pr⟩ := r
  have new : ∀ {b : Addr} {ys : List V}, G3 b = some (.lst ys) → H0 b = none := fun {b ys} g => by
    rcases x.n _ _ g with z | z | ⟨_, z⟩
    · exact gn _ _ z
    · exact hs.free z
    · cases z
  refine ⟨⟨a, vs, rfl, e, ?_⟩, fun p z => by cases z; exact new e⟩
  clear e
  induction pr with
  | nil => exact .nil
  | cons h t ih =>
    refine .cons ⟨h, fun p z => ?_⟩ ih
    obtain ⟨q, us, e2, g, _⟩ := h
    rw [e2] at z
    cases z
    exact new g
theorem ext_unionS {Gs G3 H3 : Hp} (s : Same G H) (gs : Same Gs G) (x : Ext Gs H G3 H3) : Ext G H (unionH G G3) H3 :=
  ⟨x.h, union_l, union_s (fun b o e => x.h _ _ (s _ _ e)) x.s, fun b o e => by
    rcases union_c e with e | e
    · exact .inl e
    · rcases x.n _ _ e with z | z | z
      · exact .inl (gs _ _ z)
      · exact .inr (.inl z)
      · exact .inr (.inr z)⟩
theorem s_retD {xss : List (List Int)} {Gs : Hp} (x0 : Ext G0 H0 G H) (gs : Same Gs G) (gn : ∀ b o, Gs b = some o → H0 b = none) (h : Ev X e σ Gs H xss)
    (k : ∀ G1 H1 w, Ext G H G1 H1 → rep X.K G1 w (nw H0 xss) → New H0 w → D.rt w H1) : tS X (.Return (some e) pos) D σ H :=
  s_of (ps_ret pe_sem) (h Gs H (Ext.refl fun b o z => x0.s _ _ (gs _ _ z)) _ fun G3 H3 w x l r => by
    obtain ⟨r1, n1⟩ := nw_of (K := X.K) x x0.h gn r
    have s3 : Same G3 (unionH G G3) := union_r (fun b o z => x.h _ _ (x0.s _ _ z)) x.s
    exact k (unionH G G3) H3 w (ext_unionS x0.s gs x) (up s3 r1) n1)
/-- told of new lists only, all that is found is new -/
theorem ret_new {K : PySem.W.Frag} {Gs G3 H3 : Hp} {w : V} {xss : List (List Int)} (x0 : Ext G0 H0 G H) (gs : Same Gs G) (gn : ∀ b o, Gs b = some o → H0 b = none) (x : Ext Gs H G3 H3) (r : rep K G3 w xss) : ∃ G1, Ext G0 H0 G1 H3 ∧ rep K G1 w (nw H0 xss) ∧ New H0 w := by
  obtain ⟨r1, n1⟩ := nw_of (K := K) x x0.h gn r
  have s3 : Same G3 (unionH G G3) := union_r (fun b o z => x.h _ _ (x0.s _ _ z)) x.s
  exact ⟨unionH G G3, x0.trans (ext_unionS x0.s gs x), up s3 r1, n1⟩
end
end RL

set_option maxHeartbeats 4000000
namespace Q
open PySem PySem.Spec PyProof.Rows L2 RL Rep
/-! need_modulus -/
def m_need_modulus (modulus : Int) : Unit :=
  (if (decide (modulus < (1 : Int))) = true then () else ())
/-! need_r -/
/-! rests -/
def m_rests (row : (List Int)) (modulus : Int) : (List Int) :=
  (row.map (fun (number : Int) => (number % modulus)))

theorem post_rests (row : List Int) (modulus : Int) (h : 1 ≤ modulus) : (m_rests row modulus).length = row.length := by
  unfold m_rests
  exact List.length_map _

/-- a dict's keys are rests, each once -/
structure KIn (m : Int) (d : Dct Int Int) : Prop where
  nd : (d.kvs.map (·.1)).Nodup
  bd : ∀ k ∈ d.kvs.map (·.1), 0 ≤ k ∧ k < m
theorem KIn.len {m : Int} {d : Dct Int Int} (h : KIn m d) : (d.kvs.length : Int) ≤ m ∨ d.kvs = [] := by
  by_cases hm : 0 ≤ m
  · left
    have := nodup_sub_len (m := rng 0 m) h.nd fun k hk => mem_rng.mpr (h.bd k hk)
    rw [List.length_map, rng_len] at this
    omega
  · right
    cases e : d.kvs with
    | nil => rfl
    | cons p r =>
      have := h.bd p.1 (by rw [e]; exact List.mem_cons_self)
      omega
theorem KIn.nil {m : Int} : KIn m ⟨[]⟩ := ⟨List.nodup_nil, fun _ h => by cases h⟩
theorem KIn.one {m : Int} (h : 1 ≤ m) (v : Int) : KIn m ⟨[(0, v)]⟩ := ⟨by simp, fun k hk => by simp at hk; omega⟩
theorem KIn.put {m k v : Int} {d : Dct Int Int} (h : KIn m d) (hk : 0 ≤ k ∧ k < m) : KIn m ⟨dput d.kvs k v⟩ := by
  have e := dput_keys d.kvs k v
  by_cases hn : k ∈ d.kvs.map (·.1)
  · rw [if_pos hn] at e
    exact ⟨by show (List.map _ (dput d.kvs k v)).Nodup; rw [e]; exact h.nd, fun j hj => h.bd j (by rw [← e]; exact hj)⟩
  · rw [if_neg hn] at e
    refine ⟨?_, fun j hj => ?_⟩
    · show (List.map _ (dput d.kvs k v)).Nodup
      rw [e, List.nodup_append]
      refine ⟨h.nd, by simp, fun a ha b hb z => ?_⟩
      rw [List.mem_singleton.mp hb] at z
      exact hn (z ▸ ha)
    · have hj : j ∈ List.map (·.1) (dput d.kvs k v) := hj
      rw [e] at hj
      rcases List.mem_append.mp hj with hj | hj
      · exact h.bd j hj
      · rw [List.mem_singleton.mp hj]; exact hk
def KInL (m : Int) (ds : List (Dct Int Int)) : Prop := ∀ d ∈ ds, KIn m d
theorem KInL.set {m : Int} {ds : List (Dct Int Int)} {d : Dct Int Int} {i : Nat} (h : KInL m ds) (hd : KIn m d) : KInL m (ds.set i d) := fun x hx => by
  rcases List.mem_or_eq_of_mem_set hx with hx | hx
  · exact h x hx
  · exact hx ▸ hd
theorem KInL.at_ {m : Int} {ds : List (Dct Int Int)} {i : Nat} (h : KInL m ds) : KIn m (ds.getD i ⟨[]⟩) := by
  rw [List.getD_eq_getElem?_getD]
  cases e : ds[i]? with
  | none => exact KIn.nil
  | some y => exact h y (List.mem_of_getElem? e)
def KInT (m : Int) (t : List (List (Dct Int Int))) : Prop := ∀ ds ∈ t, KInL m ds
theorem KInT.at_ {m : Int} {t : List (List (Dct Int Int))} {i : Nat} (h : KInT m t) : KInL m (t.getD i []) := by
  rw [List.getD_eq_getElem?_getD]
  cases e : t[i]? with
  | none => exact fun _ h => by cases h
  | some y => exact h y (List.mem_of_getElem? e)
theorem kin_mod {a m : Int} (h : 1 ≤ m) : 0 ≤ a % m ∧ a % m < m := ⟨Int.emod_nonneg _ (by omega), Int.emod_lt_of_pos _ (by omega)⟩
theorem kin_szd {m : Int} {d : Dct Int Int} (h : KIn m d) (hm : m ≤ 1000) : d.kvs.length < sizeLine := by
  rw [sizeLine_eq]
  rcases h.len with h | h
  · omega
  · rw [h]; decide
theorem kin_d64 {m : Int} {d : Dct Int Int} (h : KIn m d) (hm : m ≤ 63) : d.kvs.length < 64 := by
  rcases h.len with h | h
  · omega
  · rw [h]; decide
theorem kin_start {m : Int} {t : List (List (Dct Int Int))} {i : Nat} (h : KInT m t) : KInL m (List.map (fun (w : Dct Int Int) => w) (t.getD i []) ++ [⟨[]⟩]) := fun d hd => by
  rcases List.mem_append.mp hd with hd | hd
  · obtain ⟨x, hx, rfl⟩ := List.mem_map.mp hd
    exact h.at_ x hx
  · rw [List.mem_singleton.mp hd]; exact KIn.nil
theorem kin_cons {m : Int} {t : List (List (Dct Int Int))} {ds : List (Dct Int Int)} (h : KInT m t) (hd : KInL m ds) : KInT m (ds :: t) := fun x hx => by
  rcases List.mem_cons.mp hx with rfl | hx
  · exact hd
  · exact h x hx
theorem kin_one {m : Int} (h : 1 ≤ m) : KInT m [[⟨[((0 : Int), (1 : Int))]⟩]] := fun ds hd d h2 => by
  rw [List.mem_singleton.mp hd] at h2
  rw [List.mem_singleton.mp h2]
  exact KIn.one h 1

/-! rests_r -/
/-! need_count -/
def m_need_count (many : Int) (least : Int) : Unit :=
  (if (decide (many < least)) = true then () else ())
/-! count_c -/
/-! places_of -/
def m_places_of (bits : Int) : (List Int) :=
  (((rng 0 ((Builtin.Int.intBits bits : Nat) : Int)).filter (fun (place : Int) => (decide ((Builtin.bitAnd (bits / 2 ^ (place).toNat) (1 : Int)) = (1 : Int))))).map (fun (place : Int) => place))
def lastR (row : List Int) : Int := ([(0 : Int)] ++ row).getD (([(0 : Int)] ++ row).length - 1) 0
theorem lastR_app (row : List Int) (x : Int) : lastR (row ++ [x]) = x := by
  unfold lastR
  rw [← List.append_assoc]
  simp
theorem lastR_nil : lastR [] = 0 := rfl

theorem low_bd {b : Int} (h : 1 ≤ b) : 0 ≤ Builtin.bitAnd b (0 - b) ∧ Builtin.bitAnd b (0 - b) ≤ b := by
  unfold Builtin.bitAnd
  rw [decide_eq_true (show 0 ≤ b by omega), decide_eq_false (show ¬ 0 ≤ 0 - b by omega)]
  have := Nat.and_le_left (n := b.toNat) (m := (Builtin.bitNot (0 - b)).toNat)
  show 0 ≤ b - ((b.toNat &&& (Builtin.bitNot (0 - b)).toNat : Nat) : Int) ∧ b - ((b.toNat &&& (Builtin.bitNot (0 - b)).toNat : Nat) : Int) ≤ b
  omega
theorem and_le {a b : Int} (h : Builtin.bitAnd a b = a) (ha : 1 ≤ a) (hb : 1 ≤ b) : a ≤ b := by
  unfold Builtin.bitAnd at h
  rw [decide_eq_true (show 0 ≤ a by omega), decide_eq_true (show 0 ≤ b by omega)] at h
  have := Nat.and_le_right (n := a.toNat) (m := b.toNat)
  have h : ((a.toNat &&& b.toNat : Nat) : Int) = a := h
  omega
theorem pow_bd {n : Int} (h0 : 0 ≤ n) (h : n ≤ 10) : 1 ≤ (1 : Int) * 2 ^ n.toNat ∧ (1 : Int) * 2 ^ n.toNat ≤ 1024 := by
  have e : n = 0 ∨ n = 1 ∨ n = 2 ∨ n = 3 ∨ n = 4 ∨ n = 5 ∨ n = 6 ∨ n = 7 ∨ n = 8 ∨ n = 9 ∨ n = 10 := by omega
  rcases e with rfl | rfl | rfl | rfl | rfl | rfl | rfl | rfl | rfl | rfl | rfl <;> decide
/-! bits -/
def Sb (i S : Nat) : Prop := i &&& S = i
theorem and_half (a b : Nat) : a &&& b = 2 * (a / 2 &&& b / 2) + (if a % 2 = 1 ∧ b % 2 = 1 then 1 else 0) := by
  have h1 := @Nat.and_div_two a b
  have h2 := @Nat.and_mod_two_eq_one a b
  split
  · next h => have := h2.mpr h; omega
  · next h => have := mt h2.mp h; omega
theorem sb_half {i S : Nat} : Sb i S ↔ Sb (i / 2) (S / 2) ∧ i % 2 ≤ S % 2 := by
  unfold Sb
  have h := and_half i S
  split at h
  · next c => constructor <;> intro z <;> omega
  · next c =>
    constructor
    · intro z
      have : i % 2 = 0 := by omega
      omega
    · intro z
      have : i % 2 = 0 := by omega
      omega
theorem sb_le {i S : Nat} (h : Sb i S) : i ≤ S := by
  have := Nat.and_le_right (n := i) (m := S)
  unfold Sb at h
  omega
theorem sb_pred : ∀ (x i S : Nat), Sb x S → Sb i S → i < x → i ≤ (x - 1) &&& S := by
  intro x
  induction x using Nat.strongRecOn with
  | _ x ih =>
    intro i S hx hi hl
    rw [sb_half] at hx hi
    rw [and_half (x - 1) S]
    by_cases c : x % 2 = 1
    · have e : (x - 1) / 2 = x / 2 := by omega
      rw [e, hx.1]
      omega
    · have e : (x - 1) / 2 = x / 2 - 1 := by omega
      rw [e]
      have := ih (x / 2) (by omega) (i / 2) (S / 2) hx.1 hi.1 (by omega)
      split <;> omega
theorem sb_and (x S : Nat) : Sb (x &&& S) S := by unfold Sb; rw [Nat.and_assoc, Nat.and_self]
theorem sb_self (S : Nat) : Sb S S := Nat.and_self S
theorem sb_bit {i S : Nat} : Sb i S ↔ ∀ j, i.testBit j = true → S.testBit j = true := by
  unfold Sb
  constructor
  · intro h j hj
    rw [← h, Nat.testBit_and, Bool.and_eq_true] at hj
    exact hj.2
  · intro h
    refine Nat.eq_of_testBit_eq fun j => ?_
    rw [Nat.testBit_and]
    cases e : i.testBit j with
    | false => rfl
    | true => rw [h j e]; rfl
theorem sb_minus : ∀ (j i S : Nat), Sb i S → (S - i).testBit j = (S.testBit j && !i.testBit j)
  | 0, i, S, h => by
    rw [sb_half] at h
    have := sb_le h.1
    rw [Nat.testBit_zero, Nat.testBit_zero, Nat.testBit_zero]
    by_cases c : S % 2 = 1 <;> by_cases d : i % 2 = 1
    all_goals simp [c, d]
    all_goals omega
  | j + 1, i, S, h => by
    rw [sb_half] at h
    have := sb_le h.1
    rw [Nat.testBit_add_one, Nat.testBit_add_one, Nat.testBit_add_one, ← sb_minus j _ _ h.1]
    congr 1
    omega
structure Lst (S k : Nat) : Prop where
  b : S.testBit k = true
  l : ∀ j, j < k → S.testBit j = false
theorem lst_ex : ∀ S : Nat, 0 < S → ∃ k, Lst S k := by
  intro S
  induction S using Nat.strongRecOn with
  | _ S ih =>
    intro h
    by_cases c : S % 2 = 1
    · exact ⟨0, by rw [Nat.testBit_zero]; exact decide_eq_true c, fun j hj => absurd hj (Nat.not_lt_zero _)⟩
    · obtain ⟨k, hb, hl⟩ := ih (S / 2) (by omega) (by omega)
      refine ⟨k + 1, by rw [Nat.testBit_add_one]; exact hb, fun j hj => ?_⟩
      cases j with
      | zero => rw [Nat.testBit_zero]; exact decide_eq_false c
      | succ j => rw [Nat.testBit_add_one]; exact hl j (by omega)
theorem lst_uniq {S k j : Nat} (h : Lst S k) (h2 : Lst S j) : k = j := by
  rcases Nat.lt_trichotomy k j with z | z | z
  · have := h2.l k z; rw [h.b] at this; cases this
  · exact z
  · have := h.l j z; rw [h2.b] at this; cases this
theorem lst_low : ∀ (k S : Nat), Lst S k → S &&& (S - 1) = S - 2 ^ k ∧ 2 ^ k ≤ S
  | 0, S, h => by
    have c := of_decide_eq_true ((Nat.testBit_zero S).symm.trans h.b)
    rw [and_half, show (S - 1) / 2 = S / 2 by omega, Nat.and_self]
    have : 2 ^ 0 = 1 := rfl
    split <;> omega
  | k + 1, S, h => by
    have c : ¬ S % 2 = 1 := by
      have := h.l 0 (by omega)
      rw [Nat.testBit_zero] at this
      exact of_decide_eq_false this
    have ih := lst_low k (S / 2) ⟨by rw [← Nat.testBit_add_one]; exact h.b, fun j hj => by rw [← Nat.testBit_add_one]; exact h.l (j + 1) (by omega)⟩
    have p : 0 < 2 ^ k := Nat.pow_pos (by decide)
    rw [and_half, show (S - 1) / 2 = S / 2 - 1 by omega, ih.1, if_neg (fun z => c z.1), Nat.pow_succ]
    omega
theorem nand (a b : Nat) : Builtin.bitAnd (a : Int) (b : Int) = ((a &&& b : Nat) : Int) := by
  unfold Builtin.bitAnd
  rw [decide_eq_true (show (0 : Int) ≤ a by omega), decide_eq_true (show (0 : Int) ≤ b by omega)]
  rfl
theorem low_eq {S k : Nat} (h : Lst S k) : Builtin.bitAnd (S : Int) (-(S : Int)) = ((2 ^ k : Nat) : Int) := by
  have l := lst_low k S h
  have p : 0 < 2 ^ k := Nat.pow_pos (by decide)
  unfold Builtin.bitAnd
  rw [decide_eq_true (show (0 : Int) ≤ S by omega), decide_eq_false (show ¬ (0 : Int) ≤ -(S : Int) by omega)]
  show (S : Int) - ((((S : Int).toNat) &&& (Builtin.bitNot (-(S : Int))).toNat : Nat) : Int) = _
  have e : (Builtin.bitNot (-(S : Int))).toNat = S - 1 := by
    unfold Builtin.bitNot
    omega
  rw [e, Int.toNat_natCast, l.1]
  omega
theorem low_eq' {S k : Nat} (h : Lst S k) : Builtin.bitAnd (S : Int) ((0 : Int) - (S : Int)) = ((2 ^ k : Nat) : Int) := by
  rw [Int.zero_sub]
  exact low_eq h
theorem pow_and : ∀ (k x : Nat), x &&& 2 ^ k = if x.testBit k = true then 2 ^ k else 0
  | 0, x => by
    rw [show 2 ^ 0 = 1 from rfl, Nat.and_one_is_mod, Nat.testBit_zero]
    by_cases c : x % 2 = 1
    · simp [c]
    · simp [c]; omega
  | k + 1, x => by
    have p : 0 < 2 ^ k := Nat.pow_pos (by decide)
    have h := and_half x (2 ^ (k + 1))
    rw [Nat.pow_succ, show 2 ^ k * 2 / 2 = 2 ^ k by omega, pow_and k (x / 2), ← Nat.testBit_add_one, ← Nat.pow_succ, if_neg (show ¬ (x % 2 = 1 ∧ 2 ^ (k + 1) % 2 = 1) by rw [Nat.pow_succ]; omega)] at h
    rw [h]
    split
    · rw [Nat.pow_succ]; omega
    · rfl
theorem lst_sub {S i k : Nat} (h : Lst S k) (s : Sb i S) (b : i.testBit k = true) : Lst i k := ⟨b, fun j hj => by
  cases e : i.testBit j with
  | false => rfl
  | true => have := sb_bit.mp s j e; rw [h.l j hj] at this; cases this⟩
theorem sb_pow {S k : Nat} (h : S.testBit k = true) : Sb (2 ^ k) S := by
  unfold Sb
  rw [Nat.and_comm, pow_and, if_pos h]
theorem sb_minus_sb {i S : Nat} (h : Sb i S) : Sb (S - i) S := sb_bit.mpr fun j hj => by
  rw [sb_minus j i S h, Bool.and_eq_true] at hj
  exact hj.1
/-! places -/
def plr (n S : Nat) : List Int := ((List.range n).filter fun k => S.testBit k).map fun (k : Nat) => (k : Int)
def pls (S : Nat) : List Int := plr 10 S
theorem plr_eq {n m S : Nat} (h : ∀ k, n ≤ k → S.testBit k = false) (hm : n ≤ m) : plr n S = plr m S := by
  obtain ⟨d, rfl⟩ := Nat.le.dest hm
  unfold plr
  rw [List.range_add, List.filter_append]
  have : ((List.range d).map (n + ·)).filter (fun k => S.testBit k) = [] := by
    rw [List.filter_eq_nil_iff]
    intro x hx
    obtain ⟨y, _, rfl⟩ := List.mem_map.mp hx
    rw [h _ (Nat.le_add_right _ _)]
    decide
  rw [this, List.append_nil]
theorem bit_at (S k : Nat) : decide (Builtin.bitAnd ((S : Int) / 2 ^ ((k : Int)).toNat) (1 : Int) = (1 : Int)) = S.testBit k := by
  rw [Int.toNat_natCast, show ((S : Int) / 2 ^ k) = ((S / 2 ^ k : Nat) : Int) by rw [Int.natCast_ediv, Int.natCast_pow]; rfl, show (1 : Int) = ((1 : Nat) : Int) from rfl, nand, Nat.and_one_is_mod, Nat.testBit_eq_decide_div_mod_eq]
  exact decide_eq_decide.mpr ⟨fun z => by omega, fun z => by omega⟩
theorem plr_rng (n S : Nat) : ((rng 0 (n : Int)).filter (fun (place : Int) => (decide ((Builtin.bitAnd ((S : Int) / 2 ^ (place).toNat) (1 : Int)) = (1 : Int))))).map (fun (place : Int) => place) = plr n S := by
  rw [rng0_nat, List.filter_map, List.map_map]
  unfold plr
  congr 1
  refine List.filter_congr fun k _ => ?_
  exact bit_at S k
theorem bit_hi {S n : Nat} (h : S < 2 ^ n) : ∀ k, n ≤ k → S.testBit k = false := fun k hk => Nat.testBit_lt_two_pow (Nat.lt_of_lt_of_le h (Nat.pow_le_pow_right (by decide) hk))
theorem bits_lt (S : Nat) : S < 2 ^ Builtin.Int.intBits (S : Int) := by
  unfold Builtin.Int.intBits
  by_cases h : S = 0
  · subst h; decide
  · rw [if_neg (by simpa using h), Int.natAbs_natCast]
    exact Nat.lt_log2_self
theorem bits_le {S n : Nat} (h : S < 2 ^ n) : Builtin.Int.intBits (S : Int) ≤ n := by
  unfold Builtin.Int.intBits
  by_cases z : S = 0
  · subst z; exact Nat.zero_le _
  · rw [if_neg (by simpa using z), Int.natAbs_natCast]
    exact (Nat.log2_lt z).mpr h
theorem places_eq (S : Nat) (h : S < 1024) : m_places_of (S : Int) = pls S := by
  unfold m_places_of
  rw [plr_rng]
  exact plr_eq (fun k hk => bit_hi (bits_lt S) k hk) (bits_le (n := 10) h)
theorem mem_pls {S : Nat} {p : Int} : p ∈ pls S ↔ ∃ k : Nat, p = (k : Int) ∧ k < 10 ∧ S.testBit k = true := by
  unfold pls plr
  rw [List.mem_map]
  constructor
  · rintro ⟨k, hk, rfl⟩
    obtain ⟨h1, h2⟩ := List.mem_filter.mp hk
    exact ⟨k, rfl, List.mem_range.mp h1, h2⟩
  · rintro ⟨k, rfl, h1, h2⟩
    exact ⟨k, List.mem_filter.mpr ⟨List.mem_range.mpr h1, h2⟩, rfl⟩
theorem pls_len (S : Nat) : (pls S).length ≤ 10 := by
  unfold pls plr
  rw [List.length_map]
  exact Nat.le_trans (List.length_filter_le _ _) (by rw [List.length_range]; exact Nat.le_refl _)
theorem pls_inj {S T : Nat} (hS : S < 1024) (hT : T < 1024) (h : pls S = pls T) : S = T := by
  refine Nat.eq_of_testBit_eq fun k => ?_
  by_cases hk : k < 10
  · have e : ∀ U, U.testBit k = true ↔ (k : Int) ∈ pls U := fun U => by
      rw [mem_pls]
      exact ⟨fun z => ⟨k, rfl, hk, z⟩, fun ⟨j, e, _, z⟩ => by rw [Int.ofNat.inj e]; exact z⟩
    have := (e S).trans (h ▸ (e T).symm)
    cases a : S.testBit k <;> cases b : T.testBit k <;> simp_all
  · rw [bit_hi (n := 10) hS k (by omega), bit_hi (n := 10) hT k (by omega)]
theorem pls_head {S k : Nat} (h : Lst S k) (hS : S < 1024) : ∃ t, pls S = (k : Int) :: t := by
  have hk : k < 10 := by
    refine Classical.byContradiction fun z => ?_
    have := bit_hi (n := 10) hS k (by omega)
    rw [h.b] at this
    cases this
  obtain ⟨d, hd⟩ := Nat.le.dest (show k + 1 ≤ 10 by omega)
  unfold pls plr
  rw [← hd, List.range_add, List.range_succ, List.filter_append, List.filter_append]
  have e1 : (List.range k).filter (fun j => S.testBit j) = [] := by
    rw [List.filter_eq_nil_iff]
    intro j hj
    rw [h.l j (List.mem_range.mp hj)]
    decide
  have e2 : [k].filter (fun j => S.testBit j) = [k] := by simp [h.b]
  rw [e1, e2, List.nil_append, List.map_append]
  exact ⟨_, rfl⟩
/-! the order of what is found -/
abbrev Nb := Int × List (List Int)
theorem dlt_ls (x y : List Int) : PySem.W.dataLt (Dat.toD x) (Dat.toD y) = decide (x < y) := PySem.W.dataLt_ints x y
theorem nb_lt (x y : Nb) : PySem.W.dataLt (Dat.toD x) (Dat.toD y) = if x.1 = y.1 then (if x.2 = y.2 then false else PySem.W.dataLt (Dat.toD x.2) (Dat.toD y.2)) else decide (x.1 < y.1) := by
  show PySem.W.dataLt (.tuple [Dat.toD x.1, Dat.toD x.2]) (.tuple [Dat.toD y.1, Dat.toD y.2]) = _
  rw [PySem.W.dataLt_pair (DatS.al _ _) (DatS.al _ _), Dat.eqv, Dat.eqv, show PySem.W.dataLt (Dat.toD x.1) (Dat.toD y.1) = decide (x.1 < y.1) from PySem.W.dataLt_int _ _]
  by_cases h1 : x.1 = y.1 <;> by_cases h2 : x.2 = y.2 <;> simp [h1, h2]
theorem nb_cons {a : Int} {x y : List Int} {s t : List (List Int)} (h : x < y) : PySem.W.dataLt (Dat.toD ((a, x :: s) : Nb)) (Dat.toD ((a, y :: t) : Nb)) = true := by
  have hn : x ≠ y := fun z => by rw [z] at h; exact List.lt_irrefl _ h
  rw [nb_lt, if_pos rfl, if_neg (fun z => hn (List.cons.inj z).1)]
  show PySem.W.dataLt (.list (Dat.toD x :: s.map Dat.toD)) (.list (Dat.toD y :: t.map Dat.toD)) = true
  rw [PySem.W.dataLt_list, PySem.W.dataLt_all_no (DatS.al _ _) (by rw [Dat.eqv]; exact decide_eq_false hn), dlt_ls]
  exact decide_eq_true h
theorem nb_fst {x y : Nb} (h : x.1 < y.1) : PySem.W.dataLt (Dat.toD x) (Dat.toD y) = true := by
  rw [nb_lt, if_neg (by omega)]
  exact decide_eq_true h
theorem nb_min {d t : Nb} {xs : List Nb} (h : t ∈ xs) (hl : ∀ y ∈ xs, y ≠ t → PySem.W.dataLt (Dat.toD t) (Dat.toD y) = true) : dmin d xs = t := by
  refine Classical.byContradiction fun z => ?_
  have h1 := hl _ (dmin_mem d (fun e => by rw [e] at h; cases h)) z
  rw [dmin_le d h] at h1
  cases h1

theorem bits_bd {bits : Int} (h : 0 ≤ bits ∧ bits < 1024) : Builtin.Int.intBits bits ≤ 10 := by
  obtain ⟨n, rfl⟩ := Int.eq_ofNat_of_zero_le h.1
  exact bits_le (n := 10) (by omega)
theorem post_places_of (bits : Int) (h : 0 ≤ bits ∧ bits < 1024) : (∀ p ∈ m_places_of bits, 0 ≤ p ∧ (1 : Int) * 2 ^ p.toNat ≤ bits) ∧ (m_places_of bits).length ≤ 10 := by
  obtain ⟨n, rfl⟩ := Int.eq_ofNat_of_zero_le h.1
  rw [places_eq n (by omega)]
  refine ⟨fun p hp => ?_, pls_len n⟩
  obtain ⟨k, rfl, _, hk⟩ := mem_pls.mp hp
  have := Nat.ge_two_pow_of_testBit hk
  have e := Int.natCast_pow 2 k
  have e : ((2 ^ k : Nat) : Int) = 2 ^ k := e
  refine ⟨by omega, ?_⟩
  rw [Int.toNat_natCast, Int.one_mul, ← e]
  omega

/-! hit_bits -/
def m_hit_bits_1s (some_ : (List Int)) (modulus : Int) (bits : Int) : (List Bool) → (List Bool) := fun found => (found ++ [((decide (bits > (0 : Int))) && (decide (((((m_places_of bits).map (fun (place : Int) => ((some_).getD (place).toNat (0 : Int))))).sum % modulus) = (0 : Int))))])
def m_hit_bits_2  : (List Bool) → (List Bool) := fun found => found
def m_hit_bits (some_ : (List Int)) (modulus : Int) : (List Bool) :=
  (m_hit_bits_2 (lfold (m_hit_bits_1s some_ modulus) (rng 0 ((1 : Int) * 2 ^ (((some_).length : Int)).toNat)) ([] : (List Bool))))
/-! hits -/
theorem ls_tri : ∀ x y : List Int, x < y ∨ x = y ∨ y < x
  | [], [] => .inr (.inl rfl)
  | [], _ :: _ => .inl (List.nil_lt_cons _ _)
  | _ :: _, [] => .inr (.inr (List.nil_lt_cons _ _))
  | a :: x, b :: y => by
    rcases Int.lt_trichotomy a b with h | h | h
    · exact .inl (List.cons_lt_cons_iff.mpr (.inl h))
    · subst h
      rcases ls_tri x y with z | z | z
      · exact .inl (List.cons_lt_cons_iff.mpr (.inr ⟨rfl, z⟩))
      · exact .inr (.inl (by rw [z]))
      · exact .inr (.inr (List.cons_lt_cons_iff.mpr (.inr ⟨rfl, z⟩)))
    · exact .inr (.inr (List.cons_lt_cons_iff.mpr (.inl h)))
def Ht (row : List Int) (m : Int) (S : Nat) : Bool := decide (0 < S) && decide (((pls S).map fun (p : Int) => row.getD p.toNat 0).sum % m = 0)
theorem sum_emod {α : Type} (m : Int) (f g : α → Int) (h : ∀ x, f x % m = g x % m) : ∀ l : List α, (l.map f).sum % m = (l.map g).sum % m
  | [] => rfl
  | x :: l => by
    rw [List.map_cons, List.sum_cons, List.map_cons, List.sum_cons, Int.add_emod, h x, sum_emod m f g h l, ← Int.add_emod]
theorem ht_rests (row : List Int) (m : Int) (S : Nat) : Ht (m_rests row m) m S = Ht row m S := by
  unfold Ht
  rw [sum_emod m (fun (p : Int) => (m_rests row m).getD p.toNat 0) (fun (p : Int) => row.getD p.toNat 0) fun p => ?_]
  unfold m_rests
  rw [List.getD_eq_getElem?_getD, List.getD_eq_getElem?_getD, List.getElem?_map]
  cases row[p.toNat]? with
  | none => rfl
  | some x => exact Int.emod_emod_of_dvd x (Int.dvd_refl m)
theorem pow_cast (n : Nat) : (1 : Int) * 2 ^ ((n : Int)).toNat = ((2 ^ n : Nat) : Int) := by
  rw [Int.one_mul, Int.toNat_natCast, Int.natCast_pow]
  rfl
theorem hb_list (row : List Int) (m : Int) (hn : row.length ≤ 10) : m_hit_bits row m = (List.range (2 ^ row.length)).map (Ht row m) := by
  have h2 : 2 ^ row.length ≤ 2 ^ 10 := Nat.pow_le_pow_right (by decide) hn
  unfold m_hit_bits m_hit_bits_2
  rw [pow_cast, rng0_nat, lfold_mapL, lfold_flat (g := fun S => [Ht row m S]) fun S hS f => ?_]
  · rw [List.nil_append]
    have : ∀ l : List Nat, l.flatMap (fun S => [Ht row m S]) = l.map (Ht row m) := fun l => by
      induction l with
      | nil => rfl
      | cons a l ih => rw [List.flatMap_cons, ih]; rfl
    exact this _
  · have := List.mem_range.mp hS
    show f ++ [decide ((S : Int) > 0) && decide (((m_places_of (S : Int)).map _).sum % m = 0)] = f ++ [Ht row m S]
    rw [places_eq S (by omega)]
    unfold Ht
    congr 3
    exact decide_eq_decide.mpr ⟨fun z => by omega, fun z => by omega⟩

theorem pl_ix {bits p : Int} {n : Nat} {ps : List Int} (h : (∀ p ∈ ps, 0 ≤ p ∧ (1 : Int) * 2 ^ p.toNat ≤ bits) ∧ ps.length ≤ 10) (hp : p ∈ ps) (hb : 0 ≤ bits ∧ bits < (1 : Int) * 2 ^ ((n : Int)).toNat) : p < (n : Int) := by
  obtain ⟨h0, h1⟩ := h.1 p hp
  refine Classical.byContradiction fun z => ?_
  have h2 : (2 : Int) ^ n ≤ 2 ^ p.toNat := by
    have := Nat.pow_le_pow_right (n := 2) (by decide) (show n ≤ p.toNat by omega)
    have e1 : ((2 ^ n : Nat) : Int) = 2 ^ n := Int.natCast_pow 2 n
    have e2 : ((2 ^ p.toNat : Nat) : Int) = 2 ^ p.toNat := Int.natCast_pow 2 _
    omega
  rw [Int.toNat_natCast] at hb
  omega
theorem pl_ge {bits p : Int} {ps : List Int} (h : (∀ p ∈ ps, 0 ≤ p ∧ (1 : Int) * 2 ^ p.toNat ≤ bits) ∧ ps.length ≤ 10) (hp : p ∈ ps) : 0 ≤ p := (h.1 p hp).1
theorem post_hit_bits (some_ : List Int) (modulus : Int) (h : 1 ≤ modulus ∧ some_.length ≤ 10) : ((m_hit_bits some_ modulus).length : Int) = (1 : Int) * 2 ^ ((some_.length : Int)).toNat := by
  rw [hb_list _ _ h.2, List.length_map, List.length_range, pow_cast]

/-! best_apart -/
def m_best_apart_11 (found_1 : (List (Int × (List (List Int))))) (inner : Int) (behind : (Option (Int × (List (List Int))))) (inner_24 : Int) : ((List (Int × (List (List Int)))) × Int) :=
  ((found_1 ++ [(((behind.getD ((0 : Int), [])).1 - (1 : Int)), (([(m_places_of inner)] : List (List Int)) ++ (behind.getD ((0 : Int), [])).2))]), inner_24)
def m_best_apart_12 (found_1 : (List (Int × (List (List Int))))) (inner : Int) : ((List (Int × (List (List Int)))) × Int) :=
  (found_1, inner)
def m_best_apart_10 (hits : (List Bool)) (bits : Int) (least : Int) (found_1 : (List (Int × (List (List Int))))) (inner : Int) (behind : (Option (Int × (List (List Int))))) : ((List (Int × (List (List Int)))) × Int) :=
  (if ((decide ((Builtin.bitAnd inner least) > (0 : Int))) && (((hits).getD (inner).toNat false) && (!(behind).isNone))) = true then m_best_apart_11 found_1 inner behind (Builtin.bitAnd (inner - (1 : Int)) bits) else m_best_apart_12 found_1 (Builtin.bitAnd (inner - (1 : Int)) bits))
def m_best_apart_7s (hits : (List Bool)) (best_0 : (List (Option (Int × (List (List Int)))))) (bits : Int) (least : Int) : ((List (Int × (List (List Int)))) × Int) → ((List (Int × (List (List Int)))) × Int) := fun (found_1, inner) => m_best_apart_10 hits bits least found_1 inner ((best_0).getD ((bits - inner)).toNat none)
def m_best_apart_8c  : ((List (Int × (List (List Int)))) × Int) → Bool := fun (found_1, inner) => (decide (inner > (0 : Int)))
def m_best_apart_9 (best_0 : (List (Option (Int × (List (List Int)))))) : ((List (Int × (List (List Int)))) × Int) → (List (Option (Int × (List (List Int))))) := fun (found_1, inner) => (best_0 ++ [(if (!decide (found_1 = ([] : List (Int × (List (List Int)))))) = true then (some (dmin ((0 : Int), []) found_1)) else (none : (Option (Int × (List (List Int))))))])
def m_best_apart_6 (hits : (List Bool)) (best_0 : (List (Option (Int × (List (List Int)))))) (bits : Int) (least : Int) (found : (List (Int × (List (List Int))))) : (List (Option (Int × (List (List Int))))) :=
  ((m_best_apart_9 best_0) (wrun (m_best_apart_8c) (m_best_apart_7s hits best_0 bits least) (bits.toNat) (found, bits)))
def m_best_apart_5 (whole : Bool) (hits : (List Bool)) (best_0 : (List (Option (Int × (List (List Int)))))) (bits : Int) (least : Int) : (List (Option (Int × (List (List Int))))) :=
  m_best_apart_6 hits best_0 bits least (if whole = true then ([] : (List (Int × (List (List Int))))) else ([(((best_0).getD ((bits - least)).toNat none).getD ((0 : Int), []))] : (List (Int × (List (List Int))))))
def m_best_apart_3s (whole : Bool) (hits : (List Bool)) (bits : Int) : (List (Option (Int × (List (List Int))))) → (List (Option (Int × (List (List Int))))) := fun best_0 => m_best_apart_5 whole hits best_0 bits (Builtin.bitAnd bits (-bits))
def m_best_apart_4  : (List (Option (Int × (List (List Int))))) → (Option (Int × (List (List Int)))) := fun best_0 => ((best_0).getD ((best_0).length - 1) none)
def m_best_apart_2 (whole : Bool) (hits : (List Bool)) (best : (List (Option (Int × (List (List Int)))))) : (Option (Int × (List (List Int)))) :=
  (m_best_apart_4 (lfold (m_best_apart_3s whole hits) (rng (1 : Int) ((hits).length : Int)) best))
def m_best_apart_1 (whole : Bool) (hits : (List Bool)) : (Option (Int × (List (List Int)))) :=
  m_best_apart_2 whole hits ([(some ((0 : Int), ([] : List (List Int))))] : List (Option (Int × (List (List Int)))))
def m_best_apart (some_ : (List Int)) (modulus : Int) (whole : Bool) : (Option (Int × (List (List Int)))) :=
  m_best_apart_1 whole (m_hit_bits some_ modulus)

theorem low_bd2 {b : Int} (h : 1 ≤ b) : 1 ≤ Builtin.bitAnd b (-b) ∧ Builtin.bitAnd b (-b) ≤ b := by
  obtain ⟨n, rfl⟩ := Int.eq_ofNat_of_zero_le (show 0 ≤ b by omega)
  obtain ⟨k, hk⟩ := lst_ex n (by omega)
  rw [low_eq hk]
  have := (lst_low k n hk).2
  have p0 : 0 < 2 ^ k := Nat.pow_pos (by decide)
  omega
theorem and_bd {a b : Int} (h : 0 ≤ a) (h2 : 0 ≤ b) : 0 ≤ Builtin.bitAnd a b ∧ Builtin.bitAnd a b ≤ a := by
  obtain ⟨n, rfl⟩ := Int.eq_ofNat_of_zero_le h
  obtain ⟨k, rfl⟩ := Int.eq_ofNat_of_zero_le h2
  rw [nand]
  have := Nat.and_le_left (n := n) (m := k)
  omega
def BOk (whole : Bool) (best : List (Option (Int × List (List Int)))) : Prop := (whole = false → ∀ x ∈ best, x.isSome = true) ∧ ∀ i, ((best.getD i none).getD (0, [])).2.length ≤ i
def FOk (whole : Bool) (bits : Int) (found : List (Int × List (List Int))) : Prop := (whole = false → found ≠ []) ∧ ∀ p ∈ found, (p.2.length : Int) ≤ bits
theorem bok_at {whole : Bool} {best : List (Option (Int × List (List Int)))} {j : Int} (h : BOk whole best) (hj : 0 ≤ j) : (((best.getD j.toNat none).getD (0, [])).2.length : Int) ≤ j := by
  have := h.2 j.toNat
  omega
theorem bok_nn {whole : Bool} {best : List (Option (Int × List (List Int)))} {j : Int} (h : BOk whole best) (hw : whole = false) (h0 : 0 ≤ j) (hj : j < (best.length : Int)) : (best.getD j.toNat none).isNone = false := by
  rw [List.getD_eq_getElem?_getD, List.getElem?_eq_getElem (by omega)]
  have := h.1 hw _ (List.getElem_mem (show j.toNat < best.length by omega))
  show (best[j.toNat]).isNone = false
  cases e : best[j.toNat] with
  | none => rw [e] at this; cases this
  | some _ => rfl
theorem fok_start {whole : Bool} {best : List (Option (Int × List (List Int)))} {bits least : Int} (h : BOk whole best) (h1 : 1 ≤ least) (h2 : least ≤ bits) : FOk whole bits (if whole = true then ([] : List (Int × List (List Int))) else [((best.getD (bits - least).toNat none).getD (0, []))]) ∧ (if whole = true then ([] : List (Int × List (List Int))) else [((best.getD (bits - least).toNat none).getD (0, []))]).length ≤ 1 := by
  cases whole with
  | true => rw [if_pos rfl]; exact ⟨⟨fun z => (by cases z), fun p hp => by cases hp⟩, Nat.zero_le _⟩
  | false =>
    rw [if_neg (by decide)]
    refine ⟨⟨fun _ z => (by cases z), fun p hp => ?_⟩, Nat.le_refl _⟩
    rw [List.mem_singleton.mp hp]
    have := bok_at (j := bits - least) h (by omega)
    omega
theorem fok_put {whole : Bool} {bits inner a : Int} {found : List (Int × List (List Int))} {l : List Int} {b : List (List Int)} (h : FOk whole bits found) (hb : (b.length : Int) ≤ bits - inner) (h1 : 1 ≤ inner) : FOk whole bits (found ++ [(a, [l] ++ b)]) := by
  refine ⟨fun _ z => ?_, fun p hp => ?_⟩
  · have := congrArg List.length z
    rw [List.length_append] at this
    exact absurd this (by simp)
  · rcases List.mem_append.mp hp with hp | hp
    · exact h.2 p hp
    · rw [List.mem_singleton.mp hp]
      show (([l] ++ b).length : Int) ≤ bits
      rw [List.length_append]
      show ((1 + b.length : Nat) : Int) ≤ bits
      omega
theorem ne_of {α : Type} [DecidableEq α] {xs : List α} (h : (!decide (xs = [])) = true) : xs ≠ [] := by simpa using h
theorem nn_and {α : Type} {a b : Bool} {x : Option α} (h : (a && (b && !x.isNone)) = true) : x.isNone = false := by
  cases x with
  | none => simp at h
  | some _ => rfl
theorem rng_init {best : List (Option (Int × List (List Int)))} {n : Int} (e : best = [some (0, [])]) : rng 1 n = rng (best.length : Int) n := by
  rw [e]
  rfl
theorem bok_init {whole : Bool} {best : List (Option (Int × List (List Int)))} (e : best = [some (0, [])]) : BOk whole best := by
  rw [e]
  refine ⟨fun _ x hx => by rw [List.mem_singleton.mp hx]; rfl, fun i => ?_⟩
  cases i with
  | zero => exact Nat.le_refl _
  | succ i => exact Nat.zero_le _
theorem rng_cons {a b x : Int} {rest : List Int} (h : x :: rest = rng a b) : x = a ∧ rest = rng (a + 1) b := by
  have hl := congrArg List.length h
  rw [rng_len, List.length_cons] at hl
  have e : rng a b = a :: rng (a + 1) b := by
    unfold rng
    rw [show (b - a).toNat = (b - (a + 1)).toNat + 1 by omega, List.range_succ_eq_map, List.map_cons, List.map_map]
    congr 1
    · simp
    · refine List.map_congr_left fun k _ => ?_
      show a + ((k + 1 : Nat) : Int) = a + 1 + (k : Int)
      omega
  rw [e] at h
  exact List.cons.inj h
theorem rng_hd {best : List (Option (Int × List (List Int)))} {b x : Int} {rest : List Int} (h : x :: rest = rng (best.length : Int) b) : x = (best.length : Int) := (rng_cons h).1
theorem rng_tl {best : List (Option (Int × List (List Int)))} {b x : Int} {rest : List Int} (h : x :: rest = rng (best.length : Int) b) : rest = rng ((best.length + 1 : Nat) : Int) b := (rng_cons h).2
theorem bok_put {whole : Bool} {bits : Int} {best : List (Option (Int × List (List Int)))} {found : List (Int × List (List Int))} (h : BOk whole best) (hf : FOk whole bits found) (hb : bits = (best.length : Int)) : BOk whole (best ++ [if (!decide (found = [])) = true then some (dmin (0, []) found) else none]) := by
  refine ⟨fun hw x hx => ?_, fun i => ?_⟩
  · rcases List.mem_append.mp hx with hx | hx
    · exact h.1 hw x hx
    · rw [List.mem_singleton.mp hx, decide_eq_false (hf.1 hw)]
      rfl
  · have e : (best ++ [if (!decide (found = [])) = true then some (dmin (0, []) found) else none]).getD i none = if i < best.length then best.getD i none else if i = best.length then (if (!decide (found = [])) = true then some (dmin (0, []) found) else none) else none := by
      rw [List.getD_eq_getElem?_getD, List.getD_eq_getElem?_getD]
      by_cases h : i < best.length
      · rw [if_pos h, List.getElem?_append_left h]
      · rw [if_neg h, List.getElem?_append_right (by omega)]
        by_cases e : i = best.length
        · rw [if_pos e, e, Nat.sub_self]
          rfl
        · rw [if_neg e, List.getElem?_eq_none (by rw [List.length_singleton]; omega)]
          rfl
    rw [e]
    split
    · exact h.2 i
    · split
      · next c =>
        by_cases q : found = []
        · rw [decide_eq_true q]
          exact Nat.zero_le _
        · rw [decide_eq_false q]
          have := hf.2 _ (dmin_mem (0, []) q)
          show (dmin (0, []) found).2.length ≤ i
          omega
      · exact Nat.zero_le _
theorem wrun_inv {S : Type} {c : S → Bool} {f : S → S} (P : S → Prop) (h : ∀ s, P s → P (f s)) : ∀ (n : Nat) (s : S), P s → P (wrun c f n s)
  | 0, _, hs => hs
  | n + 1, s, hs => by
    rw [wrun]
    split
    · exact wrun_inv P h n _ (h s hs)
    · exact hs
theorem post_best_apart (some_ : List Int) (modulus : Int) (whole : Bool) (h : 1 ≤ modulus ∧ some_.length ≤ 10) : whole = false → (m_best_apart some_ modulus whole).isNone = false := by
  intro hw
  have key : ∀ (xs : List Int) (b : List (Option (Int × List (List Int)))), (b ≠ [] ∧ ∀ x ∈ b, x ≠ none) → (lfold (m_best_apart_3s whole (m_hit_bits some_ modulus)) xs b ≠ [] ∧ ∀ x ∈ lfold (m_best_apart_3s whole (m_hit_bits some_ modulus)) xs b, x ≠ none) := fun xs b hb =>
    lfold_inv (fun b => b ≠ [] ∧ ∀ x ∈ b, x ≠ none) hb fun y _ b hb => by
      unfold m_best_apart_3s m_best_apart_5 m_best_apart_6 m_best_apart_9
      rw [hw, if_neg (by decide)]
      have hf := wrun_inv (c := m_best_apart_8c) (f := m_best_apart_7s (m_hit_bits some_ modulus) b y (Builtin.bitAnd y (-y))) (fun s => s.1 ≠ []) (fun s hs => by
        unfold m_best_apart_7s m_best_apart_10 m_best_apart_11 m_best_apart_12
        dsimp only
        split
        · intro z
          have := congrArg List.length z
          rw [List.length_append] at this
          exact absurd this (by simp)
        · exact hs) y.toNat ([((b.getD (y - Builtin.bitAnd y (-y)).toNat none).getD (0, []))], y) (fun z => by cases z)
      refine ⟨fun z => ?_, fun x hx => ?_⟩
      · have := congrArg List.length z
        rw [List.length_append] at this
        exact absurd this (by simp)
      · rcases List.mem_append.mp hx with hx | hx
        · exact hb.2 x hx
        · rw [List.mem_singleton.mp hx, decide_eq_false hf]
          intro z
          cases z
  have k := key (rng 1 ((m_hit_bits some_ modulus).length : Int)) [some (0, [])] ⟨fun z => (by cases z), fun x hx => by rw [List.mem_singleton.mp hx]; intro z; cases z⟩
  unfold m_best_apart m_best_apart_1 m_best_apart_2 m_best_apart_4
  generalize lfold (m_best_apart_3s whole (m_hit_bits some_ modulus)) (rng 1 ((m_hit_bits some_ modulus).length : Int)) [some (0, [])] = B at k ⊢
  have hlt : B.length - 1 < B.length := by have := List.length_pos_iff.mpr k.1; omega
  rw [List.getD_eq_getElem?_getD, List.getElem?_eq_getElem hlt]
  have := k.2 _ (List.getElem_mem hlt)
  show (B[B.length - 1]).isNone = false
  cases e : B[B.length - 1] with
  | none => exact absurd e this
  | some _ => rfl

/-! need_few -/
def m_need_few (some_ : (List Int)) : Unit :=
  (if (decide (((some_).length : Int) > (10 : Int))) = true then () else ())
/-! few_t -/
/-! mosta -/
def m_mosta_1 (modulus : Int) (some_ : (List Int)) : (List (List Int)) :=
  ((m_best_apart some_ modulus false).getD ((0 : Int), [])).2
def m_mosta (row : (List Int)) (modulus : Int) : (List (List Int)) :=
  m_mosta_1 modulus (m_rests row modulus)

theorem nn_app {α : Type} {x : Option α} (h : false = false → x.isNone = false) : x.isNone = false := h rfl

/-! mosta_r -/
/-! mosta_t -/
/-! parted_o -/
def m_parted_o_2 (found : (Option (Int × (List (List Int))))) : (Option (List (List Int))) :=
  (if (found).isNone = true then (none : (Option (List (List Int)))) else (some (found.getD ((0 : Int), [])).2))
def m_parted_o_1 (modulus : Int) (some_ : (List Int)) : (Option (List (List Int))) :=
  m_parted_o_2 (m_best_apart some_ modulus true)
def m_parted_o (row : (List Int)) (modulus : Int) : (Option (List (List Int))) :=
  m_parted_o_1 modulus (m_rests row modulus)
/-! parted_r -/
/-! parted_t -/
/-! lfor -/
def m_lfor (modulus : Int) (many : Int) : Int :=
  (many * modulus)
/-! lfor_r -/
/-! lfor_c -/
/-! lreel -/
def m_lreel (cell : Int) : (List Int) :=
  ([(if cell < 0 then -cell else cell), ((((cell % (2147483647 : Int)) + (1 : Int)) * (742938285 : Int)) % (2147483647 : Int))] : List Int)

theorem post_lreel (cell : Int) (_ : True) : (m_lreel cell).length = 2 := rfl

/-! ltake -/
def m_ltake_2 (reel : (List Int)) (found : Int) : (Int × (List Int)) :=
  (found, reel)
def m_ltake_1 (reel : (List Int)) (many : Int) (found : Int) : (Int × (List Int)) :=
  m_ltake_2 (reel.set ((0 : Int)).toNat (((reel).getD ((0 : Int)).toNat (0 : Int)) / many)) found
def m_ltake_4 (reel : (List Int)) (many : Int) (stir : Int) : (Int × (List Int)) :=
  (((((stir * (69621 : Int)) % (2147483587 : Int)) / (8 : Int)) % many), reel)
def m_ltake_3 (reel : (List Int)) (many : Int) : (Int × (List Int)) :=
  m_ltake_4 reel many ((((reel).getD ((1 : Int)).toNat (0 : Int)) * ((reel).getD ((1 : Int)).toNat (0 : Int))) % (2147483629 : Int))
def m_ltake (reel : (List Int)) (many : Int) : (Int × (List Int)) :=
  (if (decide (((reel).getD ((0 : Int)).toNat (0 : Int)) ≥ (1000000000000000000 : Int))) = true then m_ltake_1 reel many (((reel).getD ((0 : Int)).toNat (0 : Int)) % many) else m_ltake_3 (reel.set ((1 : Int)).toNat (((((reel).getD ((1 : Int)).toNat (0 : Int)) * (48271 : Int)) + (11 : Int)) % (2147483647 : Int))) many)

theorem post_ltake (reel : List Int) (many : Int) (h : reel.length = 2 ∧ 1 ≤ many ∧ many ≤ 1073741823) : (0 ≤ (m_ltake reel many).1 ∧ (m_ltake reel many).1 < many) ∧ (m_ltake reel many).2.length = 2 := by
  obtain ⟨h1, h2, h3⟩ := h
  have hm : ∀ x : Int, 0 ≤ x % many ∧ x % many < many := fun x => ⟨Int.emod_nonneg _ (by omega), Int.emod_lt_of_pos _ (by omega)⟩
  unfold m_ltake
  split
  · unfold m_ltake_1 m_ltake_2
    exact ⟨hm _, by rw [List.length_set]; exact h1⟩
  · unfold m_ltake_3 m_ltake_4
    exact ⟨hm _, by rw [List.length_set]; exact h1⟩
theorem take_bd {reel : List Int} {many m : Int} (h : reel.length = 2) (h1 : 1 ≤ many) (h2 : many ≤ 1073741823) (hm : many ≤ m) : 0 ≤ (m_ltake reel many).1 ∧ (m_ltake reel many).1 < m ∧ (m_ltake reel many).2.length = 2 := by
  have p := post_ltake reel many ⟨h, h1, h2⟩
  omega

/-! lfew -/
def m_lfew (reel : (List Int)) : (Int × (List Int)) :=
  (((([((1 : Int) + (m_ltake reel (4 : Int)).1), ((1 : Int) + (m_ltake ((m_ltake reel (4 : Int)).2) (8 : Int)).1), ((1 : Int) + (m_ltake ((m_ltake ((m_ltake reel (4 : Int)).2) (8 : Int)).2) (60 : Int)).1), (60 : Int)] : List Int)).getD ((m_ltake ((m_ltake ((m_ltake ((m_ltake reel (4 : Int)).2) (8 : Int)).2) (60 : Int)).2) (4 : Int)).1).toNat (0 : Int)), (m_ltake ((m_ltake ((m_ltake ((m_ltake reel (4 : Int)).2) (8 : Int)).2) (60 : Int)).2) (4 : Int)).2)

theorem post_lfew (reel : List Int) (h : reel.length = 2) : (1 ≤ (m_lfew reel).1 ∧ (m_lfew reel).1 ≤ 60) ∧ (m_lfew reel).2.length = 2 := by
  have p1 := take_bd (many := 4) (m := 4) h (by omega) (by omega) (by omega)
  have p2 := take_bd (many := 8) (m := 8) p1.2.2 (by omega) (by omega) (by omega)
  have p3 := take_bd (many := 60) (m := 60) p2.2.2 (by omega) (by omega) (by omega)
  have p4 := take_bd (many := 4) (m := 4) p3.2.2 (by omega) (by omega) (by omega)
  unfold m_lfew
  refine ⟨?_, p4.2.2⟩
  refine getD_bd' (lo := 1) (hi := 60) (by simp only [List.length_cons, List.length_nil]; omega) fun x hx => ?_
  simp only [List.mem_cons, List.mem_nil_iff, or_false] at hx
  rcases hx with rfl | rfl | rfl | rfl <;> omega

/-! lrow -/
def m_lrow_16 (reel : (List Int)) (kind : Int) (found : (List Int)) (number : Int) (some_ : (List Int)) (far : Int) : ((List Int) × (List Int)) :=
  (reel, (found ++ [(((some_ ++ [((far * ((([(1 : Int), (-1 : Int)] : List Int)).getD ((number % (2 : Int))).toNat (0 : Int))) + number)])).getD (kind).toNat (0 : Int))]))
def m_lrow_15 (reel : (List Int)) (kind : Int) (found : (List Int)) (number : Int) (some_ : (List Int)) (far : Int) : ((List Int) × (List Int)) :=
  m_lrow_16 ((m_ltake ((m_ltake reel (1000000000 : Int)).2) (4 : Int)).2) kind found number some_ far
def m_lrow_14 (reel : (List Int)) (kind : Int) (found : (List Int)) (number : Int) (some_ : (List Int)) : ((List Int) × (List Int)) :=
  (if (decide (kind = (6 : Int))) = true then m_lrow_15 reel kind found number some_ ((m_ltake reel (1000000000 : Int)).1 * ((([(1 : Int), (10000 : Int), (1000000000000 : Int), (1000000000000000000000 : Int)] : List Int)).getD ((m_ltake ((m_ltake reel (1000000000 : Int)).2) (4 : Int)).1).toNat (0 : Int))) else (reel, (found ++ [((some_).getD (kind).toNat (0 : Int))])))
def m_lrow_13 (reel : (List Int)) (modulus : Int) (kind : Int) (wide : Int) (same : Int) (found : (List Int)) (number : Int) (great : Int) : ((List Int) × (List Int)) :=
  m_lrow_14 reel kind found number ([number, (number - (wide / (2 : Int))), great, (same + (modulus * number)), ((([(1 : Int), same] : List Int)).getD ((number % (2 : Int))).toNat (0 : Int)), ((0 : Int) - number)] : List Int)
def m_lrow_12 (reel : (List Int)) (modulus : Int) (kind : Int) (wide : Int) (same : Int) (found : (List Int)) (number : Int) : ((List Int) × (List Int)) :=
  m_lrow_13 reel modulus kind wide same found number (((number - (wide / (2 : Int))) * (1999999999999999999999999999 : Int)) + number)
def m_lrow_11 (modulus : Int) (kind : Int) (wide : Int) (same : Int) (reel_0 : (List Int)) (found : (List Int)) (number : Int) : ((List Int) × (List Int)) :=
  m_lrow_12 ((m_ltake reel_0 wide).2) modulus kind wide same found number
def m_lrow_9s (modulus : Int) (kind : Int) (wide : Int) (same : Int) (k : Int) : ((List Int) × (List Int)) → ((List Int) × (List Int)) := fun (reel_0, found) => m_lrow_11 modulus kind wide same reel_0 found ((m_ltake reel_0 wide).1)
def m_lrow_10  : ((List Int) × (List Int)) → ((List Int) × (List Int)) := fun (reel_0, found) => (found, reel_0)
def m_lrow_8 (reel : (List Int)) (modulus : Int) (many : Int) (kind : Int) (wide : Int) (same : Int) : ((List Int) × (List Int)) :=
  (m_lrow_10 (lfold (m_lrow_9s modulus kind wide same) (rng 0 many) (reel, ([] : (List Int)))))
def m_lrow_7 (reel : (List Int)) (modulus : Int) (many : Int) (kind : Int) (wide : Int) (same : Int) : ((List Int) × (List Int)) :=
  m_lrow_8 ((m_ltake reel modulus).2) modulus many kind wide same
def m_lrow_6 (reel : (List Int)) (modulus : Int) (many : Int) (kind : Int) (wide : Int) : ((List Int) × (List Int)) :=
  m_lrow_7 reel modulus many kind wide ((m_ltake reel modulus).1)
def m_lrow_5 (reel : (List Int)) (modulus : Int) (many : Int) (kind : Int) (wide : Int) : ((List Int) × (List Int)) :=
  m_lrow_6 ((m_ltake reel (4 : Int)).2) modulus many kind wide
def m_lrow_4 (reel : (List Int)) (modulus : Int) (many : Int) (kind : Int) : ((List Int) × (List Int)) :=
  m_lrow_5 reel modulus many kind ((([(2 : Int), (4 : Int), (modulus + (1 : Int)), (1000 : Int)] : List Int)).getD ((m_ltake reel (4 : Int)).1).toNat (0 : Int))
def m_lrow_3 (reel : (List Int)) (modulus : Int) (many : Int) (kind : Int) : ((List Int) × (List Int)) :=
  m_lrow_4 ((m_ltake reel (7 : Int)).2) modulus many kind
def m_lrow_2 (reel : (List Int)) (modulus : Int) (many : Int) : ((List Int) × (List Int)) :=
  m_lrow_3 reel modulus many ((m_ltake reel (7 : Int)).1)
def m_lrow_1 (reel : (List Int)) (most : Int) (modulus : Int) (many : Int) : ((List Int) × (List Int)) :=
  m_lrow_2 ((m_ltake ((m_ltake ((m_ltake reel (most + (1 : Int))).2) ((if (4 : Int) < most then (4 : Int) else most) + (1 : Int))).2) (3 : Int)).2) modulus many
def m_lrow (reel : (List Int)) (most : Int) (modulus : Int) : ((List Int) × (List Int)) :=
  m_lrow_1 reel most modulus ((([(m_ltake reel (most + (1 : Int))).1, most, (m_ltake ((m_ltake reel (most + (1 : Int))).2) ((if (4 : Int) < most then (4 : Int) else most) + (1 : Int))).1] : List Int)).getD ((m_ltake ((m_ltake ((m_ltake reel (most + (1 : Int))).2) ((if (4 : Int) < most then (4 : Int) else most) + (1 : Int))).2) (3 : Int)).1).toNat (0 : Int))

theorem mu_pm (i : Int) (n : Nat) : CMul i (([(1 : Int), (-1 : Int)] : List Int).getD n 0) := by
  refine .inr ?_
  match n with
  | 0 => decide
  | 1 => decide
  | n + 2 => exact ⟨by show -(2 ^ 64) < (0 : Int); decide, by show (0 : Int) < 2 ^ 64; decide⟩
theorem lrow_step {modulus kind wide same k : Int} {reel found : List Int} (h : reel.length = 2) (h1 : 1 ≤ wide) (h2 : wide ≤ 1000) : (m_lrow_9s modulus kind wide same k (reel, found)).1.length = 2 ∧ (m_lrow_9s modulus kind wide same k (reel, found)).2.length = found.length + 1 := by
  have p1 := take_bd (many := wide) (m := wide) h h1 (by omega) (by omega)
  have p2 := take_bd (many := 1000000000) (m := 1000000000) p1.2.2 (by omega) (by omega) (by omega)
  have p3 := take_bd (many := 4) (m := 4) p2.2.2 (by omega) (by omega) (by omega)
  unfold m_lrow_9s m_lrow_11 m_lrow_12 m_lrow_13 m_lrow_14
  dsimp only
  by_cases hk : (decide (kind = (6 : Int))) = true
  · rw [if_pos hk]
    unfold m_lrow_15 m_lrow_16
    exact ⟨p3.2.2, by simp only [List.length_append, List.length_cons, List.length_nil]⟩
  · rw [if_neg hk]
    exact ⟨p1.2.2, by simp only [List.length_append, List.length_cons, List.length_nil]⟩
theorem lrow_fold {modulus kind wide same : Int} (h1 : 1 ≤ wide) (h2 : wide ≤ 1000) : ∀ (ks : List Int) (reel found : List Int), reel.length = 2 → (lfold (m_lrow_9s modulus kind wide same) ks (reel, found)).1.length = 2 ∧ (lfold (m_lrow_9s modulus kind wide same) ks (reel, found)).2.length = found.length + ks.length
  | [], reel, found, h => ⟨h, rfl⟩
  | k :: ks, reel, found, h => by
    have p := lrow_step (modulus := modulus) (kind := kind) (same := same) (k := k) (found := found) h h1 h2
    rw [lfold_cons]
    have q := lrow_fold (modulus := modulus) (kind := kind) (same := same) h1 h2 ks _ (m_lrow_9s modulus kind wide same k (reel, found)).2 p.1
    exact ⟨q.1, by rw [q.2, p.2, List.length_cons]; omega⟩
theorem post_lrow (reel : List Int) (most modulus : Int) (h : reel.length = 2 ∧ 0 ≤ most ∧ most ≤ 40 ∧ 1 ≤ modulus ∧ modulus ≤ 60) : ((m_lrow reel most modulus).1.length : Int) ≤ most ∧ (m_lrow reel most modulus).2.length = 2 := by
  obtain ⟨h1, h2, h3, h4, h5⟩ := h
  have hmin1 : (if (4 : Int) < most then (4 : Int) else most) ≤ most := by split <;> omega
  have hmin2 : 0 ≤ (if (4 : Int) < most then (4 : Int) else most) := by split <;> omega
  have p1 := take_bd (many := most + 1) (m := most + 1) h1 (by omega) (by omega) (by omega)
  have p2 := take_bd (many := (if (4 : Int) < most then (4 : Int) else most) + 1) (m := most + 1) p1.2.2 (by omega) (by omega) (by omega)
  have p3 := take_bd (many := 3) (m := 3) p2.2.2 (by omega) (by omega) (by omega)
  have p4 := take_bd (many := 7) (m := 7) p3.2.2 (by omega) (by omega) (by omega)
  have p5 := take_bd (many := 4) (m := 4) p4.2.2 (by omega) (by omega) (by omega)
  have p6 := take_bd (many := modulus) (m := modulus) p5.2.2 (by omega) (by omega) (by omega)
  unfold m_lrow m_lrow_1 m_lrow_2 m_lrow_3 m_lrow_4 m_lrow_5 m_lrow_6 m_lrow_7 m_lrow_8 m_lrow_10
  have hw : 1 ≤ (([(2 : Int), (4 : Int), (modulus + (1 : Int)), (1000 : Int)] : List Int)).getD ((m_ltake (m_ltake (m_ltake ((m_ltake ((m_ltake reel (most + (1 : Int))).2) ((if (4 : Int) < most then (4 : Int) else most) + (1 : Int))).2) (3 : Int)).2 7).2 (4 : Int)).1).toNat (0 : Int) ∧ (([(2 : Int), (4 : Int), (modulus + (1 : Int)), (1000 : Int)] : List Int)).getD ((m_ltake (m_ltake (m_ltake ((m_ltake ((m_ltake reel (most + (1 : Int))).2) ((if (4 : Int) < most then (4 : Int) else most) + (1 : Int))).2) (3 : Int)).2 7).2 (4 : Int)).1).toNat (0 : Int) ≤ 1000 := by
    refine getD_bd' (by simp only [List.length_cons, List.length_nil]; omega) fun x hx => ?_
    simp only [List.mem_cons, List.mem_nil_iff, or_false] at hx
    rcases hx with rfl | rfl | rfl | rfl <;> omega
  have hm : ((([(m_ltake reel (most + (1 : Int))).1, most, (m_ltake ((m_ltake reel (most + (1 : Int))).2) ((if (4 : Int) < most then (4 : Int) else most) + (1 : Int))).1] : List Int)).getD ((m_ltake ((m_ltake ((m_ltake reel (most + (1 : Int))).2) ((if (4 : Int) < most then (4 : Int) else most) + (1 : Int))).2) (3 : Int)).1).toNat (0 : Int)) ≤ most := by
    refine (getD_bd' (lo := 0) (by simp only [List.length_cons, List.length_nil]; omega) fun x hx => ?_).2
    simp only [List.mem_cons, List.mem_nil_iff, or_false] at hx
    rcases hx with rfl | rfl | rfl <;> omega
  have q := lrow_fold (modulus := modulus) (kind := (m_ltake (m_ltake ((m_ltake ((m_ltake reel (most + (1 : Int))).2) ((if (4 : Int) < most then (4 : Int) else most) + (1 : Int))).2) (3 : Int)).2 7).1) (same := (m_ltake (m_ltake (m_ltake (m_ltake ((m_ltake ((m_ltake reel (most + (1 : Int))).2) ((if (4 : Int) < most then (4 : Int) else most) + (1 : Int))).2) (3 : Int)).2 7).2 (4 : Int)).2 modulus).1) hw.1 hw.2
    (rng 0 ((([(m_ltake reel (most + (1 : Int))).1, most, (m_ltake ((m_ltake reel (most + (1 : Int))).2) ((if (4 : Int) < most then (4 : Int) else most) + (1 : Int))).1] : List Int)).getD ((m_ltake ((m_ltake ((m_ltake reel (most + (1 : Int))).2) ((if (4 : Int) < most then (4 : Int) else most) + (1 : Int))).2) (3 : Int)).1).toNat (0 : Int))) _ [] p6.2.2
  refine ⟨?_, q.1⟩
  have e := q.2
  rw [rng_len, List.length_nil] at e
  refine Int.le_trans (Int.ofNat_le.mpr (Nat.le_of_eq e)) ?_
  omega
theorem lrow_bd {reel : List Int} {most modulus : Int} (h1 : reel.length = 2) (h2 : 0 ≤ most) (h3 : most ≤ 40) (h4 : 1 ≤ modulus) (h5 : modulus ≤ 60) : ((m_lrow reel most modulus).1.length : Int) ≤ most ∧ (m_lrow reel most modulus).2.length = 2 := post_lrow reel most modulus ⟨h1, h2, h3, h4, h5⟩

theorem most2 (i : Nat) : 0 ≤ (([(40 : Int), (10 : Int)] : List Int).getD i 0) ∧ (([(40 : Int), (10 : Int)] : List Int).getD i 0) ≤ 40 := by
  match i with
  | 0 => decide
  | 1 => decide
  | n + 2 => exact ⟨Int.le_refl _, by show (0 : Int) ≤ 40; decide⟩

theorem far_ge {reel : List Int} (h : reel.length = 2) : 1 ≤ ((([(1 : Int), (2 : Int), ((1 : Int) + (m_ltake reel (1000000000 : Int)).1), (100000000000000000000000000000 : Int)] : List Int)).getD ((m_ltake ((m_ltake reel (1000000000 : Int)).2) (4 : Int)).1).toNat (0 : Int)) := by
  have p1 := take_bd (many := 1000000000) (m := 1000000000) h (by omega) (by omega) (by omega)
  have p2 := take_bd (many := 4) (m := 4) p1.2.2 (by omega) (by omega) (by omega)
  refine (getD_bd' (lo := 1) (hi := 10 ^ 29) (by simp only [List.length_cons, List.length_nil]; omega) fun x hx => ?_).1
  simp only [List.mem_cons, List.mem_nil_iff, or_false] at hx
  rcases hx with rfl | rfl | rfl | rfl <;> omega
theorem rows_len {long row : List Int} {k : Int} (h : long.length ≤ 40) (hr : row ∈ [long, cut long none (some k), cut long none (some (11 : Int)), (List.replicate ((11 : Int)).toNat ([(5 : Int)] : List Int)).flatten]) : row.length ≤ 40 := by
  simp only [List.mem_cons, List.mem_nil_iff, or_false] at hr
  rcases hr with rfl | rfl | rfl | rfl
  · exact h
  · exact Nat.le_trans (cut_le _ _ _) h
  · exact Nat.le_trans (cut_le _ _ _) h
  · decide

/-! word_n -/
def m_word_n (found : Unit) : Int :=
  (0 : Int)
/-! word_m -/
def m_word_m_1 (some_ : (List Bool)) : Int :=
  (if (!decide (((some_.map (fun (one : Bool) => (if one = true then 1 else 0 : Int)))).sum = (1 : Int))) = true then (4 : Int) else ((1 : Int) + ((some_).idxOf true : Int)))
def m_word_m : Int :=
  (if (false || (!true)) = true then (4 : Int) else m_word_m_1 ([true, false, false] : List Bool))
/-! word_c -/
def m_word_c_1 (some_ : (List Bool)) : Int :=
  (if (!decide (((some_.map (fun (one : Bool) => (if one = true then 1 else 0 : Int)))).sum = (1 : Int))) = true then (4 : Int) else ((1 : Int) + ((some_).idxOf true : Int)))
def m_word_c : Int :=
  (if (false || (!true)) = true then (4 : Int) else m_word_c_1 ([false, true, false] : List Bool))
/-! word_t -/
def m_word_t_1 (some_ : (List Bool)) : Int :=
  (if (!decide (((some_.map (fun (one : Bool) => (if one = true then 1 else 0 : Int)))).sum = (1 : Int))) = true then (4 : Int) else ((1 : Int) + ((some_).idxOf true : Int)))
def m_word_t : Int :=
  (if (false || (!true)) = true then (4 : Int) else m_word_t_1 ([false, false, true] : List Bool))
/-! asked -/
def m_asked (door : Int) (row : (List Int)) (modulus : Int) (many : Int) : Int :=
  (if (decide (door = (0 : Int))) = true then (if decide (modulus < 1) = true then m_word_m else (if decide (1 ≤ modulus ∧ 10 < row.length) = true then m_word_t else (m_word_n ()))) else (if (decide (door = (1 : Int))) = true then (if decide (modulus < 1) = true then m_word_m else (if decide (1 ≤ modulus ∧ 10 < row.length) = true then m_word_t else (m_word_n ()))) else (if decide (modulus < 1) = true then m_word_m else (if decide (1 ≤ modulus ∧ many < 0) = true then m_word_c else (m_word_n ())))))
/-! law -/
def m_law_18s (row : (List Int)) (many : Int) (door : Int) (bad : Int) : Unit → (LR Bool Unit) := fun _ => (if ((!decide ((m_asked door row bad many) = (1 : Int))) || (!decide (row = row))) = true then (.ret false) else (.nxt ()))
def m_law_19  : Unit → (LR Bool Unit) := fun _ => (.nxt ())
def m_law_20s (row : (List Int)) (many : Int) (door : Int) (bad : Int) : Unit → (LR Bool Unit) := fun _ => (if ((!decide ((m_asked door row bad many) = (1 : Int))) || (!decide (row = row))) = true then (.ret false) else (.nxt ()))
def m_law_21  : Unit → (LR Bool Unit) := fun _ => (.nxt ())
def m_law_17 (modulus : Int) (far : Int) (row : (List Int)) (many : Int) (door : Int) (due : Int) : (LR Bool Unit) :=
  (if ((decide (many = (1 : Int))) || (decide (door = (2 : Int)))) = true then (if (!decide ((m_asked door row modulus many) = due)) = true then (.ret false) else ((lrun (m_law_18s row many door) ([(0 : Int), (-1 : Int), ((0 : Int) - far)] : List Int) ()).andThen m_law_19)) else ((lrun (m_law_20s row many door) ([(0 : Int), (-1 : Int), ((0 : Int) - far)] : List Int) ()).andThen m_law_21))
def m_law_15s (modulus : Int) (far : Int) (row : (List Int)) (many : Int) (door : Int) : Unit → (LR Bool Unit) := fun _ => m_law_17 modulus far row many door ((([((3 : Int) * (if (decide (((row).length : Int) > (10 : Int))) = true then 1 else 0 : Int)), ((3 : Int) * (if (decide (((row).length : Int) > (10 : Int))) = true then 1 else 0 : Int)), ((2 : Int) * (if (decide (many < (0 : Int))) = true then 1 else 0 : Int))] : List Int)).getD (door).toNat (0 : Int))
def m_law_16  : Unit → (LR Bool Unit) := fun _ => (.nxt ())
def m_law_13s (modulus : Int) (far : Int) (row : (List Int)) (many : Int) : Unit → (LR Bool Unit) := fun _ => ((lrun (m_law_15s modulus far row many) (rng 0 (3 : Int)) ()).andThen m_law_16)
def m_law_14  : Unit → (LR Bool Unit) := fun _ => (.nxt ())
def m_law_11s (modulus : Int) (far : Int) (row : (List Int)) : Unit → (LR Bool Unit) := fun _ => ((lrun (m_law_13s modulus far row) ([(0 : Int), (1 : Int), far, (-1 : Int), ((0 : Int) - far)] : List Int) ()).andThen m_law_14)
def m_law_12  : Unit → (LR Bool Unit) := fun _ => (.nxt ())
def m_law_10 (z1 : (Int × Int)) (modulus : Int) (far : Int) (long : (List Int)) : (LR Bool Unit) :=
  ((lrun (m_law_11s modulus far) ([long, (cut long none (some ((([(10 : Int), (6 : Int)] : List Int)).getD ((if (decide (z1.1 > (0 : Int))) = true then 1 else 0 : Int)).toNat (0 : Int)))), (cut long none (some (11 : Int))), (List.replicate ((11 : Int)).toNat ([(5 : Int)] : List Int)).flatten] : List (List Int)) ()).andThen m_law_12)
def m_law_29s (row : (List Int)) (many : Int) (door : Int) (bad : Int) : Unit → (LR Bool Unit) := fun _ => (if ((!decide ((m_asked door row bad many) = (1 : Int))) || (!decide (row = row))) = true then (.ret false) else (.nxt ()))
def m_law_30  : Unit → (LR Bool Unit) := fun _ => (.nxt ())
def m_law_31s (row : (List Int)) (many : Int) (door : Int) (bad : Int) : Unit → (LR Bool Unit) := fun _ => (if ((!decide ((m_asked door row bad many) = (1 : Int))) || (!decide (row = row))) = true then (.ret false) else (.nxt ()))
def m_law_32  : Unit → (LR Bool Unit) := fun _ => (.nxt ())
def m_law_28 (modulus : Int) (far : Int) (row : (List Int)) (many : Int) (door : Int) (due : Int) : (LR Bool Unit) :=
  (if ((decide (many = (1 : Int))) || (decide (door = (2 : Int)))) = true then (if (!decide ((m_asked door row modulus many) = due)) = true then (.ret false) else ((lrun (m_law_29s row many door) ([(0 : Int), (-1 : Int), ((0 : Int) - far)] : List Int) ()).andThen m_law_30)) else ((lrun (m_law_31s row many door) ([(0 : Int), (-1 : Int), ((0 : Int) - far)] : List Int) ()).andThen m_law_32))
def m_law_26s (modulus : Int) (far : Int) (row : (List Int)) (many : Int) (door : Int) : Unit → (LR Bool Unit) := fun _ => m_law_28 modulus far row many door ((([((3 : Int) * (if (decide (((row).length : Int) > (10 : Int))) = true then 1 else 0 : Int)), ((3 : Int) * (if (decide (((row).length : Int) > (10 : Int))) = true then 1 else 0 : Int)), ((2 : Int) * (if (decide (many < (0 : Int))) = true then 1 else 0 : Int))] : List Int)).getD (door).toNat (0 : Int))
def m_law_27  : Unit → (LR Bool Unit) := fun _ => (.nxt ())
def m_law_24s (modulus : Int) (far : Int) (row : (List Int)) (many : Int) : Unit → (LR Bool Unit) := fun _ => ((lrun (m_law_26s modulus far row many) (rng 0 (3 : Int)) ()).andThen m_law_27)
def m_law_25  : Unit → (LR Bool Unit) := fun _ => (.nxt ())
def m_law_22s (modulus : Int) (far : Int) (row : (List Int)) : Unit → (LR Bool Unit) := fun _ => ((lrun (m_law_24s modulus far row) ([(0 : Int), (1 : Int), far, (-1 : Int), ((0 : Int) - far)] : List Int) ()).andThen m_law_25)
def m_law_23  : Unit → (LR Bool Unit) := fun _ => (.nxt ())
def m_law_9 (z1 : (Int × Int)) (modulus : Int) (far : Int) (long : (List Int)) : (LR Bool Unit) :=
  (if ((decide (z1.1 > (0 : Int))) && (decide (((long).length : Int) < (11 : Int)))) = true then m_law_10 z1 modulus far (cut long none (some (6 : Int))) else ((lrun (m_law_22s modulus far) ([long, (cut long none (some ((([(10 : Int), (6 : Int)] : List Int)).getD ((if (decide (z1.1 > (0 : Int))) = true then 1 else 0 : Int)).toNat (0 : Int)))), (cut long none (some (11 : Int))), (List.replicate ((11 : Int)).toNat ([(5 : Int)] : List Int)).flatten] : List (List Int)) ()).andThen m_law_23))
def m_law_8 (z1 : (Int × Int)) (modulus : Int) (far : Int) (long : (List Int)) : (LR Bool Unit) :=
  m_law_9 z1 modulus far long
def m_law_7 (z1 : (Int × Int)) (reel : (List Int)) (modulus : Int) (far : Int) : (LR Bool Unit) :=
  m_law_8 z1 modulus far ((m_lrow reel (40 : Int) modulus).1)
def m_law_6 (z1 : (Int × Int)) (reel : (List Int)) (modulus : Int) (far : Int) : (LR Bool Unit) :=
  m_law_7 z1 ((m_ltake ((m_ltake reel (1000000000 : Int)).2) (4 : Int)).2) modulus far
def m_law_5 (z1 : (Int × Int)) (reel : (List Int)) (modulus : Int) : (LR Bool Unit) :=
  m_law_6 z1 reel modulus ((([(1 : Int), (2 : Int), ((1 : Int) + (m_ltake reel (1000000000 : Int)).1), (100000000000000000000000000000 : Int)] : List Int)).getD ((m_ltake ((m_ltake reel (1000000000 : Int)).2) (4 : Int)).1).toNat (0 : Int))
def m_law_4 (z1 : (Int × Int)) (reel : (List Int)) (modulus : Int) : (LR Bool Unit) :=
  m_law_5 z1 ((m_lfew reel).2) modulus
def m_law_3 (z1 : (Int × Int)) (reel : (List Int)) : (LR Bool Unit) :=
  m_law_4 z1 reel ((m_lfew reel).1)
def m_law_1s  (z1 : (Int × Int)) : Unit → (LR Bool Unit) := fun _ => m_law_3 z1 (m_lreel z1.2)
def m_law_2  : Unit → Bool := fun _ => true
def m_law (script : Scr) : Bool :=
  ((lrun (m_law_1s) (enum ((cut script.ns none (some (6 : Int))) ++ ([((script.ns).length : Int)] : List Int))) ()).out m_law_2)
theorem wm : m_word_m = 1 := by decide
theorem wc : m_word_c = 2 := by decide
theorem wt : m_word_t = 3 := by decide
theorem asked_bad (door : Int) (row : List Int) (m many : Int) (h : m < 1) : m_asked door row m many = 1 := by
  unfold m_asked
  rw [wm]
  simp [h]
theorem asked_good (door : Int) (row : List Int) (m many : Int) (h : 1 ≤ m) (hd : 0 ≤ door ∧ door < 3) : m_asked door row m many = (([((3 : Int) * (if (decide (((row).length : Int) > (10 : Int))) = true then 1 else 0 : Int)), ((3 : Int) * (if (decide (((row).length : Int) > (10 : Int))) = true then 1 else 0 : Int)), ((2 : Int) * (if (decide (many < (0 : Int))) = true then 1 else 0 : Int))] : List Int)).getD (door).toNat (0 : Int) := by
  have hn : ¬ m < 1 := by omega
  have e : door = 0 ∨ door = 1 ∨ door = 2 := by omega
  unfold m_asked m_word_n
  rw [wm, wc, wt]
  rcases e with rfl | rfl | rfl
  · by_cases c : 10 < row.length
    · have c' : (10 : Int) < (row.length : Int) := by omega
      simp [hn, h, c, c']
    · have c' : ¬ (10 : Int) < (row.length : Int) := by omega
      simp [hn, h, c, c']
  · by_cases c : 10 < row.length
    · have c' : (10 : Int) < (row.length : Int) := by omega
      simp [hn, h, c, c']
    · have c' : ¬ (10 : Int) < (row.length : Int) := by omega
      simp [hn, h, c, c']
  · by_cases c : many < 0 <;> simp [hn, h, c]
theorem bads {far bad : Int} (hf : 1 ≤ far) (hb : bad ∈ ([(0 : Int), (-1 : Int), ((0 : Int) - far)] : List Int)) : bad < 1 := by
  simp only [List.mem_cons, List.mem_nil_iff, or_false] at hb
  rcases hb with rfl | rfl | rfl <;> omega
theorem at10 (z1 : Int × Int) (m far : Int) (long : List Int) (hm : 1 ≤ m) (hf : 1 ≤ far) : m_law_10 z1 m far long = .nxt () := by
  unfold m_law_10
  rw [lrun_unit fun row _ => ?_]
  · rfl
  unfold m_law_11s
  rw [lrun_unit fun many _ => ?_]
  · rfl
  unfold m_law_13s
  rw [lrun_unit fun door hd => ?_]
  · rfl
  have hd := mem_rng.mp hd
  unfold m_law_15s m_law_17
  have b1 : lrun (m_law_18s row many door) ([(0 : Int), (-1 : Int), ((0 : Int) - far)] : List Int) () = .nxt () := lrun_unit fun bad hb => by
    unfold m_law_18s
    rw [asked_bad door row bad many (bads hf hb)]
    simp
  have b2 : lrun (m_law_20s row many door) ([(0 : Int), (-1 : Int), ((0 : Int) - far)] : List Int) () = .nxt () := lrun_unit fun bad hb => by
    unfold m_law_20s
    rw [asked_bad door row bad many (bads hf hb)]
    simp
  rw [b1, b2, asked_good door row m many hm hd]
  split
  · rw [if_neg (by simp)]; rfl
  · rfl
theorem at22 (m far : Int) (rows : List (List Int)) (hm : 1 ≤ m) (hf : 1 ≤ far) : (lrun (m_law_22s m far) rows ()).andThen m_law_23 = .nxt () := by
  rw [lrun_unit fun row _ => ?_]
  · rfl
  unfold m_law_22s
  rw [lrun_unit fun many _ => ?_]
  · rfl
  unfold m_law_24s
  rw [lrun_unit fun door hd => ?_]
  · rfl
  have hd := mem_rng.mp hd
  unfold m_law_26s m_law_28
  have b1 : lrun (m_law_29s row many door) ([(0 : Int), (-1 : Int), ((0 : Int) - far)] : List Int) () = .nxt () := lrun_unit fun bad hb => by
    unfold m_law_29s
    rw [asked_bad door row bad many (bads hf hb)]
    simp
  have b2 : lrun (m_law_31s row many door) ([(0 : Int), (-1 : Int), ((0 : Int) - far)] : List Int) () = .nxt () := lrun_unit fun bad hb => by
    unfold m_law_31s
    rw [asked_bad door row bad many (bads hf hb)]
    simp
  rw [b1, b2, asked_good door row m many hm hd]
  split
  · rw [if_neg (by simp)]; rfl
  · rfl
theorem law_true (s : Scr) (h : s.ns.length ≤ 63) : m_law s = true := by
  unfold m_law
  rw [lrun_unit fun z _ => ?_]
  · rfl
  · show m_law_3 z (m_lreel z.2) = _
    unfold m_law_3 m_law_4 m_law_5 m_law_6 m_law_7 m_law_8 m_law_9
    have p := post_lfew (m_lreel z.2) rfl
    generalize m_lfew (m_lreel z.2) = q at p ⊢
    obtain ⟨m, reel⟩ := q
    have p : (1 ≤ m ∧ m ≤ 60) ∧ reel.length = 2 := p
    have hf := far_ge p.2
    split
    · exact at10 _ _ _ _ p.1.1 hf
    · exact at22 _ _ _ p.1.1 hf

local macro_rules | `(tactic| walk_at "sc") => `(tactic| first | omega | assumption | decide | (split <;> omega) | (simp only [mem_rng, List.length_cons, List.length_nil] at *; omega) | (simp at *; omega) | (have hz := enum_mem (by assumption); omega) | fail)
local macro_rules | `(tactic| walk_at "ix") => `(tactic| first | omega | (simp only [List.length_cons, List.length_nil, List.length_append, List.length_set]; omega) | (simp only [mem_rng, rng_len, List.length_map, List.length_set] at *; omega) | (have hz := enum_mem (by assumption); omega) | fail)
local macro_rules | `(tactic| walk_at "ixn") => `(tactic| first | exact ixN_neg' (by omega) (by omega) | exact ixN_neg' (by omega) (by simp only [List.length_cons, List.length_nil, List.length_append]; omega) | fail)
local macro_rules | `(tactic| walk_at "pre") => `(tactic| first | exact trivial | assumption | omega | decide | (simp only [mem_rng] at *; omega) | (refine ⟨?_, ?_⟩ <;> walk_at "sc") | (refine ⟨?_, ?_, ?_⟩ <;> walk_at "sc") | (refine ⟨?_, ?_, ?_, ?_⟩ <;> walk_at "sc") | (refine ⟨?_, ?_, ?_, ?_, ?_⟩ <;> walk_at "sc") | (have hz := enum_mem (by assumption); omega) | fail)
local macro_rules | `(tactic| walk_at "mu") => `(tactic| first | exact .inr ⟨by omega, by omega⟩ | exact .inl ⟨by omega, by omega⟩ | exact .inr ⟨by walk_at "sc", by walk_at "sc"⟩ | exact .inl ⟨by walk_at "sc", by walk_at "sc"⟩ | fail)
local macro_rules | `(tactic| walk_at "pw") => `(tactic| exact ⟨by first | decide | omega, by first | decide | omega, by first | decide | omega⟩)
local macro_rules | `(tactic| walk_at "sz") => `(tactic| first | (rw [sizeLine_eq]; omega) | (simp only [List.length_append, List.length_cons, List.length_nil, rng_len, List.length_map, psort_len, isort_len, rep_len, rep_len2] at *; rw [sizeLine_eq]; omega) | fail)
local macro_rules | `(tactic| walk_at "inv0") => `(tactic| first | omega | (simp; done) | (simp only [List.length_cons, List.length_nil, List.length_append, Nat.zero_add, rng_len, enum_len]; omega) | fail)
local macro_rules | `(tactic| walk_at "inv") => `(tactic| first | omega | (simp only [List.length_cons, List.length_nil, List.length_append] at this ⊢; omega) | fail)
local macro_rules | `(tactic| walk_at "invx") => `(tactic| fail)
local macro_rules | `(tactic| walk_at "hok") => `(tactic| first | exact Box.hok (by assumption) | exact trivial | fail)
local macro_rules | `(tactic| walk_at "szd") => `(tactic| fail)
local macro_rules | `(tactic| walk_at "ne") => `(tactic| first | omega | (refine List.length_pos_iff.mpr ?_; assumption) | fail)
local macro_rules | `(tactic| walk_at "d64") => `(tactic| fail)
local macro_rules | `(tactic| walk_at "J") => `(tactic| fail)
local macro_rules | `(tactic| walk_at "ib") => `(tactic| first | decide | (subst_vars; decide) | (subst_vars; decide +kernel) | fail)
local macro_rules | `(tactic| walk_at "rg") => `(tactic| first | exact ⟨by omega, by omega, by omega, by omega, by omega⟩ | exact ⟨by walk_at "sc", by walk_at "sc", by walk_at "sc", by walk_at "sc", by walk_at "sc"⟩ | fail)
local macro_rules | `(tactic| walk_at "nn") => `(tactic| first | assumption | (simp_all; done) | fail)
local macro_rules | `(tactic| walk_at "dk") => `(tactic| first | assumption | (simp_all; done) | fail)
local macro_rules | `(tactic| walk_at "no") => `(tactic| first | omega | contradiction | (simp_all; done) | fail)
local macro_rules | `(tactic| walk_at "ix") => `(tactic| first | omega | (split <;> decide) | fail)
def topS (i : Nat) : Stmt := PySem.Challenge.pw_restsums_k54_apart_refused.main.body.getD i (.Pass ⟨0, 0, 0, 0⟩)
abbrev s_need_modulus : Stmt := topS 10
abbrev s_rests : Stmt := topS 11
abbrev s_need_count : Stmt := topS 13
abbrev s_places_of : Stmt := topS 16
abbrev s_hit_bits : Stmt := topS 17
abbrev s_best_apart : Stmt := topS 18
abbrev s_need_few : Stmt := topS 19
abbrev s_most_apart : Stmt := topS 20
abbrev s_parted : Stmt := topS 21
abbrev s_least_for : Stmt := topS 22
abbrev s__law_reel : Stmt := topS 24
abbrev s__law_take : Stmt := topS 25
abbrev s__law_few : Stmt := topS 26
abbrev s__law_row : Stmt := topS 27
abbrev s__law_word : Stmt := topS 28
abbrev s__law_asked : Stmt := topS 29
abbrev s_law : Stmt := topS 30
theorem nm_bad : Nm "bad" := ⟨by decide +kernel, by decide +kernel, by decide +kernel⟩
theorem nm_behind : Nm "behind" := ⟨by decide +kernel, by decide +kernel, by decide +kernel⟩
theorem nm_best : Nm "best" := ⟨by decide +kernel, by decide +kernel, by decide +kernel⟩
theorem nm_bits : Nm "bits" := ⟨by decide +kernel, by decide +kernel, by decide +kernel⟩
theorem nm_cell : Nm "cell" := ⟨by decide +kernel, by decide +kernel, by decide +kernel⟩
theorem nm_door : Nm "door" := ⟨by decide +kernel, by decide +kernel, by decide +kernel⟩
theorem nm_due : Nm "due" := ⟨by decide +kernel, by decide +kernel, by decide +kernel⟩
theorem nm_e_ : Nm "e" := ⟨by decide +kernel, by decide +kernel, by decide +kernel⟩
theorem nm_far : Nm "far" := ⟨by decide +kernel, by decide +kernel, by decide +kernel⟩
theorem nm_found : Nm "found" := ⟨by decide +kernel, by decide +kernel, by decide +kernel⟩
theorem nm_great : Nm "great" := ⟨by decide +kernel, by decide +kernel, by decide +kernel⟩
theorem nm_handed : Nm "handed" := ⟨by decide +kernel, by decide +kernel, by decide +kernel⟩
theorem nm_hits : Nm "hits" := ⟨by decide +kernel, by decide +kernel, by decide +kernel⟩
theorem nm_inner : Nm "inner" := ⟨by decide +kernel, by decide +kernel, by decide +kernel⟩
theorem nm_k : Nm "k" := ⟨by decide +kernel, by decide +kernel, by decide +kernel⟩
theorem nm_kind : Nm "kind" := ⟨by decide +kernel, by decide +kernel, by decide +kernel⟩
theorem nm_least : Nm "least" := ⟨by decide +kernel, by decide +kernel, by decide +kernel⟩
theorem nm_long : Nm "long" := ⟨by decide +kernel, by decide +kernel, by decide +kernel⟩
theorem nm_many : Nm "many" := ⟨by decide +kernel, by decide +kernel, by decide +kernel⟩
theorem nm_modulus : Nm "modulus" := ⟨by decide +kernel, by decide +kernel, by decide +kernel⟩
theorem nm_most : Nm "most" := ⟨by decide +kernel, by decide +kernel, by decide +kernel⟩
theorem nm_number : Nm "number" := ⟨by decide +kernel, by decide +kernel, by decide +kernel⟩
theorem nm_one : Nm "one" := ⟨by decide +kernel, by decide +kernel, by decide +kernel⟩
theorem nm_place : Nm "place" := ⟨by decide +kernel, by decide +kernel, by decide +kernel⟩
theorem nm_reel : Nm "reel" := ⟨by decide +kernel, by decide +kernel, by decide +kernel⟩
theorem nm_row : Nm "row" := ⟨by decide +kernel, by decide +kernel, by decide +kernel⟩
theorem nm_same : Nm "same" := ⟨by decide +kernel, by decide +kernel, by decide +kernel⟩
theorem nm_script : Nm "script" := ⟨by decide +kernel, by decide +kernel, by decide +kernel⟩
theorem nm_some_ : Nm "some" := ⟨by decide +kernel, by decide +kernel, by decide +kernel⟩
theorem nm_stir : Nm "stir" := ⟨by decide +kernel, by decide +kernel, by decide +kernel⟩
theorem nm_whole : Nm "whole" := ⟨by decide +kernel, by decide +kernel, by decide +kernel⟩
theorem nm_wide : Nm "wide" := ⟨by decide +kernel, by decide +kernel, by decide +kernel⟩
structure Txt (K : PySem.W.Frag) (mg : Str → Option Value) (c_RestError c_NoModulus c_NoCount c_NoPaper c_TooMany c_NoText c_NoForm c_NoneYet : Addr) : Prop where
  x_RestError : XC K mg "RestError" c_RestError
  x_NoModulus : XC K mg "NoModulus" c_NoModulus
  x_NoCount : XC K mg "NoCount" c_NoCount
  x_NoPaper : XC K mg "NoPaper" c_NoPaper
  x_TooMany : XC K mg "TooMany" c_TooMany
  x_NoText : XC K mg "NoText" c_NoText
  x_NoForm : XC K mg "NoForm" c_NoForm
  x_NoneYet : XC K mg "NoneYet" c_NoneYet
  m_NoModulus_RestError : PySem.W.exmOne K (.ref c_NoModulus) (.ref c_RestError) = some true
  m_TooMany_RestError : PySem.W.exmOne K (.ref c_TooMany) (.ref c_RestError) = some true
  m_NoCount_RestError : PySem.W.exmOne K (.ref c_NoCount) (.ref c_RestError) = some true
  i_NoCount_NoCount : PySem.W.kitOne K (.ref c_NoCount) (.ref c_NoCount) = some true
  i_NoCount_NoForm : PySem.W.kitOne K (.ref c_NoCount) (.ref c_NoForm) = some false
  i_NoCount_NoModulus : PySem.W.kitOne K (.ref c_NoCount) (.ref c_NoModulus) = some false
  i_NoCount_NoPaper : PySem.W.kitOne K (.ref c_NoCount) (.ref c_NoPaper) = some false
  i_NoCount_NoText : PySem.W.kitOne K (.ref c_NoCount) (.ref c_NoText) = some false
  i_NoCount_NoneYet : PySem.W.kitOne K (.ref c_NoCount) (.ref c_NoneYet) = some false
  i_NoCount_TooMany : PySem.W.kitOne K (.ref c_NoCount) (.ref c_TooMany) = some false
  i_NoCount_ValueError : PySem.W.kitOne K (.ref c_NoCount) (.type "ValueError") = some true
  i_NoModulus_NoCount : PySem.W.kitOne K (.ref c_NoModulus) (.ref c_NoCount) = some false
  i_NoModulus_NoForm : PySem.W.kitOne K (.ref c_NoModulus) (.ref c_NoForm) = some false
  i_NoModulus_NoModulus : PySem.W.kitOne K (.ref c_NoModulus) (.ref c_NoModulus) = some true
  i_NoModulus_NoPaper : PySem.W.kitOne K (.ref c_NoModulus) (.ref c_NoPaper) = some false
  i_NoModulus_NoText : PySem.W.kitOne K (.ref c_NoModulus) (.ref c_NoText) = some false
  i_NoModulus_NoneYet : PySem.W.kitOne K (.ref c_NoModulus) (.ref c_NoneYet) = some false
  i_NoModulus_TooMany : PySem.W.kitOne K (.ref c_NoModulus) (.ref c_TooMany) = some false
  i_NoModulus_ValueError : PySem.W.kitOne K (.ref c_NoModulus) (.type "ValueError") = some true
  i_TooMany_NoCount : PySem.W.kitOne K (.ref c_TooMany) (.ref c_NoCount) = some false
  i_TooMany_NoForm : PySem.W.kitOne K (.ref c_TooMany) (.ref c_NoForm) = some false
  i_TooMany_NoModulus : PySem.W.kitOne K (.ref c_TooMany) (.ref c_NoModulus) = some false
  i_TooMany_NoPaper : PySem.W.kitOne K (.ref c_TooMany) (.ref c_NoPaper) = some false
  i_TooMany_NoText : PySem.W.kitOne K (.ref c_TooMany) (.ref c_NoText) = some false
  i_TooMany_NoneYet : PySem.W.kitOne K (.ref c_TooMany) (.ref c_NoneYet) = some false
  i_TooMany_TooMany : PySem.W.kitOne K (.ref c_TooMany) (.ref c_TooMany) = some true
  i_TooMany_ValueError : PySem.W.kitOne K (.ref c_TooMany) (.type "ValueError") = some true
  v_MOST_NUMBERS : ∃ t, mg "MOST_NUMBERS" = some (.int 10 t)
  b_ValueError : mg "ValueError" = none
  b_abs : mg "abs" = none
  b_enumerate : mg "enumerate" = none
  b_int : mg "int" = none
  b_isinstance : mg "isinstance" = none
  b_len : mg "len" = none
  b_list : mg "list" = none
  b_min : mg "min" = none
  b_range : mg "range" = none
  b_sum : mg "sum" = none
abbrev N_need_modulus : List Str := ["modulus"]
theorem sc_need_modulus : FnScope N_need_modulus ["modulus"] (defScope s_need_modulus) := ⟨rfl, rfl, rfl, by decide +kernel, rfl, by decide +kernel, by decide +kernel⟩
theorem sl_need_modulus_modulus {P : Program} {w : World} {K : PySem.W.Frag} {mg : Str → Option Value} {base : Heap} {f : Addr} {cdv : Value} {A : Around} {outer : List Env} {s : Shared} {H : Hp} {E : XK} : Sl (cxOf (L2.CX P w) P w K mg base N_need_modulus "need_modulus" (defScope s_need_modulus) f cdv A outer s H E) 0 "modulus" := ⟨rfl, (by first | exact .inl rfl | exact .inr (.inl rfl)), nm_modulus⟩
theorem cal_need_modulus {P : Program} {w : World} {K : PySem.W.Frag} {mg : Str → Option Value} {base : Heap} {f : Addr} {fd : FuncData} {c_RestError c_NoModulus c_NoCount c_NoPaper c_TooMany c_NoText c_NoForm c_NoneYet : Addr} (T : Txt K mg c_RestError c_NoModulus c_NoCount c_NoPaper c_TooMany c_NoText c_NoForm c_NoneYet) (F : Fun K "need_modulus" "need_modulus" s_need_modulus f fd) (hm : mg "need_modulus" = some (.ref f)) (hb : Binds K fd ["modulus"] [])  : Cal P w K mg base 1 "need_modulus" (Sp1 K false (fun (modulus : Int) => 1 ≤ modulus) m_need_modulus) := by
  refine fn1 F hm hb sc_need_modulus rfl fun cdv A outer s H0 E hr G0 v_modulus modulus D s0 r_modulus hp fin => ?_
  have x0_0 : Ext G0 H0 G0 H0 := Ext.refl s0
  show tSs _ _ D [some v_modulus] H0
  have tk : m_need_modulus modulus = _ := rfl
  refine b_cons (s_if x0_0.s (et_cmp c_lt (ev_v (sl_need_modulus_modulus) r_modulus) ev_int) (fun h1 G1 H1 x2 l1 => ?_) (fun h1 G1 H1 x2 l1 => ?_))
  · have tk := tk_tt tk h1
    have h1_ := h1; try simp only [Bool.and_eq_true, Bool.or_eq_true, Bool.and_eq_false_iff, Bool.or_eq_false_iff, Bool.not_eq_true', Bool.not_eq_false', decide_eq_true_eq, decide_eq_false_iff_not, Classical.not_not] at h1_
    have x0_1 := x0_0.trans x2
    show tSs _ _ _ [some v_modulus] _
    exfalso
    walk_at "no"
  · have tk := tk_ff tk h1
    have h1_ := h1; try simp only [Bool.and_eq_true, Bool.or_eq_true, Bool.and_eq_false_iff, Bool.or_eq_false_iff, Bool.not_eq_true', Bool.not_eq_false', decide_eq_true_eq, decide_eq_false_iff_not, Classical.not_not] at h1_
    have x0_1 := x0_0.trans x2
    show tSs _ _ _ [some v_modulus] _
    refine b_nil ?_
    show tSs _ _ _ [some v_modulus] _
    refine b_nil ?_
    exact fin.nx _ _ _ x0_1 (rep_of tk rfl)

abbrev N_need_r : List Str := ["modulus"]
theorem sc_need_r : FnScope N_need_r ["modulus"] (defScope s_need_modulus) := ⟨rfl, rfl, rfl, by decide +kernel, rfl, by decide +kernel, by decide +kernel⟩
theorem sl_need_r_modulus {P : Program} {w : World} {K : PySem.W.Frag} {mg : Str → Option Value} {base : Heap} {f : Addr} {cdv : Value} {A : Around} {outer : List Env} {s : Shared} {H : Hp} {E : XK} : Sl (cxOf (L2.CX P w) P w K mg base N_need_r "need_modulus" (defScope s_need_modulus) f cdv A outer s H E) 0 "modulus" := ⟨rfl, (by first | exact .inl rfl | exact .inr (.inl rfl)), nm_modulus⟩
theorem gl_need_r_NoModulus {P : Program} {w : World} {K : PySem.W.Frag} {mg : Str → Option Value} {base : Heap} {f : Addr} {cdv : Value} {A : Around} {outer : List Env} {s : Shared} {H : Hp} {E : XK} : Gl (cxOf (L2.CX P w) P w K mg base N_need_r "need_modulus" (defScope s_need_modulus) f cdv A outer s H E) "NoModulus" := by rfl
theorem cal_need_r {P : Program} {w : World} {K : PySem.W.Frag} {mg : Str → Option Value} {base : Heap} {f : Addr} {fd : FuncData} {c_RestError c_NoModulus c_NoCount c_NoPaper c_TooMany c_NoText c_NoForm c_NoneYet : Addr} (T : Txt K mg c_RestError c_NoModulus c_NoCount c_NoPaper c_TooMany c_NoText c_NoForm c_NoneYet) (F : Fun K "need_modulus" "need_modulus" s_need_modulus f fd) (hm : mg "need_modulus" = some (.ref f)) (hb : Binds K fd ["modulus"] [])  : Cal P w K mg base 1 "need_modulus" (SpR1 K (fun (modulus : Int) => modulus < 1) c_NoModulus) := by
  refine fnR1 F hm hb sc_need_r rfl fun cdv A outer s H0 E hr G0 v_modulus modulus D s0 r_modulus hp fin => ?_
  have x0_0 : Ext G0 H0 G0 H0 := Ext.refl s0
  show tSs _ _ D [some v_modulus] H0
  have tkk := takes_of (X := cxOf (L2.CX P w) P w K mg base N_need_r "need_modulus" (defScope s_need_modulus) f cdv A outer s H0 E) (E := E) rfl rfl rfl rfl
  refine b_cons (s_if x0_0.s (et_cmp c_lt (ev_v (sl_need_r_modulus) r_modulus) ev_int) (fun h1 G1 H1 x2 l1 => ?_) (fun h1 G1 H1 x2 l1 => ?_))
  · skip
    have h1_ := h1; try simp only [Bool.and_eq_true, Bool.or_eq_true, Bool.and_eq_false_iff, Bool.or_eq_false_iff, Bool.not_eq_true', Bool.not_eq_false', decide_eq_true_eq, decide_eq_false_iff_not, Classical.not_not] at h1_
    have x0_1 := x0_0.trans x2
    show tSs _ _ _ [some v_modulus] _
    refine b_cons (s_raise rfl tkk T.x_NoModulus gl_need_r_NoModulus ?_)
    exact fin _ _ x0_1
  · skip
    have h1_ := h1; try simp only [Bool.and_eq_true, Bool.or_eq_true, Bool.and_eq_false_iff, Bool.or_eq_false_iff, Bool.not_eq_true', Bool.not_eq_false', decide_eq_true_eq, decide_eq_false_iff_not, Classical.not_not] at h1_
    have x0_1 := x0_0.trans x2
    show tSs _ _ _ [some v_modulus] _
    exfalso; walk_at "no"

abbrev N_rests : List Str := ["row", "modulus", "number"]
theorem sc_rests : FnScope N_rests ["row", "modulus"] (defScope s_rests) := ⟨rfl, rfl, rfl, by decide +kernel, rfl, by decide +kernel, by decide +kernel⟩
theorem sl_rests_modulus {P : Program} {w : World} {K : PySem.W.Frag} {mg : Str → Option Value} {base : Heap} {f : Addr} {cdv : Value} {A : Around} {outer : List Env} {s : Shared} {H : Hp} {E : XK} : Sl (cxOf (L2.CX P w) P w K mg base N_rests "rests" (defScope s_rests) f cdv A outer s H E) 1 "modulus" := ⟨rfl, (by first | exact .inl rfl | exact .inr (.inl rfl)), nm_modulus⟩
theorem sl_rests_row {P : Program} {w : World} {K : PySem.W.Frag} {mg : Str → Option Value} {base : Heap} {f : Addr} {cdv : Value} {A : Around} {outer : List Env} {s : Shared} {H : Hp} {E : XK} : Sl (cxOf (L2.CX P w) P w K mg base N_rests "rests" (defScope s_rests) f cdv A outer s H E) 0 "row" := ⟨rfl, (by first | exact .inl rfl | exact .inr (.inl rfl)), nm_row⟩
theorem gl_rests_need_modulus {P : Program} {w : World} {K : PySem.W.Frag} {mg : Str → Option Value} {base : Heap} {f : Addr} {cdv : Value} {A : Around} {outer : List Env} {s : Shared} {H : Hp} {E : XK} : Gl (cxOf (L2.CX P w) P w K mg base N_rests "rests" (defScope s_rests) f cdv A outer s H E) "need_modulus" := by rfl
theorem cal_rests {P : Program} {w : World} {K : PySem.W.Frag} {mg : Str → Option Value} {base : Heap} {f : Addr} {fd : FuncData} {c_RestError c_NoModulus c_NoCount c_NoPaper c_TooMany c_NoText c_NoForm c_NoneYet : Addr} (T : Txt K mg c_RestError c_NoModulus c_NoCount c_NoPaper c_TooMany c_NoText c_NoForm c_NoneYet) (F : Fun K "rests" "rests" s_rests f fd) (hm : mg "rests" = some (.ref f)) (hb : Binds K fd ["row", "modulus"] []) (C_need_modulus : Cal P w K mg base 1 "need_modulus" (Sp1 K false (fun (modulus : Int) => 1 ≤ modulus) m_need_modulus)) : Cal P w K mg base 2 "rests" (Sp2 K true (fun (row : (List Int)) (modulus : Int) => 1 ≤ modulus) m_rests) := by
  refine fn2 F hm hb sc_rests rfl fun cdv A outer s H0 E hr G0 v_row v_modulus row modulus D s0 r_row r_modulus hp fin => ?_
  have x0_0 : Ext G0 H0 G0 H0 := Ext.refl s0
  show tSs _ _ D [some v_row, some v_modulus, none] H0
  have tk : m_rests row modulus = _ := rfl
  refine b_cons (s_expr x0_0.s (ev_c1 C_need_modulus (hr.mono (by decide)) gl_rests_need_modulus (ev_v (sl_rests_modulus) r_modulus) (by walk_at "pre")) fun G1 H1 v2 x1 l1 _ => ?_)
  have x0_1 := x0_0.trans x1
  show tSs _ _ _ [some v_row, some v_modulus, none] _
  refine b_cons (s_retN_ x0_1.s (evN_lc (lc1A (fun (number : Int) => (number % modulus)) rfl sc_rests.nd (ei_list (ev_v (sl_rests_row) (up x1.g r_row))) [("number", 2)] (blkOk_by (N := N_rests) (sc := defScope s_rests) (by decide +kernel)) (fun _ _ _ _ _ => pg_name (i := 2) sc_rests.nd rfl (.inl rfl)) (fun number v14 G4 H5 hx6 x3 r15 s8 s9 s10 s11 s12 => (ev_bin (b_mod (by walk_at "sc")) (ev_v ((⟨rfl, .inl rfl, nm_number⟩ : Sl _ 2 _)) r15) (ev_v ((⟨rfl, (by first | exact .inr (.inl rfl) | exact .inr (.inr rfl) | exact .inl rfl), nm_modulus⟩ : Sl _ 1 _)) (up (x1.g.trans x3.g) r_modulus)))))) fun G_ H_ v17 x16 _ r_ n_ => ?_)
  exact fin.rt _ _ _ (x0_1.trans x16) (rep_of tk r_) (fun _ p z => x0_1.h.free (n_ p z))

abbrev N_rests_r : List Str := ["row", "modulus", "number"]
theorem sc_rests_r : FnScope N_rests_r ["row", "modulus"] (defScope s_rests) := ⟨rfl, rfl, rfl, by decide +kernel, rfl, by decide +kernel, by decide +kernel⟩
theorem sl_rests_r_modulus {P : Program} {w : World} {K : PySem.W.Frag} {mg : Str → Option Value} {base : Heap} {f : Addr} {cdv : Value} {A : Around} {outer : List Env} {s : Shared} {H : Hp} {E : XK} : Sl (cxOf (L2.CX P w) P w K mg base N_rests_r "rests" (defScope s_rests) f cdv A outer s H E) 1 "modulus" := ⟨rfl, (by first | exact .inl rfl | exact .inr (.inl rfl)), nm_modulus⟩
theorem gl_rests_r_need_modulus {P : Program} {w : World} {K : PySem.W.Frag} {mg : Str → Option Value} {base : Heap} {f : Addr} {cdv : Value} {A : Around} {outer : List Env} {s : Shared} {H : Hp} {E : XK} : Gl (cxOf (L2.CX P w) P w K mg base N_rests_r "rests" (defScope s_rests) f cdv A outer s H E) "need_modulus" := by rfl
theorem cal_rests_r {P : Program} {w : World} {K : PySem.W.Frag} {mg : Str → Option Value} {base : Heap} {f : Addr} {fd : FuncData} {c_RestError c_NoModulus c_NoCount c_NoPaper c_TooMany c_NoText c_NoForm c_NoneYet : Addr} (T : Txt K mg c_RestError c_NoModulus c_NoCount c_NoPaper c_TooMany c_NoText c_NoForm c_NoneYet) (F : Fun K "rests" "rests" s_rests f fd) (hm : mg "rests" = some (.ref f)) (hb : Binds K fd ["row", "modulus"] []) (C_need_r : Cal P w K mg base 1 "need_modulus" (SpR1 K (fun (modulus : Int) => modulus < 1) c_NoModulus)) : Cal P w K mg base 2 "rests" (SpR2 K (fun (row : (List Int)) (modulus : Int) => modulus < 1) c_NoModulus) := by
  refine fnR2 F hm hb sc_rests_r rfl fun cdv A outer s H0 E hr G0 v_row v_modulus row modulus D s0 r_row r_modulus hp fin => ?_
  have x0_0 : Ext G0 H0 G0 H0 := Ext.refl s0
  show tSs _ _ D [some v_row, some v_modulus, none] H0
  have tkk := takes_of (X := cxOf (L2.CX P w) P w K mg base N_rests_r "rests" (defScope s_rests) f cdv A outer s H0 E) (E := E) rfl rfl rfl rfl
  exact b_cons (s_exprR (evR_c1 C_need_r (hr.mono (by decide)) gl_rests_r_need_modulus tkk x0_0.s (ev_v (sl_rests_r_modulus) r_modulus) (by walk_at "pre") fun _ _ x_ => fin _ _ (x0_0.trans x_)))

abbrev N_need_count : List Str := ["many", "least"]
theorem sc_need_count : FnScope N_need_count ["many", "least"] (defScope s_need_count) := ⟨rfl, rfl, rfl, by decide +kernel, rfl, by decide +kernel, by decide +kernel⟩
theorem sl_need_count_least {P : Program} {w : World} {K : PySem.W.Frag} {mg : Str → Option Value} {base : Heap} {f : Addr} {cdv : Value} {A : Around} {outer : List Env} {s : Shared} {H : Hp} {E : XK} : Sl (cxOf (L2.CX P w) P w K mg base N_need_count "need_count" (defScope s_need_count) f cdv A outer s H E) 1 "least" := ⟨rfl, (by first | exact .inl rfl | exact .inr (.inl rfl)), nm_least⟩
theorem sl_need_count_many {P : Program} {w : World} {K : PySem.W.Frag} {mg : Str → Option Value} {base : Heap} {f : Addr} {cdv : Value} {A : Around} {outer : List Env} {s : Shared} {H : Hp} {E : XK} : Sl (cxOf (L2.CX P w) P w K mg base N_need_count "need_count" (defScope s_need_count) f cdv A outer s H E) 0 "many" := ⟨rfl, (by first | exact .inl rfl | exact .inr (.inl rfl)), nm_many⟩
theorem cal_need_count {P : Program} {w : World} {K : PySem.W.Frag} {mg : Str → Option Value} {base : Heap} {f : Addr} {fd : FuncData} {c_RestError c_NoModulus c_NoCount c_NoPaper c_TooMany c_NoText c_NoForm c_NoneYet : Addr} (T : Txt K mg c_RestError c_NoModulus c_NoCount c_NoPaper c_TooMany c_NoText c_NoForm c_NoneYet) (F : Fun K "need_count" "need_count" s_need_count f fd) (hm : mg "need_count" = some (.ref f)) (hb : Binds K fd ["many", "least"] [])  : Cal P w K mg base 1 "need_count" (Sp2 K false (fun (many : Int) (least : Int) => least ≤ many) m_need_count) := by
  refine fn2 F hm hb sc_need_count rfl fun cdv A outer s H0 E hr G0 v_many v_least many least D s0 r_many r_least hp fin => ?_
  have x0_0 : Ext G0 H0 G0 H0 := Ext.refl s0
  show tSs _ _ D [some v_many, some v_least] H0
  have tk : m_need_count many least = _ := rfl
  refine b_cons (s_if x0_0.s (et_cmp c_lt (ev_v (sl_need_count_many) r_many) (ev_v (sl_need_count_least) r_least)) (fun h1 G1 H1 x2 l1 => ?_) (fun h1 G1 H1 x2 l1 => ?_))
  · have tk := tk_tt tk h1
    have h1_ := h1; try simp only [Bool.and_eq_true, Bool.or_eq_true, Bool.and_eq_false_iff, Bool.or_eq_false_iff, Bool.not_eq_true', Bool.not_eq_false', decide_eq_true_eq, decide_eq_false_iff_not, Classical.not_not] at h1_
    have x0_1 := x0_0.trans x2
    show tSs _ _ _ [some v_many, some v_least] _
    exfalso
    walk_at "no"
  · have tk := tk_ff tk h1
    have h1_ := h1; try simp only [Bool.and_eq_true, Bool.or_eq_true, Bool.and_eq_false_iff, Bool.or_eq_false_iff, Bool.not_eq_true', Bool.not_eq_false', decide_eq_true_eq, decide_eq_false_iff_not, Classical.not_not] at h1_
    have x0_1 := x0_0.trans x2
    show tSs _ _ _ [some v_many, some v_least] _
    refine b_nil ?_
    show tSs _ _ _ [some v_many, some v_least] _
    refine b_nil ?_
    exact fin.nx _ _ _ x0_1 (rep_of tk rfl)

abbrev N_count_c : List Str := ["many", "least"]
theorem sc_count_c : FnScope N_count_c ["many", "least"] (defScope s_need_count) := ⟨rfl, rfl, rfl, by decide +kernel, rfl, by decide +kernel, by decide +kernel⟩
theorem sl_count_c_least {P : Program} {w : World} {K : PySem.W.Frag} {mg : Str → Option Value} {base : Heap} {f : Addr} {cdv : Value} {A : Around} {outer : List Env} {s : Shared} {H : Hp} {E : XK} : Sl (cxOf (L2.CX P w) P w K mg base N_count_c "need_count" (defScope s_need_count) f cdv A outer s H E) 1 "least" := ⟨rfl, (by first | exact .inl rfl | exact .inr (.inl rfl)), nm_least⟩
theorem sl_count_c_many {P : Program} {w : World} {K : PySem.W.Frag} {mg : Str → Option Value} {base : Heap} {f : Addr} {cdv : Value} {A : Around} {outer : List Env} {s : Shared} {H : Hp} {E : XK} : Sl (cxOf (L2.CX P w) P w K mg base N_count_c "need_count" (defScope s_need_count) f cdv A outer s H E) 0 "many" := ⟨rfl, (by first | exact .inl rfl | exact .inr (.inl rfl)), nm_many⟩
theorem gl_count_c_NoCount {P : Program} {w : World} {K : PySem.W.Frag} {mg : Str → Option Value} {base : Heap} {f : Addr} {cdv : Value} {A : Around} {outer : List Env} {s : Shared} {H : Hp} {E : XK} : Gl (cxOf (L2.CX P w) P w K mg base N_count_c "need_count" (defScope s_need_count) f cdv A outer s H E) "NoCount" := by rfl
theorem cal_count_c {P : Program} {w : World} {K : PySem.W.Frag} {mg : Str → Option Value} {base : Heap} {f : Addr} {fd : FuncData} {c_RestError c_NoModulus c_NoCount c_NoPaper c_TooMany c_NoText c_NoForm c_NoneYet : Addr} (T : Txt K mg c_RestError c_NoModulus c_NoCount c_NoPaper c_TooMany c_NoText c_NoForm c_NoneYet) (F : Fun K "need_count" "need_count" s_need_count f fd) (hm : mg "need_count" = some (.ref f)) (hb : Binds K fd ["many", "least"] [])  : Cal P w K mg base 1 "need_count" (SpR2 K (fun (many : Int) (least : Int) => many < least) c_NoCount) := by
  refine fnR2 F hm hb sc_count_c rfl fun cdv A outer s H0 E hr G0 v_many v_least many least D s0 r_many r_least hp fin => ?_
  have x0_0 : Ext G0 H0 G0 H0 := Ext.refl s0
  show tSs _ _ D [some v_many, some v_least] H0
  have tkk := takes_of (X := cxOf (L2.CX P w) P w K mg base N_count_c "need_count" (defScope s_need_count) f cdv A outer s H0 E) (E := E) rfl rfl rfl rfl
  refine b_cons (s_if x0_0.s (et_cmp c_lt (ev_v (sl_count_c_many) r_many) (ev_v (sl_count_c_least) r_least)) (fun h1 G1 H1 x2 l1 => ?_) (fun h1 G1 H1 x2 l1 => ?_))
  · skip
    have h1_ := h1; try simp only [Bool.and_eq_true, Bool.or_eq_true, Bool.and_eq_false_iff, Bool.or_eq_false_iff, Bool.not_eq_true', Bool.not_eq_false', decide_eq_true_eq, decide_eq_false_iff_not, Classical.not_not] at h1_
    have x0_1 := x0_0.trans x2
    show tSs _ _ _ [some v_many, some v_least] _
    refine b_cons (s_raise rfl tkk T.x_NoCount gl_count_c_NoCount ?_)
    exact fin _ _ x0_1
  · skip
    have h1_ := h1; try simp only [Bool.and_eq_true, Bool.or_eq_true, Bool.and_eq_false_iff, Bool.or_eq_false_iff, Bool.not_eq_true', Bool.not_eq_false', decide_eq_true_eq, decide_eq_false_iff_not, Classical.not_not] at h1_
    have x0_1 := x0_0.trans x2
    show tSs _ _ _ [some v_many, some v_least] _
    exfalso; walk_at "no"

abbrev N_places_of : List Str := ["bits", "place"]
theorem sc_places_of : FnScope N_places_of ["bits"] (defScope s_places_of) := ⟨rfl, rfl, rfl, by decide +kernel, rfl, by decide +kernel, by decide +kernel⟩
theorem sl_places_of_bits {P : Program} {w : World} {K : PySem.W.Frag} {mg : Str → Option Value} {base : Heap} {f : Addr} {cdv : Value} {A : Around} {outer : List Env} {s : Shared} {H : Hp} {E : XK} : Sl (cxOf (L2.CX P w) P w K mg base N_places_of "places_of" (defScope s_places_of) f cdv A outer s H E) 0 "bits" := ⟨rfl, (by first | exact .inl rfl | exact .inr (.inl rfl)), nm_bits⟩
theorem gl_places_of_range {P : Program} {w : World} {K : PySem.W.Frag} {mg : Str → Option Value} {base : Heap} {f : Addr} {cdv : Value} {A : Around} {outer : List Env} {s : Shared} {H : Hp} {E : XK} : Gl (cxOf (L2.CX P w) P w K mg base N_places_of "places_of" (defScope s_places_of) f cdv A outer s H E) "range" := by rfl
theorem cal_places_of {P : Program} {w : World} {K : PySem.W.Frag} {mg : Str → Option Value} {base : Heap} {f : Addr} {fd : FuncData} {c_RestError c_NoModulus c_NoCount c_NoPaper c_TooMany c_NoText c_NoForm c_NoneYet : Addr} (T : Txt K mg c_RestError c_NoModulus c_NoCount c_NoPaper c_TooMany c_NoText c_NoForm c_NoneYet) (F : Fun K "places_of" "places_of" s_places_of f fd) (hm : mg "places_of" = some (.ref f)) (hb : Binds K fd ["bits"] [])  : Cal P w K mg base 1 "places_of" (Sp1 K false (fun (bits : Int) => 0 ≤ bits ∧ bits < 1024) m_places_of) := by
  refine fn1 F hm hb sc_places_of rfl fun cdv A outer s H0 E hr G0 v_bits bits D s0 r_bits hp fin => ?_
  have x0_0 : Ext G0 H0 G0 H0 := Ext.refl s0
  show tSs _ _ D [some v_bits, none] H0
  have hpc := hp; obtain ⟨hp_0, hp_1⟩ := hpc
  have hib := bits_bd hp
  have tk : m_places_of bits = _ := rfl
  refine b_cons (s_ret x0_0.s (ev_lc (lc1 (fun (place : Int) => place) (fun (place : Int) => (decide ((Builtin.bitAnd (bits / 2 ^ (place).toNat) (1 : Int)) = (1 : Int)))) rfl sc_places_of.nd (ei_range1 ⟨gl_places_of_range, T.b_range⟩ (ev_bits (ev_v (sl_places_of_bits) r_bits)) (by walk_at "sc") (by walk_at "sc")) [("place", 1)] (blkOk_by (N := N_places_of) (sc := defScope s_places_of) (by decide +kernel)) (fun _ _ _ _ _ => pg_name (i := 1) sc_places_of.nd rfl (.inl rfl)) (fun place v12 G2 H3 hx4 x1 r13 s6 s7 s8 s9 s10 => (ets_one (et_cmp c_eq (ev_bin b_and (ev_bin (b_shr (by walk_at "sc")) (ev_v ((⟨rfl, (by first | exact .inr (.inl rfl) | exact .inr (.inr rfl) | exact .inl rfl), nm_bits⟩ : Sl _ 0 _)) (up x1.g r_bits)) (ev_v ((⟨rfl, .inl rfl, nm_place⟩ : Sl _ 1 _)) r13)) ev_int) ev_int))) (fun place v12 G2 H3 hx4 ht5 x1 r13 s6 s7 s8 s9 s10 => (ev_v ((⟨rfl, .inl rfl, nm_place⟩ : Sl _ 1 _)) r13)))) fun G_ H_ v15 x14 _ r_ => ?_)
  exact fin.rt _ _ _ (x0_0.trans x14) (rep_of tk r_) (fun z => nomatch z)

abbrev N_hit_bits : List Str := ["some", "modulus", "found", "bits", "place"]
theorem sc_hit_bits : FnScope N_hit_bits ["some", "modulus"] (defScope s_hit_bits) := ⟨rfl, rfl, rfl, by decide +kernel, rfl, by decide +kernel, by decide +kernel⟩
theorem sl_hit_bits_bits {P : Program} {w : World} {K : PySem.W.Frag} {mg : Str → Option Value} {base : Heap} {f : Addr} {cdv : Value} {A : Around} {outer : List Env} {s : Shared} {H : Hp} {E : XK} : Sl (cxOf (L2.CX P w) P w K mg base N_hit_bits "hit_bits" (defScope s_hit_bits) f cdv A outer s H E) 3 "bits" := ⟨rfl, (by first | exact .inl rfl | exact .inr (.inl rfl)), nm_bits⟩
theorem sl_hit_bits_found {P : Program} {w : World} {K : PySem.W.Frag} {mg : Str → Option Value} {base : Heap} {f : Addr} {cdv : Value} {A : Around} {outer : List Env} {s : Shared} {H : Hp} {E : XK} : Sl (cxOf (L2.CX P w) P w K mg base N_hit_bits "hit_bits" (defScope s_hit_bits) f cdv A outer s H E) 2 "found" := ⟨rfl, (by first | exact .inl rfl | exact .inr (.inl rfl)), nm_found⟩
theorem sl_hit_bits_modulus {P : Program} {w : World} {K : PySem.W.Frag} {mg : Str → Option Value} {base : Heap} {f : Addr} {cdv : Value} {A : Around} {outer : List Env} {s : Shared} {H : Hp} {E : XK} : Sl (cxOf (L2.CX P w) P w K mg base N_hit_bits "hit_bits" (defScope s_hit_bits) f cdv A outer s H E) 1 "modulus" := ⟨rfl, (by first | exact .inl rfl | exact .inr (.inl rfl)), nm_modulus⟩
theorem sl_hit_bits_some_ {P : Program} {w : World} {K : PySem.W.Frag} {mg : Str → Option Value} {base : Heap} {f : Addr} {cdv : Value} {A : Around} {outer : List Env} {s : Shared} {H : Hp} {E : XK} : Sl (cxOf (L2.CX P w) P w K mg base N_hit_bits "hit_bits" (defScope s_hit_bits) f cdv A outer s H E) 0 "some" := ⟨rfl, (by first | exact .inl rfl | exact .inr (.inl rfl)), nm_some_⟩
theorem ss_hit_bits_found {P : Program} {w : World} {K : PySem.W.Frag} {mg : Str → Option Value} {base : Heap} {f : Addr} {cdv : Value} {A : Around} {outer : List Env} {s : Shared} {H : Hp} {E : XK} : Ss (cxOf (L2.CX P w) P w K mg base N_hit_bits "hit_bits" (defScope s_hit_bits) f cdv A outer s H E) 2 "found" := ⟨rfl, (by first | exact .inl rfl | exact .inr rfl), .inl rfl⟩
theorem ss_hit_bits_bits {P : Program} {w : World} {K : PySem.W.Frag} {mg : Str → Option Value} {base : Heap} {f : Addr} {cdv : Value} {A : Around} {outer : List Env} {s : Shared} {H : Hp} {E : XK} : Ss (cxOf (L2.CX P w) P w K mg base N_hit_bits "hit_bits" (defScope s_hit_bits) f cdv A outer s H E) 3 "bits" := ⟨rfl, (by first | exact .inl rfl | exact .inr rfl), .inl rfl⟩
theorem gl_hit_bits_len {P : Program} {w : World} {K : PySem.W.Frag} {mg : Str → Option Value} {base : Heap} {f : Addr} {cdv : Value} {A : Around} {outer : List Env} {s : Shared} {H : Hp} {E : XK} : Gl (cxOf (L2.CX P w) P w K mg base N_hit_bits "hit_bits" (defScope s_hit_bits) f cdv A outer s H E) "len" := by rfl
theorem gl_hit_bits_places_of {P : Program} {w : World} {K : PySem.W.Frag} {mg : Str → Option Value} {base : Heap} {f : Addr} {cdv : Value} {A : Around} {outer : List Env} {s : Shared} {H : Hp} {E : XK} : Gl (cxOf (L2.CX P w) P w K mg base N_hit_bits "hit_bits" (defScope s_hit_bits) f cdv A outer s H E) "places_of" := by rfl
theorem gl_hit_bits_range {P : Program} {w : World} {K : PySem.W.Frag} {mg : Str → Option Value} {base : Heap} {f : Addr} {cdv : Value} {A : Around} {outer : List Env} {s : Shared} {H : Hp} {E : XK} : Gl (cxOf (L2.CX P w) P w K mg base N_hit_bits "hit_bits" (defScope s_hit_bits) f cdv A outer s H E) "range" := by rfl
theorem gl_hit_bits_sum {P : Program} {w : World} {K : PySem.W.Frag} {mg : Str → Option Value} {base : Heap} {f : Addr} {cdv : Value} {A : Around} {outer : List Env} {s : Shared} {H : Hp} {E : XK} : Gl (cxOf (L2.CX P w) P w K mg base N_hit_bits "hit_bits" (defScope s_hit_bits) f cdv A outer s H E) "sum" := by rfl
section
local macro_rules | `(tactic| walk_at "ix") => `(tactic| first | exact pl_ix (by assumption) (by assumption) (by assumption) | fail)
local macro_rules | `(tactic| walk_at "sc") => `(tactic| first | omega | exact pl_ge (by assumption) (by assumption) | fail)
theorem cal_hit_bits {P : Program} {w : World} {K : PySem.W.Frag} {mg : Str → Option Value} {base : Heap} {f : Addr} {fd : FuncData} {c_RestError c_NoModulus c_NoCount c_NoPaper c_TooMany c_NoText c_NoForm c_NoneYet : Addr} (T : Txt K mg c_RestError c_NoModulus c_NoCount c_NoPaper c_TooMany c_NoText c_NoForm c_NoneYet) (F : Fun K "hit_bits" "hit_bits" s_hit_bits f fd) (hm : mg "hit_bits" = some (.ref f)) (hb : Binds K fd ["some", "modulus"] []) (C_places_of : Cal P w K mg base 1 "places_of" (Sp1 K false (fun (bits : Int) => 0 ≤ bits ∧ bits < 1024) m_places_of)) : Cal P w K mg base 2 "hit_bits" (Sp2 K false (fun (some_ : (List Int)) (modulus : Int) => 1 ≤ modulus ∧ some_.length ≤ 10) m_hit_bits) := by
  refine fn2 F hm hb sc_hit_bits rfl fun cdv A outer s H0 E hr G0 v_some_ v_modulus some_ modulus D s0 r_some_ r_modulus hp fin => ?_
  have x0_0 : Ext G0 H0 G0 H0 := Ext.refl s0
  show tSs _ _ D [some v_some_, some v_modulus, none, none, none] H0
  have hpc := hp; obtain ⟨hp_0, hp_1⟩ := hpc
  have hpw := pow_bd (n := (some_.length : Int)) (by omega) (by omega)
  have tk : m_hit_bits some_ modulus = _ := rfl
  refine b_cons (s_nil (α := Bool) sc_hit_bits.nd ss_hit_bits_found x0_0.s fun H1 q_found x1 l1 n_q_found o1_found => ?_)
  have x0_1 := x0_0.trans x1
  have m_q_found := x0_0.h.free n_q_found
  show tSs _ _ _ [some v_some_, some v_modulus, some (.ref q_found), none, none] _
  refine b_cons (s_for (T := (T1 K 3)) (passes_of rfl) rfl (pg_name (i := 3) sc_hit_bits.nd rfl ss_hit_bits_bits.hx) acts1 x0_1.s (ei_range1 ⟨gl_hit_bits_range, T.b_range⟩ (ev_bin (b_shl (by walk_at "pw")) ev_int (ev_len ⟨gl_hit_bits_len, T.b_len⟩ (ev_v (sl_hit_bits_some_) (up (Same.refl _) r_some_)))) (by walk_at "sc") (by walk_at "sc")) (fun rest σ G H => ∃ (found : (List Bool)), lfold (m_hit_bits_1s some_ modulus) rest found = lfold (m_hit_bits_1s some_ modulus) (rng 0 ((1 : Int) * 2 ^ (((some_).length : Int)).toNat)) ([] : (List Bool)) ∧ Ext G0 H0 G H ∧ ∃ (y1_3 : Option V), σ = [some v_some_, some v_modulus, some (.ref q_found), y1_3, none] ∧ Own K G H q_found found ∧ found.length + 1 * rest.length ≤ ([] : (List Bool)).length + 1 * (rng 0 ((1 : Int) * 2 ^ (((some_).length : Int)).toNat)).length) (fun _ _ x => ⟨([] : (List Bool)), rfl, x0_1.trans x, none, rfl, o1_found.mono x, by walk_at "inv0"⟩) ?_ ?_)
  · intro bits rest σ1 G2 H2 G3 H3 σ2 hx1 sgA3 sh1 I_ x2 l3 hT
    obtain ⟨found, es1, x0_2, y1_3, rfl, o2_found, inv1_0⟩ := I_
    have x0_3 := x0_2.trans x2
    have o3_found := o2_found.mono x2
    obtain ⟨t1, rt1, rfl⟩ := hT
    have inv1_0_ := inv1_0; try simp only [List.length_cons, List.length_nil] at inv1_0_
    have mem1 := mem_of hx1.1
    have hlx1 := hx1.2; rw [sizeLine_eq] at hlx1
    have hlr1 := mem_len hx1.1
    have hpl := post_places_of bits (by have hm_ := mem_rng.mp mem1; omega)
    have tk1 := tk
    have mem1_ := mem_rng.mp mem1
    have tk : m_hit_bits_1s some_ modulus bits found = _ := rfl
    show tSs _ _ _ [some v_some_, some v_modulus, some (.ref q_found), some t1, none] _
    refine b_cons (s_append (sl_hit_bits_found) x0_3.s o3_found (ev_and (ev_cmp c_gt (ev_v (sl_hit_bits_bits) rt1) ev_int) fun c16 => (ev_bo1 (ev_cmp c_eq (ev_bin (b_mod (by walk_at "sc")) (ev_sum ⟨gl_hit_bits_sum, T.b_sum⟩ rfl (ev_lc (lc1A (fun (place : Int) => ((some_).getD (place).toNat (0 : Int))) rfl sc_hit_bits.nd (ei_list (ev_c1 C_places_of (hr.mono (by decide)) gl_hit_bits_places_of (ev_v (sl_hit_bits_bits) rt1) (by walk_at "pre"))) [("place", 4)] (blkOk_by (N := N_hit_bits) (sc := defScope s_hit_bits) (by decide +kernel)) (fun _ _ _ _ _ => pg_name (i := 4) sc_hit_bits.nd rfl (.inl rfl)) (fun place v14 G4 H5 hx6 x3 r15 s8 s9 s10 s11 s12 => (ev_ix (0 : Int) (ev_v ((⟨rfl, (by first | exact .inr (.inl rfl) | exact .inr (.inr rfl) | exact .inl rfl), nm_some_⟩ : Sl _ 0 _)) (up ((Same.refl _).trans (sgA3.trans (x2.g.trans x3.g))) r_some_)) (ev_v ((⟨rfl, .inl rfl, nm_place⟩ : Sl _ 4 _)) r15) (by walk_at "sc") (by walk_at "ix")))))) (ev_v (sl_hit_bits_modulus) (up ((Same.refl _).trans (sgA3.trans x2.g)) r_modulus))) ev_int))) (by walk_at "sz") fun G5 H5_ us18 x17 l5 o5_found => ?_)
    have x0_5 := (x0_3.trans x17).wr (o := .lst us18) m_q_found o5_found.off
    show tSs _ _ _ [some v_some_, some v_modulus, some (.ref q_found), some t1, none] _
    refine b_nil ?_
    exact ⟨_, x17.g, x0_5.s, (found ++ [((decide (bits > (0 : Int))) && (decide (((((m_places_of bits).map (fun (place : Int) => ((some_).getD (place).toNat (0 : Int))))).sum % modulus) = (0 : Int))))]), lfold_nxt es1 tk, x0_5, some t1, rfl, o5_found, by have hi := inv1_0; (try simp only [List.length_cons, List.length_nil, List.length_append, rng_len, enum_len] at hi ⊢); first | omega | walk_at "invx"⟩
  · intro σ1 G6 H6 sgC6 sh1 I_
    obtain ⟨found, es1, x0_6, y1_3, rfl, o6_found, inv1_0⟩ := I_
    have tk := tk_fold (k := m_hit_bits_2) tk es1
    have inv1_0_ := inv1_0; try simp only [List.length_cons, List.length_nil, rng_len, enum_len] at inv1_0_
    show tSs _ _ _ [some v_some_, some v_modulus, some (.ref q_found), y1_3, none] _
    obtain ⟨G7, x0_7, sg7, r7_found⟩ := o6_found.frz x0_6 m_q_found
    refine b_cons (s_ret x0_7.s (ev_v (sl_hit_bits_found) r7_found) fun G_ H_ v20 x19 _ r_ => ?_)
    exact fin.rt _ _ _ (x0_7.trans x19) (rep_of tk r_) (fun z => nomatch z)
end

abbrev N_best_apart : List Str := ["some", "modulus", "whole", "hits", "best", "bits", "least", "found", "inner", "behind"]
theorem sc_best_apart : FnScope N_best_apart ["some", "modulus", "whole"] (defScope s_best_apart) := ⟨rfl, rfl, rfl, by decide +kernel, rfl, by decide +kernel, by decide +kernel⟩
theorem sl_best_apart_behind {P : Program} {w : World} {K : PySem.W.Frag} {mg : Str → Option Value} {base : Heap} {f : Addr} {cdv : Value} {A : Around} {outer : List Env} {s : Shared} {H : Hp} {E : XK} : Sl (cxOf (L2.CX P w) P w K mg base N_best_apart "best_apart" (defScope s_best_apart) f cdv A outer s H E) 9 "behind" := ⟨rfl, (by first | exact .inl rfl | exact .inr (.inl rfl)), nm_behind⟩
theorem sl_best_apart_best {P : Program} {w : World} {K : PySem.W.Frag} {mg : Str → Option Value} {base : Heap} {f : Addr} {cdv : Value} {A : Around} {outer : List Env} {s : Shared} {H : Hp} {E : XK} : Sl (cxOf (L2.CX P w) P w K mg base N_best_apart "best_apart" (defScope s_best_apart) f cdv A outer s H E) 4 "best" := ⟨rfl, (by first | exact .inl rfl | exact .inr (.inl rfl)), nm_best⟩
theorem sl_best_apart_bits {P : Program} {w : World} {K : PySem.W.Frag} {mg : Str → Option Value} {base : Heap} {f : Addr} {cdv : Value} {A : Around} {outer : List Env} {s : Shared} {H : Hp} {E : XK} : Sl (cxOf (L2.CX P w) P w K mg base N_best_apart "best_apart" (defScope s_best_apart) f cdv A outer s H E) 5 "bits" := ⟨rfl, (by first | exact .inl rfl | exact .inr (.inl rfl)), nm_bits⟩
theorem sl_best_apart_found {P : Program} {w : World} {K : PySem.W.Frag} {mg : Str → Option Value} {base : Heap} {f : Addr} {cdv : Value} {A : Around} {outer : List Env} {s : Shared} {H : Hp} {E : XK} : Sl (cxOf (L2.CX P w) P w K mg base N_best_apart "best_apart" (defScope s_best_apart) f cdv A outer s H E) 7 "found" := ⟨rfl, (by first | exact .inl rfl | exact .inr (.inl rfl)), nm_found⟩
theorem sl_best_apart_hits {P : Program} {w : World} {K : PySem.W.Frag} {mg : Str → Option Value} {base : Heap} {f : Addr} {cdv : Value} {A : Around} {outer : List Env} {s : Shared} {H : Hp} {E : XK} : Sl (cxOf (L2.CX P w) P w K mg base N_best_apart "best_apart" (defScope s_best_apart) f cdv A outer s H E) 3 "hits" := ⟨rfl, (by first | exact .inl rfl | exact .inr (.inl rfl)), nm_hits⟩
theorem sl_best_apart_inner {P : Program} {w : World} {K : PySem.W.Frag} {mg : Str → Option Value} {base : Heap} {f : Addr} {cdv : Value} {A : Around} {outer : List Env} {s : Shared} {H : Hp} {E : XK} : Sl (cxOf (L2.CX P w) P w K mg base N_best_apart "best_apart" (defScope s_best_apart) f cdv A outer s H E) 8 "inner" := ⟨rfl, (by first | exact .inl rfl | exact .inr (.inl rfl)), nm_inner⟩
theorem sl_best_apart_least {P : Program} {w : World} {K : PySem.W.Frag} {mg : Str → Option Value} {base : Heap} {f : Addr} {cdv : Value} {A : Around} {outer : List Env} {s : Shared} {H : Hp} {E : XK} : Sl (cxOf (L2.CX P w) P w K mg base N_best_apart "best_apart" (defScope s_best_apart) f cdv A outer s H E) 6 "least" := ⟨rfl, (by first | exact .inl rfl | exact .inr (.inl rfl)), nm_least⟩
theorem sl_best_apart_modulus {P : Program} {w : World} {K : PySem.W.Frag} {mg : Str → Option Value} {base : Heap} {f : Addr} {cdv : Value} {A : Around} {outer : List Env} {s : Shared} {H : Hp} {E : XK} : Sl (cxOf (L2.CX P w) P w K mg base N_best_apart "best_apart" (defScope s_best_apart) f cdv A outer s H E) 1 "modulus" := ⟨rfl, (by first | exact .inl rfl | exact .inr (.inl rfl)), nm_modulus⟩
theorem sl_best_apart_some_ {P : Program} {w : World} {K : PySem.W.Frag} {mg : Str → Option Value} {base : Heap} {f : Addr} {cdv : Value} {A : Around} {outer : List Env} {s : Shared} {H : Hp} {E : XK} : Sl (cxOf (L2.CX P w) P w K mg base N_best_apart "best_apart" (defScope s_best_apart) f cdv A outer s H E) 0 "some" := ⟨rfl, (by first | exact .inl rfl | exact .inr (.inl rfl)), nm_some_⟩
theorem sl_best_apart_whole {P : Program} {w : World} {K : PySem.W.Frag} {mg : Str → Option Value} {base : Heap} {f : Addr} {cdv : Value} {A : Around} {outer : List Env} {s : Shared} {H : Hp} {E : XK} : Sl (cxOf (L2.CX P w) P w K mg base N_best_apart "best_apart" (defScope s_best_apart) f cdv A outer s H E) 2 "whole" := ⟨rfl, (by first | exact .inl rfl | exact .inr (.inl rfl)), nm_whole⟩
theorem ss_best_apart_hits {P : Program} {w : World} {K : PySem.W.Frag} {mg : Str → Option Value} {base : Heap} {f : Addr} {cdv : Value} {A : Around} {outer : List Env} {s : Shared} {H : Hp} {E : XK} : Ss (cxOf (L2.CX P w) P w K mg base N_best_apart "best_apart" (defScope s_best_apart) f cdv A outer s H E) 3 "hits" := ⟨rfl, (by first | exact .inl rfl | exact .inr rfl), .inl rfl⟩
theorem ss_best_apart_best {P : Program} {w : World} {K : PySem.W.Frag} {mg : Str → Option Value} {base : Heap} {f : Addr} {cdv : Value} {A : Around} {outer : List Env} {s : Shared} {H : Hp} {E : XK} : Ss (cxOf (L2.CX P w) P w K mg base N_best_apart "best_apart" (defScope s_best_apart) f cdv A outer s H E) 4 "best" := ⟨rfl, (by first | exact .inl rfl | exact .inr rfl), .inl rfl⟩
theorem ss_best_apart_bits {P : Program} {w : World} {K : PySem.W.Frag} {mg : Str → Option Value} {base : Heap} {f : Addr} {cdv : Value} {A : Around} {outer : List Env} {s : Shared} {H : Hp} {E : XK} : Ss (cxOf (L2.CX P w) P w K mg base N_best_apart "best_apart" (defScope s_best_apart) f cdv A outer s H E) 5 "bits" := ⟨rfl, (by first | exact .inl rfl | exact .inr rfl), .inl rfl⟩
theorem ss_best_apart_least {P : Program} {w : World} {K : PySem.W.Frag} {mg : Str → Option Value} {base : Heap} {f : Addr} {cdv : Value} {A : Around} {outer : List Env} {s : Shared} {H : Hp} {E : XK} : Ss (cxOf (L2.CX P w) P w K mg base N_best_apart "best_apart" (defScope s_best_apart) f cdv A outer s H E) 6 "least" := ⟨rfl, (by first | exact .inl rfl | exact .inr rfl), .inl rfl⟩
theorem ss_best_apart_found {P : Program} {w : World} {K : PySem.W.Frag} {mg : Str → Option Value} {base : Heap} {f : Addr} {cdv : Value} {A : Around} {outer : List Env} {s : Shared} {H : Hp} {E : XK} : Ss (cxOf (L2.CX P w) P w K mg base N_best_apart "best_apart" (defScope s_best_apart) f cdv A outer s H E) 7 "found" := ⟨rfl, (by first | exact .inl rfl | exact .inr rfl), .inl rfl⟩
theorem ss_best_apart_inner {P : Program} {w : World} {K : PySem.W.Frag} {mg : Str → Option Value} {base : Heap} {f : Addr} {cdv : Value} {A : Around} {outer : List Env} {s : Shared} {H : Hp} {E : XK} : Ss (cxOf (L2.CX P w) P w K mg base N_best_apart "best_apart" (defScope s_best_apart) f cdv A outer s H E) 8 "inner" := ⟨rfl, (by first | exact .inl rfl | exact .inr rfl), .inl rfl⟩
theorem ss_best_apart_behind {P : Program} {w : World} {K : PySem.W.Frag} {mg : Str → Option Value} {base : Heap} {f : Addr} {cdv : Value} {A : Around} {outer : List Env} {s : Shared} {H : Hp} {E : XK} : Ss (cxOf (L2.CX P w) P w K mg base N_best_apart "best_apart" (defScope s_best_apart) f cdv A outer s H E) 9 "behind" := ⟨rfl, (by first | exact .inl rfl | exact .inr rfl), .inl rfl⟩
theorem gl_best_apart_hit_bits {P : Program} {w : World} {K : PySem.W.Frag} {mg : Str → Option Value} {base : Heap} {f : Addr} {cdv : Value} {A : Around} {outer : List Env} {s : Shared} {H : Hp} {E : XK} : Gl (cxOf (L2.CX P w) P w K mg base N_best_apart "best_apart" (defScope s_best_apart) f cdv A outer s H E) "hit_bits" := by rfl
theorem gl_best_apart_len {P : Program} {w : World} {K : PySem.W.Frag} {mg : Str → Option Value} {base : Heap} {f : Addr} {cdv : Value} {A : Around} {outer : List Env} {s : Shared} {H : Hp} {E : XK} : Gl (cxOf (L2.CX P w) P w K mg base N_best_apart "best_apart" (defScope s_best_apart) f cdv A outer s H E) "len" := by rfl
theorem gl_best_apart_min {P : Program} {w : World} {K : PySem.W.Frag} {mg : Str → Option Value} {base : Heap} {f : Addr} {cdv : Value} {A : Around} {outer : List Env} {s : Shared} {H : Hp} {E : XK} : Gl (cxOf (L2.CX P w) P w K mg base N_best_apart "best_apart" (defScope s_best_apart) f cdv A outer s H E) "min" := by rfl
theorem gl_best_apart_places_of {P : Program} {w : World} {K : PySem.W.Frag} {mg : Str → Option Value} {base : Heap} {f : Addr} {cdv : Value} {A : Around} {outer : List Env} {s : Shared} {H : Hp} {E : XK} : Gl (cxOf (L2.CX P w) P w K mg base N_best_apart "best_apart" (defScope s_best_apart) f cdv A outer s H E) "places_of" := by rfl
theorem gl_best_apart_range {P : Program} {w : World} {K : PySem.W.Frag} {mg : Str → Option Value} {base : Heap} {f : Addr} {cdv : Value} {A : Around} {outer : List Env} {s : Shared} {H : Hp} {E : XK} : Gl (cxOf (L2.CX P w) P w K mg base N_best_apart "best_apart" (defScope s_best_apart) f cdv A outer s H E) "range" := by rfl
section
local macro_rules | `(tactic| walk_at "nn") => `(tactic| first | exact bok_nn (by assumption) (by assumption) (by omega) (by omega) | exact nn_and (by assumption) | fail)
local macro_rules | `(tactic| walk_at "ix") => `(tactic| first | omega | fail)
local macro_rules | `(tactic| walk_at "ixn") => `(tactic| first | exact ixN_last (by omega) | fail)
local macro_rules | `(tactic| walk_at "ne") => `(tactic| first | exact ne_of (by assumption) | exact List.length_pos_iff.mpr (ne_of (by assumption)) | fail)
local macro_rules | `(tactic| walk_at "sz") => `(tactic| first | (rw [sizeLine_eq]; simp only [List.length_cons, List.length_nil]; omega) | fail)
local macro_rules | `(tactic| walk_at "inv0") => `(tactic| first | exact bok_init (by assumption) | exact rng_init (by assumption) | exact And.left (by assumption) | omega | fail)
local macro_rules | `(tactic| walk_at "invx") => `(tactic| first | exact bok_put (by assumption) (by assumption) (by omega) | exact rng_tl (by assumption) | (rw [List.length_append]; exact Nat.le_add_left 1 _) | fail)
theorem cal_best_apart {P : Program} {w : World} {K : PySem.W.Frag} {mg : Str → Option Value} {base : Heap} {f : Addr} {fd : FuncData} {c_RestError c_NoModulus c_NoCount c_NoPaper c_TooMany c_NoText c_NoForm c_NoneYet : Addr} (T : Txt K mg c_RestError c_NoModulus c_NoCount c_NoPaper c_TooMany c_NoText c_NoForm c_NoneYet) (F : Fun K "best_apart" "best_apart" s_best_apart f fd) (hm : mg "best_apart" = some (.ref f)) (hb : Binds K fd ["some", "modulus", "whole"] []) (C_hit_bits : Cal P w K mg base 2 "hit_bits" (Sp2 K false (fun (some_ : (List Int)) (modulus : Int) => 1 ≤ modulus ∧ some_.length ≤ 10) m_hit_bits)) (C_places_of : Cal P w K mg base 1 "places_of" (Sp1 K false (fun (bits : Int) => 0 ≤ bits ∧ bits < 1024) m_places_of)) : Cal P w K mg base 3 "best_apart" (Sp3 K false (fun (some_ : (List Int)) (modulus : Int) (whole : Bool) => 1 ≤ modulus ∧ some_.length ≤ 10) m_best_apart) := by
  refine fn3 F hm hb sc_best_apart rfl fun cdv A outer s H0 E hr G0 v_some_ v_modulus v_whole some_ modulus whole D s0 r_some_ r_modulus r_whole hp fin => ?_
  have x0_0 : Ext G0 H0 G0 H0 := Ext.refl s0
  show tSs _ _ D [some v_some_, some v_modulus, some v_whole, none, none, none, none, none, none, none] H0
  have hpc := hp; obtain ⟨hp_0, hp_1⟩ := hpc
  have hpw := pow_bd (n := (some_.length : Int)) (by omega) (by omega)
  have tk : m_best_apart some_ modulus whole = _ := rfl
  have fc1 := post_hit_bits some_ modulus (by walk_at "pre")
  refine b_cons (s_set sc_best_apart.nd ss_best_apart_hits x0_0.s (ev_c2 C_hit_bits (hr.mono (by decide)) gl_best_apart_hit_bits (ev_v (sl_best_apart_some_) r_some_) (ev_v (sl_best_apart_modulus) r_modulus) (by walk_at "pre")) fun G1 H1 v1_hits x2 l1 r1_hits => ?_)
  have x0_1 := x0_0.trans x2
  show tSs _ _ _ [some v_some_, some v_modulus, some v_whole, some v1_hits, none, none, none, none, none, none] _
  obtain ⟨hits, e3⟩ : ∃ z, z = (m_hit_bits some_ modulus) := ⟨_, rfl⟩
  rw [← e3] at r1_hits
  have tk : _ = m_best_apart_1 whole hits := tk.trans (by first | (rw [e3] <;> rfl) | rfl)
  have p_e3 := post_hit_bits some_ modulus (by walk_at "pre"); rw [← e3] at p_e3; (try simp only [rep_len, rep_len2] at p_e3)
  have g_e3 := congrArg List.length e3; try simp only [List.length_append, List.length_cons, List.length_nil, rng_len, List.length_map, List.length_reverse, psort_len, isort_len] at g_e3
  have f_e3 : (hits.length : Int) = (1 : Int) * 2 ^ ((some_.length : Int)).toNat := by rw [e3]; exact post_hit_bits _ _ hp
  refine b_cons (s_listO sc_best_apart.nd ss_best_apart_best x0_1.s (es_cons (ev_some (ev_tup ev_int (ev_list (es_nil (α := (List Int)))))) es_nil) fun G2 H2 q_best x4 l2 n_q_best o2_best => ?_)
  have x0_2 := x0_1.trans x4
  have m_q_best := x0_1.h.free n_q_best
  show tSs _ _ _ [some v_some_, some v_modulus, some v_whole, some v1_hits, some (.ref q_best), none, none, none, none, none] _
  obtain ⟨best, e5⟩ : ∃ z, z = ([(some ((0 : Int), ([] : List (List Int))))] : List (Option (Int × (List (List Int))))) := ⟨_, rfl⟩
  rw [← e5] at o2_best
  have tk : _ = m_best_apart_2 whole hits best := tk.trans (by first | (rw [e5] <;> rfl) | rfl)
  have g_e5 := congrArg List.length e5; try simp only [List.length_append, List.length_cons, List.length_nil, rng_len, List.length_map, List.length_reverse, List.length_set] at g_e5
  refine b_cons (s_for (T := (T1 K 5)) (passes_of rfl) rfl (pg_name (i := 5) sc_best_apart.nd rfl ss_best_apart_bits.hx) acts1 x0_2.s (ei_range2 ⟨gl_best_apart_range, T.b_range⟩ ev_int (ev_len ⟨gl_best_apart_len, T.b_len⟩ (ev_v (sl_best_apart_hits) (up x4.g r1_hits))) ⟨⟨(by walk_at "sc"), (by walk_at "sc")⟩, (by walk_at "sc"), (by walk_at "sc"), (by walk_at "sc")⟩) (fun rest σ G H => ∃ (best_0 : (List (Option (Int × (List (List Int)))))), lfold (m_best_apart_3s whole hits) rest best_0 = lfold (m_best_apart_3s whole hits) (rng (1 : Int) ((hits).length : Int)) best ∧ Ext G0 H0 G H ∧ ∃ (y1_5 y1_6 y1_7 y1_8 y1_9 : Option V), σ = [some v_some_, some v_modulus, some v_whole, some v1_hits, some (.ref q_best), y1_5, y1_6, y1_7, y1_8, y1_9] ∧ Own K G H q_best best_0 ∧ best_0.length + 1 * rest.length ≤ best.length + 1 * (rng (1 : Int) ((hits).length : Int)).length ∧ 1 ≤ best_0.length ∧ rest = rng (best_0.length : Int) (hits.length : Int) ∧ BOk whole best_0) (fun _ _ x => ⟨best, rfl, x0_2.trans x, none, none, none, none, none, rfl, o2_best.mono x, by walk_at "inv0", by walk_at "inv0", by walk_at "inv0", by walk_at "inv0"⟩) ?_ ?_)
  · intro bits rest σ1 G3 H3 G4 H4 σ2 hx1 sgA4 sh1 I_ x6 l4 hT
    obtain ⟨best_0, es1, x0_3, y1_5, y1_6, y1_7, y1_8, y1_9, rfl, o3_best, inv1_0, inv1_1, inv1_2, inv1_3⟩ := I_
    have x0_4 := x0_3.trans x6
    have o4_best := o3_best.mono x6
    obtain ⟨t1, rt1, rfl⟩ := hT
    have inv1_0_ := inv1_0; try simp only [List.length_cons, List.length_nil] at inv1_0_
    have inv1_1_ := inv1_1; try simp only [List.length_cons, List.length_nil] at inv1_1_
    have inv1_2_ := inv1_2; try simp only [List.length_cons, List.length_nil] at inv1_2_
    have inv1_3_ := inv1_3; try simp only [List.length_cons, List.length_nil] at inv1_3_
    have mem1 := mem_of hx1.1
    have hlx1 := hx1.2; rw [sizeLine_eq] at hlx1
    have hlr1 := mem_len hx1.1
    have hbl := rng_hd inv1_2
    have tk1 := tk
    have mem1_ := mem_rng.mp mem1
    have tk : m_best_apart_3s whole hits bits best_0 = _ := rfl
    show tSs _ _ _ [some v_some_, some v_modulus, some v_whole, some v1_hits, some (.ref q_best), some t1, y1_6, y1_7, y1_8, y1_9] _
    refine b_cons (s_set sc_best_apart.nd ss_best_apart_least x0_4.s (ev_bin b_and (ev_v (sl_best_apart_bits) rt1) (ev_neg (ev_v (sl_best_apart_bits) rt1))) fun G5 H5 v5_least x7 l5 r5_least => ?_)
    have x0_5 := x0_4.trans x7
    have o5_best := o4_best.mono x7
    show tSs _ _ _ [some v_some_, some v_modulus, some v_whole, some v1_hits, some (.ref q_best), some t1, some v5_least, y1_7, y1_8, y1_9] _
    obtain ⟨least, e8⟩ : ∃ z, z = (Builtin.bitAnd bits (-bits)) := ⟨_, rfl⟩
    rw [← e8] at r5_least
    have tk : _ = m_best_apart_5 whole hits best_0 bits least := tk.trans (by first | (rw [e8] <;> rfl) | rfl)
    have f_e8 : 1 ≤ least ∧ least ≤ bits := by rw [e8]; exact low_bd2 (by omega)
    refine b_cons (s_ifLO sc_best_apart.nd ss_best_apart_found x0_5.s (et_val (ev_v (sl_best_apart_whole) (up (x2.g.trans (x4.g.trans (sgA4.trans (x6.g.trans x7.g)))) r_whole))) (fun c9 => (es_nil (α := (Int × (List (List Int)))))) (fun c9 => (es_cons (ev_get ((0 : Int), []) (by walk_at "nn") (ev_ix none (ev_vO (sl_best_apart_best) o5_best) (ev_bin b_sub (ev_v (sl_best_apart_bits) (up x7.g rt1)) (ev_v (sl_best_apart_least) r5_least)) (by walk_at "sc") (by walk_at "ix"))) es_nil)) fun G6 H6 q_found x10 l6 n_q_found o6_found => ?_)
    have x0_6 := x0_5.trans x10
    have m_q_found := x0_5.h.free n_q_found
    have d_q_best_q_found : q_best ≠ q_found := fun z => by obtain ⟨u, hu⟩ := o5_best.ex; rw [z, n_q_found] at hu; cases hu
    have o6_best := o5_best.mono x10
    show tSs _ _ _ [some v_some_, some v_modulus, some v_whole, some v1_hits, some (.ref q_best), some t1, some v5_least, some (.ref q_found), y1_8, y1_9] _
    obtain ⟨found, e11⟩ : ∃ z, z = (if whole = true then ([] : (List (Int × (List (List Int))))) else ([(((best_0).getD ((bits - least)).toNat none).getD ((0 : Int), []))] : (List (Int × (List (List Int)))))) := ⟨_, rfl⟩
    rw [← e11] at o6_found
    have tk : _ = m_best_apart_6 hits best_0 bits least found := tk.trans (by first | (rw [e11] <;> rfl) | rfl)
    have f_e11 : FOk whole bits found ∧ found.length ≤ 1 := by rw [e11]; exact fok_start (by assumption) (by omega) (by omega)
    have g_e11 := congrArg List.length e11; try simp only [List.length_append, List.length_cons, List.length_nil, rng_len, List.length_map, List.length_reverse, List.length_set] at g_e11
    refine b_cons (s_set sc_best_apart.nd ss_best_apart_inner x0_6.s (ev_v (sl_best_apart_bits) (up (x7.g.trans x10.g) rt1)) fun G7 H7 v7_inner x12 l7 r7_inner => ?_)
    have x0_7 := x0_6.trans x12
    have o7_best := o6_best.mono x12
    have o7_found := o6_found.mono x12
    show tSs _ _ _ [some v_some_, some v_modulus, some v_whole, some v1_hits, some (.ref q_best), some t1, some v5_least, some (.ref q_found), some v7_inner, y1_9] _
    refine b_cons (s_while (passes_of rfl) x0_7.s (fun m σ G H => ∃ (found_1 : (List (Int × (List (List Int))))) (inner : Int), wrun (m_best_apart_8c) (m_best_apart_7s hits best_0 bits least) m (found_1, inner) = wrun (m_best_apart_8c) (m_best_apart_7s hits best_0 bits least) (bits.toNat) (found, bits) ∧ inner.toNat ≤ m ∧ Ext G0 H0 G H ∧ ∃ (u2_inner : V) (y2_9 : Option V), σ = [some v_some_, some v_modulus, some v_whole, some v1_hits, some (.ref q_best), some t1, some v5_least, some (.ref q_found), some u2_inner, y2_9] ∧ Own K G H q_found found_1 ∧ rep K G u2_inner inner ∧ Own K G H q_best best_0 ∧ 0 ≤ inner ∧ inner ≤ bits ∧ found_1.length + inner.toNat ≤ 1200 ∧ FOk whole bits found_1) (bits.toNat) ⟨found, bits, rfl, Nat.le_refl _, x0_7, v7_inner, y1_9, rfl, o7_found, r7_inner, o7_best, by walk_at "inv0", by walk_at "inv0", by walk_at "inv0", by walk_at "inv0"⟩ ?_)
    · intro m2 σ1 G8 H8 sgA8 sh2 I_
      obtain ⟨found_1, inner, es2, ms2, x0_8, u2_inner, y2_9, rfl, o8_found, ru2_inner, o8_best, inv2_0, inv2_1, inv2_2, inv2_3⟩ := I_
      refine ⟨(decide (inner > (0 : Int))), (et_cmp c_gt (ev_v (sl_best_apart_inner) ru2_inner) ev_int), fun h2_w G9 H9 x13 l9 => ?_, fun h2_w G9 H9 x13 l9 => ?_⟩
      · have h2_v := h2_w; try simp only [Bool.and_eq_true, Bool.or_eq_true, Bool.and_eq_false_iff, Bool.or_eq_false_iff, Bool.not_eq_true', Bool.not_eq_false', decide_eq_true_eq, decide_eq_false_iff_not, Classical.not_not] at h2_v
        have x0_9 := x0_8.trans x13
        have o9_best := o8_best.mono x13
        have o9_found := o8_found.mono x13
        have tk : (m_best_apart_7s hits best_0 bits least) (found_1, inner) = _ := rfl
        show tSs _ _ _ [some v_some_, some v_modulus, some v_whole, some v1_hits, some (.ref q_best), some t1, some v5_least, some (.ref q_found), some u2_inner, y2_9] _
        refine b_cons (s_set sc_best_apart.nd ss_best_apart_behind x0_9.s (ev_ix none (ev_vO (sl_best_apart_best) o9_best) (ev_bin b_sub (ev_v (sl_best_apart_bits) (up (x7.g.trans (x10.g.trans (x12.g.trans (sgA8.trans x13.g)))) rt1)) (ev_v (sl_best_apart_inner) (up x13.g ru2_inner))) (by walk_at "sc") (by walk_at "ix")) fun G10 H10 v10_behind x14 l10 r10_behind => ?_)
        have x0_10 := x0_9.trans x14
        have o10_best := o9_best.mono x14
        have o10_found := o9_found.mono x14
        show tSs _ _ _ [some v_some_, some v_modulus, some v_whole, some v1_hits, some (.ref q_best), some t1, some v5_least, some (.ref q_found), some u2_inner, some v10_behind] _
        obtain ⟨behind, e15⟩ : ∃ z, z = ((best_0).getD ((bits - inner)).toNat none) := ⟨_, rfl⟩
        rw [← e15] at r10_behind
        have tk : _ = m_best_apart_10 hits bits least found_1 inner behind := tk.trans (by first | (rw [e15] <;> rfl) | rfl)
        have f_e15 : (((behind.getD (0, [])).2.length : Int) ≤ bits - inner) ∧ (0 ≤ Builtin.bitAnd (inner - 1) bits ∧ Builtin.bitAnd (inner - 1) bits ≤ inner - 1) := by rw [e15]; exact ⟨bok_at (by assumption) (by omega), and_bd (by omega) (by omega)⟩
        have f_ := f_e15; obtain ⟨f_e15_1, f_e15_2⟩ := f_
        refine b_cons (s_if x0_10.s (et_w (ew_and (et_cmp c_gt (ev_bin b_and (ev_v (sl_best_apart_inner) (up (x13.g.trans x14.g) ru2_inner)) (ev_v (sl_best_apart_least) (up (x10.g.trans (x12.g.trans (sgA8.trans (x13.g.trans x14.g)))) r5_least))) ev_int) fun c17 => (ew_and (et_val (ev_ix false (ev_v (sl_best_apart_hits) (up (x4.g.trans (sgA4.trans (x6.g.trans (x7.g.trans (x10.g.trans (x12.g.trans (sgA8.trans (x13.g.trans x14.g)))))))) r1_hits)) (ev_v (sl_best_apart_inner) (up (x13.g.trans x14.g) ru2_inner)) (by walk_at "sc") (by walk_at "ix"))) fun c16 => (ew_and1 (et_cmp c_notN (ev_v (sl_best_apart_behind) r10_behind) ev_unit))))) (fun h18 G11 H11 x19 l11 => ?_) (fun h18 G11 H11 x19 l11 => ?_))
        · have tk := tk_tt tk h18
          have h18_ := h18; try simp only [Bool.and_eq_true, Bool.or_eq_true, Bool.and_eq_false_iff, Bool.or_eq_false_iff, Bool.not_eq_true', Bool.not_eq_false', decide_eq_true_eq, decide_eq_false_iff_not, Classical.not_not] at h18_
          have x0_11 := x0_10.trans x19
          have o11_best := o10_best.mono x19
          have o11_found := o10_found.mono x19
          show tSs _ _ _ [some v_some_, some v_modulus, some v_whole, some v1_hits, some (.ref q_best), some t1, some v5_least, some (.ref q_found), some u2_inner, some v10_behind] _
          have rn20 := (rep_get (x := behind) ((0 : Int), []) (by walk_at "nn") r10_behind)
          refine b_cons (s_append (sl_best_apart_found) x0_11.s o11_found (ev_tup (ev_bin b_sub (ev_fst (ev_v (sl_best_apart_behind) (up x19.g rn20)) ev_int) ev_int) (ev_cat (by have := post_places_of inner (by walk_at "pre"); walk_at "sz") (ev_list (es_cons (ev_c1 C_places_of (hr.mono (by decide)) gl_best_apart_places_of (ev_v (sl_best_apart_inner) (up (x13.g.trans (x14.g.trans x19.g)) ru2_inner)) (by walk_at "pre")) es_nil)) (ev_snd (ev_v (sl_best_apart_behind) (up x19.g rn20)) ev_int))) (by walk_at "sz") fun G12 H12_ us22 x21 l12 o12_found => ?_)
          have x0_12 := (x0_11.trans x21).wr (o := .lst us22) m_q_found o12_found.off
          have o12_best := (o11_best.mono x21).wr (o' := .lst us22) d_q_best_q_found
          show tSs _ _ _ [some v_some_, some v_modulus, some v_whole, some v1_hits, some (.ref q_best), some t1, some v5_least, some (.ref q_found), some u2_inner, some v10_behind] _
          refine b_nil ?_
          show tSs _ _ _ [some v_some_, some v_modulus, some v_whole, some v1_hits, some (.ref q_best), some t1, some v5_least, some (.ref q_found), some u2_inner, some v10_behind] _
          refine b_cons (s_set sc_best_apart.nd ss_best_apart_inner x0_12.s (ev_bin b_and (ev_bin b_sub (ev_v (sl_best_apart_inner) (up (x13.g.trans (x14.g.trans (x19.g.trans x21.g))) ru2_inner)) ev_int) (ev_v (sl_best_apart_bits) (up (x7.g.trans (x10.g.trans (x12.g.trans (sgA8.trans (x13.g.trans (x14.g.trans (x19.g.trans x21.g))))))) rt1))) fun G13 H13 v13_inner x23 l13 r13_inner => ?_)
          have x0_13 := x0_12.trans x23
          have o13_best := o12_best.mono x23
          have o13_found := o12_found.mono x23
          show tSs _ _ _ [some v_some_, some v_modulus, some v_whole, some v1_hits, some (.ref q_best), some t1, some v5_least, some (.ref q_found), some v13_inner, some v10_behind] _
          obtain ⟨inner_24, e24⟩ : ∃ z, z = (Builtin.bitAnd (inner - (1 : Int)) bits) := ⟨_, rfl⟩
          rw [← e24] at r13_inner
          have tk : _ = m_best_apart_11 found_1 inner behind inner_24 := tk.trans (by first | (rw [e24] <;> rfl) | rfl)
          refine b_nil ?_
          exact ⟨m2 - 1, _, by omega, x14.g.trans (x19.g.trans (x21.g.trans x23.g)), x0_13.s, (found_1 ++ [(((behind.getD ((0 : Int), [])).1 - (1 : Int)), (([(m_places_of inner)] : List (List Int)) ++ (behind.getD ((0 : Int), [])).2))]), inner_24, wrun_step es2 h2_w (by omega) tk, by omega, x0_13, v13_inner, some v10_behind, rfl, o13_found, r13_inner, o13_best, by first | omega | (simp only [List.length_append, List.length_cons, List.length_nil]; omega) | exact fok_put (by assumption) (by assumption) (by omega) | assumption, by first | omega | (simp only [List.length_append, List.length_cons, List.length_nil]; omega) | exact fok_put (by assumption) (by assumption) (by omega) | assumption, by first | omega | (simp only [List.length_append, List.length_cons, List.length_nil]; omega) | exact fok_put (by assumption) (by assumption) (by omega) | assumption, by first | omega | (simp only [List.length_append, List.length_cons, List.length_nil]; omega) | exact fok_put (by assumption) (by assumption) (by omega) | assumption⟩
        · have tk := tk_ff tk h18
          have h18_ := h18; try simp only [Bool.and_eq_true, Bool.or_eq_true, Bool.and_eq_false_iff, Bool.or_eq_false_iff, Bool.not_eq_true', Bool.not_eq_false', decide_eq_true_eq, decide_eq_false_iff_not, Classical.not_not] at h18_
          have x0_11 := x0_10.trans x19
          have o11_best := o10_best.mono x19
          have o11_found := o10_found.mono x19
          show tSs _ _ _ [some v_some_, some v_modulus, some v_whole, some v1_hits, some (.ref q_best), some t1, some v5_least, some (.ref q_found), some u2_inner, some v10_behind] _
          refine b_nil ?_
          show tSs _ _ _ [some v_some_, some v_modulus, some v_whole, some v1_hits, some (.ref q_best), some t1, some v5_least, some (.ref q_found), some u2_inner, some v10_behind] _
          refine b_cons (s_set sc_best_apart.nd ss_best_apart_inner x0_11.s (ev_bin b_and (ev_bin b_sub (ev_v (sl_best_apart_inner) (up (x13.g.trans (x14.g.trans x19.g)) ru2_inner)) ev_int) (ev_v (sl_best_apart_bits) (up (x7.g.trans (x10.g.trans (x12.g.trans (sgA8.trans (x13.g.trans (x14.g.trans x19.g)))))) rt1))) fun G14 H14 v14_inner x25 l14 r14_inner => ?_)
          have x0_14 := x0_11.trans x25
          have o14_best := o11_best.mono x25
          have o14_found := o11_found.mono x25
          show tSs _ _ _ [some v_some_, some v_modulus, some v_whole, some v1_hits, some (.ref q_best), some t1, some v5_least, some (.ref q_found), some v14_inner, some v10_behind] _
          obtain ⟨inner, e26⟩ : ∃ z, z = (Builtin.bitAnd (inner - (1 : Int)) bits) := ⟨_, rfl⟩
          rw [← e26] at r14_inner
          have tk : _ = m_best_apart_12 found_1 inner := tk.trans (by first | (rw [e26] <;> rfl) | rfl)
          refine b_nil ?_
          exact ⟨m2 - 1, _, by omega, x14.g.trans (x19.g.trans x25.g), x0_14.s, found_1, inner, wrun_step es2 h2_w (by omega) tk, by omega, x0_14, v14_inner, some v10_behind, rfl, o14_found, r14_inner, o14_best, by first | omega | (simp only [List.length_append, List.length_cons, List.length_nil]; omega) | exact fok_put (by assumption) (by assumption) (by omega) | assumption, by first | omega | (simp only [List.length_append, List.length_cons, List.length_nil]; omega) | exact fok_put (by assumption) (by assumption) (by omega) | assumption, by first | omega | (simp only [List.length_append, List.length_cons, List.length_nil]; omega) | exact fok_put (by assumption) (by assumption) (by omega) | assumption, by first | omega | (simp only [List.length_append, List.length_cons, List.length_nil]; omega) | exact fok_put (by assumption) (by assumption) (by omega) | assumption⟩
      · have h2_v := h2_w; try simp only [Bool.and_eq_true, Bool.or_eq_true, Bool.and_eq_false_iff, Bool.or_eq_false_iff, Bool.not_eq_true', Bool.not_eq_false', decide_eq_true_eq, decide_eq_false_iff_not, Classical.not_not] at h2_v
        have x0_9 := x0_8.trans x13
        have o9_best := o8_best.mono x13
        have o9_found := o8_found.mono x13
        have tk := tk_whl (k := (m_best_apart_9 best_0)) tk es2 h2_w
        show tSs _ _ _ [some v_some_, some v_modulus, some v_whole, some v1_hits, some (.ref q_best), some t1, some v5_least, some (.ref q_found), some u2_inner, y2_9] _
        refine b_cons (s_append (sl_best_apart_best) x0_9.s o9_best (ev_if (et_cmp (c_neD (hu_of64 hr)) (ev_vO (sl_best_apart_found) o9_found) (ev_list (es_nil (α := (Int × (List (List Int))))))) (fun c27 => (ev_some (ev_minA rfl (hu64 hr) ⟨gl_best_apart_min, T.b_min⟩ ((0 : Int), []) (by walk_at "ne") (ev_vO (sl_best_apart_found) o9_found)))) (fun c27 => (ev_none (α := (Int × (List (List Int))))))) (by walk_at "sz") fun G15 H15_ us29 x28 l15 o15_best => ?_)
        have x0_15 := (x0_9.trans x28).wr (o := .lst us29) m_q_best o15_best.off
        have o15_found := (o9_found.mono x28).wr (o' := .lst us29) (Ne.symm d_q_best_q_found)
        show tSs _ _ _ [some v_some_, some v_modulus, some v_whole, some v1_hits, some (.ref q_best), some t1, some v5_least, some (.ref q_found), some u2_inner, y2_9] _
        refine b_nil ?_
        exact ⟨_, x7.g.trans (x10.g.trans (x12.g.trans (sgA8.trans (x13.g.trans x28.g)))), x0_15.s, (best_0 ++ [(if (!decide (found_1 = ([] : List (Int × (List (List Int)))))) = true then (some (dmin ((0 : Int), []) found_1)) else (none : (Option (Int × (List (List Int))))))]), lfold_nxt es1 tk, x0_15, some t1, some v5_least, some (.ref q_found), some u2_inner, y2_9, rfl, o15_best, by have hi := inv1_0; (try simp only [List.length_cons, List.length_nil, List.length_append, rng_len, enum_len] at hi ⊢); first | omega | walk_at "invx", by have hi := inv1_1; (try simp only [List.length_cons, List.length_nil, List.length_append, rng_len, enum_len] at hi ⊢); first | omega | walk_at "invx", by have hi := inv1_2; (try simp only [List.length_cons, List.length_nil, List.length_append, rng_len, enum_len] at hi ⊢); first | omega | walk_at "invx", by have hi := inv1_3; (try simp only [List.length_cons, List.length_nil, List.length_append, rng_len, enum_len] at hi ⊢); first | omega | walk_at "invx"⟩
  · intro σ1 G16 H16 sgC16 sh1 I_
    obtain ⟨best_0, es1, x0_16, y1_5, y1_6, y1_7, y1_8, y1_9, rfl, o16_best, inv1_0, inv1_1, inv1_2, inv1_3⟩ := I_
    have tk := tk_fold (k := m_best_apart_4) tk es1
    have inv1_0_ := inv1_0; try simp only [List.length_cons, List.length_nil, rng_len, enum_len] at inv1_0_
    have inv1_1_ := inv1_1; try simp only [List.length_cons, List.length_nil, rng_len, enum_len] at inv1_1_
    have inv1_2_ := inv1_2; try simp only [List.length_cons, List.length_nil, rng_len, enum_len] at inv1_2_
    have inv1_3_ := inv1_3; try simp only [List.length_cons, List.length_nil, rng_len, enum_len] at inv1_3_
    show tSs _ _ _ [some v_some_, some v_modulus, some v_whole, some v1_hits, some (.ref q_best), y1_5, y1_6, y1_7, y1_8, y1_9] _
    obtain ⟨G17, x0_17, sg17, r17_best⟩ := o16_best.frz x0_16 m_q_best
    refine b_cons (s_ret x0_17.s (ev_ixN none (j := (best_0).length - 1) (ev_v (sl_best_apart_best) r17_best) (Ev.to (y := (-1 : Int)) (ev_neg ev_int) (by decide)) (by walk_at "ixn")) fun G_ H_ v31 x30 _ r_ => ?_)
    exact fin.rt _ _ _ (x0_17.trans x30) (rep_of tk r_) (fun z => nomatch z)
end

abbrev N_need_few : List Str := ["some"]
theorem sc_need_few : FnScope N_need_few ["some"] (defScope s_need_few) := ⟨rfl, rfl, rfl, by decide +kernel, rfl, by decide +kernel, by decide +kernel⟩
theorem sl_need_few_some_ {P : Program} {w : World} {K : PySem.W.Frag} {mg : Str → Option Value} {base : Heap} {f : Addr} {cdv : Value} {A : Around} {outer : List Env} {s : Shared} {H : Hp} {E : XK} : Sl (cxOf (L2.CX P w) P w K mg base N_need_few "need_few" (defScope s_need_few) f cdv A outer s H E) 0 "some" := ⟨rfl, (by first | exact .inl rfl | exact .inr (.inl rfl)), nm_some_⟩
theorem gl_need_few_MOST_NUMBERS {P : Program} {w : World} {K : PySem.W.Frag} {mg : Str → Option Value} {base : Heap} {f : Addr} {cdv : Value} {A : Around} {outer : List Env} {s : Shared} {H : Hp} {E : XK} : Gl (cxOf (L2.CX P w) P w K mg base N_need_few "need_few" (defScope s_need_few) f cdv A outer s H E) "MOST_NUMBERS" := by rfl
theorem gl_need_few_len {P : Program} {w : World} {K : PySem.W.Frag} {mg : Str → Option Value} {base : Heap} {f : Addr} {cdv : Value} {A : Around} {outer : List Env} {s : Shared} {H : Hp} {E : XK} : Gl (cxOf (L2.CX P w) P w K mg base N_need_few "need_few" (defScope s_need_few) f cdv A outer s H E) "len" := by rfl
theorem cal_need_few {P : Program} {w : World} {K : PySem.W.Frag} {mg : Str → Option Value} {base : Heap} {f : Addr} {fd : FuncData} {c_RestError c_NoModulus c_NoCount c_NoPaper c_TooMany c_NoText c_NoForm c_NoneYet : Addr} (T : Txt K mg c_RestError c_NoModulus c_NoCount c_NoPaper c_TooMany c_NoText c_NoForm c_NoneYet) (F : Fun K "need_few" "need_few" s_need_few f fd) (hm : mg "need_few" = some (.ref f)) (hb : Binds K fd ["some"] [])  : Cal P w K mg base 1 "need_few" (Sp1 K false (fun (some_ : (List Int)) => some_.length ≤ 10) m_need_few) := by
  refine fn1 F hm hb sc_need_few rfl fun cdv A outer s H0 E hr G0 v_some_ some_ D s0 r_some_ hp fin => ?_
  have x0_0 : Ext G0 H0 G0 H0 := Ext.refl s0
  show tSs _ _ D [some v_some_] H0
  have tk : m_need_few some_ = _ := rfl
  refine b_cons (s_if x0_0.s (et_cmp c_gt (ev_len ⟨gl_need_few_len, T.b_len⟩ (ev_v (sl_need_few_some_) r_some_)) (ev_globI gl_need_few_MOST_NUMBERS T.v_MOST_NUMBERS)) (fun h1 G1 H1 x2 l1 => ?_) (fun h1 G1 H1 x2 l1 => ?_))
  · have tk := tk_tt tk h1
    have h1_ := h1; try simp only [Bool.and_eq_true, Bool.or_eq_true, Bool.and_eq_false_iff, Bool.or_eq_false_iff, Bool.not_eq_true', Bool.not_eq_false', decide_eq_true_eq, decide_eq_false_iff_not, Classical.not_not] at h1_
    have x0_1 := x0_0.trans x2
    show tSs _ _ _ [some v_some_] _
    exfalso
    walk_at "no"
  · have tk := tk_ff tk h1
    have h1_ := h1; try simp only [Bool.and_eq_true, Bool.or_eq_true, Bool.and_eq_false_iff, Bool.or_eq_false_iff, Bool.not_eq_true', Bool.not_eq_false', decide_eq_true_eq, decide_eq_false_iff_not, Classical.not_not] at h1_
    have x0_1 := x0_0.trans x2
    show tSs _ _ _ [some v_some_] _
    refine b_nil ?_
    show tSs _ _ _ [some v_some_] _
    refine b_nil ?_
    exact fin.nx _ _ _ x0_1 (rep_of tk rfl)

abbrev N_few_t : List Str := ["some"]
theorem sc_few_t : FnScope N_few_t ["some"] (defScope s_need_few) := ⟨rfl, rfl, rfl, by decide +kernel, rfl, by decide +kernel, by decide +kernel⟩
theorem sl_few_t_some_ {P : Program} {w : World} {K : PySem.W.Frag} {mg : Str → Option Value} {base : Heap} {f : Addr} {cdv : Value} {A : Around} {outer : List Env} {s : Shared} {H : Hp} {E : XK} : Sl (cxOf (L2.CX P w) P w K mg base N_few_t "need_few" (defScope s_need_few) f cdv A outer s H E) 0 "some" := ⟨rfl, (by first | exact .inl rfl | exact .inr (.inl rfl)), nm_some_⟩
theorem gl_few_t_MOST_NUMBERS {P : Program} {w : World} {K : PySem.W.Frag} {mg : Str → Option Value} {base : Heap} {f : Addr} {cdv : Value} {A : Around} {outer : List Env} {s : Shared} {H : Hp} {E : XK} : Gl (cxOf (L2.CX P w) P w K mg base N_few_t "need_few" (defScope s_need_few) f cdv A outer s H E) "MOST_NUMBERS" := by rfl
theorem gl_few_t_TooMany {P : Program} {w : World} {K : PySem.W.Frag} {mg : Str → Option Value} {base : Heap} {f : Addr} {cdv : Value} {A : Around} {outer : List Env} {s : Shared} {H : Hp} {E : XK} : Gl (cxOf (L2.CX P w) P w K mg base N_few_t "need_few" (defScope s_need_few) f cdv A outer s H E) "TooMany" := by rfl
theorem gl_few_t_len {P : Program} {w : World} {K : PySem.W.Frag} {mg : Str → Option Value} {base : Heap} {f : Addr} {cdv : Value} {A : Around} {outer : List Env} {s : Shared} {H : Hp} {E : XK} : Gl (cxOf (L2.CX P w) P w K mg base N_few_t "need_few" (defScope s_need_few) f cdv A outer s H E) "len" := by rfl
theorem cal_few_t {P : Program} {w : World} {K : PySem.W.Frag} {mg : Str → Option Value} {base : Heap} {f : Addr} {fd : FuncData} {c_RestError c_NoModulus c_NoCount c_NoPaper c_TooMany c_NoText c_NoForm c_NoneYet : Addr} (T : Txt K mg c_RestError c_NoModulus c_NoCount c_NoPaper c_TooMany c_NoText c_NoForm c_NoneYet) (F : Fun K "need_few" "need_few" s_need_few f fd) (hm : mg "need_few" = some (.ref f)) (hb : Binds K fd ["some"] [])  : Cal P w K mg base 1 "need_few" (SpR1 K (fun (some_ : (List Int)) => 10 < some_.length) c_TooMany) := by
  refine fnR1 F hm hb sc_few_t rfl fun cdv A outer s H0 E hr G0 v_some_ some_ D s0 r_some_ hp fin => ?_
  have x0_0 : Ext G0 H0 G0 H0 := Ext.refl s0
  show tSs _ _ D [some v_some_] H0
  have tkk := takes_of (X := cxOf (L2.CX P w) P w K mg base N_few_t "need_few" (defScope s_need_few) f cdv A outer s H0 E) (E := E) rfl rfl rfl rfl
  refine b_cons (s_if x0_0.s (et_cmp c_gt (ev_len ⟨gl_few_t_len, T.b_len⟩ (ev_v (sl_few_t_some_) r_some_)) (ev_globI gl_few_t_MOST_NUMBERS T.v_MOST_NUMBERS)) (fun h1 G1 H1 x2 l1 => ?_) (fun h1 G1 H1 x2 l1 => ?_))
  · skip
    have h1_ := h1; try simp only [Bool.and_eq_true, Bool.or_eq_true, Bool.and_eq_false_iff, Bool.or_eq_false_iff, Bool.not_eq_true', Bool.not_eq_false', decide_eq_true_eq, decide_eq_false_iff_not, Classical.not_not] at h1_
    have x0_1 := x0_0.trans x2
    show tSs _ _ _ [some v_some_] _
    refine b_cons (s_raise rfl tkk T.x_TooMany gl_few_t_TooMany ?_)
    exact fin _ _ x0_1
  · skip
    have h1_ := h1; try simp only [Bool.and_eq_true, Bool.or_eq_true, Bool.and_eq_false_iff, Bool.or_eq_false_iff, Bool.not_eq_true', Bool.not_eq_false', decide_eq_true_eq, decide_eq_false_iff_not, Classical.not_not] at h1_
    have x0_1 := x0_0.trans x2
    show tSs _ _ _ [some v_some_] _
    exfalso; walk_at "no"

abbrev N_mosta : List Str := ["row", "modulus", "some"]
theorem sc_mosta : FnScope N_mosta ["row", "modulus"] (defScope s_most_apart) := ⟨rfl, rfl, rfl, by decide +kernel, rfl, by decide +kernel, by decide +kernel⟩
theorem sl_mosta_modulus {P : Program} {w : World} {K : PySem.W.Frag} {mg : Str → Option Value} {base : Heap} {f : Addr} {cdv : Value} {A : Around} {outer : List Env} {s : Shared} {H : Hp} {E : XK} : Sl (cxOf (L2.CX P w) P w K mg base N_mosta "most_apart" (defScope s_most_apart) f cdv A outer s H E) 1 "modulus" := ⟨rfl, (by first | exact .inl rfl | exact .inr (.inl rfl)), nm_modulus⟩
theorem sl_mosta_row {P : Program} {w : World} {K : PySem.W.Frag} {mg : Str → Option Value} {base : Heap} {f : Addr} {cdv : Value} {A : Around} {outer : List Env} {s : Shared} {H : Hp} {E : XK} : Sl (cxOf (L2.CX P w) P w K mg base N_mosta "most_apart" (defScope s_most_apart) f cdv A outer s H E) 0 "row" := ⟨rfl, (by first | exact .inl rfl | exact .inr (.inl rfl)), nm_row⟩
theorem sl_mosta_some_ {P : Program} {w : World} {K : PySem.W.Frag} {mg : Str → Option Value} {base : Heap} {f : Addr} {cdv : Value} {A : Around} {outer : List Env} {s : Shared} {H : Hp} {E : XK} : Sl (cxOf (L2.CX P w) P w K mg base N_mosta "most_apart" (defScope s_most_apart) f cdv A outer s H E) 2 "some" := ⟨rfl, (by first | exact .inl rfl | exact .inr (.inl rfl)), nm_some_⟩
theorem ss_mosta_some_ {P : Program} {w : World} {K : PySem.W.Frag} {mg : Str → Option Value} {base : Heap} {f : Addr} {cdv : Value} {A : Around} {outer : List Env} {s : Shared} {H : Hp} {E : XK} : Ss (cxOf (L2.CX P w) P w K mg base N_mosta "most_apart" (defScope s_most_apart) f cdv A outer s H E) 2 "some" := ⟨rfl, (by first | exact .inl rfl | exact .inr rfl), .inl rfl⟩
theorem gl_mosta_best_apart {P : Program} {w : World} {K : PySem.W.Frag} {mg : Str → Option Value} {base : Heap} {f : Addr} {cdv : Value} {A : Around} {outer : List Env} {s : Shared} {H : Hp} {E : XK} : Gl (cxOf (L2.CX P w) P w K mg base N_mosta "most_apart" (defScope s_most_apart) f cdv A outer s H E) "best_apart" := by rfl
theorem gl_mosta_need_few {P : Program} {w : World} {K : PySem.W.Frag} {mg : Str → Option Value} {base : Heap} {f : Addr} {cdv : Value} {A : Around} {outer : List Env} {s : Shared} {H : Hp} {E : XK} : Gl (cxOf (L2.CX P w) P w K mg base N_mosta "most_apart" (defScope s_most_apart) f cdv A outer s H E) "need_few" := by rfl
theorem gl_mosta_rests {P : Program} {w : World} {K : PySem.W.Frag} {mg : Str → Option Value} {base : Heap} {f : Addr} {cdv : Value} {A : Around} {outer : List Env} {s : Shared} {H : Hp} {E : XK} : Gl (cxOf (L2.CX P w) P w K mg base N_mosta "most_apart" (defScope s_most_apart) f cdv A outer s H E) "rests" := by rfl
section
local macro_rules | `(tactic| walk_at "nn") => `(tactic| first | exact nn_app (by assumption) | fail)
theorem cal_mosta {P : Program} {w : World} {K : PySem.W.Frag} {mg : Str → Option Value} {base : Heap} {f : Addr} {fd : FuncData} {c_RestError c_NoModulus c_NoCount c_NoPaper c_TooMany c_NoText c_NoForm c_NoneYet : Addr} (T : Txt K mg c_RestError c_NoModulus c_NoCount c_NoPaper c_TooMany c_NoText c_NoForm c_NoneYet) (F : Fun K "most_apart" "most_apart" s_most_apart f fd) (hm : mg "most_apart" = some (.ref f)) (hb : Binds K fd ["row", "modulus"] []) (C_rests : Cal P w K mg base 2 "rests" (Sp2 K true (fun (row : (List Int)) (modulus : Int) => 1 ≤ modulus) m_rests)) (C_need_few : Cal P w K mg base 1 "need_few" (Sp1 K false (fun (some_ : (List Int)) => some_.length ≤ 10) m_need_few)) (C_best_apart : Cal P w K mg base 3 "best_apart" (Sp3 K false (fun (some_ : (List Int)) (modulus : Int) (whole : Bool) => 1 ≤ modulus ∧ some_.length ≤ 10) m_best_apart)) : Cal P w K mg base 4 "most_apart" (Sp2 K false (fun (row : (List Int)) (modulus : Int) => 1 ≤ modulus ∧ row.length ≤ 10) m_mosta) := by
  refine fn2 F hm hb sc_mosta rfl fun cdv A outer s H0 E hr G0 v_row v_modulus row modulus D s0 r_row r_modulus hp fin => ?_
  have x0_0 : Ext G0 H0 G0 H0 := Ext.refl s0
  show tSs _ _ D [some v_row, some v_modulus, none] H0
  have hpc := hp; obtain ⟨hp_0, hp_1⟩ := hpc
  have tk : m_mosta row modulus = _ := rfl
  have fc1 := post_rests row modulus (by walk_at "pre")
  refine b_cons (s_set sc_mosta.nd ss_mosta_some_ x0_0.s (ev_c2 C_rests (hr.mono (by decide)) gl_mosta_rests (ev_v (sl_mosta_row) r_row) (ev_v (sl_mosta_modulus) r_modulus) (by walk_at "pre")) fun G1 H1 v1_some_ x2 l1 r1_some_ => ?_)
  have x0_1 := x0_0.trans x2
  show tSs _ _ _ [some v_row, some v_modulus, some v1_some_] _
  obtain ⟨some_, e3⟩ : ∃ z, z = (m_rests row modulus) := ⟨_, rfl⟩
  rw [← e3] at r1_some_
  have tk : _ = m_mosta_1 modulus some_ := tk.trans (by first | (rw [e3] <;> rfl) | rfl)
  have p_e3 := post_rests row modulus (by walk_at "pre"); rw [← e3] at p_e3; (try simp only [rep_len, rep_len2] at p_e3)
  have g_e3 := congrArg List.length e3; try simp only [List.length_append, List.length_cons, List.length_nil, rng_len, List.length_map, List.length_reverse, psort_len, isort_len] at g_e3
  refine b_cons (s_expr x0_1.s (ev_c1 C_need_few (hr.mono (by decide)) gl_mosta_need_few (ev_v (sl_mosta_some_) r1_some_) (by walk_at "pre")) fun G2 H2 v5 x4 l2 _ => ?_)
  have x0_2 := x0_1.trans x4
  show tSs _ _ _ [some v_row, some v_modulus, some v1_some_] _
  refine b_cons (s_ret x0_2.s (ev_snd (ev_get ((0 : Int), []) (by have := post_best_apart some_ modulus false (by walk_at "pre"); walk_at "nn") (ev_c3 C_best_apart (hr.mono (by decide)) gl_mosta_best_apart (ev_v (sl_mosta_some_) (up x4.g r1_some_)) (ev_v (sl_mosta_modulus) (up (x2.g.trans x4.g) r_modulus)) ev_bl (by walk_at "pre"))) ev_int) fun G_ H_ v7 x6 _ r_ => ?_)
  exact fin.rt _ _ _ (x0_2.trans x6) (rep_of tk r_) (fun z => nomatch z)
end

abbrev N_mosta_r : List Str := ["row", "modulus", "some"]
theorem sc_mosta_r : FnScope N_mosta_r ["row", "modulus"] (defScope s_most_apart) := ⟨rfl, rfl, rfl, by decide +kernel, rfl, by decide +kernel, by decide +kernel⟩
theorem sl_mosta_r_modulus {P : Program} {w : World} {K : PySem.W.Frag} {mg : Str → Option Value} {base : Heap} {f : Addr} {cdv : Value} {A : Around} {outer : List Env} {s : Shared} {H : Hp} {E : XK} : Sl (cxOf (L2.CX P w) P w K mg base N_mosta_r "most_apart" (defScope s_most_apart) f cdv A outer s H E) 1 "modulus" := ⟨rfl, (by first | exact .inl rfl | exact .inr (.inl rfl)), nm_modulus⟩
theorem sl_mosta_r_row {P : Program} {w : World} {K : PySem.W.Frag} {mg : Str → Option Value} {base : Heap} {f : Addr} {cdv : Value} {A : Around} {outer : List Env} {s : Shared} {H : Hp} {E : XK} : Sl (cxOf (L2.CX P w) P w K mg base N_mosta_r "most_apart" (defScope s_most_apart) f cdv A outer s H E) 0 "row" := ⟨rfl, (by first | exact .inl rfl | exact .inr (.inl rfl)), nm_row⟩
theorem ss_mosta_r_some_ {P : Program} {w : World} {K : PySem.W.Frag} {mg : Str → Option Value} {base : Heap} {f : Addr} {cdv : Value} {A : Around} {outer : List Env} {s : Shared} {H : Hp} {E : XK} : Ss (cxOf (L2.CX P w) P w K mg base N_mosta_r "most_apart" (defScope s_most_apart) f cdv A outer s H E) 2 "some" := ⟨rfl, (by first | exact .inl rfl | exact .inr rfl), .inl rfl⟩
theorem gl_mosta_r_rests {P : Program} {w : World} {K : PySem.W.Frag} {mg : Str → Option Value} {base : Heap} {f : Addr} {cdv : Value} {A : Around} {outer : List Env} {s : Shared} {H : Hp} {E : XK} : Gl (cxOf (L2.CX P w) P w K mg base N_mosta_r "most_apart" (defScope s_most_apart) f cdv A outer s H E) "rests" := by rfl
theorem cal_mosta_r {P : Program} {w : World} {K : PySem.W.Frag} {mg : Str → Option Value} {base : Heap} {f : Addr} {fd : FuncData} {c_RestError c_NoModulus c_NoCount c_NoPaper c_TooMany c_NoText c_NoForm c_NoneYet : Addr} (T : Txt K mg c_RestError c_NoModulus c_NoCount c_NoPaper c_TooMany c_NoText c_NoForm c_NoneYet) (F : Fun K "most_apart" "most_apart" s_most_apart f fd) (hm : mg "most_apart" = some (.ref f)) (hb : Binds K fd ["row", "modulus"] []) (C_rests_r : Cal P w K mg base 2 "rests" (SpR2 K (fun (row : (List Int)) (modulus : Int) => modulus < 1) c_NoModulus)) : Cal P w K mg base 3 "most_apart" (SpR2 K (fun (row : (List Int)) (modulus : Int) => modulus < 1) c_NoModulus) := by
  refine fnR2 F hm hb sc_mosta_r rfl fun cdv A outer s H0 E hr G0 v_row v_modulus row modulus D s0 r_row r_modulus hp fin => ?_
  have x0_0 : Ext G0 H0 G0 H0 := Ext.refl s0
  show tSs _ _ D [some v_row, some v_modulus, none] H0
  have tkk := takes_of (X := cxOf (L2.CX P w) P w K mg base N_mosta_r "most_apart" (defScope s_most_apart) f cdv A outer s H0 E) (E := E) rfl rfl rfl rfl
  exact b_cons (s_setR sc_mosta_r.nd ss_mosta_r_some_ (evR_c2 C_rests_r (hr.mono (by decide)) gl_mosta_r_rests tkk x0_0.s (ev_v (sl_mosta_r_row) r_row) (ev_v (sl_mosta_r_modulus) r_modulus) (by walk_at "pre") fun _ _ x_ => fin _ _ (x0_0.trans x_)))

abbrev N_mosta_t : List Str := ["row", "modulus", "some"]
theorem sc_mosta_t : FnScope N_mosta_t ["row", "modulus"] (defScope s_most_apart) := ⟨rfl, rfl, rfl, by decide +kernel, rfl, by decide +kernel, by decide +kernel⟩
theorem sl_mosta_t_modulus {P : Program} {w : World} {K : PySem.W.Frag} {mg : Str → Option Value} {base : Heap} {f : Addr} {cdv : Value} {A : Around} {outer : List Env} {s : Shared} {H : Hp} {E : XK} : Sl (cxOf (L2.CX P w) P w K mg base N_mosta_t "most_apart" (defScope s_most_apart) f cdv A outer s H E) 1 "modulus" := ⟨rfl, (by first | exact .inl rfl | exact .inr (.inl rfl)), nm_modulus⟩
theorem sl_mosta_t_row {P : Program} {w : World} {K : PySem.W.Frag} {mg : Str → Option Value} {base : Heap} {f : Addr} {cdv : Value} {A : Around} {outer : List Env} {s : Shared} {H : Hp} {E : XK} : Sl (cxOf (L2.CX P w) P w K mg base N_mosta_t "most_apart" (defScope s_most_apart) f cdv A outer s H E) 0 "row" := ⟨rfl, (by first | exact .inl rfl | exact .inr (.inl rfl)), nm_row⟩
theorem sl_mosta_t_some_ {P : Program} {w : World} {K : PySem.W.Frag} {mg : Str → Option Value} {base : Heap} {f : Addr} {cdv : Value} {A : Around} {outer : List Env} {s : Shared} {H : Hp} {E : XK} : Sl (cxOf (L2.CX P w) P w K mg base N_mosta_t "most_apart" (defScope s_most_apart) f cdv A outer s H E) 2 "some" := ⟨rfl, (by first | exact .inl rfl | exact .inr (.inl rfl)), nm_some_⟩
theorem ss_mosta_t_some_ {P : Program} {w : World} {K : PySem.W.Frag} {mg : Str → Option Value} {base : Heap} {f : Addr} {cdv : Value} {A : Around} {outer : List Env} {s : Shared} {H : Hp} {E : XK} : Ss (cxOf (L2.CX P w) P w K mg base N_mosta_t "most_apart" (defScope s_most_apart) f cdv A outer s H E) 2 "some" := ⟨rfl, (by first | exact .inl rfl | exact .inr rfl), .inl rfl⟩
theorem gl_mosta_t_need_few {P : Program} {w : World} {K : PySem.W.Frag} {mg : Str → Option Value} {base : Heap} {f : Addr} {cdv : Value} {A : Around} {outer : List Env} {s : Shared} {H : Hp} {E : XK} : Gl (cxOf (L2.CX P w) P w K mg base N_mosta_t "most_apart" (defScope s_most_apart) f cdv A outer s H E) "need_few" := by rfl
theorem gl_mosta_t_rests {P : Program} {w : World} {K : PySem.W.Frag} {mg : Str → Option Value} {base : Heap} {f : Addr} {cdv : Value} {A : Around} {outer : List Env} {s : Shared} {H : Hp} {E : XK} : Gl (cxOf (L2.CX P w) P w K mg base N_mosta_t "most_apart" (defScope s_most_apart) f cdv A outer s H E) "rests" := by rfl
theorem cal_mosta_t {P : Program} {w : World} {K : PySem.W.Frag} {mg : Str → Option Value} {base : Heap} {f : Addr} {fd : FuncData} {c_RestError c_NoModulus c_NoCount c_NoPaper c_TooMany c_NoText c_NoForm c_NoneYet : Addr} (T : Txt K mg c_RestError c_NoModulus c_NoCount c_NoPaper c_TooMany c_NoText c_NoForm c_NoneYet) (F : Fun K "most_apart" "most_apart" s_most_apart f fd) (hm : mg "most_apart" = some (.ref f)) (hb : Binds K fd ["row", "modulus"] []) (C_rests : Cal P w K mg base 2 "rests" (Sp2 K true (fun (row : (List Int)) (modulus : Int) => 1 ≤ modulus) m_rests)) (C_few_t : Cal P w K mg base 1 "need_few" (SpR1 K (fun (some_ : (List Int)) => 10 < some_.length) c_TooMany)) : Cal P w K mg base 3 "most_apart" (SpR2 K (fun (row : (List Int)) (modulus : Int) => 1 ≤ modulus ∧ 10 < row.length) c_TooMany) := by
  refine fnR2 F hm hb sc_mosta_t rfl fun cdv A outer s H0 E hr G0 v_row v_modulus row modulus D s0 r_row r_modulus hp fin => ?_
  have x0_0 : Ext G0 H0 G0 H0 := Ext.refl s0
  show tSs _ _ D [some v_row, some v_modulus, none] H0
  have hpc := hp; obtain ⟨hp_0, hp_1⟩ := hpc
  have tkk := takes_of (X := cxOf (L2.CX P w) P w K mg base N_mosta_t "most_apart" (defScope s_most_apart) f cdv A outer s H0 E) (E := E) rfl rfl rfl rfl
  have fc1 := post_rests row modulus (by walk_at "pre")
  refine b_cons (s_set sc_mosta_t.nd ss_mosta_t_some_ x0_0.s (ev_c2 C_rests (hr.mono (by decide)) gl_mosta_t_rests (ev_v (sl_mosta_t_row) r_row) (ev_v (sl_mosta_t_modulus) r_modulus) (by walk_at "pre")) fun G1 H1 v1_some_ x2 l1 r1_some_ => ?_)
  have x0_1 := x0_0.trans x2
  show tSs _ _ _ [some v_row, some v_modulus, some v1_some_] _
  obtain ⟨some_, e3⟩ : ∃ z, z = (m_rests row modulus) := ⟨_, rfl⟩
  rw [← e3] at r1_some_
  skip
  have p_e3 := post_rests row modulus (by walk_at "pre"); rw [← e3] at p_e3; (try simp only [rep_len, rep_len2] at p_e3)
  have g_e3 := congrArg List.length e3; try simp only [List.length_append, List.length_cons, List.length_nil, rng_len, List.length_map, List.length_reverse, psort_len, isort_len] at g_e3
  exact b_cons (s_exprR (evR_c1 C_few_t (hr.mono (by decide)) gl_mosta_t_need_few tkk x0_1.s (ev_v (sl_mosta_t_some_) r1_some_) (by walk_at "pre") fun _ _ x_ => fin _ _ (x0_1.trans x_)))

abbrev N_parted_o : List Str := ["row", "modulus", "some", "found"]
theorem sc_parted_o : FnScope N_parted_o ["row", "modulus"] (defScope s_parted) := ⟨rfl, rfl, rfl, by decide +kernel, rfl, by decide +kernel, by decide +kernel⟩
theorem sl_parted_o_found {P : Program} {w : World} {K : PySem.W.Frag} {mg : Str → Option Value} {base : Heap} {f : Addr} {cdv : Value} {A : Around} {outer : List Env} {s : Shared} {H : Hp} {E : XK} : Sl (cxOf (L2.CX P w) P w K mg base N_parted_o "parted" (defScope s_parted) f cdv A outer s H E) 3 "found" := ⟨rfl, (by first | exact .inl rfl | exact .inr (.inl rfl)), nm_found⟩
theorem sl_parted_o_modulus {P : Program} {w : World} {K : PySem.W.Frag} {mg : Str → Option Value} {base : Heap} {f : Addr} {cdv : Value} {A : Around} {outer : List Env} {s : Shared} {H : Hp} {E : XK} : Sl (cxOf (L2.CX P w) P w K mg base N_parted_o "parted" (defScope s_parted) f cdv A outer s H E) 1 "modulus" := ⟨rfl, (by first | exact .inl rfl | exact .inr (.inl rfl)), nm_modulus⟩
theorem sl_parted_o_row {P : Program} {w : World} {K : PySem.W.Frag} {mg : Str → Option Value} {base : Heap} {f : Addr} {cdv : Value} {A : Around} {outer : List Env} {s : Shared} {H : Hp} {E : XK} : Sl (cxOf (L2.CX P w) P w K mg base N_parted_o "parted" (defScope s_parted) f cdv A outer s H E) 0 "row" := ⟨rfl, (by first | exact .inl rfl | exact .inr (.inl rfl)), nm_row⟩
theorem sl_parted_o_some_ {P : Program} {w : World} {K : PySem.W.Frag} {mg : Str → Option Value} {base : Heap} {f : Addr} {cdv : Value} {A : Around} {outer : List Env} {s : Shared} {H : Hp} {E : XK} : Sl (cxOf (L2.CX P w) P w K mg base N_parted_o "parted" (defScope s_parted) f cdv A outer s H E) 2 "some" := ⟨rfl, (by first | exact .inl rfl | exact .inr (.inl rfl)), nm_some_⟩
theorem ss_parted_o_some_ {P : Program} {w : World} {K : PySem.W.Frag} {mg : Str → Option Value} {base : Heap} {f : Addr} {cdv : Value} {A : Around} {outer : List Env} {s : Shared} {H : Hp} {E : XK} : Ss (cxOf (L2.CX P w) P w K mg base N_parted_o "parted" (defScope s_parted) f cdv A outer s H E) 2 "some" := ⟨rfl, (by first | exact .inl rfl | exact .inr rfl), .inl rfl⟩
theorem ss_parted_o_found {P : Program} {w : World} {K : PySem.W.Frag} {mg : Str → Option Value} {base : Heap} {f : Addr} {cdv : Value} {A : Around} {outer : List Env} {s : Shared} {H : Hp} {E : XK} : Ss (cxOf (L2.CX P w) P w K mg base N_parted_o "parted" (defScope s_parted) f cdv A outer s H E) 3 "found" := ⟨rfl, (by first | exact .inl rfl | exact .inr rfl), .inl rfl⟩
theorem gl_parted_o_best_apart {P : Program} {w : World} {K : PySem.W.Frag} {mg : Str → Option Value} {base : Heap} {f : Addr} {cdv : Value} {A : Around} {outer : List Env} {s : Shared} {H : Hp} {E : XK} : Gl (cxOf (L2.CX P w) P w K mg base N_parted_o "parted" (defScope s_parted) f cdv A outer s H E) "best_apart" := by rfl
theorem gl_parted_o_need_few {P : Program} {w : World} {K : PySem.W.Frag} {mg : Str → Option Value} {base : Heap} {f : Addr} {cdv : Value} {A : Around} {outer : List Env} {s : Shared} {H : Hp} {E : XK} : Gl (cxOf (L2.CX P w) P w K mg base N_parted_o "parted" (defScope s_parted) f cdv A outer s H E) "need_few" := by rfl
theorem gl_parted_o_rests {P : Program} {w : World} {K : PySem.W.Frag} {mg : Str → Option Value} {base : Heap} {f : Addr} {cdv : Value} {A : Around} {outer : List Env} {s : Shared} {H : Hp} {E : XK} : Gl (cxOf (L2.CX P w) P w K mg base N_parted_o "parted" (defScope s_parted) f cdv A outer s H E) "rests" := by rfl
theorem cal_parted_o {P : Program} {w : World} {K : PySem.W.Frag} {mg : Str → Option Value} {base : Heap} {f : Addr} {fd : FuncData} {c_RestError c_NoModulus c_NoCount c_NoPaper c_TooMany c_NoText c_NoForm c_NoneYet : Addr} (T : Txt K mg c_RestError c_NoModulus c_NoCount c_NoPaper c_TooMany c_NoText c_NoForm c_NoneYet) (F : Fun K "parted" "parted" s_parted f fd) (hm : mg "parted" = some (.ref f)) (hb : Binds K fd ["row", "modulus"] []) (C_rests : Cal P w K mg base 2 "rests" (Sp2 K true (fun (row : (List Int)) (modulus : Int) => 1 ≤ modulus) m_rests)) (C_need_few : Cal P w K mg base 1 "need_few" (Sp1 K false (fun (some_ : (List Int)) => some_.length ≤ 10) m_need_few)) (C_best_apart : Cal P w K mg base 3 "best_apart" (Sp3 K false (fun (some_ : (List Int)) (modulus : Int) (whole : Bool) => 1 ≤ modulus ∧ some_.length ≤ 10) m_best_apart)) : Cal P w K mg base 4 "parted" (Sp2 K false (fun (row : (List Int)) (modulus : Int) => 1 ≤ modulus ∧ row.length ≤ 10) m_parted_o) := by
  refine fn2 F hm hb sc_parted_o rfl fun cdv A outer s H0 E hr G0 v_row v_modulus row modulus D s0 r_row r_modulus hp fin => ?_
  have x0_0 : Ext G0 H0 G0 H0 := Ext.refl s0
  show tSs _ _ D [some v_row, some v_modulus, none, none] H0
  have hpc := hp; obtain ⟨hp_0, hp_1⟩ := hpc
  have tk : m_parted_o row modulus = _ := rfl
  have fc1 := post_rests row modulus (by walk_at "pre")
  refine b_cons (s_set sc_parted_o.nd ss_parted_o_some_ x0_0.s (ev_c2 C_rests (hr.mono (by decide)) gl_parted_o_rests (ev_v (sl_parted_o_row) r_row) (ev_v (sl_parted_o_modulus) r_modulus) (by walk_at "pre")) fun G1 H1 v1_some_ x2 l1 r1_some_ => ?_)
  have x0_1 := x0_0.trans x2
  show tSs _ _ _ [some v_row, some v_modulus, some v1_some_, none] _
  obtain ⟨some_, e3⟩ : ∃ z, z = (m_rests row modulus) := ⟨_, rfl⟩
  rw [← e3] at r1_some_
  have tk : _ = m_parted_o_1 modulus some_ := tk.trans (by first | (rw [e3] <;> rfl) | rfl)
  have p_e3 := post_rests row modulus (by walk_at "pre"); rw [← e3] at p_e3; (try simp only [rep_len, rep_len2] at p_e3)
  have g_e3 := congrArg List.length e3; try simp only [List.length_append, List.length_cons, List.length_nil, rng_len, List.length_map, List.length_reverse, psort_len, isort_len] at g_e3
  refine b_cons (s_expr x0_1.s (ev_c1 C_need_few (hr.mono (by decide)) gl_parted_o_need_few (ev_v (sl_parted_o_some_) r1_some_) (by walk_at "pre")) fun G2 H2 v5 x4 l2 _ => ?_)
  have x0_2 := x0_1.trans x4
  show tSs _ _ _ [some v_row, some v_modulus, some v1_some_, none] _
  have fc6 := post_best_apart some_ modulus true (by walk_at "pre")
  refine b_cons (s_set sc_parted_o.nd ss_parted_o_found x0_2.s (ev_c3 C_best_apart (hr.mono (by decide)) gl_parted_o_best_apart (ev_v (sl_parted_o_some_) (up x4.g r1_some_)) (ev_v (sl_parted_o_modulus) (up (x2.g.trans x4.g) r_modulus)) ev_bl (by walk_at "pre")) fun G3 H3 v3_found x7 l3 r3_found => ?_)
  have x0_3 := x0_2.trans x7
  show tSs _ _ _ [some v_row, some v_modulus, some v1_some_, some v3_found] _
  obtain ⟨found, e8⟩ : ∃ z, z = (m_best_apart some_ modulus true) := ⟨_, rfl⟩
  rw [← e8] at r3_found
  have tk : _ = m_parted_o_2 found := tk.trans (by first | (rw [e8] <;> rfl) | rfl)
  have p_e8 := post_best_apart some_ modulus true (by walk_at "pre"); rw [← e8] at p_e8; (try simp only [rep_len, rep_len2] at p_e8)
  refine b_cons (s_ret x0_3.s (ev_if (et_cmp c_isN (ev_v (sl_parted_o_found) r3_found) ev_unit) (fun c9 => (ev_none (α := (List (List Int))))) (fun c9 => (ev_some (ev_snd (ev_v (sl_parted_o_found) (rep_get (x := found) ((0 : Int), []) (by walk_at "nn") r3_found)) ev_int)))) fun G_ H_ v11 x10 _ r_ => ?_)
  exact fin.rt _ _ _ (x0_3.trans x10) (rep_of tk r_) (fun z => nomatch z)

abbrev N_parted_r : List Str := ["row", "modulus", "some", "found"]
theorem sc_parted_r : FnScope N_parted_r ["row", "modulus"] (defScope s_parted) := ⟨rfl, rfl, rfl, by decide +kernel, rfl, by decide +kernel, by decide +kernel⟩
theorem sl_parted_r_modulus {P : Program} {w : World} {K : PySem.W.Frag} {mg : Str → Option Value} {base : Heap} {f : Addr} {cdv : Value} {A : Around} {outer : List Env} {s : Shared} {H : Hp} {E : XK} : Sl (cxOf (L2.CX P w) P w K mg base N_parted_r "parted" (defScope s_parted) f cdv A outer s H E) 1 "modulus" := ⟨rfl, (by first | exact .inl rfl | exact .inr (.inl rfl)), nm_modulus⟩
theorem sl_parted_r_row {P : Program} {w : World} {K : PySem.W.Frag} {mg : Str → Option Value} {base : Heap} {f : Addr} {cdv : Value} {A : Around} {outer : List Env} {s : Shared} {H : Hp} {E : XK} : Sl (cxOf (L2.CX P w) P w K mg base N_parted_r "parted" (defScope s_parted) f cdv A outer s H E) 0 "row" := ⟨rfl, (by first | exact .inl rfl | exact .inr (.inl rfl)), nm_row⟩
theorem ss_parted_r_some_ {P : Program} {w : World} {K : PySem.W.Frag} {mg : Str → Option Value} {base : Heap} {f : Addr} {cdv : Value} {A : Around} {outer : List Env} {s : Shared} {H : Hp} {E : XK} : Ss (cxOf (L2.CX P w) P w K mg base N_parted_r "parted" (defScope s_parted) f cdv A outer s H E) 2 "some" := ⟨rfl, (by first | exact .inl rfl | exact .inr rfl), .inl rfl⟩
theorem gl_parted_r_rests {P : Program} {w : World} {K : PySem.W.Frag} {mg : Str → Option Value} {base : Heap} {f : Addr} {cdv : Value} {A : Around} {outer : List Env} {s : Shared} {H : Hp} {E : XK} : Gl (cxOf (L2.CX P w) P w K mg base N_parted_r "parted" (defScope s_parted) f cdv A outer s H E) "rests" := by rfl
theorem cal_parted_r {P : Program} {w : World} {K : PySem.W.Frag} {mg : Str → Option Value} {base : Heap} {f : Addr} {fd : FuncData} {c_RestError c_NoModulus c_NoCount c_NoPaper c_TooMany c_NoText c_NoForm c_NoneYet : Addr} (T : Txt K mg c_RestError c_NoModulus c_NoCount c_NoPaper c_TooMany c_NoText c_NoForm c_NoneYet) (F : Fun K "parted" "parted" s_parted f fd) (hm : mg "parted" = some (.ref f)) (hb : Binds K fd ["row", "modulus"] []) (C_rests_r : Cal P w K mg base 2 "rests" (SpR2 K (fun (row : (List Int)) (modulus : Int) => modulus < 1) c_NoModulus)) : Cal P w K mg base 3 "parted" (SpR2 K (fun (row : (List Int)) (modulus : Int) => modulus < 1) c_NoModulus) := by
  refine fnR2 F hm hb sc_parted_r rfl fun cdv A outer s H0 E hr G0 v_row v_modulus row modulus D s0 r_row r_modulus hp fin => ?_
  have x0_0 : Ext G0 H0 G0 H0 := Ext.refl s0
  show tSs _ _ D [some v_row, some v_modulus, none, none] H0
  have tkk := takes_of (X := cxOf (L2.CX P w) P w K mg base N_parted_r "parted" (defScope s_parted) f cdv A outer s H0 E) (E := E) rfl rfl rfl rfl
  exact b_cons (s_setR sc_parted_r.nd ss_parted_r_some_ (evR_c2 C_rests_r (hr.mono (by decide)) gl_parted_r_rests tkk x0_0.s (ev_v (sl_parted_r_row) r_row) (ev_v (sl_parted_r_modulus) r_modulus) (by walk_at "pre") fun _ _ x_ => fin _ _ (x0_0.trans x_)))

abbrev N_parted_t : List Str := ["row", "modulus", "some", "found"]
theorem sc_parted_t : FnScope N_parted_t ["row", "modulus"] (defScope s_parted) := ⟨rfl, rfl, rfl, by decide +kernel, rfl, by decide +kernel, by decide +kernel⟩
theorem sl_parted_t_modulus {P : Program} {w : World} {K : PySem.W.Frag} {mg : Str → Option Value} {base : Heap} {f : Addr} {cdv : Value} {A : Around} {outer : List Env} {s : Shared} {H : Hp} {E : XK} : Sl (cxOf (L2.CX P w) P w K mg base N_parted_t "parted" (defScope s_parted) f cdv A outer s H E) 1 "modulus" := ⟨rfl, (by first | exact .inl rfl | exact .inr (.inl rfl)), nm_modulus⟩
theorem sl_parted_t_row {P : Program} {w : World} {K : PySem.W.Frag} {mg : Str → Option Value} {base : Heap} {f : Addr} {cdv : Value} {A : Around} {outer : List Env} {s : Shared} {H : Hp} {E : XK} : Sl (cxOf (L2.CX P w) P w K mg base N_parted_t "parted" (defScope s_parted) f cdv A outer s H E) 0 "row" := ⟨rfl, (by first | exact .inl rfl | exact .inr (.inl rfl)), nm_row⟩
theorem sl_parted_t_some_ {P : Program} {w : World} {K : PySem.W.Frag} {mg : Str → Option Value} {base : Heap} {f : Addr} {cdv : Value} {A : Around} {outer : List Env} {s : Shared} {H : Hp} {E : XK} : Sl (cxOf (L2.CX P w) P w K mg base N_parted_t "parted" (defScope s_parted) f cdv A outer s H E) 2 "some" := ⟨rfl, (by first | exact .inl rfl | exact .inr (.inl rfl)), nm_some_⟩
theorem ss_parted_t_some_ {P : Program} {w : World} {K : PySem.W.Frag} {mg : Str → Option Value} {base : Heap} {f : Addr} {cdv : Value} {A : Around} {outer : List Env} {s : Shared} {H : Hp} {E : XK} : Ss (cxOf (L2.CX P w) P w K mg base N_parted_t "parted" (defScope s_parted) f cdv A outer s H E) 2 "some" := ⟨rfl, (by first | exact .inl rfl | exact .inr rfl), .inl rfl⟩
theorem gl_parted_t_need_few {P : Program} {w : World} {K : PySem.W.Frag} {mg : Str → Option Value} {base : Heap} {f : Addr} {cdv : Value} {A : Around} {outer : List Env} {s : Shared} {H : Hp} {E : XK} : Gl (cxOf (L2.CX P w) P w K mg base N_parted_t "parted" (defScope s_parted) f cdv A outer s H E) "need_few" := by rfl
theorem gl_parted_t_rests {P : Program} {w : World} {K : PySem.W.Frag} {mg : Str → Option Value} {base : Heap} {f : Addr} {cdv : Value} {A : Around} {outer : List Env} {s : Shared} {H : Hp} {E : XK} : Gl (cxOf (L2.CX P w) P w K mg base N_parted_t "parted" (defScope s_parted) f cdv A outer s H E) "rests" := by rfl
theorem cal_parted_t {P : Program} {w : World} {K : PySem.W.Frag} {mg : Str → Option Value} {base : Heap} {f : Addr} {fd : FuncData} {c_RestError c_NoModulus c_NoCount c_NoPaper c_TooMany c_NoText c_NoForm c_NoneYet : Addr} (T : Txt K mg c_RestError c_NoModulus c_NoCount c_NoPaper c_TooMany c_NoText c_NoForm c_NoneYet) (F : Fun K "parted" "parted" s_parted f fd) (hm : mg "parted" = some (.ref f)) (hb : Binds K fd ["row", "modulus"] []) (C_rests : Cal P w K mg base 2 "rests" (Sp2 K true (fun (row : (List Int)) (modulus : Int) => 1 ≤ modulus) m_rests)) (C_few_t : Cal P w K mg base 1 "need_few" (SpR1 K (fun (some_ : (List Int)) => 10 < some_.length) c_TooMany)) : Cal P w K mg base 3 "parted" (SpR2 K (fun (row : (List Int)) (modulus : Int) => 1 ≤ modulus ∧ 10 < row.length) c_TooMany) := by
  refine fnR2 F hm hb sc_parted_t rfl fun cdv A outer s H0 E hr G0 v_row v_modulus row modulus D s0 r_row r_modulus hp fin => ?_
  have x0_0 : Ext G0 H0 G0 H0 := Ext.refl s0
  show tSs _ _ D [some v_row, some v_modulus, none, none] H0
  have hpc := hp; obtain ⟨hp_0, hp_1⟩ := hpc
  have tkk := takes_of (X := cxOf (L2.CX P w) P w K mg base N_parted_t "parted" (defScope s_parted) f cdv A outer s H0 E) (E := E) rfl rfl rfl rfl
  have fc1 := post_rests row modulus (by walk_at "pre")
  refine b_cons (s_set sc_parted_t.nd ss_parted_t_some_ x0_0.s (ev_c2 C_rests (hr.mono (by decide)) gl_parted_t_rests (ev_v (sl_parted_t_row) r_row) (ev_v (sl_parted_t_modulus) r_modulus) (by walk_at "pre")) fun G1 H1 v1_some_ x2 l1 r1_some_ => ?_)
  have x0_1 := x0_0.trans x2
  show tSs _ _ _ [some v_row, some v_modulus, some v1_some_, none] _
  obtain ⟨some_, e3⟩ : ∃ z, z = (m_rests row modulus) := ⟨_, rfl⟩
  rw [← e3] at r1_some_
  skip
  have p_e3 := post_rests row modulus (by walk_at "pre"); rw [← e3] at p_e3; (try simp only [rep_len, rep_len2] at p_e3)
  have g_e3 := congrArg List.length e3; try simp only [List.length_append, List.length_cons, List.length_nil, rng_len, List.length_map, List.length_reverse, psort_len, isort_len] at g_e3
  exact b_cons (s_exprR (evR_c1 C_few_t (hr.mono (by decide)) gl_parted_t_need_few tkk x0_1.s (ev_v (sl_parted_t_some_) r1_some_) (by walk_at "pre") fun _ _ x_ => fin _ _ (x0_1.trans x_)))

abbrev N_lfor : List Str := ["modulus", "many"]
theorem sc_lfor : FnScope N_lfor ["modulus", "many"] (defScope s_least_for) := ⟨rfl, rfl, rfl, by decide +kernel, rfl, by decide +kernel, by decide +kernel⟩
theorem sl_lfor_many {P : Program} {w : World} {K : PySem.W.Frag} {mg : Str → Option Value} {base : Heap} {f : Addr} {cdv : Value} {A : Around} {outer : List Env} {s : Shared} {H : Hp} {E : XK} : Sl (cxOf (L2.CX P w) P w K mg base N_lfor "least_for" (defScope s_least_for) f cdv A outer s H E) 1 "many" := ⟨rfl, (by first | exact .inl rfl | exact .inr (.inl rfl)), nm_many⟩
theorem sl_lfor_modulus {P : Program} {w : World} {K : PySem.W.Frag} {mg : Str → Option Value} {base : Heap} {f : Addr} {cdv : Value} {A : Around} {outer : List Env} {s : Shared} {H : Hp} {E : XK} : Sl (cxOf (L2.CX P w) P w K mg base N_lfor "least_for" (defScope s_least_for) f cdv A outer s H E) 0 "modulus" := ⟨rfl, (by first | exact .inl rfl | exact .inr (.inl rfl)), nm_modulus⟩
theorem gl_lfor_need_count {P : Program} {w : World} {K : PySem.W.Frag} {mg : Str → Option Value} {base : Heap} {f : Addr} {cdv : Value} {A : Around} {outer : List Env} {s : Shared} {H : Hp} {E : XK} : Gl (cxOf (L2.CX P w) P w K mg base N_lfor "least_for" (defScope s_least_for) f cdv A outer s H E) "need_count" := by rfl
theorem gl_lfor_rests {P : Program} {w : World} {K : PySem.W.Frag} {mg : Str → Option Value} {base : Heap} {f : Addr} {cdv : Value} {A : Around} {outer : List Env} {s : Shared} {H : Hp} {E : XK} : Gl (cxOf (L2.CX P w) P w K mg base N_lfor "least_for" (defScope s_least_for) f cdv A outer s H E) "rests" := by rfl
theorem cal_lfor {P : Program} {w : World} {K : PySem.W.Frag} {mg : Str → Option Value} {base : Heap} {f : Addr} {fd : FuncData} {c_RestError c_NoModulus c_NoCount c_NoPaper c_TooMany c_NoText c_NoForm c_NoneYet : Addr} (T : Txt K mg c_RestError c_NoModulus c_NoCount c_NoPaper c_TooMany c_NoText c_NoForm c_NoneYet) (F : Fun K "least_for" "least_for" s_least_for f fd) (hm : mg "least_for" = some (.ref f)) (hb : Binds K fd ["modulus", "many"] []) (C_rests : Cal P w K mg base 2 "rests" (Sp2 K true (fun (row : (List Int)) (modulus : Int) => 1 ≤ modulus) m_rests)) (C_need_count : Cal P w K mg base 1 "need_count" (Sp2 K false (fun (many : Int) (least : Int) => least ≤ many) m_need_count)) : Cal P w K mg base 3 "least_for" (Sp2 K false (fun (modulus : Int) (many : Int) => 1 ≤ modulus ∧ modulus ≤ 60 ∧ 0 ≤ many) m_lfor) := by
  refine fn2 F hm hb sc_lfor rfl fun cdv A outer s H0 E hr G0 v_modulus v_many modulus many D s0 r_modulus r_many hp fin => ?_
  have x0_0 : Ext G0 H0 G0 H0 := Ext.refl s0
  show tSs _ _ D [some v_modulus, some v_many] H0
  have hpc := hp; obtain ⟨hp_0, hp_1, hp_2⟩ := hpc
  have tk : m_lfor modulus many = _ := rfl
  refine b_cons (s_expr x0_0.s (ev_c2 C_rests (hr.mono (by decide)) gl_lfor_rests (ev_list (es_nil (α := Int))) (ev_v (sl_lfor_modulus) r_modulus) (by walk_at "pre")) fun G1 H1 v2 x1 l1 _ => ?_)
  have x0_1 := x0_0.trans x1
  show tSs _ _ _ [some v_modulus, some v_many] _
  refine b_cons (s_expr x0_1.s (ev_c2 C_need_count (hr.mono (by decide)) gl_lfor_need_count (ev_v (sl_lfor_many) (up x1.g r_many)) ev_int (by walk_at "pre")) fun G2 H2 v4 x3 l2 _ => ?_)
  have x0_2 := x0_1.trans x3
  show tSs _ _ _ [some v_modulus, some v_many] _
  refine b_cons (s_ret x0_2.s (ev_bin (b_mul (by walk_at "mu")) (ev_v (sl_lfor_many) (up (x1.g.trans x3.g) r_many)) (ev_v (sl_lfor_modulus) (up (x1.g.trans x3.g) r_modulus))) fun G_ H_ v6 x5 _ r_ => ?_)
  exact fin.rt _ _ _ (x0_2.trans x5) (rep_of tk r_) (fun z => nomatch z)

abbrev N_lfor_r : List Str := ["modulus", "many"]
theorem sc_lfor_r : FnScope N_lfor_r ["modulus", "many"] (defScope s_least_for) := ⟨rfl, rfl, rfl, by decide +kernel, rfl, by decide +kernel, by decide +kernel⟩
theorem sl_lfor_r_modulus {P : Program} {w : World} {K : PySem.W.Frag} {mg : Str → Option Value} {base : Heap} {f : Addr} {cdv : Value} {A : Around} {outer : List Env} {s : Shared} {H : Hp} {E : XK} : Sl (cxOf (L2.CX P w) P w K mg base N_lfor_r "least_for" (defScope s_least_for) f cdv A outer s H E) 0 "modulus" := ⟨rfl, (by first | exact .inl rfl | exact .inr (.inl rfl)), nm_modulus⟩
theorem gl_lfor_r_rests {P : Program} {w : World} {K : PySem.W.Frag} {mg : Str → Option Value} {base : Heap} {f : Addr} {cdv : Value} {A : Around} {outer : List Env} {s : Shared} {H : Hp} {E : XK} : Gl (cxOf (L2.CX P w) P w K mg base N_lfor_r "least_for" (defScope s_least_for) f cdv A outer s H E) "rests" := by rfl
theorem cal_lfor_r {P : Program} {w : World} {K : PySem.W.Frag} {mg : Str → Option Value} {base : Heap} {f : Addr} {fd : FuncData} {c_RestError c_NoModulus c_NoCount c_NoPaper c_TooMany c_NoText c_NoForm c_NoneYet : Addr} (T : Txt K mg c_RestError c_NoModulus c_NoCount c_NoPaper c_TooMany c_NoText c_NoForm c_NoneYet) (F : Fun K "least_for" "least_for" s_least_for f fd) (hm : mg "least_for" = some (.ref f)) (hb : Binds K fd ["modulus", "many"] []) (C_rests_r : Cal P w K mg base 2 "rests" (SpR2 K (fun (row : (List Int)) (modulus : Int) => modulus < 1) c_NoModulus)) : Cal P w K mg base 3 "least_for" (SpR2 K (fun (modulus : Int) (many : Int) => modulus < 1) c_NoModulus) := by
  refine fnR2 F hm hb sc_lfor_r rfl fun cdv A outer s H0 E hr G0 v_modulus v_many modulus many D s0 r_modulus r_many hp fin => ?_
  have x0_0 : Ext G0 H0 G0 H0 := Ext.refl s0
  show tSs _ _ D [some v_modulus, some v_many] H0
  have tkk := takes_of (X := cxOf (L2.CX P w) P w K mg base N_lfor_r "least_for" (defScope s_least_for) f cdv A outer s H0 E) (E := E) rfl rfl rfl rfl
  exact b_cons (s_exprR (evR_c2 C_rests_r (hr.mono (by decide)) gl_lfor_r_rests tkk x0_0.s (ev_list (es_nil (α := Int))) (ev_v (sl_lfor_r_modulus) r_modulus) (by walk_at "pre") fun _ _ x_ => fin _ _ (x0_0.trans x_)))

abbrev N_lfor_c : List Str := ["modulus", "many"]
theorem sc_lfor_c : FnScope N_lfor_c ["modulus", "many"] (defScope s_least_for) := ⟨rfl, rfl, rfl, by decide +kernel, rfl, by decide +kernel, by decide +kernel⟩
theorem sl_lfor_c_many {P : Program} {w : World} {K : PySem.W.Frag} {mg : Str → Option Value} {base : Heap} {f : Addr} {cdv : Value} {A : Around} {outer : List Env} {s : Shared} {H : Hp} {E : XK} : Sl (cxOf (L2.CX P w) P w K mg base N_lfor_c "least_for" (defScope s_least_for) f cdv A outer s H E) 1 "many" := ⟨rfl, (by first | exact .inl rfl | exact .inr (.inl rfl)), nm_many⟩
theorem sl_lfor_c_modulus {P : Program} {w : World} {K : PySem.W.Frag} {mg : Str → Option Value} {base : Heap} {f : Addr} {cdv : Value} {A : Around} {outer : List Env} {s : Shared} {H : Hp} {E : XK} : Sl (cxOf (L2.CX P w) P w K mg base N_lfor_c "least_for" (defScope s_least_for) f cdv A outer s H E) 0 "modulus" := ⟨rfl, (by first | exact .inl rfl | exact .inr (.inl rfl)), nm_modulus⟩
theorem gl_lfor_c_need_count {P : Program} {w : World} {K : PySem.W.Frag} {mg : Str → Option Value} {base : Heap} {f : Addr} {cdv : Value} {A : Around} {outer : List Env} {s : Shared} {H : Hp} {E : XK} : Gl (cxOf (L2.CX P w) P w K mg base N_lfor_c "least_for" (defScope s_least_for) f cdv A outer s H E) "need_count" := by rfl
theorem gl_lfor_c_rests {P : Program} {w : World} {K : PySem.W.Frag} {mg : Str → Option Value} {base : Heap} {f : Addr} {cdv : Value} {A : Around} {outer : List Env} {s : Shared} {H : Hp} {E : XK} : Gl (cxOf (L2.CX P w) P w K mg base N_lfor_c "least_for" (defScope s_least_for) f cdv A outer s H E) "rests" := by rfl
theorem cal_lfor_c {P : Program} {w : World} {K : PySem.W.Frag} {mg : Str → Option Value} {base : Heap} {f : Addr} {fd : FuncData} {c_RestError c_NoModulus c_NoCount c_NoPaper c_TooMany c_NoText c_NoForm c_NoneYet : Addr} (T : Txt K mg c_RestError c_NoModulus c_NoCount c_NoPaper c_TooMany c_NoText c_NoForm c_NoneYet) (F : Fun K "least_for" "least_for" s_least_for f fd) (hm : mg "least_for" = some (.ref f)) (hb : Binds K fd ["modulus", "many"] []) (C_rests : Cal P w K mg base 2 "rests" (Sp2 K true (fun (row : (List Int)) (modulus : Int) => 1 ≤ modulus) m_rests)) (C_count_c : Cal P w K mg base 1 "need_count" (SpR2 K (fun (many : Int) (least : Int) => many < least) c_NoCount)) : Cal P w K mg base 3 "least_for" (SpR2 K (fun (modulus : Int) (many : Int) => 1 ≤ modulus ∧ many < 0) c_NoCount) := by
  refine fnR2 F hm hb sc_lfor_c rfl fun cdv A outer s H0 E hr G0 v_modulus v_many modulus many D s0 r_modulus r_many hp fin => ?_
  have x0_0 : Ext G0 H0 G0 H0 := Ext.refl s0
  show tSs _ _ D [some v_modulus, some v_many] H0
  have hpc := hp; obtain ⟨hp_0, hp_1⟩ := hpc
  have tkk := takes_of (X := cxOf (L2.CX P w) P w K mg base N_lfor_c "least_for" (defScope s_least_for) f cdv A outer s H0 E) (E := E) rfl rfl rfl rfl
  refine b_cons (s_expr x0_0.s (ev_c2 C_rests (hr.mono (by decide)) gl_lfor_c_rests (ev_list (es_nil (α := Int))) (ev_v (sl_lfor_c_modulus) r_modulus) (by walk_at "pre")) fun G1 H1 v2 x1 l1 _ => ?_)
  have x0_1 := x0_0.trans x1
  show tSs _ _ _ [some v_modulus, some v_many] _
  exact b_cons (s_exprR (evR_c2 C_count_c (hr.mono (by decide)) gl_lfor_c_need_count tkk x0_1.s (ev_v (sl_lfor_c_many) (up x1.g r_many)) ev_int (by walk_at "pre") fun _ _ x_ => fin _ _ (x0_1.trans x_)))

abbrev N_lreel : List Str := ["cell"]
theorem sc_lreel : FnScope N_lreel ["cell"] (defScope s__law_reel) := ⟨rfl, rfl, rfl, by decide +kernel, rfl, by decide +kernel, by decide +kernel⟩
theorem sl_lreel_cell {P : Program} {w : World} {K : PySem.W.Frag} {mg : Str → Option Value} {base : Heap} {f : Addr} {cdv : Value} {A : Around} {outer : List Env} {s : Shared} {H : Hp} {E : XK} : Sl (cxOf (L2.CX P w) P w K mg base N_lreel "_law_reel" (defScope s__law_reel) f cdv A outer s H E) 0 "cell" := ⟨rfl, (by first | exact .inl rfl | exact .inr (.inl rfl)), nm_cell⟩
theorem gl_lreel_abs {P : Program} {w : World} {K : PySem.W.Frag} {mg : Str → Option Value} {base : Heap} {f : Addr} {cdv : Value} {A : Around} {outer : List Env} {s : Shared} {H : Hp} {E : XK} : Gl (cxOf (L2.CX P w) P w K mg base N_lreel "_law_reel" (defScope s__law_reel) f cdv A outer s H E) "abs" := by rfl
theorem cal_lreel {P : Program} {w : World} {K : PySem.W.Frag} {mg : Str → Option Value} {base : Heap} {f : Addr} {fd : FuncData} {c_RestError c_NoModulus c_NoCount c_NoPaper c_TooMany c_NoText c_NoForm c_NoneYet : Addr} (T : Txt K mg c_RestError c_NoModulus c_NoCount c_NoPaper c_TooMany c_NoText c_NoForm c_NoneYet) (F : Fun K "_law_reel" "_law_reel" s__law_reel f fd) (hm : mg "_law_reel" = some (.ref f)) (hb : Binds K fd ["cell"] [])  : Cal P w K mg base 1 "_law_reel" (Sp1 K true (fun (cell : Int) => True) m_lreel) := by
  refine fn1 F hm hb sc_lreel rfl fun cdv A outer s H0 E hr G0 v_cell cell D s0 r_cell hp fin => ?_
  have x0_0 : Ext G0 H0 G0 H0 := Ext.refl s0
  show tSs _ _ D [some v_cell] H0
  have tk : m_lreel cell = _ := rfl
  refine b_cons (s_retN_ x0_0.s (evN_list (es_cons (ev_abs ⟨gl_lreel_abs, T.b_abs⟩ (ev_v (sl_lreel_cell) r_cell)) (es_cons (ev_bin (b_mod (by walk_at "sc")) (ev_bin (b_mul (by walk_at "mu")) (ev_bin b_add (ev_bin (b_mod (by walk_at "sc")) (ev_v (sl_lreel_cell) r_cell) ev_int) ev_int) ev_int) ev_int) es_nil))) fun G_ H_ v2 x1 _ r_ n_ => ?_)
  exact fin.rt _ _ _ (x0_0.trans x1) (rep_of tk r_) (fun _ p z => x0_0.h.free (n_ p z))

abbrev N_ltake : List Str := ["reel", "many", "found", "stir"]
theorem sc_ltake : FnScope N_ltake ["reel", "many"] (defScope s__law_take) := ⟨rfl, rfl, rfl, by decide +kernel, rfl, by decide +kernel, by decide +kernel⟩
theorem sl_ltake_found {P : Program} {w : World} {K : PySem.W.Frag} {mg : Str → Option Value} {base : Heap} {f : Addr} {cdv : Value} {A : Around} {outer : List Env} {s : Shared} {H : Hp} {E : XK} : Sl (cxOf (L2.CX P w) P w K mg base N_ltake "_law_take" (defScope s__law_take) f cdv A outer s H E) 2 "found" := ⟨rfl, (by first | exact .inl rfl | exact .inr (.inl rfl)), nm_found⟩
theorem sl_ltake_many {P : Program} {w : World} {K : PySem.W.Frag} {mg : Str → Option Value} {base : Heap} {f : Addr} {cdv : Value} {A : Around} {outer : List Env} {s : Shared} {H : Hp} {E : XK} : Sl (cxOf (L2.CX P w) P w K mg base N_ltake "_law_take" (defScope s__law_take) f cdv A outer s H E) 1 "many" := ⟨rfl, (by first | exact .inl rfl | exact .inr (.inl rfl)), nm_many⟩
theorem sl_ltake_reel {P : Program} {w : World} {K : PySem.W.Frag} {mg : Str → Option Value} {base : Heap} {f : Addr} {cdv : Value} {A : Around} {outer : List Env} {s : Shared} {H : Hp} {E : XK} : Sl (cxOf (L2.CX P w) P w K mg base N_ltake "_law_take" (defScope s__law_take) f cdv A outer s H E) 0 "reel" := ⟨rfl, (by first | exact .inl rfl | exact .inr (.inl rfl)), nm_reel⟩
theorem sl_ltake_stir {P : Program} {w : World} {K : PySem.W.Frag} {mg : Str → Option Value} {base : Heap} {f : Addr} {cdv : Value} {A : Around} {outer : List Env} {s : Shared} {H : Hp} {E : XK} : Sl (cxOf (L2.CX P w) P w K mg base N_ltake "_law_take" (defScope s__law_take) f cdv A outer s H E) 3 "stir" := ⟨rfl, (by first | exact .inl rfl | exact .inr (.inl rfl)), nm_stir⟩
theorem ss_ltake_found {P : Program} {w : World} {K : PySem.W.Frag} {mg : Str → Option Value} {base : Heap} {f : Addr} {cdv : Value} {A : Around} {outer : List Env} {s : Shared} {H : Hp} {E : XK} : Ss (cxOf (L2.CX P w) P w K mg base N_ltake "_law_take" (defScope s__law_take) f cdv A outer s H E) 2 "found" := ⟨rfl, (by first | exact .inl rfl | exact .inr rfl), .inl rfl⟩
theorem ss_ltake_stir {P : Program} {w : World} {K : PySem.W.Frag} {mg : Str → Option Value} {base : Heap} {f : Addr} {cdv : Value} {A : Around} {outer : List Env} {s : Shared} {H : Hp} {E : XK} : Ss (cxOf (L2.CX P w) P w K mg base N_ltake "_law_take" (defScope s__law_take) f cdv A outer s H E) 3 "stir" := ⟨rfl, (by first | exact .inl rfl | exact .inr rfl), .inl rfl⟩
theorem cal_ltake {P : Program} {w : World} {K : PySem.W.Frag} {mg : Str → Option Value} {base : Heap} {f : Addr} {fd : FuncData} {c_RestError c_NoModulus c_NoCount c_NoPaper c_TooMany c_NoText c_NoForm c_NoneYet : Addr} (T : Txt K mg c_RestError c_NoModulus c_NoCount c_NoPaper c_TooMany c_NoText c_NoForm c_NoneYet) (F : Fun K "_law_take" "_law_take" s__law_take f fd) (hm : mg "_law_take" = some (.ref f)) (hb : Binds K fd ["reel", "many"] [])  : Cal P w K mg base 1 "_law_take" (SpM2 K false (fun (reel : (List Int)) (many : Int) => reel.length = 2 ∧ 1 ≤ many ∧ many ≤ 1073741823) m_ltake) := by
  refine fnM2 F hm hb sc_ltake rfl fun cdv A outer s H0 E hr G0 q_reel v_many reel many D s0 o0_reel r_many hp fin => ?_
  have x0_0 : ExtM q_reel G0 H0 G0 H0 := ExtM.refl s0 o0_reel.ex'
  show tSs _ _ D [some (.ref q_reel), some v_many, none, none] H0
  have hpc := hp; obtain ⟨hp_0, hp_1, hp_2⟩ := hpc
  have tk : m_ltake reel many = _ := rfl
  refine b_cons (s_if x0_0.s (et_cmp c_ge (ev_ix (0 : Int) (ev_vO (sl_ltake_reel) o0_reel) ev_int (by walk_at "sc") (by walk_at "ix")) (Ev.to (y := (1000000000000000000 : Int)) (ev_bin (b_pow (by walk_at "pw")) ev_int ev_int) (by decide))) (fun h1 G1 H1 x2 l1 => ?_) (fun h1 G1 H1 x2 l1 => ?_))
  · have tk := tk_tt tk h1
    have h1_ := h1; try simp only [Bool.and_eq_true, Bool.or_eq_true, Bool.and_eq_false_iff, Bool.or_eq_false_iff, Bool.not_eq_true', Bool.not_eq_false', decide_eq_true_eq, decide_eq_false_iff_not, Classical.not_not] at h1_
    have x0_1 := x0_0.trans x2
    have o1_reel := o0_reel.mono x2
    show tSs _ _ _ [some (.ref q_reel), some v_many, none, none] _
    refine b_cons (s_set sc_ltake.nd ss_ltake_found x0_1.s (ev_bin (b_mod (by walk_at "sc")) (ev_ix (0 : Int) (ev_vO (sl_ltake_reel) o1_reel) ev_int (by walk_at "sc") (by walk_at "ix")) (ev_v (sl_ltake_many) (up x2.g r_many))) fun G2 H2 v2_found x3 l2 r2_found => ?_)
    have x0_2 := x0_1.trans x3
    have o2_reel := o1_reel.mono x3
    show tSs _ _ _ [some (.ref q_reel), some v_many, some v2_found, none] _
    obtain ⟨found, e4⟩ : ∃ z, z = (((reel).getD ((0 : Int)).toNat (0 : Int)) % many) := ⟨_, rfl⟩
    rw [← e4] at r2_found
    have tk : _ = m_ltake_1 reel many found := tk.trans (by first | (rw [e4] <;> rfl) | rfl)
    refine b_cons (s_setix (sl_ltake_reel) x0_2.s o2_reel (ev_bin (b_div ⟨(by walk_at "sc"), (by walk_at "sc")⟩) (ev_ix (0 : Int) (ev_vO (sl_ltake_reel) o2_reel) ev_int (by walk_at "sc") (by walk_at "ix")) (ev_v (sl_ltake_many) (up (x2.g.trans x3.g) r_many))) ev_int (by walk_at "sc") (by walk_at "ix") fun G3 H3_ us6 x5 l3 o3_reel => ?_)
    have x0_3 := (x0_2.trans x5).wrq (o := .lst us6) o3_reel.off
    show tSs _ _ _ [some (.ref q_reel), some v_many, some v2_found, none] _
    have gs7 := getD_set (xs := reel) (i := ((0 : Int)).toNat) (v := (((reel).getD ((0 : Int)).toNat (0 : Int)) / many)) (by walk_at "ix")
    obtain ⟨reel, e8⟩ : ∃ z, z = (reel.set ((0 : Int)).toNat (((reel).getD ((0 : Int)).toNat (0 : Int)) / many)) := ⟨_, rfl⟩
    rw [← e8] at o3_reel
    rw [← e8] at gs7
    have tk : _ = m_ltake_2 reel found := tk.trans (by first | (rw [e8] <;> rfl) | rfl)
    have g_e8 := congrArg List.length e8; try simp only [List.length_append, List.length_cons, List.length_nil, rng_len, List.length_map, List.length_reverse, List.length_set] at g_e8
    refine b_cons (s_ret x0_3.s (ev_v (sl_ltake_found) (up x5.g r2_found)) fun G_ H_ v10 x9 _ r_ => ?_)
    exact fin.rt _ _ _ (x0_3.trans x9) (own_of tk (o3_reel.mono x9)) (rep_of2 tk r_) (fun z => nomatch z)
  · have tk := tk_ff tk h1
    have h1_ := h1; try simp only [Bool.and_eq_true, Bool.or_eq_true, Bool.and_eq_false_iff, Bool.or_eq_false_iff, Bool.not_eq_true', Bool.not_eq_false', decide_eq_true_eq, decide_eq_false_iff_not, Classical.not_not] at h1_
    have x0_1 := x0_0.trans x2
    have o1_reel := o0_reel.mono x2
    show tSs _ _ _ [some (.ref q_reel), some v_many, none, none] _
    refine b_nil ?_
    show tSs _ _ _ [some (.ref q_reel), some v_many, none, none] _
    refine b_cons (s_setix (sl_ltake_reel) x0_1.s o1_reel (ev_bin (b_mod (by walk_at "sc")) (ev_bin b_add (ev_bin (b_mul (by walk_at "mu")) (ev_ix (0 : Int) (ev_vO (sl_ltake_reel) o1_reel) ev_int (by walk_at "sc") (by walk_at "ix")) ev_int) ev_int) ev_int) ev_int (by walk_at "sc") (by walk_at "ix") fun G4 H4_ us12 x11 l4 o4_reel => ?_)
    have x0_4 := (x0_1.trans x11).wrq (o := .lst us12) o4_reel.off
    show tSs _ _ _ [some (.ref q_reel), some v_many, none, none] _
    have gs13 := getD_set (xs := reel) (i := ((1 : Int)).toNat) (v := (((((reel).getD ((1 : Int)).toNat (0 : Int)) * (48271 : Int)) + (11 : Int)) % (2147483647 : Int))) (by walk_at "ix")
    obtain ⟨reel, e14⟩ : ∃ z, z = (reel.set ((1 : Int)).toNat (((((reel).getD ((1 : Int)).toNat (0 : Int)) * (48271 : Int)) + (11 : Int)) % (2147483647 : Int))) := ⟨_, rfl⟩
    rw [← e14] at o4_reel
    rw [← e14] at gs13
    have tk : _ = m_ltake_3 reel many := tk.trans (by first | (rw [e14] <;> rfl) | rfl)
    have g_e14 := congrArg List.length e14; try simp only [List.length_append, List.length_cons, List.length_nil, rng_len, List.length_map, List.length_reverse, List.length_set] at g_e14
    refine b_cons (s_set sc_ltake.nd ss_ltake_stir x0_4.s (ev_bin (b_mod (by walk_at "sc")) (ev_bin (b_mul (by walk_at "mu")) (ev_ix (0 : Int) (ev_vO (sl_ltake_reel) o4_reel) ev_int (by walk_at "sc") (by walk_at "ix")) (ev_ix (0 : Int) (ev_vO (sl_ltake_reel) o4_reel) ev_int (by walk_at "sc") (by walk_at "ix"))) ev_int) fun G5 H5 v5_stir x15 l5 r5_stir => ?_)
    have x0_5 := x0_4.trans x15
    have o5_reel := o4_reel.mono x15
    show tSs _ _ _ [some (.ref q_reel), some v_many, none, some v5_stir] _
    obtain ⟨stir, e16⟩ : ∃ z, z = ((((reel).getD ((1 : Int)).toNat (0 : Int)) * ((reel).getD ((1 : Int)).toNat (0 : Int))) % (2147483629 : Int)) := ⟨_, rfl⟩
    rw [← e16] at r5_stir
    have tk : _ = m_ltake_4 reel many stir := tk.trans (by first | (rw [e16] <;> rfl) | rfl)
    refine b_cons (s_ret x0_5.s (ev_bin (b_mod (by walk_at "sc")) (ev_bin (b_div ⟨(by walk_at "sc"), (by walk_at "sc")⟩) (ev_bin (b_mod (by walk_at "sc")) (ev_bin (b_mul (by walk_at "mu")) (ev_v (sl_ltake_stir) r5_stir) ev_int) ev_int) ev_int) (ev_v (sl_ltake_many) (up (x2.g.trans (x11.g.trans x15.g)) r_many))) fun G_ H_ v18 x17 _ r_ => ?_)
    exact fin.rt _ _ _ (x0_5.trans x17) (own_of tk (o5_reel.mono x17)) (rep_of2 tk r_) (fun z => nomatch z)

abbrev N_lfew : List Str := ["reel"]
theorem sc_lfew : FnScope N_lfew ["reel"] (defScope s__law_few) := ⟨rfl, rfl, rfl, by decide +kernel, rfl, by decide +kernel, by decide +kernel⟩
theorem sl_lfew_reel {P : Program} {w : World} {K : PySem.W.Frag} {mg : Str → Option Value} {base : Heap} {f : Addr} {cdv : Value} {A : Around} {outer : List Env} {s : Shared} {H : Hp} {E : XK} : Sl (cxOf (L2.CX P w) P w K mg base N_lfew "_law_few" (defScope s__law_few) f cdv A outer s H E) 0 "reel" := ⟨rfl, (by first | exact .inl rfl | exact .inr (.inl rfl)), nm_reel⟩
theorem gl_lfew__law_take {P : Program} {w : World} {K : PySem.W.Frag} {mg : Str → Option Value} {base : Heap} {f : Addr} {cdv : Value} {A : Around} {outer : List Env} {s : Shared} {H : Hp} {E : XK} : Gl (cxOf (L2.CX P w) P w K mg base N_lfew "_law_few" (defScope s__law_few) f cdv A outer s H E) "_law_take" := by rfl
theorem cal_lfew {P : Program} {w : World} {K : PySem.W.Frag} {mg : Str → Option Value} {base : Heap} {f : Addr} {fd : FuncData} {c_RestError c_NoModulus c_NoCount c_NoPaper c_TooMany c_NoText c_NoForm c_NoneYet : Addr} (T : Txt K mg c_RestError c_NoModulus c_NoCount c_NoPaper c_TooMany c_NoText c_NoForm c_NoneYet) (F : Fun K "_law_few" "_law_few" s__law_few f fd) (hm : mg "_law_few" = some (.ref f)) (hb : Binds K fd ["reel"] []) (C_ltake : Cal P w K mg base 1 "_law_take" (SpM2 K false (fun (reel : (List Int)) (many : Int) => reel.length = 2 ∧ 1 ≤ many ∧ many ≤ 1073741823) m_ltake)) : Cal P w K mg base 2 "_law_few" (SpM1 K false (fun (reel : (List Int)) => reel.length = 2) m_lfew) := by
  refine fnM1 F hm hb sc_lfew rfl fun cdv A outer s H0 E hr G0 q_reel  reel D s0 o0_reel  hp fin => ?_
  have x0_0 : ExtM q_reel G0 H0 G0 H0 := ExtM.refl s0 o0_reel.ex'
  show tSs _ _ D [some (.ref q_reel)] H0
  have tk : m_lfew reel = _ := rfl
  have fc33 := post_ltake reel (4 : Int) (by walk_at "pre")
  have fc34 := post_ltake ((m_ltake reel (4 : Int)).2) (8 : Int) (by have := post_ltake reel (4 : Int) (by walk_at "pre"); walk_at "pre")
  have fc35 := post_ltake ((m_ltake ((m_ltake reel (4 : Int)).2) (8 : Int)).2) (60 : Int) (by have := post_ltake reel (4 : Int) (by walk_at "pre"); have := post_ltake ((m_ltake reel (4 : Int)).2) (8 : Int) (by have := post_ltake reel (4 : Int) (by walk_at "pre"); walk_at "pre"); walk_at "pre")
  have fc36 := post_ltake ((m_ltake ((m_ltake ((m_ltake reel (4 : Int)).2) (8 : Int)).2) (60 : Int)).2) (4 : Int) (by have := post_ltake reel (4 : Int) (by walk_at "pre"); have := post_ltake ((m_ltake reel (4 : Int)).2) (8 : Int) (by have := post_ltake reel (4 : Int) (by walk_at "pre"); walk_at "pre"); have := post_ltake ((m_ltake ((m_ltake reel (4 : Int)).2) (8 : Int)).2) (60 : Int) (by have := post_ltake reel (4 : Int) (by walk_at "pre"); have := post_ltake ((m_ltake reel (4 : Int)).2) (8 : Int) (by have := post_ltake reel (4 : Int) (by walk_at "pre"); walk_at "pre"); walk_at "pre"); walk_at "pre")
  refine b_cons (s_retM x0_0.s o0_reel (evM_ix (0 : Int) (evM_list (esM_cons (evM_bin b_add (evM_pure fun G1 H2 x3 o4 => ev_int) (evM_m2 C_ltake (hr.mono (by decide)) gl_lfew__law_take (sl_lfew_reel) (evM_pure fun G5 H6 x7 o8 => ev_int) (by walk_at "pre"))) (esM_cons (evM_bin b_add (evM_pure fun G9 H10 x11 o12 => have := post_ltake reel (4 : Int) (by walk_at "pre"); ev_int) (evM_m2 C_ltake (hr.mono (by decide)) gl_lfew__law_take (sl_lfew_reel) (evM_pure fun G13 H14 x15 o16 => have := post_ltake reel (4 : Int) (by walk_at "pre"); ev_int) (by have := post_ltake reel (4 : Int) (by walk_at "pre"); walk_at "pre"))) (esM_cons (evM_bin b_add (evM_pure fun G17 H18 x19 o20 => have := post_ltake reel (4 : Int) (by walk_at "pre"); have := post_ltake ((m_ltake reel (4 : Int)).2) (8 : Int) (by have := post_ltake reel (4 : Int) (by walk_at "pre"); walk_at "pre"); ev_int) (evM_m2 C_ltake (hr.mono (by decide)) gl_lfew__law_take (sl_lfew_reel) (evM_pure fun G21 H22 x23 o24 => have := post_ltake reel (4 : Int) (by walk_at "pre"); have := post_ltake ((m_ltake reel (4 : Int)).2) (8 : Int) (by have := post_ltake reel (4 : Int) (by walk_at "pre"); walk_at "pre"); ev_int) (by have := post_ltake reel (4 : Int) (by walk_at "pre"); have := post_ltake ((m_ltake reel (4 : Int)).2) (8 : Int) (by have := post_ltake reel (4 : Int) (by walk_at "pre"); walk_at "pre"); walk_at "pre"))) (esM_cons (evM_pure fun G25 H26 x27 o28 => have := post_ltake reel (4 : Int) (by walk_at "pre"); have := post_ltake ((m_ltake reel (4 : Int)).2) (8 : Int) (by have := post_ltake reel (4 : Int) (by walk_at "pre"); walk_at "pre"); have := post_ltake ((m_ltake ((m_ltake reel (4 : Int)).2) (8 : Int)).2) (60 : Int) (by have := post_ltake reel (4 : Int) (by walk_at "pre"); have := post_ltake ((m_ltake reel (4 : Int)).2) (8 : Int) (by have := post_ltake reel (4 : Int) (by walk_at "pre"); walk_at "pre"); walk_at "pre"); ev_int) esM_nil))))) (evM_m2 C_ltake (hr.mono (by decide)) gl_lfew__law_take (sl_lfew_reel) (evM_pure fun G29 H30 x31 o32 => have := post_ltake reel (4 : Int) (by walk_at "pre"); have := post_ltake ((m_ltake reel (4 : Int)).2) (8 : Int) (by have := post_ltake reel (4 : Int) (by walk_at "pre"); walk_at "pre"); have := post_ltake ((m_ltake ((m_ltake reel (4 : Int)).2) (8 : Int)).2) (60 : Int) (by have := post_ltake reel (4 : Int) (by walk_at "pre"); have := post_ltake ((m_ltake reel (4 : Int)).2) (8 : Int) (by have := post_ltake reel (4 : Int) (by walk_at "pre"); walk_at "pre"); walk_at "pre"); ev_int) (by have := post_ltake reel (4 : Int) (by walk_at "pre"); have := post_ltake ((m_ltake reel (4 : Int)).2) (8 : Int) (by have := post_ltake reel (4 : Int) (by walk_at "pre"); walk_at "pre"); have := post_ltake ((m_ltake ((m_ltake reel (4 : Int)).2) (8 : Int)).2) (60 : Int) (by have := post_ltake reel (4 : Int) (by walk_at "pre"); have := post_ltake ((m_ltake reel (4 : Int)).2) (8 : Int) (by have := post_ltake reel (4 : Int) (by walk_at "pre"); walk_at "pre"); walk_at "pre"); walk_at "pre")) (by have := post_ltake reel (4 : Int) (by walk_at "pre"); have := post_ltake ((m_ltake reel (4 : Int)).2) (8 : Int) (by have := post_ltake reel (4 : Int) (by walk_at "pre"); walk_at "pre"); have := post_ltake ((m_ltake ((m_ltake reel (4 : Int)).2) (8 : Int)).2) (60 : Int) (by have := post_ltake reel (4 : Int) (by walk_at "pre"); have := post_ltake ((m_ltake reel (4 : Int)).2) (8 : Int) (by have := post_ltake reel (4 : Int) (by walk_at "pre"); walk_at "pre"); walk_at "pre"); have := post_ltake ((m_ltake ((m_ltake ((m_ltake reel (4 : Int)).2) (8 : Int)).2) (60 : Int)).2) (4 : Int) (by have := post_ltake reel (4 : Int) (by walk_at "pre"); have := post_ltake ((m_ltake reel (4 : Int)).2) (8 : Int) (by have := post_ltake reel (4 : Int) (by walk_at "pre"); walk_at "pre"); have := post_ltake ((m_ltake ((m_ltake reel (4 : Int)).2) (8 : Int)).2) (60 : Int) (by have := post_ltake reel (4 : Int) (by walk_at "pre"); have := post_ltake ((m_ltake reel (4 : Int)).2) (8 : Int) (by have := post_ltake reel (4 : Int) (by walk_at "pre"); walk_at "pre"); walk_at "pre"); walk_at "pre"); walk_at "sc") (by have := post_ltake reel (4 : Int) (by walk_at "pre"); have := post_ltake ((m_ltake reel (4 : Int)).2) (8 : Int) (by have := post_ltake reel (4 : Int) (by walk_at "pre"); walk_at "pre"); have := post_ltake ((m_ltake ((m_ltake reel (4 : Int)).2) (8 : Int)).2) (60 : Int) (by have := post_ltake reel (4 : Int) (by walk_at "pre"); have := post_ltake ((m_ltake reel (4 : Int)).2) (8 : Int) (by have := post_ltake reel (4 : Int) (by walk_at "pre"); walk_at "pre"); walk_at "pre"); have := post_ltake ((m_ltake ((m_ltake ((m_ltake reel (4 : Int)).2) (8 : Int)).2) (60 : Int)).2) (4 : Int) (by have := post_ltake reel (4 : Int) (by walk_at "pre"); have := post_ltake ((m_ltake reel (4 : Int)).2) (8 : Int) (by have := post_ltake reel (4 : Int) (by walk_at "pre"); walk_at "pre"); have := post_ltake ((m_ltake ((m_ltake reel (4 : Int)).2) (8 : Int)).2) (60 : Int) (by have := post_ltake reel (4 : Int) (by walk_at "pre"); have := post_ltake ((m_ltake reel (4 : Int)).2) (8 : Int) (by have := post_ltake reel (4 : Int) (by walk_at "pre"); walk_at "pre"); walk_at "pre"); walk_at "pre"); walk_at "ix")) fun G_ H_ v38 x37 _ o_ r_ => ?_)
  exact fin.rt _ _ _ (x0_0.transM x37) (own_of tk o_) (rep_of2 tk r_) (fun z => nomatch z)

abbrev N_lrow : List Str := ["reel", "most", "modulus", "many", "kind", "wide", "same", "found", "k", "number", "great", "some", "far"]
theorem sc_lrow : FnScope N_lrow ["reel", "most", "modulus"] (defScope s__law_row) := ⟨rfl, rfl, rfl, by decide +kernel, rfl, by decide +kernel, by decide +kernel⟩
theorem sl_lrow_far {P : Program} {w : World} {K : PySem.W.Frag} {mg : Str → Option Value} {base : Heap} {f : Addr} {cdv : Value} {A : Around} {outer : List Env} {s : Shared} {H : Hp} {E : XK} : Sl (cxOf (L2.CX P w) P w K mg base N_lrow "_law_row" (defScope s__law_row) f cdv A outer s H E) 12 "far" := ⟨rfl, (by first | exact .inl rfl | exact .inr (.inl rfl)), nm_far⟩
theorem sl_lrow_found {P : Program} {w : World} {K : PySem.W.Frag} {mg : Str → Option Value} {base : Heap} {f : Addr} {cdv : Value} {A : Around} {outer : List Env} {s : Shared} {H : Hp} {E : XK} : Sl (cxOf (L2.CX P w) P w K mg base N_lrow "_law_row" (defScope s__law_row) f cdv A outer s H E) 7 "found" := ⟨rfl, (by first | exact .inl rfl | exact .inr (.inl rfl)), nm_found⟩
theorem sl_lrow_great {P : Program} {w : World} {K : PySem.W.Frag} {mg : Str → Option Value} {base : Heap} {f : Addr} {cdv : Value} {A : Around} {outer : List Env} {s : Shared} {H : Hp} {E : XK} : Sl (cxOf (L2.CX P w) P w K mg base N_lrow "_law_row" (defScope s__law_row) f cdv A outer s H E) 10 "great" := ⟨rfl, (by first | exact .inl rfl | exact .inr (.inl rfl)), nm_great⟩
theorem sl_lrow_kind {P : Program} {w : World} {K : PySem.W.Frag} {mg : Str → Option Value} {base : Heap} {f : Addr} {cdv : Value} {A : Around} {outer : List Env} {s : Shared} {H : Hp} {E : XK} : Sl (cxOf (L2.CX P w) P w K mg base N_lrow "_law_row" (defScope s__law_row) f cdv A outer s H E) 4 "kind" := ⟨rfl, (by first | exact .inl rfl | exact .inr (.inl rfl)), nm_kind⟩
theorem sl_lrow_many {P : Program} {w : World} {K : PySem.W.Frag} {mg : Str → Option Value} {base : Heap} {f : Addr} {cdv : Value} {A : Around} {outer : List Env} {s : Shared} {H : Hp} {E : XK} : Sl (cxOf (L2.CX P w) P w K mg base N_lrow "_law_row" (defScope s__law_row) f cdv A outer s H E) 3 "many" := ⟨rfl, (by first | exact .inl rfl | exact .inr (.inl rfl)), nm_many⟩
theorem sl_lrow_modulus {P : Program} {w : World} {K : PySem.W.Frag} {mg : Str → Option Value} {base : Heap} {f : Addr} {cdv : Value} {A : Around} {outer : List Env} {s : Shared} {H : Hp} {E : XK} : Sl (cxOf (L2.CX P w) P w K mg base N_lrow "_law_row" (defScope s__law_row) f cdv A outer s H E) 2 "modulus" := ⟨rfl, (by first | exact .inl rfl | exact .inr (.inl rfl)), nm_modulus⟩
theorem sl_lrow_most {P : Program} {w : World} {K : PySem.W.Frag} {mg : Str → Option Value} {base : Heap} {f : Addr} {cdv : Value} {A : Around} {outer : List Env} {s : Shared} {H : Hp} {E : XK} : Sl (cxOf (L2.CX P w) P w K mg base N_lrow "_law_row" (defScope s__law_row) f cdv A outer s H E) 1 "most" := ⟨rfl, (by first | exact .inl rfl | exact .inr (.inl rfl)), nm_most⟩
theorem sl_lrow_number {P : Program} {w : World} {K : PySem.W.Frag} {mg : Str → Option Value} {base : Heap} {f : Addr} {cdv : Value} {A : Around} {outer : List Env} {s : Shared} {H : Hp} {E : XK} : Sl (cxOf (L2.CX P w) P w K mg base N_lrow "_law_row" (defScope s__law_row) f cdv A outer s H E) 9 "number" := ⟨rfl, (by first | exact .inl rfl | exact .inr (.inl rfl)), nm_number⟩
theorem sl_lrow_reel {P : Program} {w : World} {K : PySem.W.Frag} {mg : Str → Option Value} {base : Heap} {f : Addr} {cdv : Value} {A : Around} {outer : List Env} {s : Shared} {H : Hp} {E : XK} : Sl (cxOf (L2.CX P w) P w K mg base N_lrow "_law_row" (defScope s__law_row) f cdv A outer s H E) 0 "reel" := ⟨rfl, (by first | exact .inl rfl | exact .inr (.inl rfl)), nm_reel⟩
theorem sl_lrow_same {P : Program} {w : World} {K : PySem.W.Frag} {mg : Str → Option Value} {base : Heap} {f : Addr} {cdv : Value} {A : Around} {outer : List Env} {s : Shared} {H : Hp} {E : XK} : Sl (cxOf (L2.CX P w) P w K mg base N_lrow "_law_row" (defScope s__law_row) f cdv A outer s H E) 6 "same" := ⟨rfl, (by first | exact .inl rfl | exact .inr (.inl rfl)), nm_same⟩
theorem sl_lrow_some_ {P : Program} {w : World} {K : PySem.W.Frag} {mg : Str → Option Value} {base : Heap} {f : Addr} {cdv : Value} {A : Around} {outer : List Env} {s : Shared} {H : Hp} {E : XK} : Sl (cxOf (L2.CX P w) P w K mg base N_lrow "_law_row" (defScope s__law_row) f cdv A outer s H E) 11 "some" := ⟨rfl, (by first | exact .inl rfl | exact .inr (.inl rfl)), nm_some_⟩
theorem sl_lrow_wide {P : Program} {w : World} {K : PySem.W.Frag} {mg : Str → Option Value} {base : Heap} {f : Addr} {cdv : Value} {A : Around} {outer : List Env} {s : Shared} {H : Hp} {E : XK} : Sl (cxOf (L2.CX P w) P w K mg base N_lrow "_law_row" (defScope s__law_row) f cdv A outer s H E) 5 "wide" := ⟨rfl, (by first | exact .inl rfl | exact .inr (.inl rfl)), nm_wide⟩
theorem ss_lrow_many {P : Program} {w : World} {K : PySem.W.Frag} {mg : Str → Option Value} {base : Heap} {f : Addr} {cdv : Value} {A : Around} {outer : List Env} {s : Shared} {H : Hp} {E : XK} : Ss (cxOf (L2.CX P w) P w K mg base N_lrow "_law_row" (defScope s__law_row) f cdv A outer s H E) 3 "many" := ⟨rfl, (by first | exact .inl rfl | exact .inr rfl), .inl rfl⟩
theorem ss_lrow_kind {P : Program} {w : World} {K : PySem.W.Frag} {mg : Str → Option Value} {base : Heap} {f : Addr} {cdv : Value} {A : Around} {outer : List Env} {s : Shared} {H : Hp} {E : XK} : Ss (cxOf (L2.CX P w) P w K mg base N_lrow "_law_row" (defScope s__law_row) f cdv A outer s H E) 4 "kind" := ⟨rfl, (by first | exact .inl rfl | exact .inr rfl), .inl rfl⟩
theorem ss_lrow_wide {P : Program} {w : World} {K : PySem.W.Frag} {mg : Str → Option Value} {base : Heap} {f : Addr} {cdv : Value} {A : Around} {outer : List Env} {s : Shared} {H : Hp} {E : XK} : Ss (cxOf (L2.CX P w) P w K mg base N_lrow "_law_row" (defScope s__law_row) f cdv A outer s H E) 5 "wide" := ⟨rfl, (by first | exact .inl rfl | exact .inr rfl), .inl rfl⟩
theorem ss_lrow_same {P : Program} {w : World} {K : PySem.W.Frag} {mg : Str → Option Value} {base : Heap} {f : Addr} {cdv : Value} {A : Around} {outer : List Env} {s : Shared} {H : Hp} {E : XK} : Ss (cxOf (L2.CX P w) P w K mg base N_lrow "_law_row" (defScope s__law_row) f cdv A outer s H E) 6 "same" := ⟨rfl, (by first | exact .inl rfl | exact .inr rfl), .inl rfl⟩
theorem ss_lrow_found {P : Program} {w : World} {K : PySem.W.Frag} {mg : Str → Option Value} {base : Heap} {f : Addr} {cdv : Value} {A : Around} {outer : List Env} {s : Shared} {H : Hp} {E : XK} : Ss (cxOf (L2.CX P w) P w K mg base N_lrow "_law_row" (defScope s__law_row) f cdv A outer s H E) 7 "found" := ⟨rfl, (by first | exact .inl rfl | exact .inr rfl), .inl rfl⟩
theorem ss_lrow_k {P : Program} {w : World} {K : PySem.W.Frag} {mg : Str → Option Value} {base : Heap} {f : Addr} {cdv : Value} {A : Around} {outer : List Env} {s : Shared} {H : Hp} {E : XK} : Ss (cxOf (L2.CX P w) P w K mg base N_lrow "_law_row" (defScope s__law_row) f cdv A outer s H E) 8 "k" := ⟨rfl, (by first | exact .inl rfl | exact .inr rfl), .inl rfl⟩
theorem ss_lrow_number {P : Program} {w : World} {K : PySem.W.Frag} {mg : Str → Option Value} {base : Heap} {f : Addr} {cdv : Value} {A : Around} {outer : List Env} {s : Shared} {H : Hp} {E : XK} : Ss (cxOf (L2.CX P w) P w K mg base N_lrow "_law_row" (defScope s__law_row) f cdv A outer s H E) 9 "number" := ⟨rfl, (by first | exact .inl rfl | exact .inr rfl), .inl rfl⟩
theorem ss_lrow_great {P : Program} {w : World} {K : PySem.W.Frag} {mg : Str → Option Value} {base : Heap} {f : Addr} {cdv : Value} {A : Around} {outer : List Env} {s : Shared} {H : Hp} {E : XK} : Ss (cxOf (L2.CX P w) P w K mg base N_lrow "_law_row" (defScope s__law_row) f cdv A outer s H E) 10 "great" := ⟨rfl, (by first | exact .inl rfl | exact .inr rfl), .inl rfl⟩
theorem ss_lrow_some_ {P : Program} {w : World} {K : PySem.W.Frag} {mg : Str → Option Value} {base : Heap} {f : Addr} {cdv : Value} {A : Around} {outer : List Env} {s : Shared} {H : Hp} {E : XK} : Ss (cxOf (L2.CX P w) P w K mg base N_lrow "_law_row" (defScope s__law_row) f cdv A outer s H E) 11 "some" := ⟨rfl, (by first | exact .inl rfl | exact .inr rfl), .inl rfl⟩
theorem ss_lrow_far {P : Program} {w : World} {K : PySem.W.Frag} {mg : Str → Option Value} {base : Heap} {f : Addr} {cdv : Value} {A : Around} {outer : List Env} {s : Shared} {H : Hp} {E : XK} : Ss (cxOf (L2.CX P w) P w K mg base N_lrow "_law_row" (defScope s__law_row) f cdv A outer s H E) 12 "far" := ⟨rfl, (by first | exact .inl rfl | exact .inr rfl), .inl rfl⟩
theorem gl_lrow__law_take {P : Program} {w : World} {K : PySem.W.Frag} {mg : Str → Option Value} {base : Heap} {f : Addr} {cdv : Value} {A : Around} {outer : List Env} {s : Shared} {H : Hp} {E : XK} : Gl (cxOf (L2.CX P w) P w K mg base N_lrow "_law_row" (defScope s__law_row) f cdv A outer s H E) "_law_take" := by rfl
theorem gl_lrow_min {P : Program} {w : World} {K : PySem.W.Frag} {mg : Str → Option Value} {base : Heap} {f : Addr} {cdv : Value} {A : Around} {outer : List Env} {s : Shared} {H : Hp} {E : XK} : Gl (cxOf (L2.CX P w) P w K mg base N_lrow "_law_row" (defScope s__law_row) f cdv A outer s H E) "min" := by rfl
theorem gl_lrow_range {P : Program} {w : World} {K : PySem.W.Frag} {mg : Str → Option Value} {base : Heap} {f : Addr} {cdv : Value} {A : Around} {outer : List Env} {s : Shared} {H : Hp} {E : XK} : Gl (cxOf (L2.CX P w) P w K mg base N_lrow "_law_row" (defScope s__law_row) f cdv A outer s H E) "range" := by rfl
section
local macro_rules | `(tactic| walk_at "mu") => `(tactic| first | exact mu_pm _ _ | fail)
theorem cal_lrow {P : Program} {w : World} {K : PySem.W.Frag} {mg : Str → Option Value} {base : Heap} {f : Addr} {fd : FuncData} {c_RestError c_NoModulus c_NoCount c_NoPaper c_TooMany c_NoText c_NoForm c_NoneYet : Addr} (T : Txt K mg c_RestError c_NoModulus c_NoCount c_NoPaper c_TooMany c_NoText c_NoForm c_NoneYet) (F : Fun K "_law_row" "_law_row" s__law_row f fd) (hm : mg "_law_row" = some (.ref f)) (hb : Binds K fd ["reel", "most", "modulus"] []) (C_ltake : Cal P w K mg base 1 "_law_take" (SpM2 K false (fun (reel : (List Int)) (many : Int) => reel.length = 2 ∧ 1 ≤ many ∧ many ≤ 1073741823) m_ltake)) : Cal P w K mg base 2 "_law_row" (SpM3 K true (fun (reel : (List Int)) (most : Int) (modulus : Int) => reel.length = 2 ∧ 0 ≤ most ∧ most ≤ 40 ∧ 1 ≤ modulus ∧ modulus ≤ 60) m_lrow) := by
  refine fnM3 F hm hb sc_lrow rfl fun cdv A outer s H0 E hr G0 q_reel v_most v_modulus reel most modulus D s0 o0_reel r_most r_modulus hp fin => ?_
  have x0_0 : ExtM q_reel G0 H0 G0 H0 := ExtM.refl s0 o0_reel.ex'
  show tSs _ _ D [some (.ref q_reel), some v_most, some v_modulus, none, none, none, none, none, none, none, none, none, none] H0
  have hpc := hp; obtain ⟨hp_0, hp_1, hp_2, hp_3, hp_4⟩ := hpc
  have tk : m_lrow reel most modulus = _ := rfl
  have fc17 := post_ltake reel (most + (1 : Int)) (by walk_at "pre")
  have fc18 := post_ltake ((m_ltake reel (most + (1 : Int))).2) ((if (4 : Int) < most then (4 : Int) else most) + (1 : Int)) (by have := post_ltake reel (most + (1 : Int)) (by walk_at "pre"); walk_at "pre")
  have fc19 := post_ltake ((m_ltake ((m_ltake reel (most + (1 : Int))).2) ((if (4 : Int) < most then (4 : Int) else most) + (1 : Int))).2) (3 : Int) (by have := post_ltake reel (most + (1 : Int)) (by walk_at "pre"); have := post_ltake ((m_ltake reel (most + (1 : Int))).2) ((if (4 : Int) < most then (4 : Int) else most) + (1 : Int)) (by have := post_ltake reel (most + (1 : Int)) (by walk_at "pre"); walk_at "pre"); walk_at "pre")
  refine b_cons (s_setM sc_lrow.nd ss_lrow_many x0_0.s o0_reel (evM_ix (0 : Int) (evM_list (esM_cons (evM_m2 C_ltake (hr.mono (by decide)) gl_lrow__law_take (sl_lrow_reel) (evM_pure fun G1 H2 x3 o4 => (ev_bin b_add (ev_v (sl_lrow_most) (up x3.g r_most)) ev_int)) (by walk_at "pre")) (esM_cons (evM_pure fun G5 H6 x7 o8 => have := post_ltake reel (most + (1 : Int)) (by walk_at "pre"); (ev_v (sl_lrow_most) (up x7.g r_most))) (esM_cons (evM_m2 C_ltake (hr.mono (by decide)) gl_lrow__law_take (sl_lrow_reel) (evM_pure fun G9 H10 x11 o12 => have := post_ltake reel (most + (1 : Int)) (by walk_at "pre"); (ev_bin b_add (ev_min ⟨gl_lrow_min, T.b_min⟩ rfl (ev_v (sl_lrow_most) (up x11.g r_most)) ev_int) ev_int)) (by have := post_ltake reel (most + (1 : Int)) (by walk_at "pre"); walk_at "pre")) esM_nil)))) (evM_m2 C_ltake (hr.mono (by decide)) gl_lrow__law_take (sl_lrow_reel) (evM_pure fun G13 H14 x15 o16 => have := post_ltake reel (most + (1 : Int)) (by walk_at "pre"); have := post_ltake ((m_ltake reel (most + (1 : Int))).2) ((if (4 : Int) < most then (4 : Int) else most) + (1 : Int)) (by have := post_ltake reel (most + (1 : Int)) (by walk_at "pre"); walk_at "pre"); ev_int) (by have := post_ltake reel (most + (1 : Int)) (by walk_at "pre"); have := post_ltake ((m_ltake reel (most + (1 : Int))).2) ((if (4 : Int) < most then (4 : Int) else most) + (1 : Int)) (by have := post_ltake reel (most + (1 : Int)) (by walk_at "pre"); walk_at "pre"); walk_at "pre")) (by have := post_ltake reel (most + (1 : Int)) (by walk_at "pre"); have := post_ltake ((m_ltake reel (most + (1 : Int))).2) ((if (4 : Int) < most then (4 : Int) else most) + (1 : Int)) (by have := post_ltake reel (most + (1 : Int)) (by walk_at "pre"); walk_at "pre"); have := post_ltake ((m_ltake ((m_ltake reel (most + (1 : Int))).2) ((if (4 : Int) < most then (4 : Int) else most) + (1 : Int))).2) (3 : Int) (by have := post_ltake reel (most + (1 : Int)) (by walk_at "pre"); have := post_ltake ((m_ltake reel (most + (1 : Int))).2) ((if (4 : Int) < most then (4 : Int) else most) + (1 : Int)) (by have := post_ltake reel (most + (1 : Int)) (by walk_at "pre"); walk_at "pre"); walk_at "pre"); walk_at "sc") (by have := post_ltake reel (most + (1 : Int)) (by walk_at "pre"); have := post_ltake ((m_ltake reel (most + (1 : Int))).2) ((if (4 : Int) < most then (4 : Int) else most) + (1 : Int)) (by have := post_ltake reel (most + (1 : Int)) (by walk_at "pre"); walk_at "pre"); have := post_ltake ((m_ltake ((m_ltake reel (most + (1 : Int))).2) ((if (4 : Int) < most then (4 : Int) else most) + (1 : Int))).2) (3 : Int) (by have := post_ltake reel (most + (1 : Int)) (by walk_at "pre"); have := post_ltake ((m_ltake reel (most + (1 : Int))).2) ((if (4 : Int) < most then (4 : Int) else most) + (1 : Int)) (by have := post_ltake reel (most + (1 : Int)) (by walk_at "pre"); walk_at "pre"); walk_at "pre"); walk_at "ix")) fun G5 H5 v5_many x20 l5 o5_reel r5_many => ?_)
  have x0_5 := x0_0.transM x20
  show tSs _ _ _ [some (.ref q_reel), some v_most, some v_modulus, some v5_many, none, none, none, none, none, none, none, none, none] _
  obtain ⟨many, e21⟩ : ∃ z, z = ((([(m_ltake reel (most + (1 : Int))).1, most, (m_ltake ((m_ltake reel (most + (1 : Int))).2) ((if (4 : Int) < most then (4 : Int) else most) + (1 : Int))).1] : List Int)).getD ((m_ltake ((m_ltake ((m_ltake reel (most + (1 : Int))).2) ((if (4 : Int) < most then (4 : Int) else most) + (1 : Int))).2) (3 : Int)).1).toNat (0 : Int)) := ⟨_, rfl⟩
  rw [← e21] at r5_many
  have tk : _ = m_lrow_1 reel most modulus many := tk.trans (by first | (rw [e21] <;> rfl) | rfl)
  have f_e21 : 0 ≤ many ∧ many ≤ most := by rw [e21]; have hmin1 : (if (4 : Int) < most then (4 : Int) else most) ≤ most := (by split <;> omega); have hmin2 : 0 ≤ (if (4 : Int) < most then (4 : Int) else most) := (by split <;> omega); refine getD_bd' (lo := 0) (hi := most) (by simp only [List.length_cons, List.length_nil]; omega) fun x hx => ?_; simp only [List.mem_cons, List.mem_nil_iff, or_false] at hx; (rcases hx with rfl | rfl | rfl <;> omega)
  obtain ⟨reel, e22⟩ : ∃ z, z = (m_ltake ((m_ltake ((m_ltake reel (most + (1 : Int))).2) ((if (4 : Int) < most then (4 : Int) else most) + (1 : Int))).2) (3 : Int)).2 := ⟨_, rfl⟩
  rw [← e22] at o5_reel
  have tk : _ = m_lrow_2 reel modulus many := tk.trans (by first | (rw [e22] <;> rfl) | rfl)
  have g_e22 := congrArg List.length e22; try simp only [List.length_append, List.length_cons, List.length_nil, rng_len, List.length_map, List.length_reverse, List.length_set] at g_e22
  have fc27 := post_ltake reel (7 : Int) (by walk_at "pre")
  refine b_cons (s_setM sc_lrow.nd ss_lrow_kind x0_5.s o5_reel (evM_m2 C_ltake (hr.mono (by decide)) gl_lrow__law_take (sl_lrow_reel) (evM_pure fun G23 H24 x25 o26 => ev_int) (by walk_at "pre")) fun G7 H7 v7_kind x28 l7 o7_reel r7_kind => ?_)
  have x0_7 := x0_5.transM x28
  show tSs _ _ _ [some (.ref q_reel), some v_most, some v_modulus, some v5_many, some v7_kind, none, none, none, none, none, none, none, none] _
  obtain ⟨kind, e29⟩ : ∃ z, z = (m_ltake reel (7 : Int)).1 := ⟨_, rfl⟩
  rw [← e29] at r7_kind
  have tk : _ = m_lrow_3 reel modulus many kind := tk.trans (by first | (rw [e29] <;> rfl) | rfl)
  obtain ⟨reel, e30⟩ : ∃ z, z = (m_ltake reel (7 : Int)).2 := ⟨_, rfl⟩
  rw [← e30] at o7_reel
  have tk : _ = m_lrow_4 reel modulus many kind := tk.trans (by first | (rw [e30] <;> rfl) | rfl)
  have g_e30 := congrArg List.length e30; try simp only [List.length_append, List.length_cons, List.length_nil, rng_len, List.length_map, List.length_reverse, List.length_set] at g_e30
  have fc39 := post_ltake reel (4 : Int) (by walk_at "pre")
  refine b_cons (s_setM sc_lrow.nd ss_lrow_wide x0_7.s o7_reel (evM_ix (0 : Int) (evM_pure fun G31 H32 x33 o34 => (ev_list (es_cons ev_int (es_cons ev_int (es_cons (ev_bin b_add (ev_v (sl_lrow_modulus) (up (x20.g.trans (x28.g.trans x33.g)) r_modulus)) ev_int) (es_cons ev_int es_nil)))))) (evM_m2 C_ltake (hr.mono (by decide)) gl_lrow__law_take (sl_lrow_reel) (evM_pure fun G35 H36 x37 o38 => ev_int) (by walk_at "pre")) (by have := post_ltake reel (4 : Int) (by walk_at "pre"); walk_at "sc") (by have := post_ltake reel (4 : Int) (by walk_at "pre"); walk_at "ix")) fun G10 H10 v10_wide x40 l10 o10_reel r10_wide => ?_)
  have x0_10 := x0_7.transM x40
  show tSs _ _ _ [some (.ref q_reel), some v_most, some v_modulus, some v5_many, some v7_kind, some v10_wide, none, none, none, none, none, none, none] _
  obtain ⟨wide, e41⟩ : ∃ z, z = ((([(2 : Int), (4 : Int), (modulus + (1 : Int)), (1000 : Int)] : List Int)).getD ((m_ltake reel (4 : Int)).1).toNat (0 : Int)) := ⟨_, rfl⟩
  rw [← e41] at r10_wide
  have tk : _ = m_lrow_5 reel modulus many kind wide := tk.trans (by first | (rw [e41] <;> rfl) | rfl)
  have f_e41 : 2 ≤ wide ∧ wide ≤ 1000 := by rw [e41]; have hmin1 : (if (4 : Int) < most then (4 : Int) else most) ≤ most := (by split <;> omega); have hmin2 : 0 ≤ (if (4 : Int) < most then (4 : Int) else most) := (by split <;> omega); refine getD_bd' (lo := 2) (hi := 1000) (by simp only [List.length_cons, List.length_nil]; omega) fun x hx => ?_; simp only [List.mem_cons, List.mem_nil_iff, or_false] at hx; (rcases hx with rfl | rfl | rfl | rfl <;> omega)
  obtain ⟨reel, e42⟩ : ∃ z, z = (m_ltake reel (4 : Int)).2 := ⟨_, rfl⟩
  rw [← e42] at o10_reel
  have tk : _ = m_lrow_6 reel modulus many kind wide := tk.trans (by first | (rw [e42] <;> rfl) | rfl)
  have g_e42 := congrArg List.length e42; try simp only [List.length_append, List.length_cons, List.length_nil, rng_len, List.length_map, List.length_reverse, List.length_set] at g_e42
  have fc47 := post_ltake reel modulus (by walk_at "pre")
  refine b_cons (s_setM sc_lrow.nd ss_lrow_same x0_10.s o10_reel (evM_m2 C_ltake (hr.mono (by decide)) gl_lrow__law_take (sl_lrow_reel) (evM_pure fun G43 H44 x45 o46 => (ev_v (sl_lrow_modulus) (up (x20.g.trans (x28.g.trans (x40.g.trans x45.g))) r_modulus))) (by walk_at "pre")) fun G12 H12 v12_same x48 l12 o12_reel r12_same => ?_)
  have x0_12 := x0_10.transM x48
  show tSs _ _ _ [some (.ref q_reel), some v_most, some v_modulus, some v5_many, some v7_kind, some v10_wide, some v12_same, none, none, none, none, none, none] _
  obtain ⟨same, e49⟩ : ∃ z, z = (m_ltake reel modulus).1 := ⟨_, rfl⟩
  rw [← e49] at r12_same
  have tk : _ = m_lrow_7 reel modulus many kind wide same := tk.trans (by first | (rw [e49] <;> rfl) | rfl)
  obtain ⟨reel, e50⟩ : ∃ z, z = (m_ltake reel modulus).2 := ⟨_, rfl⟩
  rw [← e50] at o12_reel
  have tk : _ = m_lrow_8 reel modulus many kind wide same := tk.trans (by first | (rw [e50] <;> rfl) | rfl)
  have g_e50 := congrArg List.length e50; try simp only [List.length_append, List.length_cons, List.length_nil, rng_len, List.length_map, List.length_reverse, List.length_set] at g_e50
  refine b_cons (s_nil (α := Int) sc_lrow.nd ss_lrow_found x0_12.s fun H13 q_found x51 l13 n_q_found o13_found => ?_)
  have x0_13 := x0_12.trans x51
  have m_q_found := x0_12.h.free n_q_found
  have d_q_reel_q_found : q_reel ≠ q_found := fun z => by obtain ⟨u, hu⟩ := o12_reel.ex; rw [z, n_q_found] at hu; cases hu
  have o13_reel := o12_reel.mono x51
  show tSs _ _ _ [some (.ref q_reel), some v_most, some v_modulus, some v5_many, some v7_kind, some v10_wide, some v12_same, some (.ref q_found), none, none, none, none, none] _
  refine b_cons (s_for (T := (T1 K 8)) (passes_of rfl) rfl (pg_name (i := 8) sc_lrow.nd rfl ss_lrow_k.hx) acts1 x0_13.s (ei_range1 ⟨gl_lrow_range, T.b_range⟩ (ev_v (sl_lrow_many) (up (x28.g.trans (x40.g.trans (x48.g.trans (Same.refl _)))) r5_many)) (by walk_at "sc") (by walk_at "sc")) (fun rest σ G H => ∃ (reel_0 : (List Int)) (found : (List Int)), lfold (m_lrow_9s modulus kind wide same) rest (reel_0, found) = lfold (m_lrow_9s modulus kind wide same) (rng 0 many) (reel, ([] : (List Int))) ∧ ExtM q_reel G0 H0 G H ∧ ∃ (y1_8 y1_9 y1_10 y1_11 y1_12 : Option V), σ = [some (.ref q_reel), some v_most, some v_modulus, some v5_many, some v7_kind, some v10_wide, some v12_same, some (.ref q_found), y1_8, y1_9, y1_10, y1_11, y1_12] ∧ Own K G H q_reel reel_0 ∧ Own K G H q_found found ∧ found.length + 1 * rest.length ≤ ([] : (List Int)).length + 1 * (rng 0 many).length ∧ reel_0.length = 2) (fun _ _ x => ⟨reel, ([] : (List Int)), rfl, x0_13.trans x, none, none, none, none, none, rfl, o13_reel.mono x, o13_found.mono x, by walk_at "inv0", by walk_at "inv0"⟩) ?_ ?_)
  · intro k rest σ1 G14 H14 G15 H15 σ2 hx1 sgA15 sh1 I_ x52 l15 hT
    obtain ⟨reel_0, found, es1, x0_14, y1_8, y1_9, y1_10, y1_11, y1_12, rfl, o14_reel, o14_found, inv1_0, inv1_1⟩ := I_
    have x0_15 := x0_14.trans x52
    have o15_reel := o14_reel.mono x52
    have o15_found := o14_found.mono x52
    obtain ⟨t1, rt1, rfl⟩ := hT
    have inv1_0_ := inv1_0; try simp only [List.length_cons, List.length_nil] at inv1_0_
    have inv1_1_ := inv1_1; try simp only [List.length_cons, List.length_nil] at inv1_1_
    have mem1 := mem_of hx1.1
    have hlx1 := hx1.2; rw [sizeLine_eq] at hlx1
    have hlr1 := mem_len hx1.1
    have tk1 := tk
    have mem1_ := mem_rng.mp mem1
    have tk : m_lrow_9s modulus kind wide same k (reel_0, found) = _ := rfl
    show tSs _ _ _ [some (.ref q_reel), some v_most, some v_modulus, some v5_many, some v7_kind, some v10_wide, some v12_same, some (.ref q_found), some t1, y1_9, y1_10, y1_11, y1_12] _
    have fc57 := post_ltake reel_0 wide (by walk_at "pre")
    refine b_cons (s_setM sc_lrow.nd ss_lrow_number x0_15.s o15_reel (evM_m2 C_ltake (hr.mono (by decide)) gl_lrow__law_take (sl_lrow_reel) (evM_pure fun G53 H54 x55 o56 => (ev_v (sl_lrow_wide) (up (x48.g.trans ((Same.refl _).trans (sgA15.trans (x52.g.trans x55.g)))) r10_wide))) (by walk_at "pre")) fun G17 H17 v17_number x58 l17 o17_reel r17_number => ?_)
    have x0_17 := x0_15.transM x58
    have o17_found := o15_found.monoM x58 (Ne.symm d_q_reel_q_found)
    show tSs _ _ _ [some (.ref q_reel), some v_most, some v_modulus, some v5_many, some v7_kind, some v10_wide, some v12_same, some (.ref q_found), some t1, some v17_number, y1_10, y1_11, y1_12] _
    obtain ⟨number, e59⟩ : ∃ z, z = (m_ltake reel_0 wide).1 := ⟨_, rfl⟩
    rw [← e59] at r17_number
    have tk : _ = m_lrow_11 modulus kind wide same reel_0 found number := tk.trans (by first | (rw [e59] <;> rfl) | rfl)
    obtain ⟨reel, e60⟩ : ∃ z, z = (m_ltake reel_0 wide).2 := ⟨_, rfl⟩
    rw [← e60] at o17_reel
    have tk : _ = m_lrow_12 reel modulus kind wide same found number := tk.trans (by first | (rw [e60] <;> rfl) | rfl)
    have g_e60 := congrArg List.length e60; try simp only [List.length_append, List.length_cons, List.length_nil, rng_len, List.length_map, List.length_reverse, List.length_set] at g_e60
    refine b_cons (s_set sc_lrow.nd ss_lrow_great x0_17.s (ev_bin b_add (ev_bin (b_mul (by walk_at "mu")) (ev_bin b_sub (ev_v (sl_lrow_number) r17_number) (ev_bin (b_div ⟨(by walk_at "sc"), (by walk_at "sc")⟩) (ev_v (sl_lrow_wide) (up (x48.g.trans ((Same.refl _).trans (sgA15.trans (x52.g.trans x58.g)))) r10_wide)) ev_int)) (Ev.to (y := (1999999999999999999999999999 : Int)) (ev_bin b_sub (Ev.to (y := (2000000000000000000000000000 : Int)) (ev_bin (b_mul (by walk_at "mu")) ev_int (Ev.to (y := (1000000000000000000000000000 : Int)) (ev_bin (b_pow (by walk_at "pw")) ev_int ev_int) (by decide))) (by decide)) ev_int) (by decide))) (ev_v (sl_lrow_number) r17_number)) fun G18 H18 v18_great x61 l18 r18_great => ?_)
    have x0_18 := x0_17.trans x61
    have o18_reel := o17_reel.mono x61
    have o18_found := o17_found.mono x61
    show tSs _ _ _ [some (.ref q_reel), some v_most, some v_modulus, some v5_many, some v7_kind, some v10_wide, some v12_same, some (.ref q_found), some t1, some v17_number, some v18_great, y1_11, y1_12] _
    obtain ⟨great, e62⟩ : ∃ z, z = (((number - (wide / (2 : Int))) * (1999999999999999999999999999 : Int)) + number) := ⟨_, rfl⟩
    rw [← e62] at r18_great
    have tk : _ = m_lrow_13 reel modulus kind wide same found number great := tk.trans (by first | (rw [e62] <;> rfl) | rfl)
    refine b_cons (s_setO sc_lrow.nd ss_lrow_some_ x0_18.s (evN_list (es_cons (ev_v (sl_lrow_number) (up x61.g r17_number)) (es_cons (ev_bin b_sub (ev_v (sl_lrow_number) (up x61.g r17_number)) (ev_bin (b_div ⟨(by walk_at "sc"), (by walk_at "sc")⟩) (ev_v (sl_lrow_wide) (up (x48.g.trans ((Same.refl _).trans (sgA15.trans (x52.g.trans (x58.g.trans x61.g))))) r10_wide)) ev_int)) (es_cons (ev_v (sl_lrow_great) r18_great) (es_cons (ev_bin b_add (ev_v (sl_lrow_same) (up ((Same.refl _).trans (sgA15.trans (x52.g.trans (x58.g.trans x61.g)))) r12_same)) (ev_bin (b_mul (by walk_at "mu")) (ev_v (sl_lrow_modulus) (up (x20.g.trans (x28.g.trans (x40.g.trans (x48.g.trans ((Same.refl _).trans (sgA15.trans (x52.g.trans (x58.g.trans x61.g)))))))) r_modulus)) (ev_v (sl_lrow_number) (up x61.g r17_number)))) (es_cons (ev_ix (0 : Int) (ev_list (es_cons ev_int (es_cons (ev_v (sl_lrow_same) (up ((Same.refl _).trans (sgA15.trans (x52.g.trans (x58.g.trans x61.g)))) r12_same)) es_nil))) (ev_bin (b_mod (by walk_at "sc")) (ev_v (sl_lrow_number) (up x61.g r17_number)) ev_int) (by walk_at "sc") (by walk_at "ix")) (es_cons (ev_bin b_sub ev_int (ev_v (sl_lrow_number) (up x61.g r17_number))) es_nil))))))) fun G19 H19 q_some_ x63 l19 n_q_some_ o19_some_ => ?_)
    have x0_19 := x0_18.trans x63
    have m_q_some_ := x0_18.h.free n_q_some_
    have d_q_reel_q_some_ : q_reel ≠ q_some_ := fun z => by obtain ⟨u, hu⟩ := o18_reel.ex; rw [z, n_q_some_] at hu; cases hu
    have o19_reel := o18_reel.mono x63
    have d_q_found_q_some_ : q_found ≠ q_some_ := fun z => by obtain ⟨u, hu⟩ := o18_found.ex; rw [z, n_q_some_] at hu; cases hu
    have o19_found := o18_found.mono x63
    show tSs _ _ _ [some (.ref q_reel), some v_most, some v_modulus, some v5_many, some v7_kind, some v10_wide, some v12_same, some (.ref q_found), some t1, some v17_number, some v18_great, some (.ref q_some_), y1_12] _
    obtain ⟨some_, e64⟩ : ∃ z, z = ([number, (number - (wide / (2 : Int))), great, (same + (modulus * number)), ((([(1 : Int), same] : List Int)).getD ((number % (2 : Int))).toNat (0 : Int)), ((0 : Int) - number)] : List Int) := ⟨_, rfl⟩
    rw [← e64] at o19_some_
    have tk : _ = m_lrow_14 reel kind found number some_ := tk.trans (by first | (rw [e64] <;> rfl) | rfl)
    have g_e64 := congrArg List.length e64; try simp only [List.length_append, List.length_cons, List.length_nil, rng_len, List.length_map, List.length_reverse, List.length_set] at g_e64
    refine b_cons (s_if x0_19.s (et_cmp c_eq (ev_v (sl_lrow_kind) (up (x40.g.trans (x48.g.trans ((Same.refl _).trans (sgA15.trans (x52.g.trans (x58.g.trans (x61.g.trans x63.g))))))) r7_kind)) ev_int) (fun h65 G20 H20 x66 l20 => ?_) (fun h65 G20 H20 x66 l20 => ?_))
    · have tk := tk_tt tk h65
      have h65_ := h65; try simp only [Bool.and_eq_true, Bool.or_eq_true, Bool.and_eq_false_iff, Bool.or_eq_false_iff, Bool.not_eq_true', Bool.not_eq_false', decide_eq_true_eq, decide_eq_false_iff_not, Classical.not_not] at h65_
      have x0_20 := x0_19.trans x66
      have o20_reel := o19_reel.mono x66
      have o20_found := o19_found.mono x66
      have o20_some_ := o19_some_.mono x66
      show tSs _ _ _ [some (.ref q_reel), some v_most, some v_modulus, some v5_many, some v7_kind, some v10_wide, some v12_same, some (.ref q_found), some t1, some v17_number, some v18_great, some (.ref q_some_), y1_12] _
      have fc79 := post_ltake reel (1000000000 : Int) (by walk_at "pre")
      have fc80 := post_ltake ((m_ltake reel (1000000000 : Int)).2) (4 : Int) (by have := post_ltake reel (1000000000 : Int) (by walk_at "pre"); walk_at "pre")
      refine b_cons (s_setM sc_lrow.nd ss_lrow_far x0_20.s o20_reel (evM_bin (b_mul (by have := post_ltake reel (1000000000 : Int) (by walk_at "pre"); have := post_ltake ((m_ltake reel (1000000000 : Int)).2) (4 : Int) (by have := post_ltake reel (1000000000 : Int) (by walk_at "pre"); walk_at "pre"); walk_at "mu")) (evM_m2 C_ltake (hr.mono (by decide)) gl_lrow__law_take (sl_lrow_reel) (evM_pure fun G67 H68 x69 o70 => (Ev.to (y := (1000000000 : Int)) (ev_bin (b_pow (by walk_at "pw")) ev_int ev_int) (by decide))) (by walk_at "pre")) (evM_ix (0 : Int) (evM_pure fun G71 H72 x73 o74 => have := post_ltake reel (1000000000 : Int) (by walk_at "pre"); (ev_list (es_cons ev_int (es_cons (Ev.to (y := (10000 : Int)) (ev_bin (b_pow (by walk_at "pw")) ev_int ev_int) (by decide)) (es_cons (Ev.to (y := (1000000000000 : Int)) (ev_bin (b_pow (by walk_at "pw")) ev_int ev_int) (by decide)) (es_cons (Ev.to (y := (1000000000000000000000 : Int)) (ev_bin (b_pow (by walk_at "pw")) ev_int ev_int) (by decide)) es_nil)))))) (evM_m2 C_ltake (hr.mono (by decide)) gl_lrow__law_take (sl_lrow_reel) (evM_pure fun G75 H76 x77 o78 => have := post_ltake reel (1000000000 : Int) (by walk_at "pre"); ev_int) (by have := post_ltake reel (1000000000 : Int) (by walk_at "pre"); walk_at "pre")) (by have := post_ltake reel (1000000000 : Int) (by walk_at "pre"); have := post_ltake ((m_ltake reel (1000000000 : Int)).2) (4 : Int) (by have := post_ltake reel (1000000000 : Int) (by walk_at "pre"); walk_at "pre"); walk_at "sc") (by have := post_ltake reel (1000000000 : Int) (by walk_at "pre"); have := post_ltake ((m_ltake reel (1000000000 : Int)).2) (4 : Int) (by have := post_ltake reel (1000000000 : Int) (by walk_at "pre"); walk_at "pre"); walk_at "ix"))) fun G24 H24 v24_far x81 l24 o24_reel r24_far => ?_)
      have x0_24 := x0_20.transM x81
      have o24_found := o20_found.monoM x81 (Ne.symm d_q_reel_q_found)
      have o24_some_ := o20_some_.monoM x81 (Ne.symm d_q_reel_q_some_)
      show tSs _ _ _ [some (.ref q_reel), some v_most, some v_modulus, some v5_many, some v7_kind, some v10_wide, some v12_same, some (.ref q_found), some t1, some v17_number, some v18_great, some (.ref q_some_), some v24_far] _
      obtain ⟨far, e82⟩ : ∃ z, z = ((m_ltake reel (1000000000 : Int)).1 * ((([(1 : Int), (10000 : Int), (1000000000000 : Int), (1000000000000000000000 : Int)] : List Int)).getD ((m_ltake ((m_ltake reel (1000000000 : Int)).2) (4 : Int)).1).toNat (0 : Int))) := ⟨_, rfl⟩
      rw [← e82] at r24_far
      have tk : _ = m_lrow_15 reel kind found number some_ far := tk.trans (by first | (rw [e82] <;> rfl) | rfl)
      obtain ⟨reel, e83⟩ : ∃ z, z = (m_ltake ((m_ltake reel (1000000000 : Int)).2) (4 : Int)).2 := ⟨_, rfl⟩
      rw [← e83] at o24_reel
      have tk : _ = m_lrow_16 reel kind found number some_ far := tk.trans (by first | (rw [e83] <;> rfl) | rfl)
      have g_e83 := congrArg List.length e83; try simp only [List.length_append, List.length_cons, List.length_nil, rng_len, List.length_map, List.length_reverse, List.length_set] at g_e83
      refine b_cons (s_append (sl_lrow_some_) x0_24.s o24_some_ (ev_bin b_add (ev_bin (b_mul (by walk_at "mu")) (ev_v (sl_lrow_far) r24_far) (ev_ix (0 : Int) (ev_list (es_cons ev_int (es_cons (Ev.to (y := (-1 : Int)) (ev_neg ev_int) (by decide)) es_nil))) (ev_bin (b_mod (by walk_at "sc")) (ev_v (sl_lrow_number) (up (x61.g.trans (x63.g.trans (x66.g.trans x81.g))) r17_number)) ev_int) (by walk_at "sc") (by walk_at "ix"))) (ev_v (sl_lrow_number) (up (x61.g.trans (x63.g.trans (x66.g.trans x81.g))) r17_number))) (by walk_at "sz") fun G25 H25_ us85 x84 l25 o25_some_ => ?_)
      have x0_25 := (x0_24.trans x84).wr (o := .lst us85) m_q_some_ o25_some_.off
      have o25_reel := (o24_reel.mono x84).wr (o' := .lst us85) d_q_reel_q_some_
      have o25_found := (o24_found.mono x84).wr (o' := .lst us85) d_q_found_q_some_
      show tSs _ _ _ [some (.ref q_reel), some v_most, some v_modulus, some v5_many, some v7_kind, some v10_wide, some v12_same, some (.ref q_found), some t1, some v17_number, some v18_great, some (.ref q_some_), some v24_far] _
      refine b_nil ?_
      show tSs _ _ _ [some (.ref q_reel), some v_most, some v_modulus, some v5_many, some v7_kind, some v10_wide, some v12_same, some (.ref q_found), some t1, some v17_number, some v18_great, some (.ref q_some_), some v24_far] _
      refine b_cons (s_append (sl_lrow_found) x0_25.s o25_found (ev_ix (0 : Int) (ev_vO (sl_lrow_some_) o25_some_) (ev_v (sl_lrow_kind) (up (x40.g.trans (x48.g.trans ((Same.refl _).trans (sgA15.trans (x52.g.trans (x58.g.trans (x61.g.trans (x63.g.trans (x66.g.trans (x81.g.trans x84.g)))))))))) r7_kind)) (by walk_at "sc") (by walk_at "ix")) (by walk_at "sz") fun G26 H26_ us87 x86 l26 o26_found => ?_)
      have x0_26 := (x0_25.trans x86).wr (o := .lst us87) m_q_found o26_found.off
      have o26_reel := (o25_reel.mono x86).wr (o' := .lst us87) d_q_reel_q_found
      have o26_some_ := (o25_some_.mono x86).wr (o' := .lst us87) (Ne.symm d_q_found_q_some_)
      show tSs _ _ _ [some (.ref q_reel), some v_most, some v_modulus, some v5_many, some v7_kind, some v10_wide, some v12_same, some (.ref q_found), some t1, some v17_number, some v18_great, some (.ref q_some_), some v24_far] _
      refine b_nil ?_
      exact ⟨_, x58.g.trans (x61.g.trans (x63.g.trans (x66.g.trans (x81.g.trans (x84.g.trans x86.g))))), x0_26.s, reel, (found ++ [(((some_ ++ [((far * ((([(1 : Int), (-1 : Int)] : List Int)).getD ((number % (2 : Int))).toNat (0 : Int))) + number)])).getD (kind).toNat (0 : Int))]), lfold_nxt es1 tk, x0_26, some t1, some v17_number, some v18_great, some (.ref q_some_), some v24_far, rfl, o26_reel, o26_found, by have hi := inv1_0; (try simp only [List.length_cons, List.length_nil, List.length_append, rng_len, enum_len] at hi ⊢); first | omega | walk_at "invx", by have hi := inv1_1; (try simp only [List.length_cons, List.length_nil, List.length_append, rng_len, enum_len] at hi ⊢); first | omega | walk_at "invx"⟩
    · have tk := tk_ff tk h65
      have h65_ := h65; try simp only [Bool.and_eq_true, Bool.or_eq_true, Bool.and_eq_false_iff, Bool.or_eq_false_iff, Bool.not_eq_true', Bool.not_eq_false', decide_eq_true_eq, decide_eq_false_iff_not, Classical.not_not] at h65_
      have x0_20 := x0_19.trans x66
      have o20_reel := o19_reel.mono x66
      have o20_found := o19_found.mono x66
      have o20_some_ := o19_some_.mono x66
      show tSs _ _ _ [some (.ref q_reel), some v_most, some v_modulus, some v5_many, some v7_kind, some v10_wide, some v12_same, some (.ref q_found), some t1, some v17_number, some v18_great, some (.ref q_some_), y1_12] _
      refine b_nil ?_
      show tSs _ _ _ [some (.ref q_reel), some v_most, some v_modulus, some v5_many, some v7_kind, some v10_wide, some v12_same, some (.ref q_found), some t1, some v17_number, some v18_great, some (.ref q_some_), y1_12] _
      refine b_cons (s_append (sl_lrow_found) x0_20.s o20_found (ev_ix (0 : Int) (ev_vO (sl_lrow_some_) o20_some_) (ev_v (sl_lrow_kind) (up (x40.g.trans (x48.g.trans ((Same.refl _).trans (sgA15.trans (x52.g.trans (x58.g.trans (x61.g.trans (x63.g.trans x66.g)))))))) r7_kind)) (by walk_at "sc") (by walk_at "ix")) (by walk_at "sz") fun G27 H27_ us89 x88 l27 o27_found => ?_)
      have x0_27 := (x0_20.trans x88).wr (o := .lst us89) m_q_found o27_found.off
      have o27_reel := (o20_reel.mono x88).wr (o' := .lst us89) d_q_reel_q_found
      have o27_some_ := (o20_some_.mono x88).wr (o' := .lst us89) (Ne.symm d_q_found_q_some_)
      show tSs _ _ _ [some (.ref q_reel), some v_most, some v_modulus, some v5_many, some v7_kind, some v10_wide, some v12_same, some (.ref q_found), some t1, some v17_number, some v18_great, some (.ref q_some_), y1_12] _
      refine b_nil ?_
      exact ⟨_, x58.g.trans (x61.g.trans (x63.g.trans (x66.g.trans x88.g))), x0_27.s, reel, (found ++ [((some_).getD (kind).toNat (0 : Int))]), lfold_nxt es1 tk, x0_27, some t1, some v17_number, some v18_great, some (.ref q_some_), y1_12, rfl, o27_reel, o27_found, by have hi := inv1_0; (try simp only [List.length_cons, List.length_nil, List.length_append, rng_len, enum_len] at hi ⊢); first | omega | walk_at "invx", by have hi := inv1_1; (try simp only [List.length_cons, List.length_nil, List.length_append, rng_len, enum_len] at hi ⊢); first | omega | walk_at "invx"⟩
  · intro σ1 G28 H28 sgC28 sh1 I_
    obtain ⟨reel_0, found, es1, x0_28, y1_8, y1_9, y1_10, y1_11, y1_12, rfl, o28_reel, o28_found, inv1_0, inv1_1⟩ := I_
    have tk := tk_fold (k := m_lrow_10) tk es1
    have inv1_0_ := inv1_0; try simp only [List.length_cons, List.length_nil, rng_len, enum_len] at inv1_0_
    have inv1_1_ := inv1_1; try simp only [List.length_cons, List.length_nil, rng_len, enum_len] at inv1_1_
    show tSs _ _ _ [some (.ref q_reel), some v_most, some v_modulus, some v5_many, some v7_kind, some v10_wide, some v12_same, some (.ref q_found), y1_8, y1_9, y1_10, y1_11, y1_12] _
    obtain ⟨G29, x0_29, sg29, r29_found⟩ := o28_found.frzM x0_28 m_q_found
    have o29_reel := o28_reel.re sg29 (offM x0_29 o0_reel)
    refine b_cons (s_retV (sl_lrow_found) x0_29.s ?_)
    exact fin.rt _ _ _ x0_29 (own_of tk o29_reel) (rep_of2 tk r29_found) (fun _ p z => by cases z; exact m_q_found)
end

abbrev N_word_n : List Str := ["found", "some", "one"]
theorem sc_word_n : FnScope N_word_n ["found"] (defScope s__law_word) := ⟨rfl, rfl, rfl, by decide +kernel, rfl, by decide +kernel, by decide +kernel⟩
theorem sl_word_n_found {P : Program} {w : World} {K : PySem.W.Frag} {mg : Str → Option Value} {base : Heap} {f : Addr} {cdv : Value} {A : Around} {outer : List Env} {s : Shared} {H : Hp} {E : XK} : Sl (cxOf (L2.CX P w) P w K mg base N_word_n "_law_word" (defScope s__law_word) f cdv A outer s H E) 0 "found" := ⟨rfl, (by first | exact .inl rfl | exact .inr (.inl rfl)), nm_found⟩
theorem cal_word_n {P : Program} {w : World} {K : PySem.W.Frag} {mg : Str → Option Value} {base : Heap} {f : Addr} {fd : FuncData} {c_RestError c_NoModulus c_NoCount c_NoPaper c_TooMany c_NoText c_NoForm c_NoneYet : Addr} (T : Txt K mg c_RestError c_NoModulus c_NoCount c_NoPaper c_TooMany c_NoText c_NoForm c_NoneYet) (F : Fun K "_law_word" "_law_word" s__law_word f fd) (hm : mg "_law_word" = some (.ref f)) (hb : Binds K fd ["found"] [])  : Cal P w K mg base 1 "_law_word" (Sp1 K false (fun (found : Unit) => True) m_word_n) := by
  refine fn1 F hm hb sc_word_n rfl fun cdv A outer s H0 E hr G0 v_found found D s0 r_found hp fin => ?_
  have x0_0 : Ext G0 H0 G0 H0 := Ext.refl s0
  show tSs _ _ D [some v_found, none, none] H0
  have tk : m_word_n found = _ := rfl
  refine b_cons (s_if x0_0.s (et_cmp c_isU (ev_v (sl_word_n_found) r_found) ev_unit) (fun h1 G1 H1 x2 l1 => ?_) (fun h1 G1 H1 x2 l1 => ?_))
  · have tk := tk
    have x0_1 := x0_0.trans x2
    show tSs _ _ _ [some v_found, none, none] _
    refine b_cons (s_ret x0_1.s ev_int fun G_ H_ v4 x3 _ r_ => ?_)
    exact fin.rt _ _ _ (x0_1.trans x3) (rep_of tk r_) (fun z => nomatch z)
  · exact absurd h1 (by decide)

abbrev N_word_m : List Str := ["found", "some", "one"]
theorem sc_word_m : FnScope N_word_m ["found"] (defScope s__law_word) := ⟨rfl, rfl, rfl, by decide +kernel, rfl, by decide +kernel, by decide +kernel⟩
theorem sl_word_m_found {P : Program} {w : World} {K : PySem.W.Frag} {mg : Str → Option Value} {base : Heap} {f : Addr} {cdv : Value} {A : Around} {outer : List Env} {s : Shared} {H : Hp} {a_e : Addr} {oe_ : Obj} : Sl (cxK P w K mg base N_word_m "_law_word" (defScope s__law_word) f cdv A outer s H (a_e, oe_)) 0 "found" := ⟨rfl, (by first | exact .inl rfl | exact .inr (.inl rfl)), nm_found⟩
theorem sl_word_m_some_ {P : Program} {w : World} {K : PySem.W.Frag} {mg : Str → Option Value} {base : Heap} {f : Addr} {cdv : Value} {A : Around} {outer : List Env} {s : Shared} {H : Hp} {a_e : Addr} {oe_ : Obj} : Sl (cxK P w K mg base N_word_m "_law_word" (defScope s__law_word) f cdv A outer s H (a_e, oe_)) 1 "some" := ⟨rfl, (by first | exact .inl rfl | exact .inr (.inl rfl)), nm_some_⟩
theorem ss_word_m_some_ {P : Program} {w : World} {K : PySem.W.Frag} {mg : Str → Option Value} {base : Heap} {f : Addr} {cdv : Value} {A : Around} {outer : List Env} {s : Shared} {H : Hp} {a_e : Addr} {oe_ : Obj} : Ss (cxK P w K mg base N_word_m "_law_word" (defScope s__law_word) f cdv A outer s H (a_e, oe_)) 1 "some" := ⟨rfl, (by first | exact .inl rfl | exact .inr rfl), .inl rfl⟩
theorem gl_word_m_NoCount {P : Program} {w : World} {K : PySem.W.Frag} {mg : Str → Option Value} {base : Heap} {f : Addr} {cdv : Value} {A : Around} {outer : List Env} {s : Shared} {H : Hp} {a_e : Addr} {oe_ : Obj} : Gl (cxK P w K mg base N_word_m "_law_word" (defScope s__law_word) f cdv A outer s H (a_e, oe_)) "NoCount" := by rfl
theorem gl_word_m_NoForm {P : Program} {w : World} {K : PySem.W.Frag} {mg : Str → Option Value} {base : Heap} {f : Addr} {cdv : Value} {A : Around} {outer : List Env} {s : Shared} {H : Hp} {a_e : Addr} {oe_ : Obj} : Gl (cxK P w K mg base N_word_m "_law_word" (defScope s__law_word) f cdv A outer s H (a_e, oe_)) "NoForm" := by rfl
theorem gl_word_m_NoModulus {P : Program} {w : World} {K : PySem.W.Frag} {mg : Str → Option Value} {base : Heap} {f : Addr} {cdv : Value} {A : Around} {outer : List Env} {s : Shared} {H : Hp} {a_e : Addr} {oe_ : Obj} : Gl (cxK P w K mg base N_word_m "_law_word" (defScope s__law_word) f cdv A outer s H (a_e, oe_)) "NoModulus" := by rfl
theorem gl_word_m_NoPaper {P : Program} {w : World} {K : PySem.W.Frag} {mg : Str → Option Value} {base : Heap} {f : Addr} {cdv : Value} {A : Around} {outer : List Env} {s : Shared} {H : Hp} {a_e : Addr} {oe_ : Obj} : Gl (cxK P w K mg base N_word_m "_law_word" (defScope s__law_word) f cdv A outer s H (a_e, oe_)) "NoPaper" := by rfl
theorem gl_word_m_NoText {P : Program} {w : World} {K : PySem.W.Frag} {mg : Str → Option Value} {base : Heap} {f : Addr} {cdv : Value} {A : Around} {outer : List Env} {s : Shared} {H : Hp} {a_e : Addr} {oe_ : Obj} : Gl (cxK P w K mg base N_word_m "_law_word" (defScope s__law_word) f cdv A outer s H (a_e, oe_)) "NoText" := by rfl
theorem gl_word_m_NoneYet {P : Program} {w : World} {K : PySem.W.Frag} {mg : Str → Option Value} {base : Heap} {f : Addr} {cdv : Value} {A : Around} {outer : List Env} {s : Shared} {H : Hp} {a_e : Addr} {oe_ : Obj} : Gl (cxK P w K mg base N_word_m "_law_word" (defScope s__law_word) f cdv A outer s H (a_e, oe_)) "NoneYet" := by rfl
theorem gl_word_m_TooMany {P : Program} {w : World} {K : PySem.W.Frag} {mg : Str → Option Value} {base : Heap} {f : Addr} {cdv : Value} {A : Around} {outer : List Env} {s : Shared} {H : Hp} {a_e : Addr} {oe_ : Obj} : Gl (cxK P w K mg base N_word_m "_law_word" (defScope s__law_word) f cdv A outer s H (a_e, oe_)) "TooMany" := by rfl
theorem gl_word_m_ValueError {P : Program} {w : World} {K : PySem.W.Frag} {mg : Str → Option Value} {base : Heap} {f : Addr} {cdv : Value} {A : Around} {outer : List Env} {s : Shared} {H : Hp} {a_e : Addr} {oe_ : Obj} : Gl (cxK P w K mg base N_word_m "_law_word" (defScope s__law_word) f cdv A outer s H (a_e, oe_)) "ValueError" := by rfl
theorem gl_word_m_isinstance {P : Program} {w : World} {K : PySem.W.Frag} {mg : Str → Option Value} {base : Heap} {f : Addr} {cdv : Value} {A : Around} {outer : List Env} {s : Shared} {H : Hp} {a_e : Addr} {oe_ : Obj} : Gl (cxK P w K mg base N_word_m "_law_word" (defScope s__law_word) f cdv A outer s H (a_e, oe_)) "isinstance" := by rfl
theorem gl_word_m_sum {P : Program} {w : World} {K : PySem.W.Frag} {mg : Str → Option Value} {base : Heap} {f : Addr} {cdv : Value} {A : Around} {outer : List Env} {s : Shared} {H : Hp} {a_e : Addr} {oe_ : Obj} : Gl (cxK P w K mg base N_word_m "_law_word" (defScope s__law_word) f cdv A outer s H (a_e, oe_)) "sum" := by rfl
theorem cal_word_m {P : Program} {w : World} {K : PySem.W.Frag} {mg : Str → Option Value} {base : Heap} {f : Addr} {fd : FuncData} {c_RestError c_NoModulus c_NoCount c_NoPaper c_TooMany c_NoText c_NoForm c_NoneYet : Addr} (T : Txt K mg c_RestError c_NoModulus c_NoCount c_NoPaper c_TooMany c_NoText c_NoForm c_NoneYet) (F : Fun K "_law_word" "_law_word" s__law_word f fd) (hm : mg "_law_word" = some (.ref f)) (hb : Binds K fd ["found"] [])  : FlK P w K mg base 1 "_law_word" c_NoModulus m_word_m := by
  refine flK_of F hm hb sc_word_m fun cdv A outer s H0 a_e oe_ hr G0 D hz hv s0 fin => ?_
  have x0_0 : Ext G0 H0 G0 H0 := Ext.refl s0
  show tSs _ _ D [some (.ref a_e), none, none] H0
  have tk : m_word_m = _ := rfl
  refine b_cons (s_if x0_0.s (et_cmp c_isR (ev_v (α := V) (x := (V.ref a_e)) (sl_word_m_found) rfl) ev_unit) (fun h1 G1 H1 x2 l1 => ?_) (fun h1 G1 H1 x2 l1 => ?_))
  · exact absurd h1 (by decide)
  · have tk := tk
    have x0_1 := x0_0.trans x2
    show tSs _ _ _ [some (.ref a_e), none, none] _
    refine b_nil ?_
    show tSs _ _ _ [some (.ref a_e), none, none] _
    refine b_cons (s_if x0_1.s (et_w (ew_or (et_val (ev_isET (as := [c_NoForm, c_NoPaper, c_NoText, c_NoneYet]) (y := false) ⟨gl_word_m_isinstance, T.b_isinstance⟩ T.x_NoModulus.c hz hv (List.mem_singleton.mpr rfl) (ev_v (α := V) (x := (V.ref a_e)) (sl_word_m_found) rfl) (es_cons (ev_glob (x := V.ref c_NoForm) (v := .ref c_NoForm) gl_word_m_NoForm T.x_NoForm.g rfl fun _ => rfl) (es_cons (ev_glob (x := V.ref c_NoPaper) (v := .ref c_NoPaper) gl_word_m_NoPaper T.x_NoPaper.g rfl fun _ => rfl) (es_cons (ev_glob (x := V.ref c_NoText) (v := .ref c_NoText) gl_word_m_NoText T.x_NoText.g rfl fun _ => rfl) (es_cons (ev_glob (x := V.ref c_NoneYet) (v := .ref c_NoneYet) gl_word_m_NoneYet T.x_NoneYet.g rfl fun _ => rfl) es_nil)))) (Nat.le_of_ble_eq_true rfl) (show PySem.W.kitAny K _ _ = some _ from by simp [PySem.W.kitAny, T.i_NoModulus_NoForm, T.i_NoModulus_NoPaper, T.i_NoModulus_NoText, T.i_NoModulus_NoneYet]))) fun c3 => (ew_or1 (et_not (et_val (ev_isE (y := true) ⟨gl_word_m_isinstance, T.b_isinstance⟩ T.x_NoModulus.c hz hv (List.mem_singleton.mpr rfl) (ev_v (α := V) (x := (V.ref a_e)) (sl_word_m_found) rfl) (ev_ty gl_word_m_ValueError T.b_ValueError (by decide +kernel)) (u := V.ty "ValueError") (cv := .type "ValueError") (fun _ z => z) T.i_NoModulus_ValueError)))))) (fun h4 G2 H2 x5 l2 => ?_) (fun h4 G2 H2 x5 l2 => ?_))
    · have tk := tk_tt tk h4
      have h4_ := h4; try simp only [Bool.and_eq_true, Bool.or_eq_true, Bool.and_eq_false_iff, Bool.or_eq_false_iff, Bool.not_eq_true', Bool.not_eq_false', decide_eq_true_eq, decide_eq_false_iff_not, Classical.not_not] at h4_
      have x0_2 := x0_1.trans x5
      show tSs _ _ _ [some (.ref a_e), none, none] _
      refine b_cons (s_ret x0_2.s ev_int fun G_ H_ v7 x6 _ r_ => ?_)
      exact fin.rt _ _ _ (x0_2.trans x6) (rep_of tk r_) (fun z => nomatch z)
    · have tk := tk_ff tk h4
      have h4_ := h4; try simp only [Bool.and_eq_true, Bool.or_eq_true, Bool.and_eq_false_iff, Bool.or_eq_false_iff, Bool.not_eq_true', Bool.not_eq_false', decide_eq_true_eq, decide_eq_false_iff_not, Classical.not_not] at h4_
      have x0_2 := x0_1.trans x5
      show tSs _ _ _ [some (.ref a_e), none, none] _
      refine b_nil ?_
      show tSs _ _ _ [some (.ref a_e), none, none] _
      refine b_cons (s_set sc_word_m.nd ss_word_m_some_ x0_2.s (ev_list (es_cons (ev_isE (y := true) ⟨gl_word_m_isinstance, T.b_isinstance⟩ T.x_NoModulus.c hz hv (List.mem_singleton.mpr rfl) (ev_v (α := V) (x := (V.ref a_e)) (sl_word_m_found) rfl) (ev_glob (x := V.ref c_NoModulus) (v := .ref c_NoModulus) gl_word_m_NoModulus T.x_NoModulus.g rfl fun _ => rfl) (u := V.ref c_NoModulus) (cv := .ref c_NoModulus) (fun _ z => z) T.i_NoModulus_NoModulus) (es_cons (ev_isE (y := false) ⟨gl_word_m_isinstance, T.b_isinstance⟩ T.x_NoModulus.c hz hv (List.mem_singleton.mpr rfl) (ev_v (α := V) (x := (V.ref a_e)) (sl_word_m_found) rfl) (ev_glob (x := V.ref c_NoCount) (v := .ref c_NoCount) gl_word_m_NoCount T.x_NoCount.g rfl fun _ => rfl) (u := V.ref c_NoCount) (cv := .ref c_NoCount) (fun _ z => z) T.i_NoModulus_NoCount) (es_cons (ev_isE (y := false) ⟨gl_word_m_isinstance, T.b_isinstance⟩ T.x_NoModulus.c hz hv (List.mem_singleton.mpr rfl) (ev_v (α := V) (x := (V.ref a_e)) (sl_word_m_found) rfl) (ev_glob (x := V.ref c_TooMany) (v := .ref c_TooMany) gl_word_m_TooMany T.x_TooMany.g rfl fun _ => rfl) (u := V.ref c_TooMany) (cv := .ref c_TooMany) (fun _ z => z) T.i_NoModulus_TooMany) es_nil)))) fun G3 H3 v3_some_ x8 l3 r3_some_ => ?_)
      have x0_3 := x0_2.trans x8
      show tSs _ _ _ [some (.ref a_e), some v3_some_, none] _
      obtain ⟨some_, e9⟩ : ∃ z, z = ([true, false, false] : List Bool) := ⟨_, rfl⟩
      rw [← e9] at r3_some_
      have tk : _ = m_word_m_1 some_ := tk.trans (by first | (rw [e9] <;> rfl) | rfl)
      have g_e9 := congrArg List.length e9; try simp only [List.length_append, List.length_cons, List.length_nil, rng_len, List.length_map, List.length_reverse, psort_len, isort_len] at g_e9
      refine b_cons (s_if x0_3.s (et_cmp c_ne (ev_sum ⟨gl_word_m_sum, T.b_sum⟩ rfl (ev_lc (lc1A (fun (one : Bool) => (if one = true then 1 else 0 : Int)) rfl sc_word_m.nd (ei_list (ev_v (sl_word_m_some_) r3_some_)) [("one", 2)] (blkOk_by (N := N_word_m) (sc := defScope s__law_word) (by decide +kernel)) (fun _ _ _ _ _ => pg_name (i := 2) sc_word_m.nd rfl (.inl rfl)) (fun one v21 G11 H12 hx13 x10 r22 s15 s16 s17 s18 s19 => (ev_intB ⟨(by rfl), T.b_int⟩ (ev_v ((⟨rfl, .inl rfl, nm_one⟩ : Sl _ 2 _)) r22)))))) ev_int) (fun h23 G5 H5 x24 l5 => ?_) (fun h23 G5 H5 x24 l5 => ?_))
      · have tk := tk_tt tk h23
        have h23_ := h23; try simp only [Bool.and_eq_true, Bool.or_eq_true, Bool.and_eq_false_iff, Bool.or_eq_false_iff, Bool.not_eq_true', Bool.not_eq_false', decide_eq_true_eq, decide_eq_false_iff_not, Classical.not_not] at h23_
        have x0_5 := x0_3.trans x24
        show tSs _ _ _ [some (.ref a_e), some v3_some_, none] _
        refine b_cons (s_ret x0_5.s ev_int fun G_ H_ v26 x25 _ r_ => ?_)
        exact fin.rt _ _ _ (x0_5.trans x25) (rep_of tk r_) (fun z => nomatch z)
      · have tk := tk_ff tk h23
        have h23_ := h23; try simp only [Bool.and_eq_true, Bool.or_eq_true, Bool.and_eq_false_iff, Bool.or_eq_false_iff, Bool.not_eq_true', Bool.not_eq_false', decide_eq_true_eq, decide_eq_false_iff_not, Classical.not_not] at h23_
        have x0_5 := x0_3.trans x24
        show tSs _ _ _ [some (.ref a_e), some v3_some_, none] _
        refine b_nil ?_
        show tSs _ _ _ [some (.ref a_e), some v3_some_, none] _
        refine b_cons (s_ret x0_5.s (ev_bin b_add ev_int (ev_indexB (j := (some_).idxOf true) (ev_v (sl_word_m_some_) (up x24.g r3_some_)) ev_bl (by walk_at "ib") (by walk_at "ib"))) fun G_ H_ v28 x27 _ r_ => ?_)
        exact fin.rt _ _ _ (x0_5.trans x27) (rep_of tk r_) (fun z => nomatch z)

abbrev N_word_c : List Str := ["found", "some", "one"]
theorem sc_word_c : FnScope N_word_c ["found"] (defScope s__law_word) := ⟨rfl, rfl, rfl, by decide +kernel, rfl, by decide +kernel, by decide +kernel⟩
theorem sl_word_c_found {P : Program} {w : World} {K : PySem.W.Frag} {mg : Str → Option Value} {base : Heap} {f : Addr} {cdv : Value} {A : Around} {outer : List Env} {s : Shared} {H : Hp} {a_e : Addr} {oe_ : Obj} : Sl (cxK P w K mg base N_word_c "_law_word" (defScope s__law_word) f cdv A outer s H (a_e, oe_)) 0 "found" := ⟨rfl, (by first | exact .inl rfl | exact .inr (.inl rfl)), nm_found⟩
theorem sl_word_c_some_ {P : Program} {w : World} {K : PySem.W.Frag} {mg : Str → Option Value} {base : Heap} {f : Addr} {cdv : Value} {A : Around} {outer : List Env} {s : Shared} {H : Hp} {a_e : Addr} {oe_ : Obj} : Sl (cxK P w K mg base N_word_c "_law_word" (defScope s__law_word) f cdv A outer s H (a_e, oe_)) 1 "some" := ⟨rfl, (by first | exact .inl rfl | exact .inr (.inl rfl)), nm_some_⟩
theorem ss_word_c_some_ {P : Program} {w : World} {K : PySem.W.Frag} {mg : Str → Option Value} {base : Heap} {f : Addr} {cdv : Value} {A : Around} {outer : List Env} {s : Shared} {H : Hp} {a_e : Addr} {oe_ : Obj} : Ss (cxK P w K mg base N_word_c "_law_word" (defScope s__law_word) f cdv A outer s H (a_e, oe_)) 1 "some" := ⟨rfl, (by first | exact .inl rfl | exact .inr rfl), .inl rfl⟩
theorem gl_word_c_NoCount {P : Program} {w : World} {K : PySem.W.Frag} {mg : Str → Option Value} {base : Heap} {f : Addr} {cdv : Value} {A : Around} {outer : List Env} {s : Shared} {H : Hp} {a_e : Addr} {oe_ : Obj} : Gl (cxK P w K mg base N_word_c "_law_word" (defScope s__law_word) f cdv A outer s H (a_e, oe_)) "NoCount" := by rfl
theorem gl_word_c_NoForm {P : Program} {w : World} {K : PySem.W.Frag} {mg : Str → Option Value} {base : Heap} {f : Addr} {cdv : Value} {A : Around} {outer : List Env} {s : Shared} {H : Hp} {a_e : Addr} {oe_ : Obj} : Gl (cxK P w K mg base N_word_c "_law_word" (defScope s__law_word) f cdv A outer s H (a_e, oe_)) "NoForm" := by rfl
theorem gl_word_c_NoModulus {P : Program} {w : World} {K : PySem.W.Frag} {mg : Str → Option Value} {base : Heap} {f : Addr} {cdv : Value} {A : Around} {outer : List Env} {s : Shared} {H : Hp} {a_e : Addr} {oe_ : Obj} : Gl (cxK P w K mg base N_word_c "_law_word" (defScope s__law_word) f cdv A outer s H (a_e, oe_)) "NoModulus" := by rfl
theorem gl_word_c_NoPaper {P : Program} {w : World} {K : PySem.W.Frag} {mg : Str → Option Value} {base : Heap} {f : Addr} {cdv : Value} {A : Around} {outer : List Env} {s : Shared} {H : Hp} {a_e : Addr} {oe_ : Obj} : Gl (cxK P w K mg base N_word_c "_law_word" (defScope s__law_word) f cdv A outer s H (a_e, oe_)) "NoPaper" := by rfl
theorem gl_word_c_NoText {P : Program} {w : World} {K : PySem.W.Frag} {mg : Str → Option Value} {base : Heap} {f : Addr} {cdv : Value} {A : Around} {outer : List Env} {s : Shared} {H : Hp} {a_e : Addr} {oe_ : Obj} : Gl (cxK P w K mg base N_word_c "_law_word" (defScope s__law_word) f cdv A outer s H (a_e, oe_)) "NoText" := by rfl
theorem gl_word_c_NoneYet {P : Program} {w : World} {K : PySem.W.Frag} {mg : Str → Option Value} {base : Heap} {f : Addr} {cdv : Value} {A : Around} {outer : List Env} {s : Shared} {H : Hp} {a_e : Addr} {oe_ : Obj} : Gl (cxK P w K mg base N_word_c "_law_word" (defScope s__law_word) f cdv A outer s H (a_e, oe_)) "NoneYet" := by rfl
theorem gl_word_c_TooMany {P : Program} {w : World} {K : PySem.W.Frag} {mg : Str → Option Value} {base : Heap} {f : Addr} {cdv : Value} {A : Around} {outer : List Env} {s : Shared} {H : Hp} {a_e : Addr} {oe_ : Obj} : Gl (cxK P w K mg base N_word_c "_law_word" (defScope s__law_word) f cdv A outer s H (a_e, oe_)) "TooMany" := by rfl
theorem gl_word_c_ValueError {P : Program} {w : World} {K : PySem.W.Frag} {mg : Str → Option Value} {base : Heap} {f : Addr} {cdv : Value} {A : Around} {outer : List Env} {s : Shared} {H : Hp} {a_e : Addr} {oe_ : Obj} : Gl (cxK P w K mg base N_word_c "_law_word" (defScope s__law_word) f cdv A outer s H (a_e, oe_)) "ValueError" := by rfl
theorem gl_word_c_isinstance {P : Program} {w : World} {K : PySem.W.Frag} {mg : Str → Option Value} {base : Heap} {f : Addr} {cdv : Value} {A : Around} {outer : List Env} {s : Shared} {H : Hp} {a_e : Addr} {oe_ : Obj} : Gl (cxK P w K mg base N_word_c "_law_word" (defScope s__law_word) f cdv A outer s H (a_e, oe_)) "isinstance" := by rfl
theorem gl_word_c_sum {P : Program} {w : World} {K : PySem.W.Frag} {mg : Str → Option Value} {base : Heap} {f : Addr} {cdv : Value} {A : Around} {outer : List Env} {s : Shared} {H : Hp} {a_e : Addr} {oe_ : Obj} : Gl (cxK P w K mg base N_word_c "_law_word" (defScope s__law_word) f cdv A outer s H (a_e, oe_)) "sum" := by rfl
theorem cal_word_c {P : Program} {w : World} {K : PySem.W.Frag} {mg : Str → Option Value} {base : Heap} {f : Addr} {fd : FuncData} {c_RestError c_NoModulus c_NoCount c_NoPaper c_TooMany c_NoText c_NoForm c_NoneYet : Addr} (T : Txt K mg c_RestError c_NoModulus c_NoCount c_NoPaper c_TooMany c_NoText c_NoForm c_NoneYet) (F : Fun K "_law_word" "_law_word" s__law_word f fd) (hm : mg "_law_word" = some (.ref f)) (hb : Binds K fd ["found"] [])  : FlK P w K mg base 1 "_law_word" c_NoCount m_word_c := by
  refine flK_of F hm hb sc_word_c fun cdv A outer s H0 a_e oe_ hr G0 D hz hv s0 fin => ?_
  have x0_0 : Ext G0 H0 G0 H0 := Ext.refl s0
  show tSs _ _ D [some (.ref a_e), none, none] H0
  have tk : m_word_c = _ := rfl
  refine b_cons (s_if x0_0.s (et_cmp c_isR (ev_v (α := V) (x := (V.ref a_e)) (sl_word_c_found) rfl) ev_unit) (fun h1 G1 H1 x2 l1 => ?_) (fun h1 G1 H1 x2 l1 => ?_))
  · exact absurd h1 (by decide)
  · have tk := tk
    have x0_1 := x0_0.trans x2
    show tSs _ _ _ [some (.ref a_e), none, none] _
    refine b_nil ?_
    show tSs _ _ _ [some (.ref a_e), none, none] _
    refine b_cons (s_if x0_1.s (et_w (ew_or (et_val (ev_isET (as := [c_NoForm, c_NoPaper, c_NoText, c_NoneYet]) (y := false) ⟨gl_word_c_isinstance, T.b_isinstance⟩ T.x_NoCount.c hz hv (List.mem_singleton.mpr rfl) (ev_v (α := V) (x := (V.ref a_e)) (sl_word_c_found) rfl) (es_cons (ev_glob (x := V.ref c_NoForm) (v := .ref c_NoForm) gl_word_c_NoForm T.x_NoForm.g rfl fun _ => rfl) (es_cons (ev_glob (x := V.ref c_NoPaper) (v := .ref c_NoPaper) gl_word_c_NoPaper T.x_NoPaper.g rfl fun _ => rfl) (es_cons (ev_glob (x := V.ref c_NoText) (v := .ref c_NoText) gl_word_c_NoText T.x_NoText.g rfl fun _ => rfl) (es_cons (ev_glob (x := V.ref c_NoneYet) (v := .ref c_NoneYet) gl_word_c_NoneYet T.x_NoneYet.g rfl fun _ => rfl) es_nil)))) (Nat.le_of_ble_eq_true rfl) (show PySem.W.kitAny K _ _ = some _ from by simp [PySem.W.kitAny, T.i_NoCount_NoForm, T.i_NoCount_NoPaper, T.i_NoCount_NoText, T.i_NoCount_NoneYet]))) fun c3 => (ew_or1 (et_not (et_val (ev_isE (y := true) ⟨gl_word_c_isinstance, T.b_isinstance⟩ T.x_NoCount.c hz hv (List.mem_singleton.mpr rfl) (ev_v (α := V) (x := (V.ref a_e)) (sl_word_c_found) rfl) (ev_ty gl_word_c_ValueError T.b_ValueError (by decide +kernel)) (u := V.ty "ValueError") (cv := .type "ValueError") (fun _ z => z) T.i_NoCount_ValueError)))))) (fun h4 G2 H2 x5 l2 => ?_) (fun h4 G2 H2 x5 l2 => ?_))
    · have tk := tk_tt tk h4
      have h4_ := h4; try simp only [Bool.and_eq_true, Bool.or_eq_true, Bool.and_eq_false_iff, Bool.or_eq_false_iff, Bool.not_eq_true', Bool.not_eq_false', decide_eq_true_eq, decide_eq_false_iff_not, Classical.not_not] at h4_
      have x0_2 := x0_1.trans x5
      show tSs _ _ _ [some (.ref a_e), none, none] _
      refine b_cons (s_ret x0_2.s ev_int fun G_ H_ v7 x6 _ r_ => ?_)
      exact fin.rt _ _ _ (x0_2.trans x6) (rep_of tk r_) (fun z => nomatch z)
    · have tk := tk_ff tk h4
      have h4_ := h4; try simp only [Bool.and_eq_true, Bool.or_eq_true, Bool.and_eq_false_iff, Bool.or_eq_false_iff, Bool.not_eq_true', Bool.not_eq_false', decide_eq_true_eq, decide_eq_false_iff_not, Classical.not_not] at h4_
      have x0_2 := x0_1.trans x5
      show tSs _ _ _ [some (.ref a_e), none, none] _
      refine b_nil ?_
      show tSs _ _ _ [some (.ref a_e), none, none] _
      refine b_cons (s_set sc_word_c.nd ss_word_c_some_ x0_2.s (ev_list (es_cons (ev_isE (y := false) ⟨gl_word_c_isinstance, T.b_isinstance⟩ T.x_NoCount.c hz hv (List.mem_singleton.mpr rfl) (ev_v (α := V) (x := (V.ref a_e)) (sl_word_c_found) rfl) (ev_glob (x := V.ref c_NoModulus) (v := .ref c_NoModulus) gl_word_c_NoModulus T.x_NoModulus.g rfl fun _ => rfl) (u := V.ref c_NoModulus) (cv := .ref c_NoModulus) (fun _ z => z) T.i_NoCount_NoModulus) (es_cons (ev_isE (y := true) ⟨gl_word_c_isinstance, T.b_isinstance⟩ T.x_NoCount.c hz hv (List.mem_singleton.mpr rfl) (ev_v (α := V) (x := (V.ref a_e)) (sl_word_c_found) rfl) (ev_glob (x := V.ref c_NoCount) (v := .ref c_NoCount) gl_word_c_NoCount T.x_NoCount.g rfl fun _ => rfl) (u := V.ref c_NoCount) (cv := .ref c_NoCount) (fun _ z => z) T.i_NoCount_NoCount) (es_cons (ev_isE (y := false) ⟨gl_word_c_isinstance, T.b_isinstance⟩ T.x_NoCount.c hz hv (List.mem_singleton.mpr rfl) (ev_v (α := V) (x := (V.ref a_e)) (sl_word_c_found) rfl) (ev_glob (x := V.ref c_TooMany) (v := .ref c_TooMany) gl_word_c_TooMany T.x_TooMany.g rfl fun _ => rfl) (u := V.ref c_TooMany) (cv := .ref c_TooMany) (fun _ z => z) T.i_NoCount_TooMany) es_nil)))) fun G3 H3 v3_some_ x8 l3 r3_some_ => ?_)
      have x0_3 := x0_2.trans x8
      show tSs _ _ _ [some (.ref a_e), some v3_some_, none] _
      obtain ⟨some_, e9⟩ : ∃ z, z = ([false, true, false] : List Bool) := ⟨_, rfl⟩
      rw [← e9] at r3_some_
      have tk : _ = m_word_c_1 some_ := tk.trans (by first | (rw [e9] <;> rfl) | rfl)
      have g_e9 := congrArg List.length e9; try simp only [List.length_append, List.length_cons, List.length_nil, rng_len, List.length_map, List.length_reverse, psort_len, isort_len] at g_e9
      refine b_cons (s_if x0_3.s (et_cmp c_ne (ev_sum ⟨gl_word_c_sum, T.b_sum⟩ rfl (ev_lc (lc1A (fun (one : Bool) => (if one = true then 1 else 0 : Int)) rfl sc_word_c.nd (ei_list (ev_v (sl_word_c_some_) r3_some_)) [("one", 2)] (blkOk_by (N := N_word_c) (sc := defScope s__law_word) (by decide +kernel)) (fun _ _ _ _ _ => pg_name (i := 2) sc_word_c.nd rfl (.inl rfl)) (fun one v21 G11 H12 hx13 x10 r22 s15 s16 s17 s18 s19 => (ev_intB ⟨(by rfl), T.b_int⟩ (ev_v ((⟨rfl, .inl rfl, nm_one⟩ : Sl _ 2 _)) r22)))))) ev_int) (fun h23 G5 H5 x24 l5 => ?_) (fun h23 G5 H5 x24 l5 => ?_))
      · have tk := tk_tt tk h23
        have h23_ := h23; try simp only [Bool.and_eq_true, Bool.or_eq_true, Bool.and_eq_false_iff, Bool.or_eq_false_iff, Bool.not_eq_true', Bool.not_eq_false', decide_eq_true_eq, decide_eq_false_iff_not, Classical.not_not] at h23_
        have x0_5 := x0_3.trans x24
        show tSs _ _ _ [some (.ref a_e), some v3_some_, none] _
        refine b_cons (s_ret x0_5.s ev_int fun G_ H_ v26 x25 _ r_ => ?_)
        exact fin.rt _ _ _ (x0_5.trans x25) (rep_of tk r_) (fun z => nomatch z)
      · have tk := tk_ff tk h23
        have h23_ := h23; try simp only [Bool.and_eq_true, Bool.or_eq_true, Bool.and_eq_false_iff, Bool.or_eq_false_iff, Bool.not_eq_true', Bool.not_eq_false', decide_eq_true_eq, decide_eq_false_iff_not, Classical.not_not] at h23_
        have x0_5 := x0_3.trans x24
        show tSs _ _ _ [some (.ref a_e), some v3_some_, none] _
        refine b_nil ?_
        show tSs _ _ _ [some (.ref a_e), some v3_some_, none] _
        refine b_cons (s_ret x0_5.s (ev_bin b_add ev_int (ev_indexB (j := (some_).idxOf true) (ev_v (sl_word_c_some_) (up x24.g r3_some_)) ev_bl (by walk_at "ib") (by walk_at "ib"))) fun G_ H_ v28 x27 _ r_ => ?_)
        exact fin.rt _ _ _ (x0_5.trans x27) (rep_of tk r_) (fun z => nomatch z)

abbrev N_word_t : List Str := ["found", "some", "one"]
theorem sc_word_t : FnScope N_word_t ["found"] (defScope s__law_word) := ⟨rfl, rfl, rfl, by decide +kernel, rfl, by decide +kernel, by decide +kernel⟩
theorem sl_word_t_found {P : Program} {w : World} {K : PySem.W.Frag} {mg : Str → Option Value} {base : Heap} {f : Addr} {cdv : Value} {A : Around} {outer : List Env} {s : Shared} {H : Hp} {a_e : Addr} {oe_ : Obj} : Sl (cxK P w K mg base N_word_t "_law_word" (defScope s__law_word) f cdv A outer s H (a_e, oe_)) 0 "found" := ⟨rfl, (by first | exact .inl rfl | exact .inr (.inl rfl)), nm_found⟩
theorem sl_word_t_some_ {P : Program} {w : World} {K : PySem.W.Frag} {mg : Str → Option Value} {base : Heap} {f : Addr} {cdv : Value} {A : Around} {outer : List Env} {s : Shared} {H : Hp} {a_e : Addr} {oe_ : Obj} : Sl (cxK P w K mg base N_word_t "_law_word" (defScope s__law_word) f cdv A outer s H (a_e, oe_)) 1 "some" := ⟨rfl, (by first | exact .inl rfl | exact .inr (.inl rfl)), nm_some_⟩
theorem ss_word_t_some_ {P : Program} {w : World} {K : PySem.W.Frag} {mg : Str → Option Value} {base : Heap} {f : Addr} {cdv : Value} {A : Around} {outer : List Env} {s : Shared} {H : Hp} {a_e : Addr} {oe_ : Obj} : Ss (cxK P w K mg base N_word_t "_law_word" (defScope s__law_word) f cdv A outer s H (a_e, oe_)) 1 "some" := ⟨rfl, (by first | exact .inl rfl | exact .inr rfl), .inl rfl⟩
theorem gl_word_t_NoCount {P : Program} {w : World} {K : PySem.W.Frag} {mg : Str → Option Value} {base : Heap} {f : Addr} {cdv : Value} {A : Around} {outer : List Env} {s : Shared} {H : Hp} {a_e : Addr} {oe_ : Obj} : Gl (cxK P w K mg base N_word_t "_law_word" (defScope s__law_word) f cdv A outer s H (a_e, oe_)) "NoCount" := by rfl
theorem gl_word_t_NoForm {P : Program} {w : World} {K : PySem.W.Frag} {mg : Str → Option Value} {base : Heap} {f : Addr} {cdv : Value} {A : Around} {outer : List Env} {s : Shared} {H : Hp} {a_e : Addr} {oe_ : Obj} : Gl (cxK P w K mg base N_word_t "_law_word" (defScope s__law_word) f cdv A outer s H (a_e, oe_)) "NoForm" := by rfl
theorem gl_word_t_NoModulus {P : Program} {w : World} {K : PySem.W.Frag} {mg : Str → Option Value} {base : Heap} {f : Addr} {cdv : Value} {A : Around} {outer : List Env} {s : Shared} {H : Hp} {a_e : Addr} {oe_ : Obj} : Gl (cxK P w K mg base N_word_t "_law_word" (defScope s__law_word) f cdv A outer s H (a_e, oe_)) "NoModulus" := by rfl
theorem gl_word_t_NoPaper {P : Program} {w : World} {K : PySem.W.Frag} {mg : Str → Option Value} {base : Heap} {f : Addr} {cdv : Value} {A : Around} {outer : List Env} {s : Shared} {H : Hp} {a_e : Addr} {oe_ : Obj} : Gl (cxK P w K mg base N_word_t "_law_word" (defScope s__law_word) f cdv A outer s H (a_e, oe_)) "NoPaper" := by rfl
theorem gl_word_t_NoText {P : Program} {w : World} {K : PySem.W.Frag} {mg : Str → Option Value} {base : Heap} {f : Addr} {cdv : Value} {A : Around} {outer : List Env} {s : Shared} {H : Hp} {a_e : Addr} {oe_ : Obj} : Gl (cxK P w K mg base N_word_t "_law_word" (defScope s__law_word) f cdv A outer s H (a_e, oe_)) "NoText" := by rfl
theorem gl_word_t_NoneYet {P : Program} {w : World} {K : PySem.W.Frag} {mg : Str → Option Value} {base : Heap} {f : Addr} {cdv : Value} {A : Around} {outer : List Env} {s : Shared} {H : Hp} {a_e : Addr} {oe_ : Obj} : Gl (cxK P w K mg base N_word_t "_law_word" (defScope s__law_word) f cdv A outer s H (a_e, oe_)) "NoneYet" := by rfl
theorem gl_word_t_TooMany {P : Program} {w : World} {K : PySem.W.Frag} {mg : Str → Option Value} {base : Heap} {f : Addr} {cdv : Value} {A : Around} {outer : List Env} {s : Shared} {H : Hp} {a_e : Addr} {oe_ : Obj} : Gl (cxK P w K mg base N_word_t "_law_word" (defScope s__law_word) f cdv A outer s H (a_e, oe_)) "TooMany" := by rfl
theorem gl_word_t_ValueError {P : Program} {w : World} {K : PySem.W.Frag} {mg : Str → Option Value} {base : Heap} {f : Addr} {cdv : Value} {A : Around} {outer : List Env} {s : Shared} {H : Hp} {a_e : Addr} {oe_ : Obj} : Gl (cxK P w K mg base N_word_t "_law_word" (defScope s__law_word) f cdv A outer s H (a_e, oe_)) "ValueError" := by rfl
theorem gl_word_t_isinstance {P : Program} {w : World} {K : PySem.W.Frag} {mg : Str → Option Value} {base : Heap} {f : Addr} {cdv : Value} {A : Around} {outer : List Env} {s : Shared} {H : Hp} {a_e : Addr} {oe_ : Obj} : Gl (cxK P w K mg base N_word_t "_law_word" (defScope s__law_word) f cdv A outer s H (a_e, oe_)) "isinstance" := by rfl
theorem gl_word_t_sum {P : Program} {w : World} {K : PySem.W.Frag} {mg : Str → Option Value} {base : Heap} {f : Addr} {cdv : Value} {A : Around} {outer : List Env} {s : Shared} {H : Hp} {a_e : Addr} {oe_ : Obj} : Gl (cxK P w K mg base N_word_t "_law_word" (defScope s__law_word) f cdv A outer s H (a_e, oe_)) "sum" := by rfl
theorem cal_word_t {P : Program} {w : World} {K : PySem.W.Frag} {mg : Str → Option Value} {base : Heap} {f : Addr} {fd : FuncData} {c_RestError c_NoModulus c_NoCount c_NoPaper c_TooMany c_NoText c_NoForm c_NoneYet : Addr} (T : Txt K mg c_RestError c_NoModulus c_NoCount c_NoPaper c_TooMany c_NoText c_NoForm c_NoneYet) (F : Fun K "_law_word" "_law_word" s__law_word f fd) (hm : mg "_law_word" = some (.ref f)) (hb : Binds K fd ["found"] [])  : FlK P w K mg base 1 "_law_word" c_TooMany m_word_t := by
  refine flK_of F hm hb sc_word_t fun cdv A outer s H0 a_e oe_ hr G0 D hz hv s0 fin => ?_
  have x0_0 : Ext G0 H0 G0 H0 := Ext.refl s0
  show tSs _ _ D [some (.ref a_e), none, none] H0
  have tk : m_word_t = _ := rfl
  refine b_cons (s_if x0_0.s (et_cmp c_isR (ev_v (α := V) (x := (V.ref a_e)) (sl_word_t_found) rfl) ev_unit) (fun h1 G1 H1 x2 l1 => ?_) (fun h1 G1 H1 x2 l1 => ?_))
  · exact absurd h1 (by decide)
  · have tk := tk
    have x0_1 := x0_0.trans x2
    show tSs _ _ _ [some (.ref a_e), none, none] _
    refine b_nil ?_
    show tSs _ _ _ [some (.ref a_e), none, none] _
    refine b_cons (s_if x0_1.s (et_w (ew_or (et_val (ev_isET (as := [c_NoForm, c_NoPaper, c_NoText, c_NoneYet]) (y := false) ⟨gl_word_t_isinstance, T.b_isinstance⟩ T.x_TooMany.c hz hv (List.mem_singleton.mpr rfl) (ev_v (α := V) (x := (V.ref a_e)) (sl_word_t_found) rfl) (es_cons (ev_glob (x := V.ref c_NoForm) (v := .ref c_NoForm) gl_word_t_NoForm T.x_NoForm.g rfl fun _ => rfl) (es_cons (ev_glob (x := V.ref c_NoPaper) (v := .ref c_NoPaper) gl_word_t_NoPaper T.x_NoPaper.g rfl fun _ => rfl) (es_cons (ev_glob (x := V.ref c_NoText) (v := .ref c_NoText) gl_word_t_NoText T.x_NoText.g rfl fun _ => rfl) (es_cons (ev_glob (x := V.ref c_NoneYet) (v := .ref c_NoneYet) gl_word_t_NoneYet T.x_NoneYet.g rfl fun _ => rfl) es_nil)))) (Nat.le_of_ble_eq_true rfl) (show PySem.W.kitAny K _ _ = some _ from by simp [PySem.W.kitAny, T.i_TooMany_NoForm, T.i_TooMany_NoPaper, T.i_TooMany_NoText, T.i_TooMany_NoneYet]))) fun c3 => (ew_or1 (et_not (et_val (ev_isE (y := true) ⟨gl_word_t_isinstance, T.b_isinstance⟩ T.x_TooMany.c hz hv (List.mem_singleton.mpr rfl) (ev_v (α := V) (x := (V.ref a_e)) (sl_word_t_found) rfl) (ev_ty gl_word_t_ValueError T.b_ValueError (by decide +kernel)) (u := V.ty "ValueError") (cv := .type "ValueError") (fun _ z => z) T.i_TooMany_ValueError)))))) (fun h4 G2 H2 x5 l2 => ?_) (fun h4 G2 H2 x5 l2 => ?_))
    · have tk := tk_tt tk h4
      have h4_ := h4; try simp only [Bool.and_eq_true, Bool.or_eq_true, Bool.and_eq_false_iff, Bool.or_eq_false_iff, Bool.not_eq_true', Bool.not_eq_false', decide_eq_true_eq, decide_eq_false_iff_not, Classical.not_not] at h4_
      have x0_2 := x0_1.trans x5
      show tSs _ _ _ [some (.ref a_e), none, none] _
      refine b_cons (s_ret x0_2.s ev_int fun G_ H_ v7 x6 _ r_ => ?_)
      exact fin.rt _ _ _ (x0_2.trans x6) (rep_of tk r_) (fun z => nomatch z)
    · have tk := tk_ff tk h4
      have h4_ := h4; try simp only [Bool.and_eq_true, Bool.or_eq_true, Bool.and_eq_false_iff, Bool.or_eq_false_iff, Bool.not_eq_true', Bool.not_eq_false', decide_eq_true_eq, decide_eq_false_iff_not, Classical.not_not] at h4_
      have x0_2 := x0_1.trans x5
      show tSs _ _ _ [some (.ref a_e), none, none] _
      refine b_nil ?_
      show tSs _ _ _ [some (.ref a_e), none, none] _
      refine b_cons (s_set sc_word_t.nd ss_word_t_some_ x0_2.s (ev_list (es_cons (ev_isE (y := false) ⟨gl_word_t_isinstance, T.b_isinstance⟩ T.x_TooMany.c hz hv (List.mem_singleton.mpr rfl) (ev_v (α := V) (x := (V.ref a_e)) (sl_word_t_found) rfl) (ev_glob (x := V.ref c_NoModulus) (v := .ref c_NoModulus) gl_word_t_NoModulus T.x_NoModulus.g rfl fun _ => rfl) (u := V.ref c_NoModulus) (cv := .ref c_NoModulus) (fun _ z => z) T.i_TooMany_NoModulus) (es_cons (ev_isE (y := false) ⟨gl_word_t_isinstance, T.b_isinstance⟩ T.x_TooMany.c hz hv (List.mem_singleton.mpr rfl) (ev_v (α := V) (x := (V.ref a_e)) (sl_word_t_found) rfl) (ev_glob (x := V.ref c_NoCount) (v := .ref c_NoCount) gl_word_t_NoCount T.x_NoCount.g rfl fun _ => rfl) (u := V.ref c_NoCount) (cv := .ref c_NoCount) (fun _ z => z) T.i_TooMany_NoCount) (es_cons (ev_isE (y := true) ⟨gl_word_t_isinstance, T.b_isinstance⟩ T.x_TooMany.c hz hv (List.mem_singleton.mpr rfl) (ev_v (α := V) (x := (V.ref a_e)) (sl_word_t_found) rfl) (ev_glob (x := V.ref c_TooMany) (v := .ref c_TooMany) gl_word_t_TooMany T.x_TooMany.g rfl fun _ => rfl) (u := V.ref c_TooMany) (cv := .ref c_TooMany) (fun _ z => z) T.i_TooMany_TooMany) es_nil)))) fun G3 H3 v3_some_ x8 l3 r3_some_ => ?_)
      have x0_3 := x0_2.trans x8
      show tSs _ _ _ [some (.ref a_e), some v3_some_, none] _
      obtain ⟨some_, e9⟩ : ∃ z, z = ([false, false, true] : List Bool) := ⟨_, rfl⟩
      rw [← e9] at r3_some_
      have tk : _ = m_word_t_1 some_ := tk.trans (by first | (rw [e9] <;> rfl) | rfl)
      have g_e9 := congrArg List.length e9; try simp only [List.length_append, List.length_cons, List.length_nil, rng_len, List.length_map, List.length_reverse, psort_len, isort_len] at g_e9
      refine b_cons (s_if x0_3.s (et_cmp c_ne (ev_sum ⟨gl_word_t_sum, T.b_sum⟩ rfl (ev_lc (lc1A (fun (one : Bool) => (if one = true then 1 else 0 : Int)) rfl sc_word_t.nd (ei_list (ev_v (sl_word_t_some_) r3_some_)) [("one", 2)] (blkOk_by (N := N_word_t) (sc := defScope s__law_word) (by decide +kernel)) (fun _ _ _ _ _ => pg_name (i := 2) sc_word_t.nd rfl (.inl rfl)) (fun one v21 G11 H12 hx13 x10 r22 s15 s16 s17 s18 s19 => (ev_intB ⟨(by rfl), T.b_int⟩ (ev_v ((⟨rfl, .inl rfl, nm_one⟩ : Sl _ 2 _)) r22)))))) ev_int) (fun h23 G5 H5 x24 l5 => ?_) (fun h23 G5 H5 x24 l5 => ?_))
      · have tk := tk_tt tk h23
        have h23_ := h23; try simp only [Bool.and_eq_true, Bool.or_eq_true, Bool.and_eq_false_iff, Bool.or_eq_false_iff, Bool.not_eq_true', Bool.not_eq_false', decide_eq_true_eq, decide_eq_false_iff_not, Classical.not_not] at h23_
        have x0_5 := x0_3.trans x24
        show tSs _ _ _ [some (.ref a_e), some v3_some_, none] _
        refine b_cons (s_ret x0_5.s ev_int fun G_ H_ v26 x25 _ r_ => ?_)
        exact fin.rt _ _ _ (x0_5.trans x25) (rep_of tk r_) (fun z => nomatch z)
      · have tk := tk_ff tk h23
        have h23_ := h23; try simp only [Bool.and_eq_true, Bool.or_eq_true, Bool.and_eq_false_iff, Bool.or_eq_false_iff, Bool.not_eq_true', Bool.not_eq_false', decide_eq_true_eq, decide_eq_false_iff_not, Classical.not_not] at h23_
        have x0_5 := x0_3.trans x24
        show tSs _ _ _ [some (.ref a_e), some v3_some_, none] _
        refine b_nil ?_
        show tSs _ _ _ [some (.ref a_e), some v3_some_, none] _
        refine b_cons (s_ret x0_5.s (ev_bin b_add ev_int (ev_indexB (j := (some_).idxOf true) (ev_v (sl_word_t_some_) (up x24.g r3_some_)) ev_bl (by walk_at "ib") (by walk_at "ib"))) fun G_ H_ v28 x27 _ r_ => ?_)
        exact fin.rt _ _ _ (x0_5.trans x27) (rep_of tk r_) (fun z => nomatch z)

abbrev N_asked : List Str := ["door", "row", "modulus", "many", "found", "e"]
theorem sc_asked : FnScope N_asked ["door", "row", "modulus", "many"] (defScope s__law_asked) := ⟨rfl, rfl, rfl, by decide +kernel, rfl, by decide +kernel, by decide +kernel⟩
theorem sl_asked_found {P : Program} {w : World} {K : PySem.W.Frag} {mg : Str → Option Value} {base : Heap} {f : Addr} {cdv : Value} {A : Around} {outer : List Env} {s : Shared} {H : Hp} {E : XK} : Sl (cxOf (L2.CX P w) P w K mg base N_asked "_law_asked" (defScope s__law_asked) f cdv A outer s H E) 4 "found" := ⟨rfl, (by first | exact .inl rfl | exact .inr (.inl rfl)), nm_found⟩
theorem ss_asked_found {P : Program} {w : World} {K : PySem.W.Frag} {mg : Str → Option Value} {base : Heap} {f : Addr} {cdv : Value} {A : Around} {outer : List Env} {s : Shared} {H : Hp} {E : XK} : Ss (cxOf (L2.CX P w) P w K mg base N_asked "_law_asked" (defScope s__law_asked) f cdv A outer s H E) 4 "found" := ⟨rfl, (by first | exact .inl rfl | exact .inr rfl), .inl rfl⟩
theorem gl_asked_RestError {P : Program} {w : World} {K : PySem.W.Frag} {mg : Str → Option Value} {base : Heap} {f : Addr} {cdv : Value} {A : Around} {outer : List Env} {s : Shared} {H : Hp} {E : XK} : Gl (cxOf (L2.CX P w) P w K mg base N_asked "_law_asked" (defScope s__law_asked) f cdv A outer s H E) "RestError" := by rfl
theorem gl_asked__law_word {P : Program} {w : World} {K : PySem.W.Frag} {mg : Str → Option Value} {base : Heap} {f : Addr} {cdv : Value} {A : Around} {outer : List Env} {s : Shared} {H : Hp} {E : XK} : Gl (cxOf (L2.CX P w) P w K mg base N_asked "_law_asked" (defScope s__law_asked) f cdv A outer s H E) "_law_word" := by rfl
theorem cal_asked {P : Program} {w : World} {K : PySem.W.Frag} {mg : Str → Option Value} {base : Heap} {f : Addr} {fd : FuncData} {c_RestError c_NoModulus c_NoCount c_NoPaper c_TooMany c_NoText c_NoForm c_NoneYet : Addr} (T : Txt K mg c_RestError c_NoModulus c_NoCount c_NoPaper c_TooMany c_NoText c_NoForm c_NoneYet) (F : Fun K "_law_asked" "_law_asked" s__law_asked f fd) (hm : mg "_law_asked" = some (.ref f)) (hb : Binds K fd ["door", "row", "modulus", "many"] []) (C_mosta_r : Cal P w K mg base 3 "most_apart" (SpR2 K (fun (row : (List Int)) (modulus : Int) => modulus < 1) c_NoModulus)) (C_word_m : FlK P w K mg base 1 "_law_word" c_NoModulus m_word_m) (C_mosta_t : Cal P w K mg base 3 "most_apart" (SpR2 K (fun (row : (List Int)) (modulus : Int) => 1 ≤ modulus ∧ 10 < row.length) c_TooMany)) (C_word_t : FlK P w K mg base 1 "_law_word" c_TooMany m_word_t) (C_mosta : Cal P w K mg base 4 "most_apart" (Sp2 K false (fun (row : (List Int)) (modulus : Int) => 1 ≤ modulus ∧ row.length ≤ 10) m_mosta)) (C_word_n : Cal P w K mg base 1 "_law_word" (Sp1 K false (fun (found : Unit) => True) m_word_n)) (C_parted_r : Cal P w K mg base 3 "parted" (SpR2 K (fun (row : (List Int)) (modulus : Int) => modulus < 1) c_NoModulus)) (C_parted_t : Cal P w K mg base 3 "parted" (SpR2 K (fun (row : (List Int)) (modulus : Int) => 1 ≤ modulus ∧ 10 < row.length) c_TooMany)) (C_parted_o : Cal P w K mg base 4 "parted" (Sp2 K false (fun (row : (List Int)) (modulus : Int) => 1 ≤ modulus ∧ row.length ≤ 10) m_parted_o)) (C_lfor_r : Cal P w K mg base 3 "least_for" (SpR2 K (fun (modulus : Int) (many : Int) => modulus < 1) c_NoModulus)) (C_lfor_c : Cal P w K mg base 3 "least_for" (SpR2 K (fun (modulus : Int) (many : Int) => 1 ≤ modulus ∧ many < 0) c_NoCount)) (C_word_c : FlK P w K mg base 1 "_law_word" c_NoCount m_word_c) (C_lfor : Cal P w K mg base 3 "least_for" (Sp2 K false (fun (modulus : Int) (many : Int) => 1 ≤ modulus ∧ modulus ≤ 60 ∧ 0 ≤ many) m_lfor)) : Cal P w K mg base 5 "_law_asked" (Sp4 K false (fun (door : Int) (row : (List Int)) (modulus : Int) (many : Int) => row.length ≤ 1000 ∧ modulus ≤ 60) m_asked) := by
  refine fn4 F hm hb sc_asked rfl fun cdv A outer s H0 E hr G0 v_door v_row v_modulus v_many door row modulus many D s0 r_door r_row r_modulus r_many hp fin => ?_
  have x0_0 : Ext G0 H0 G0 H0 := Ext.refl s0
  show tSs _ _ D [some v_door, some v_row, some v_modulus, some v_many, none, none] H0
  have hpc := hp; obtain ⟨hp_0, hp_1⟩ := hpc
  have tk : m_asked door row modulus many = _ := rfl
  refine b_cons (s_set sc_asked.nd ss_asked_found x0_0.s ev_unit fun G1 H1 v1_found x1 l1 r1_found => ?_)
  have x0_1 := x0_0.trans x1
  show tSs _ _ _ [some v_door, some v_row, some v_modulus, some v_many, some v1_found, none] _
  refine b_tryK (i := 5) rfl rfl sc_asked.nd rfl rfl ⟨gl_asked_RestError, by decide, .inl T.x_RestError.g⟩ fun pn xe W_ hW tkk po => ?_
  show tSs _ _ _ [some v_door, some v_row, some v_modulus, some v_many, some v1_found, none] _
  refine b_cons (s_if x0_1.s (et_cmp c_eq (ev_v ((⟨rfl, (by first | exact .inl rfl | exact .inr (.inl rfl)), nm_door⟩ : Sl _ 0 _)) (up x1.g r_door)) ev_int) (fun h2 G2 H2 x3 l2 => ?_) (fun h2 G2 H2 x3 l2 => ?_))
  · have tk := tk_tt tk h2
    have h2_ := h2; try simp only [Bool.and_eq_true, Bool.or_eq_true, Bool.and_eq_false_iff, Bool.or_eq_false_iff, Bool.not_eq_true', Bool.not_eq_false', decide_eq_true_eq, decide_eq_false_iff_not, Classical.not_not] at h2_
    have x0_2 := x0_1.trans x3
    show tSs _ _ _ [some v_door, some v_row, some v_modulus, some v_many, some v1_found, none] _
    rcases Bool.eq_false_or_eq_true (decide (modulus < 1)) with h4 | h4
    · have tk := tk_tt tk h4
      have h4_ := h4; try simp only [decide_eq_true_eq, decide_eq_false_iff_not, Classical.not_not] at h4_
      refine b_cons (s_exprR (evR_c2 C_mosta_r (hr.mono (by decide)) (by rfl) tkk x0_2.s (ev_v ((⟨rfl, (by first | exact .inl rfl | exact .inr (.inl rfl)), nm_row⟩ : Sl _ 1 _)) (up (x1.g.trans x3.g) r_row)) (ev_v ((⟨rfl, (by first | exact .inl rfl | exact .inr (.inl rfl)), nm_modulus⟩ : Sl _ 2 _)) (up (x1.g.trans x3.g) r_modulus)) (by walk_at "pre") fun G3 H3 x5 => ?_))
      have x0_3 := x0_2.trans x5
      refine hW _ _ _ T.m_NoModulus_RestError fun a_e oe_ pn_ ha_ hz_ hv_ => ?_
      show tSs _ _ _ [some v_door, some v_row, some v_modulus, some v_many, some v1_found, some (.ref a_e)] _
      refine b_cons (s_set sc_asked.nd (⟨rfl, (by first | exact .inl rfl | exact .inr rfl), .inl rfl⟩ : Ss _ 4 _) x0_3.s (ev_v (α := V) (x := (V.ref a_e)) ((⟨rfl, (by first | exact .inl rfl | exact .inr (.inl rfl)), nm_e_⟩ : Sl _ 5 _)) rfl) fun G4 H4 v4_found x6 l4 r4_found => ?_)
      have r4_found_ : v4_found = V.ref a_e := r4_found; subst r4_found_
      have x0_4 := x0_3.trans x6
      show tSs _ _ _ [some v_door, some v_row, some v_modulus, some v_many, some (.ref a_e), some (.ref a_e)] _
      refine b_nil ?_
      intro pn2_
      show tSs _ _ _ [some v_door, some v_row, some v_modulus, some v_many, some (.ref a_e), none] _
      refine b_cons (s_ret x0_4.s (ev_flK C_word_m rfl (hr.mono (by decide)) (by rfl) hz_ hv_ (List.mem_cons_self ..) ((⟨rfl, (by first | exact .inl rfl | exact .inr (.inl rfl)), nm_found⟩ : Sl _ 4 _))) fun G_ H_ v8 x7 _ r_ => ?_)
      exact fin.rt _ _ _ (x0_4.trans x7) (rep_of tk r_) (fun z => nomatch z)
    · have tk := tk_ff tk h4
      have h4_ := h4; try simp only [decide_eq_true_eq, decide_eq_false_iff_not, Classical.not_not] at h4_
      rcases Bool.eq_false_or_eq_true (decide (1 ≤ modulus ∧ 10 < row.length)) with h9 | h9
      · have tk := tk_tt tk h9
        have h9_ := h9; try simp only [decide_eq_true_eq, decide_eq_false_iff_not, Classical.not_not] at h9_
        refine b_cons (s_exprR (evR_c2 C_mosta_t (hr.mono (by decide)) (by rfl) tkk x0_2.s (ev_v ((⟨rfl, (by first | exact .inl rfl | exact .inr (.inl rfl)), nm_row⟩ : Sl _ 1 _)) (up (x1.g.trans x3.g) r_row)) (ev_v ((⟨rfl, (by first | exact .inl rfl | exact .inr (.inl rfl)), nm_modulus⟩ : Sl _ 2 _)) (up (x1.g.trans x3.g) r_modulus)) (by walk_at "pre") fun G5 H5 x10 => ?_))
        have x0_5 := x0_2.trans x10
        refine hW _ _ _ T.m_TooMany_RestError fun a_e oe_ pn_ ha_ hz_ hv_ => ?_
        show tSs _ _ _ [some v_door, some v_row, some v_modulus, some v_many, some v1_found, some (.ref a_e)] _
        refine b_cons (s_set sc_asked.nd (⟨rfl, (by first | exact .inl rfl | exact .inr rfl), .inl rfl⟩ : Ss _ 4 _) x0_5.s (ev_v (α := V) (x := (V.ref a_e)) ((⟨rfl, (by first | exact .inl rfl | exact .inr (.inl rfl)), nm_e_⟩ : Sl _ 5 _)) rfl) fun G6 H6 v6_found x11 l6 r6_found => ?_)
        have r6_found_ : v6_found = V.ref a_e := r6_found; subst r6_found_
        have x0_6 := x0_5.trans x11
        show tSs _ _ _ [some v_door, some v_row, some v_modulus, some v_many, some (.ref a_e), some (.ref a_e)] _
        refine b_nil ?_
        intro pn2_
        show tSs _ _ _ [some v_door, some v_row, some v_modulus, some v_many, some (.ref a_e), none] _
        refine b_cons (s_ret x0_6.s (ev_flK C_word_t rfl (hr.mono (by decide)) (by rfl) hz_ hv_ (List.mem_cons_self ..) ((⟨rfl, (by first | exact .inl rfl | exact .inr (.inl rfl)), nm_found⟩ : Sl _ 4 _))) fun G_ H_ v13 x12 _ r_ => ?_)
        exact fin.rt _ _ _ (x0_6.trans x12) (rep_of tk r_) (fun z => nomatch z)
      · have tk := tk_ff tk h9
        have h9_ := h9; try simp only [decide_eq_true_eq, decide_eq_false_iff_not, Classical.not_not] at h9_
        refine b_cons (s_expr x0_2.s (ev_c2 C_mosta (hr.mono (by decide)) (by rfl) (ev_v ((⟨rfl, (by first | exact .inl rfl | exact .inr (.inl rfl)), nm_row⟩ : Sl _ 1 _)) (up (x1.g.trans x3.g) r_row)) (ev_v ((⟨rfl, (by first | exact .inl rfl | exact .inr (.inl rfl)), nm_modulus⟩ : Sl _ 2 _)) (up (x1.g.trans x3.g) r_modulus)) (by walk_at "pre")) fun G7 H7 v15 x14 l7 _ => ?_)
        have x0_7 := x0_2.trans x14
        show tSs _ _ _ [some v_door, some v_row, some v_modulus, some v_many, some v1_found, none] _
        refine b_nil ?_
        show tSs _ _ _ [some v_door, some v_row, some v_modulus, some v_many, some v1_found, none] _
        refine b_nil ?_
        show tSs _ _ _ [some v_door, some v_row, some v_modulus, some v_many, some v1_found, none] _
        refine b_cons (s_ret x0_7.s (ev_c1 C_word_n (hr.mono (by decide)) gl_asked__law_word (ev_v (sl_asked_found) (up (x3.g.trans x14.g) r1_found)) (by walk_at "pre")) fun G_ H_ v17 x16 _ r_ => ?_)
        exact fin.rt _ _ _ (x0_7.trans x16) (rep_of tk r_) (fun z => nomatch z)
  · have tk := tk_ff tk h2
    have h2_ := h2; try simp only [Bool.and_eq_true, Bool.or_eq_true, Bool.and_eq_false_iff, Bool.or_eq_false_iff, Bool.not_eq_true', Bool.not_eq_false', decide_eq_true_eq, decide_eq_false_iff_not, Classical.not_not] at h2_
    have x0_2 := x0_1.trans x3
    show tSs _ _ _ [some v_door, some v_row, some v_modulus, some v_many, some v1_found, none] _
    refine b_cons (s_if x0_2.s (et_cmp c_eq (ev_v ((⟨rfl, (by first | exact .inl rfl | exact .inr (.inl rfl)), nm_door⟩ : Sl _ 0 _)) (up (x1.g.trans x3.g) r_door)) ev_int) (fun h18 G8 H8 x19 l8 => ?_) (fun h18 G8 H8 x19 l8 => ?_))
    · have tk := tk_tt tk h18
      have h18_ := h18; try simp only [Bool.and_eq_true, Bool.or_eq_true, Bool.and_eq_false_iff, Bool.or_eq_false_iff, Bool.not_eq_true', Bool.not_eq_false', decide_eq_true_eq, decide_eq_false_iff_not, Classical.not_not] at h18_
      have x0_8 := x0_2.trans x19
      show tSs _ _ _ [some v_door, some v_row, some v_modulus, some v_many, some v1_found, none] _
      rcases Bool.eq_false_or_eq_true (decide (modulus < 1)) with h20 | h20
      · have tk := tk_tt tk h20
        have h20_ := h20; try simp only [decide_eq_true_eq, decide_eq_false_iff_not, Classical.not_not] at h20_
        refine b_cons (s_exprR (evR_c2 C_parted_r (hr.mono (by decide)) (by rfl) tkk x0_8.s (ev_v ((⟨rfl, (by first | exact .inl rfl | exact .inr (.inl rfl)), nm_row⟩ : Sl _ 1 _)) (up (x1.g.trans (x3.g.trans x19.g)) r_row)) (ev_v ((⟨rfl, (by first | exact .inl rfl | exact .inr (.inl rfl)), nm_modulus⟩ : Sl _ 2 _)) (up (x1.g.trans (x3.g.trans x19.g)) r_modulus)) (by walk_at "pre") fun G9 H9 x21 => ?_))
        have x0_9 := x0_8.trans x21
        refine hW _ _ _ T.m_NoModulus_RestError fun a_e oe_ pn_ ha_ hz_ hv_ => ?_
        show tSs _ _ _ [some v_door, some v_row, some v_modulus, some v_many, some v1_found, some (.ref a_e)] _
        refine b_cons (s_set sc_asked.nd (⟨rfl, (by first | exact .inl rfl | exact .inr rfl), .inl rfl⟩ : Ss _ 4 _) x0_9.s (ev_v (α := V) (x := (V.ref a_e)) ((⟨rfl, (by first | exact .inl rfl | exact .inr (.inl rfl)), nm_e_⟩ : Sl _ 5 _)) rfl) fun G10 H10 v10_found x22 l10 r10_found => ?_)
        have r10_found_ : v10_found = V.ref a_e := r10_found; subst r10_found_
        have x0_10 := x0_9.trans x22
        show tSs _ _ _ [some v_door, some v_row, some v_modulus, some v_many, some (.ref a_e), some (.ref a_e)] _
        refine b_nil ?_
        intro pn2_
        show tSs _ _ _ [some v_door, some v_row, some v_modulus, some v_many, some (.ref a_e), none] _
        refine b_cons (s_ret x0_10.s (ev_flK C_word_m rfl (hr.mono (by decide)) (by rfl) hz_ hv_ (List.mem_cons_self ..) ((⟨rfl, (by first | exact .inl rfl | exact .inr (.inl rfl)), nm_found⟩ : Sl _ 4 _))) fun G_ H_ v24 x23 _ r_ => ?_)
        exact fin.rt _ _ _ (x0_10.trans x23) (rep_of tk r_) (fun z => nomatch z)
      · have tk := tk_ff tk h20
        have h20_ := h20; try simp only [decide_eq_true_eq, decide_eq_false_iff_not, Classical.not_not] at h20_
        rcases Bool.eq_false_or_eq_true (decide (1 ≤ modulus ∧ 10 < row.length)) with h25 | h25
        · have tk := tk_tt tk h25
          have h25_ := h25; try simp only [decide_eq_true_eq, decide_eq_false_iff_not, Classical.not_not] at h25_
          refine b_cons (s_exprR (evR_c2 C_parted_t (hr.mono (by decide)) (by rfl) tkk x0_8.s (ev_v ((⟨rfl, (by first | exact .inl rfl | exact .inr (.inl rfl)), nm_row⟩ : Sl _ 1 _)) (up (x1.g.trans (x3.g.trans x19.g)) r_row)) (ev_v ((⟨rfl, (by first | exact .inl rfl | exact .inr (.inl rfl)), nm_modulus⟩ : Sl _ 2 _)) (up (x1.g.trans (x3.g.trans x19.g)) r_modulus)) (by walk_at "pre") fun G11 H11 x26 => ?_))
          have x0_11 := x0_8.trans x26
          refine hW _ _ _ T.m_TooMany_RestError fun a_e oe_ pn_ ha_ hz_ hv_ => ?_
          show tSs _ _ _ [some v_door, some v_row, some v_modulus, some v_many, some v1_found, some (.ref a_e)] _
          refine b_cons (s_set sc_asked.nd (⟨rfl, (by first | exact .inl rfl | exact .inr rfl), .inl rfl⟩ : Ss _ 4 _) x0_11.s (ev_v (α := V) (x := (V.ref a_e)) ((⟨rfl, (by first | exact .inl rfl | exact .inr (.inl rfl)), nm_e_⟩ : Sl _ 5 _)) rfl) fun G12 H12 v12_found x27 l12 r12_found => ?_)
          have r12_found_ : v12_found = V.ref a_e := r12_found; subst r12_found_
          have x0_12 := x0_11.trans x27
          show tSs _ _ _ [some v_door, some v_row, some v_modulus, some v_many, some (.ref a_e), some (.ref a_e)] _
          refine b_nil ?_
          intro pn2_
          show tSs _ _ _ [some v_door, some v_row, some v_modulus, some v_many, some (.ref a_e), none] _
          refine b_cons (s_ret x0_12.s (ev_flK C_word_t rfl (hr.mono (by decide)) (by rfl) hz_ hv_ (List.mem_cons_self ..) ((⟨rfl, (by first | exact .inl rfl | exact .inr (.inl rfl)), nm_found⟩ : Sl _ 4 _))) fun G_ H_ v29 x28 _ r_ => ?_)
          exact fin.rt _ _ _ (x0_12.trans x28) (rep_of tk r_) (fun z => nomatch z)
        · have tk := tk_ff tk h25
          have h25_ := h25; try simp only [decide_eq_true_eq, decide_eq_false_iff_not, Classical.not_not] at h25_
          refine b_cons (s_expr x0_8.s (ev_c2 C_parted_o (hr.mono (by decide)) (by rfl) (ev_v ((⟨rfl, (by first | exact .inl rfl | exact .inr (.inl rfl)), nm_row⟩ : Sl _ 1 _)) (up (x1.g.trans (x3.g.trans x19.g)) r_row)) (ev_v ((⟨rfl, (by first | exact .inl rfl | exact .inr (.inl rfl)), nm_modulus⟩ : Sl _ 2 _)) (up (x1.g.trans (x3.g.trans x19.g)) r_modulus)) (by walk_at "pre")) fun G13 H13 v31 x30 l13 _ => ?_)
          have x0_13 := x0_8.trans x30
          show tSs _ _ _ [some v_door, some v_row, some v_modulus, some v_many, some v1_found, none] _
          refine b_nil ?_
          show tSs _ _ _ [some v_door, some v_row, some v_modulus, some v_many, some v1_found, none] _
          refine b_nil ?_
          show tSs _ _ _ [some v_door, some v_row, some v_modulus, some v_many, some v1_found, none] _
          refine b_nil ?_
          show tSs _ _ _ [some v_door, some v_row, some v_modulus, some v_many, some v1_found, none] _
          refine b_cons (s_ret x0_13.s (ev_c1 C_word_n (hr.mono (by decide)) gl_asked__law_word (ev_v (sl_asked_found) (up (x3.g.trans (x19.g.trans x30.g)) r1_found)) (by walk_at "pre")) fun G_ H_ v33 x32 _ r_ => ?_)
          exact fin.rt _ _ _ (x0_13.trans x32) (rep_of tk r_) (fun z => nomatch z)
    · have tk := tk_ff tk h18
      have h18_ := h18; try simp only [Bool.and_eq_true, Bool.or_eq_true, Bool.and_eq_false_iff, Bool.or_eq_false_iff, Bool.not_eq_true', Bool.not_eq_false', decide_eq_true_eq, decide_eq_false_iff_not, Classical.not_not] at h18_
      have x0_8 := x0_2.trans x19
      show tSs _ _ _ [some v_door, some v_row, some v_modulus, some v_many, some v1_found, none] _
      rcases Bool.eq_false_or_eq_true (decide (modulus < 1)) with h34 | h34
      · have tk := tk_tt tk h34
        have h34_ := h34; try simp only [decide_eq_true_eq, decide_eq_false_iff_not, Classical.not_not] at h34_
        refine b_cons (s_exprR (evR_c2 C_lfor_r (hr.mono (by decide)) (by rfl) tkk x0_8.s (ev_v ((⟨rfl, (by first | exact .inl rfl | exact .inr (.inl rfl)), nm_modulus⟩ : Sl _ 2 _)) (up (x1.g.trans (x3.g.trans x19.g)) r_modulus)) (ev_v ((⟨rfl, (by first | exact .inl rfl | exact .inr (.inl rfl)), nm_many⟩ : Sl _ 3 _)) (up (x1.g.trans (x3.g.trans x19.g)) r_many)) (by walk_at "pre") fun G14 H14 x35 => ?_))
        have x0_14 := x0_8.trans x35
        refine hW _ _ _ T.m_NoModulus_RestError fun a_e oe_ pn_ ha_ hz_ hv_ => ?_
        show tSs _ _ _ [some v_door, some v_row, some v_modulus, some v_many, some v1_found, some (.ref a_e)] _
        refine b_cons (s_set sc_asked.nd (⟨rfl, (by first | exact .inl rfl | exact .inr rfl), .inl rfl⟩ : Ss _ 4 _) x0_14.s (ev_v (α := V) (x := (V.ref a_e)) ((⟨rfl, (by first | exact .inl rfl | exact .inr (.inl rfl)), nm_e_⟩ : Sl _ 5 _)) rfl) fun G15 H15 v15_found x36 l15 r15_found => ?_)
        have r15_found_ : v15_found = V.ref a_e := r15_found; subst r15_found_
        have x0_15 := x0_14.trans x36
        show tSs _ _ _ [some v_door, some v_row, some v_modulus, some v_many, some (.ref a_e), some (.ref a_e)] _
        refine b_nil ?_
        intro pn2_
        show tSs _ _ _ [some v_door, some v_row, some v_modulus, some v_many, some (.ref a_e), none] _
        refine b_cons (s_ret x0_15.s (ev_flK C_word_m rfl (hr.mono (by decide)) (by rfl) hz_ hv_ (List.mem_cons_self ..) ((⟨rfl, (by first | exact .inl rfl | exact .inr (.inl rfl)), nm_found⟩ : Sl _ 4 _))) fun G_ H_ v38 x37 _ r_ => ?_)
        exact fin.rt _ _ _ (x0_15.trans x37) (rep_of tk r_) (fun z => nomatch z)
      · have tk := tk_ff tk h34
        have h34_ := h34; try simp only [decide_eq_true_eq, decide_eq_false_iff_not, Classical.not_not] at h34_
        rcases Bool.eq_false_or_eq_true (decide (1 ≤ modulus ∧ many < 0)) with h39 | h39
        · have tk := tk_tt tk h39
          have h39_ := h39; try simp only [decide_eq_true_eq, decide_eq_false_iff_not, Classical.not_not] at h39_
          refine b_cons (s_exprR (evR_c2 C_lfor_c (hr.mono (by decide)) (by rfl) tkk x0_8.s (ev_v ((⟨rfl, (by first | exact .inl rfl | exact .inr (.inl rfl)), nm_modulus⟩ : Sl _ 2 _)) (up (x1.g.trans (x3.g.trans x19.g)) r_modulus)) (ev_v ((⟨rfl, (by first | exact .inl rfl | exact .inr (.inl rfl)), nm_many⟩ : Sl _ 3 _)) (up (x1.g.trans (x3.g.trans x19.g)) r_many)) (by walk_at "pre") fun G16 H16 x40 => ?_))
          have x0_16 := x0_8.trans x40
          refine hW _ _ _ T.m_NoCount_RestError fun a_e oe_ pn_ ha_ hz_ hv_ => ?_
          show tSs _ _ _ [some v_door, some v_row, some v_modulus, some v_many, some v1_found, some (.ref a_e)] _
          refine b_cons (s_set sc_asked.nd (⟨rfl, (by first | exact .inl rfl | exact .inr rfl), .inl rfl⟩ : Ss _ 4 _) x0_16.s (ev_v (α := V) (x := (V.ref a_e)) ((⟨rfl, (by first | exact .inl rfl | exact .inr (.inl rfl)), nm_e_⟩ : Sl _ 5 _)) rfl) fun G17 H17 v17_found x41 l17 r17_found => ?_)
          have r17_found_ : v17_found = V.ref a_e := r17_found; subst r17_found_
          have x0_17 := x0_16.trans x41
          show tSs _ _ _ [some v_door, some v_row, some v_modulus, some v_many, some (.ref a_e), some (.ref a_e)] _
          refine b_nil ?_
          intro pn2_
          show tSs _ _ _ [some v_door, some v_row, some v_modulus, some v_many, some (.ref a_e), none] _
          refine b_cons (s_ret x0_17.s (ev_flK C_word_c rfl (hr.mono (by decide)) (by rfl) hz_ hv_ (List.mem_cons_self ..) ((⟨rfl, (by first | exact .inl rfl | exact .inr (.inl rfl)), nm_found⟩ : Sl _ 4 _))) fun G_ H_ v43 x42 _ r_ => ?_)
          exact fin.rt _ _ _ (x0_17.trans x42) (rep_of tk r_) (fun z => nomatch z)
        · have tk := tk_ff tk h39
          have h39_ := h39; try simp only [decide_eq_true_eq, decide_eq_false_iff_not, Classical.not_not] at h39_
          refine b_cons (s_expr x0_8.s (ev_c2 C_lfor (hr.mono (by decide)) (by rfl) (ev_v ((⟨rfl, (by first | exact .inl rfl | exact .inr (.inl rfl)), nm_modulus⟩ : Sl _ 2 _)) (up (x1.g.trans (x3.g.trans x19.g)) r_modulus)) (ev_v ((⟨rfl, (by first | exact .inl rfl | exact .inr (.inl rfl)), nm_many⟩ : Sl _ 3 _)) (up (x1.g.trans (x3.g.trans x19.g)) r_many)) (by walk_at "pre")) fun G18 H18 v45 x44 l18 _ => ?_)
          have x0_18 := x0_8.trans x44
          show tSs _ _ _ [some v_door, some v_row, some v_modulus, some v_many, some v1_found, none] _
          refine b_nil ?_
          show tSs _ _ _ [some v_door, some v_row, some v_modulus, some v_many, some v1_found, none] _
          refine b_nil ?_
          show tSs _ _ _ [some v_door, some v_row, some v_modulus, some v_many, some v1_found, none] _
          refine b_nil ?_
          show tSs _ _ _ [some v_door, some v_row, some v_modulus, some v_many, some v1_found, none] _
          refine b_cons (s_ret x0_18.s (ev_c1 C_word_n (hr.mono (by decide)) gl_asked__law_word (ev_v (sl_asked_found) (up (x3.g.trans (x19.g.trans x44.g)) r1_found)) (by walk_at "pre")) fun G_ H_ v47 x46 _ r_ => ?_)
          exact fin.rt _ _ _ (x0_18.trans x46) (rep_of tk r_) (fun z => nomatch z)

abbrev N_law : List Str := ["script", "k", "cell", "reel", "modulus", "far", "long", "row", "handed", "many", "door", "due", "bad"]
theorem sc_law : FnScope N_law ["script"] (defScope s_law) := ⟨rfl, rfl, rfl, by decide +kernel, rfl, by decide +kernel, by decide +kernel⟩
theorem sl_law_bad {P : Program} {w : World} {K : PySem.W.Frag} {mg : Str → Option Value} {base : Heap} {f : Addr} {cdv : Value} {A : Around} {outer : List Env} {s : Shared} {H : Hp} {E : XK} : Sl (cxOf (L2.CX P w) P w K mg base N_law "law" (defScope s_law) f cdv A outer s H E) 12 "bad" := ⟨rfl, (by first | exact .inl rfl | exact .inr (.inl rfl)), nm_bad⟩
theorem sl_law_cell {P : Program} {w : World} {K : PySem.W.Frag} {mg : Str → Option Value} {base : Heap} {f : Addr} {cdv : Value} {A : Around} {outer : List Env} {s : Shared} {H : Hp} {E : XK} : Sl (cxOf (L2.CX P w) P w K mg base N_law "law" (defScope s_law) f cdv A outer s H E) 2 "cell" := ⟨rfl, (by first | exact .inl rfl | exact .inr (.inl rfl)), nm_cell⟩
theorem sl_law_door {P : Program} {w : World} {K : PySem.W.Frag} {mg : Str → Option Value} {base : Heap} {f : Addr} {cdv : Value} {A : Around} {outer : List Env} {s : Shared} {H : Hp} {E : XK} : Sl (cxOf (L2.CX P w) P w K mg base N_law "law" (defScope s_law) f cdv A outer s H E) 10 "door" := ⟨rfl, (by first | exact .inl rfl | exact .inr (.inl rfl)), nm_door⟩
theorem sl_law_due {P : Program} {w : World} {K : PySem.W.Frag} {mg : Str → Option Value} {base : Heap} {f : Addr} {cdv : Value} {A : Around} {outer : List Env} {s : Shared} {H : Hp} {E : XK} : Sl (cxOf (L2.CX P w) P w K mg base N_law "law" (defScope s_law) f cdv A outer s H E) 11 "due" := ⟨rfl, (by first | exact .inl rfl | exact .inr (.inl rfl)), nm_due⟩
theorem sl_law_far {P : Program} {w : World} {K : PySem.W.Frag} {mg : Str → Option Value} {base : Heap} {f : Addr} {cdv : Value} {A : Around} {outer : List Env} {s : Shared} {H : Hp} {E : XK} : Sl (cxOf (L2.CX P w) P w K mg base N_law "law" (defScope s_law) f cdv A outer s H E) 5 "far" := ⟨rfl, (by first | exact .inl rfl | exact .inr (.inl rfl)), nm_far⟩
theorem sl_law_handed {P : Program} {w : World} {K : PySem.W.Frag} {mg : Str → Option Value} {base : Heap} {f : Addr} {cdv : Value} {A : Around} {outer : List Env} {s : Shared} {H : Hp} {E : XK} : Sl (cxOf (L2.CX P w) P w K mg base N_law "law" (defScope s_law) f cdv A outer s H E) 8 "handed" := ⟨rfl, (by first | exact .inl rfl | exact .inr (.inl rfl)), nm_handed⟩
theorem sl_law_k {P : Program} {w : World} {K : PySem.W.Frag} {mg : Str → Option Value} {base : Heap} {f : Addr} {cdv : Value} {A : Around} {outer : List Env} {s : Shared} {H : Hp} {E : XK} : Sl (cxOf (L2.CX P w) P w K mg base N_law "law" (defScope s_law) f cdv A outer s H E) 1 "k" := ⟨rfl, (by first | exact .inl rfl | exact .inr (.inl rfl)), nm_k⟩
theorem sl_law_long {P : Program} {w : World} {K : PySem.W.Frag} {mg : Str → Option Value} {base : Heap} {f : Addr} {cdv : Value} {A : Around} {outer : List Env} {s : Shared} {H : Hp} {E : XK} : Sl (cxOf (L2.CX P w) P w K mg base N_law "law" (defScope s_law) f cdv A outer s H E) 6 "long" := ⟨rfl, (by first | exact .inl rfl | exact .inr (.inl rfl)), nm_long⟩
theorem sl_law_many {P : Program} {w : World} {K : PySem.W.Frag} {mg : Str → Option Value} {base : Heap} {f : Addr} {cdv : Value} {A : Around} {outer : List Env} {s : Shared} {H : Hp} {E : XK} : Sl (cxOf (L2.CX P w) P w K mg base N_law "law" (defScope s_law) f cdv A outer s H E) 9 "many" := ⟨rfl, (by first | exact .inl rfl | exact .inr (.inl rfl)), nm_many⟩
theorem sl_law_modulus {P : Program} {w : World} {K : PySem.W.Frag} {mg : Str → Option Value} {base : Heap} {f : Addr} {cdv : Value} {A : Around} {outer : List Env} {s : Shared} {H : Hp} {E : XK} : Sl (cxOf (L2.CX P w) P w K mg base N_law "law" (defScope s_law) f cdv A outer s H E) 4 "modulus" := ⟨rfl, (by first | exact .inl rfl | exact .inr (.inl rfl)), nm_modulus⟩
theorem sl_law_reel {P : Program} {w : World} {K : PySem.W.Frag} {mg : Str → Option Value} {base : Heap} {f : Addr} {cdv : Value} {A : Around} {outer : List Env} {s : Shared} {H : Hp} {E : XK} : Sl (cxOf (L2.CX P w) P w K mg base N_law "law" (defScope s_law) f cdv A outer s H E) 3 "reel" := ⟨rfl, (by first | exact .inl rfl | exact .inr (.inl rfl)), nm_reel⟩
theorem sl_law_row {P : Program} {w : World} {K : PySem.W.Frag} {mg : Str → Option Value} {base : Heap} {f : Addr} {cdv : Value} {A : Around} {outer : List Env} {s : Shared} {H : Hp} {E : XK} : Sl (cxOf (L2.CX P w) P w K mg base N_law "law" (defScope s_law) f cdv A outer s H E) 7 "row" := ⟨rfl, (by first | exact .inl rfl | exact .inr (.inl rfl)), nm_row⟩
theorem sl_law_script {P : Program} {w : World} {K : PySem.W.Frag} {mg : Str → Option Value} {base : Heap} {f : Addr} {cdv : Value} {A : Around} {outer : List Env} {s : Shared} {H : Hp} {E : XK} : Sl (cxOf (L2.CX P w) P w K mg base N_law "law" (defScope s_law) f cdv A outer s H E) 0 "script" := ⟨rfl, (by first | exact .inl rfl | exact .inr (.inl rfl)), nm_script⟩
theorem ss_law_k {P : Program} {w : World} {K : PySem.W.Frag} {mg : Str → Option Value} {base : Heap} {f : Addr} {cdv : Value} {A : Around} {outer : List Env} {s : Shared} {H : Hp} {E : XK} : Ss (cxOf (L2.CX P w) P w K mg base N_law "law" (defScope s_law) f cdv A outer s H E) 1 "k" := ⟨rfl, (by first | exact .inl rfl | exact .inr rfl), .inl rfl⟩
theorem ss_law_cell {P : Program} {w : World} {K : PySem.W.Frag} {mg : Str → Option Value} {base : Heap} {f : Addr} {cdv : Value} {A : Around} {outer : List Env} {s : Shared} {H : Hp} {E : XK} : Ss (cxOf (L2.CX P w) P w K mg base N_law "law" (defScope s_law) f cdv A outer s H E) 2 "cell" := ⟨rfl, (by first | exact .inl rfl | exact .inr rfl), .inl rfl⟩
theorem ss_law_reel {P : Program} {w : World} {K : PySem.W.Frag} {mg : Str → Option Value} {base : Heap} {f : Addr} {cdv : Value} {A : Around} {outer : List Env} {s : Shared} {H : Hp} {E : XK} : Ss (cxOf (L2.CX P w) P w K mg base N_law "law" (defScope s_law) f cdv A outer s H E) 3 "reel" := ⟨rfl, (by first | exact .inl rfl | exact .inr rfl), .inl rfl⟩
theorem ss_law_modulus {P : Program} {w : World} {K : PySem.W.Frag} {mg : Str → Option Value} {base : Heap} {f : Addr} {cdv : Value} {A : Around} {outer : List Env} {s : Shared} {H : Hp} {E : XK} : Ss (cxOf (L2.CX P w) P w K mg base N_law "law" (defScope s_law) f cdv A outer s H E) 4 "modulus" := ⟨rfl, (by first | exact .inl rfl | exact .inr rfl), .inl rfl⟩
theorem ss_law_far {P : Program} {w : World} {K : PySem.W.Frag} {mg : Str → Option Value} {base : Heap} {f : Addr} {cdv : Value} {A : Around} {outer : List Env} {s : Shared} {H : Hp} {E : XK} : Ss (cxOf (L2.CX P w) P w K mg base N_law "law" (defScope s_law) f cdv A outer s H E) 5 "far" := ⟨rfl, (by first | exact .inl rfl | exact .inr rfl), .inl rfl⟩
theorem ss_law_long {P : Program} {w : World} {K : PySem.W.Frag} {mg : Str → Option Value} {base : Heap} {f : Addr} {cdv : Value} {A : Around} {outer : List Env} {s : Shared} {H : Hp} {E : XK} : Ss (cxOf (L2.CX P w) P w K mg base N_law "law" (defScope s_law) f cdv A outer s H E) 6 "long" := ⟨rfl, (by first | exact .inl rfl | exact .inr rfl), .inl rfl⟩
theorem ss_law_row {P : Program} {w : World} {K : PySem.W.Frag} {mg : Str → Option Value} {base : Heap} {f : Addr} {cdv : Value} {A : Around} {outer : List Env} {s : Shared} {H : Hp} {E : XK} : Ss (cxOf (L2.CX P w) P w K mg base N_law "law" (defScope s_law) f cdv A outer s H E) 7 "row" := ⟨rfl, (by first | exact .inl rfl | exact .inr rfl), .inl rfl⟩
theorem ss_law_handed {P : Program} {w : World} {K : PySem.W.Frag} {mg : Str → Option Value} {base : Heap} {f : Addr} {cdv : Value} {A : Around} {outer : List Env} {s : Shared} {H : Hp} {E : XK} : Ss (cxOf (L2.CX P w) P w K mg base N_law "law" (defScope s_law) f cdv A outer s H E) 8 "handed" := ⟨rfl, (by first | exact .inl rfl | exact .inr rfl), .inl rfl⟩
theorem ss_law_many {P : Program} {w : World} {K : PySem.W.Frag} {mg : Str → Option Value} {base : Heap} {f : Addr} {cdv : Value} {A : Around} {outer : List Env} {s : Shared} {H : Hp} {E : XK} : Ss (cxOf (L2.CX P w) P w K mg base N_law "law" (defScope s_law) f cdv A outer s H E) 9 "many" := ⟨rfl, (by first | exact .inl rfl | exact .inr rfl), .inl rfl⟩
theorem ss_law_door {P : Program} {w : World} {K : PySem.W.Frag} {mg : Str → Option Value} {base : Heap} {f : Addr} {cdv : Value} {A : Around} {outer : List Env} {s : Shared} {H : Hp} {E : XK} : Ss (cxOf (L2.CX P w) P w K mg base N_law "law" (defScope s_law) f cdv A outer s H E) 10 "door" := ⟨rfl, (by first | exact .inl rfl | exact .inr rfl), .inl rfl⟩
theorem ss_law_due {P : Program} {w : World} {K : PySem.W.Frag} {mg : Str → Option Value} {base : Heap} {f : Addr} {cdv : Value} {A : Around} {outer : List Env} {s : Shared} {H : Hp} {E : XK} : Ss (cxOf (L2.CX P w) P w K mg base N_law "law" (defScope s_law) f cdv A outer s H E) 11 "due" := ⟨rfl, (by first | exact .inl rfl | exact .inr rfl), .inl rfl⟩
theorem ss_law_bad {P : Program} {w : World} {K : PySem.W.Frag} {mg : Str → Option Value} {base : Heap} {f : Addr} {cdv : Value} {A : Around} {outer : List Env} {s : Shared} {H : Hp} {E : XK} : Ss (cxOf (L2.CX P w) P w K mg base N_law "law" (defScope s_law) f cdv A outer s H E) 12 "bad" := ⟨rfl, (by first | exact .inl rfl | exact .inr rfl), .inl rfl⟩
theorem gl_law__law_asked {P : Program} {w : World} {K : PySem.W.Frag} {mg : Str → Option Value} {base : Heap} {f : Addr} {cdv : Value} {A : Around} {outer : List Env} {s : Shared} {H : Hp} {E : XK} : Gl (cxOf (L2.CX P w) P w K mg base N_law "law" (defScope s_law) f cdv A outer s H E) "_law_asked" := by rfl
theorem gl_law__law_few {P : Program} {w : World} {K : PySem.W.Frag} {mg : Str → Option Value} {base : Heap} {f : Addr} {cdv : Value} {A : Around} {outer : List Env} {s : Shared} {H : Hp} {E : XK} : Gl (cxOf (L2.CX P w) P w K mg base N_law "law" (defScope s_law) f cdv A outer s H E) "_law_few" := by rfl
theorem gl_law__law_reel {P : Program} {w : World} {K : PySem.W.Frag} {mg : Str → Option Value} {base : Heap} {f : Addr} {cdv : Value} {A : Around} {outer : List Env} {s : Shared} {H : Hp} {E : XK} : Gl (cxOf (L2.CX P w) P w K mg base N_law "law" (defScope s_law) f cdv A outer s H E) "_law_reel" := by rfl
theorem gl_law__law_row {P : Program} {w : World} {K : PySem.W.Frag} {mg : Str → Option Value} {base : Heap} {f : Addr} {cdv : Value} {A : Around} {outer : List Env} {s : Shared} {H : Hp} {E : XK} : Gl (cxOf (L2.CX P w) P w K mg base N_law "law" (defScope s_law) f cdv A outer s H E) "_law_row" := by rfl
theorem gl_law__law_take {P : Program} {w : World} {K : PySem.W.Frag} {mg : Str → Option Value} {base : Heap} {f : Addr} {cdv : Value} {A : Around} {outer : List Env} {s : Shared} {H : Hp} {E : XK} : Gl (cxOf (L2.CX P w) P w K mg base N_law "law" (defScope s_law) f cdv A outer s H E) "_law_take" := by rfl
theorem gl_law_enumerate {P : Program} {w : World} {K : PySem.W.Frag} {mg : Str → Option Value} {base : Heap} {f : Addr} {cdv : Value} {A : Around} {outer : List Env} {s : Shared} {H : Hp} {E : XK} : Gl (cxOf (L2.CX P w) P w K mg base N_law "law" (defScope s_law) f cdv A outer s H E) "enumerate" := by rfl
theorem gl_law_int {P : Program} {w : World} {K : PySem.W.Frag} {mg : Str → Option Value} {base : Heap} {f : Addr} {cdv : Value} {A : Around} {outer : List Env} {s : Shared} {H : Hp} {E : XK} : Gl (cxOf (L2.CX P w) P w K mg base N_law "law" (defScope s_law) f cdv A outer s H E) "int" := by rfl
theorem gl_law_len {P : Program} {w : World} {K : PySem.W.Frag} {mg : Str → Option Value} {base : Heap} {f : Addr} {cdv : Value} {A : Around} {outer : List Env} {s : Shared} {H : Hp} {E : XK} : Gl (cxOf (L2.CX P w) P w K mg base N_law "law" (defScope s_law) f cdv A outer s H E) "len" := by rfl
theorem gl_law_list {P : Program} {w : World} {K : PySem.W.Frag} {mg : Str → Option Value} {base : Heap} {f : Addr} {cdv : Value} {A : Around} {outer : List Env} {s : Shared} {H : Hp} {E : XK} : Gl (cxOf (L2.CX P w) P w K mg base N_law "law" (defScope s_law) f cdv A outer s H E) "list" := by rfl
theorem gl_law_range {P : Program} {w : World} {K : PySem.W.Frag} {mg : Str → Option Value} {base : Heap} {f : Addr} {cdv : Value} {A : Around} {outer : List Env} {s : Shared} {H : Hp} {E : XK} : Gl (cxOf (L2.CX P w) P w K mg base N_law "law" (defScope s_law) f cdv A outer s H E) "range" := by rfl
section
local macro_rules | `(tactic| walk_at "pre") => `(tactic| first | omega | exact ⟨by omega, by decide, by decide, by omega, by omega⟩ | fail)
local macro_rules | `(tactic| walk_at "sc") => `(tactic| first | omega | decide | (split <;> omega) | fail)
local macro_rules | `(tactic| walk_at "ix") => `(tactic| first | omega | (split <;> decide) | fail)
theorem cal_law {P : Program} {w : World} {K : PySem.W.Frag} {mg : Str → Option Value} {base : Heap} {f : Addr} {fd : FuncData} {c_RestError c_NoModulus c_NoCount c_NoPaper c_TooMany c_NoText c_NoForm c_NoneYet : Addr} (T : Txt K mg c_RestError c_NoModulus c_NoCount c_NoPaper c_TooMany c_NoText c_NoForm c_NoneYet) (F : Fun K "law" "law" s_law f fd) (hm : mg "law" = some (.ref f)) (hb : Binds K fd ["script"] []) (C_lreel : Cal P w K mg base 1 "_law_reel" (Sp1 K true (fun (cell : Int) => True) m_lreel)) (C_lfew : Cal P w K mg base 2 "_law_few" (SpM1 K false (fun (reel : (List Int)) => reel.length = 2) m_lfew)) (C_ltake : Cal P w K mg base 1 "_law_take" (SpM2 K false (fun (reel : (List Int)) (many : Int) => reel.length = 2 ∧ 1 ≤ many ∧ many ≤ 1073741823) m_ltake)) (C_lrow : Cal P w K mg base 2 "_law_row" (SpM3 K true (fun (reel : (List Int)) (most : Int) (modulus : Int) => reel.length = 2 ∧ 0 ≤ most ∧ most ≤ 40 ∧ 1 ≤ modulus ∧ modulus ≤ 60) m_lrow)) (C_asked : Cal P w K mg base 5 "_law_asked" (Sp4 K false (fun (door : Int) (row : (List Int)) (modulus : Int) (many : Int) => row.length ≤ 1000 ∧ modulus ≤ 60) m_asked)) : FnOk P w K mg base (L2.CX P w) 6 f fd ["script"] (Sp1 K false (fun (script : Scr) => script.ns.length ≤ 63) m_law) := by
  refine fn1F F hm hb sc_law rfl fun cdv A outer s H0 E hr G0 v_script script D s0 r_script hp fin => ?_
  have x0_0 : Ext G0 H0 G0 H0 := Ext.refl s0
  show tSs _ _ D [some v_script, none, none, none, none, none, none, none, none, none, none, none, none] H0
  have tk : m_law script = _ := rfl
  have fc1 := cut_le script.ns none (some (6 : Int))
  refine b_cons (s_for (T := (T2 K 1 2)) (passes_of rfl) rfl (pg_tup rfl (pgs_cons (pg_name (i := 1) sc_law.nd rfl ss_law_k.hx) (pgs_cons (pg_name (i := 2) sc_law.nd rfl ss_law_cell.hx) pgs_nil))) acts2 x0_0.s (ei_enum ⟨gl_law_enumerate, T.b_enumerate⟩ (ev_cat (by have := cut_le script.ns none (some (6 : Int)); walk_at "sz") (ev_sl (ev_v (sl_law_script) r_script) eo_none (eo_some ev_int)) (ev_list (es_cons (ev_len ⟨gl_law_len, T.b_len⟩ (ev_v (sl_law_script) r_script)) es_nil)))) (fun rest σ G H => lrun (m_law_1s) rest () = lrun (m_law_1s) (enum ((cut script.ns none (some (6 : Int))) ++ ([((script.ns).length : Int)] : List Int))) () ∧ Ext G0 H0 G H ∧ ∃ (y1_1 y1_2 y1_3 y1_4 y1_5 y1_6 y1_7 y1_8 y1_9 y1_10 y1_11 y1_12 : Option V), σ = [some v_script, y1_1, y1_2, y1_3, y1_4, y1_5, y1_6, y1_7, y1_8, y1_9, y1_10, y1_11, y1_12]) (fun _ _ x => ⟨rfl, x0_0.trans x, none, none, none, none, none, none, none, none, none, none, none, none, rfl⟩) ?_ ?_)
  · intro z1 rest σ1 G1 H1 G2 H2 σ2 hx1 sgA2 sh1 I_ x2 l2 hT
    obtain ⟨es1, x0_1, y1_1, y1_2, y1_3, y1_4, y1_5, y1_6, y1_7, y1_8, y1_9, y1_10, y1_11, y1_12, rfl⟩ := I_
    have x0_2 := x0_1.trans x2
    obtain ⟨t1a, t1b, rt1a, rt1b, rfl⟩ := hT
    have mem1 := mem_of hx1.1
    have hlx1 := hx1.2; rw [sizeLine_eq] at hlx1
    have hlr1 := mem_len hx1.1
    have tk1 := tk
    have tk : m_law_1s z1 () = _ := rfl
    show tSs _ _ _ [some v_script, some t1a, some t1b, y1_3, y1_4, y1_5, y1_6, y1_7, y1_8, y1_9, y1_10, y1_11, y1_12] _
    have fc3 := post_lreel z1.2 (by walk_at "pre")
    refine b_cons (s_setO sc_law.nd ss_law_reel x0_2.s (evN_c1 C_lreel (hr.mono (by decide)) gl_law__law_reel (ev_v (sl_law_cell) rt1b) (by walk_at "pre")) fun G3 H3 q_reel x4 l3 n_q_reel o3_reel => ?_)
    have x0_3 := x0_2.trans x4
    have m_q_reel := x0_2.h.free n_q_reel
    show tSs _ _ _ [some v_script, some t1a, some t1b, some (.ref q_reel), y1_4, y1_5, y1_6, y1_7, y1_8, y1_9, y1_10, y1_11, y1_12] _
    obtain ⟨reel, e5⟩ : ∃ z, z = (m_lreel z1.2) := ⟨_, rfl⟩
    rw [← e5] at o3_reel
    have tk : _ = m_law_3 z1 reel := tk.trans (by first | (rw [e5] <;> rfl) | rfl)
    have p_e5 := post_lreel z1.2 (by walk_at "pre"); rw [← e5] at p_e5; (try simp only [rep_len, rep_len2] at p_e5)
    have g_e5 := congrArg List.length e5; try simp only [List.length_append, List.length_cons, List.length_nil, rng_len, List.length_map, List.length_reverse, List.length_set] at g_e5
    have fc6 := post_lfew reel (by walk_at "pre")
    refine b_cons (s_setM sc_law.nd ss_law_modulus x0_3.s o3_reel (evM_m1 C_lfew (hr.mono (by decide)) gl_law__law_few (sl_law_reel)  (by walk_at "pre")) fun G4 H4 v4_modulus x7 l4 o4_reel r4_modulus => ?_)
    have x0_4 := x0_3.transM m_q_reel x7
    show tSs _ _ _ [some v_script, some t1a, some t1b, some (.ref q_reel), some v4_modulus, y1_5, y1_6, y1_7, y1_8, y1_9, y1_10, y1_11, y1_12] _
    obtain ⟨modulus, e8⟩ : ∃ z, z = (m_lfew reel).1 := ⟨_, rfl⟩
    rw [← e8] at r4_modulus
    have tk : _ = m_law_4 z1 reel modulus := tk.trans (by first | (rw [e8] <;> rfl) | rfl)
    obtain ⟨reel, e9⟩ : ∃ z, z = (m_lfew reel).2 := ⟨_, rfl⟩
    rw [← e9] at o4_reel
    have tk : _ = m_law_5 z1 reel modulus := tk.trans (by first | (rw [e9] <;> rfl) | rfl)
    have g_e9 := congrArg List.length e9; try simp only [List.length_append, List.length_cons, List.length_nil, rng_len, List.length_map, List.length_reverse, List.length_set] at g_e9
    have fc34 := post_ltake reel (1000000000 : Int) (by walk_at "pre")
    have fc35 := post_ltake ((m_ltake reel (1000000000 : Int)).2) (4 : Int) (by have := post_ltake reel (1000000000 : Int) (by walk_at "pre"); walk_at "pre")
    refine b_cons (s_setM sc_law.nd ss_law_far x0_4.s o4_reel (evM_ix (0 : Int) (evM_list (esM_cons (evM_pure fun G10 H11 x12 o13 => ev_int) (esM_cons (evM_pure fun G14 H15 x16 o17 => ev_int) (esM_cons (evM_bin b_add (evM_pure fun G18 H19 x20 o21 => ev_int) (evM_m2 C_ltake (hr.mono (by decide)) gl_law__law_take (sl_law_reel) (evM_pure fun G22 H23 x24 o25 => (Ev.to (y := (1000000000 : Int)) (ev_bin (b_pow (by walk_at "pw")) ev_int ev_int) (by decide))) (by walk_at "pre"))) (esM_cons (evM_pure fun G26 H27 x28 o29 => have := post_ltake reel (1000000000 : Int) (by walk_at "pre"); (Ev.to (y := (100000000000000000000000000000 : Int)) (ev_bin (b_pow (by walk_at "pw")) ev_int ev_int) (by decide))) esM_nil))))) (evM_m2 C_ltake (hr.mono (by decide)) gl_law__law_take (sl_law_reel) (evM_pure fun G30 H31 x32 o33 => have := post_ltake reel (1000000000 : Int) (by walk_at "pre"); ev_int) (by have := post_ltake reel (1000000000 : Int) (by walk_at "pre"); walk_at "pre")) (by have := post_ltake reel (1000000000 : Int) (by walk_at "pre"); have := post_ltake ((m_ltake reel (1000000000 : Int)).2) (4 : Int) (by have := post_ltake reel (1000000000 : Int) (by walk_at "pre"); walk_at "pre"); walk_at "sc") (by have := post_ltake reel (1000000000 : Int) (by walk_at "pre"); have := post_ltake ((m_ltake reel (1000000000 : Int)).2) (4 : Int) (by have := post_ltake reel (1000000000 : Int) (by walk_at "pre"); walk_at "pre"); walk_at "ix")) fun G11 H11 v11_far x36 l11 o11_reel r11_far => ?_)
    have x0_11 := x0_4.transM m_q_reel x36
    show tSs _ _ _ [some v_script, some t1a, some t1b, some (.ref q_reel), some v4_modulus, some v11_far, y1_6, y1_7, y1_8, y1_9, y1_10, y1_11, y1_12] _
    obtain ⟨far, e37⟩ : ∃ z, z = ((([(1 : Int), (2 : Int), ((1 : Int) + (m_ltake reel (1000000000 : Int)).1), (100000000000000000000000000000 : Int)] : List Int)).getD ((m_ltake ((m_ltake reel (1000000000 : Int)).2) (4 : Int)).1).toNat (0 : Int)) := ⟨_, rfl⟩
    rw [← e37] at r11_far
    have tk : _ = m_law_6 z1 reel modulus far := tk.trans (by first | (rw [e37] <;> rfl) | rfl)
    have f_e37 : 1 ≤ far := by rw [e37]; exact far_ge (by omega)
    obtain ⟨reel, e38⟩ : ∃ z, z = (m_ltake ((m_ltake reel (1000000000 : Int)).2) (4 : Int)).2 := ⟨_, rfl⟩
    rw [← e38] at o11_reel
    have tk : _ = m_law_7 z1 reel modulus far := tk.trans (by first | (rw [e38] <;> rfl) | rfl)
    have g_e38 := congrArg List.length e38; try simp only [List.length_append, List.length_cons, List.length_nil, rng_len, List.length_map, List.length_reverse, List.length_set] at g_e38
    have fc47 := post_lrow reel (40 : Int) modulus (by walk_at "pre")
    refine b_cons (s_setM sc_law.nd ss_law_long x0_11.s o11_reel (evM_m3 C_lrow (hr.mono (by decide)) gl_law__law_row (sl_law_reel) (evM_pure fun G39 H40 x41 o42 => ev_int) (evM_pure fun G43 H44 x45 o46 => (ev_v (sl_law_modulus) (up (x36.g.trans x45.g) r4_modulus))) (by walk_at "pre")) fun G14 H14 v14_long x48 l14 o14_reel r14_long => ?_)
    have x0_14 := x0_11.transM m_q_reel x48
    show tSs _ _ _ [some v_script, some t1a, some t1b, some (.ref q_reel), some v4_modulus, some v11_far, some v14_long, y1_7, y1_8, y1_9, y1_10, y1_11, y1_12] _
    obtain ⟨long, e49⟩ : ∃ z, z = (m_lrow reel (40 : Int) modulus).1 := ⟨_, rfl⟩
    rw [← e49] at r14_long
    have tk : _ = m_law_8 z1 modulus far long := tk.trans (by first | (rw [e49] <;> rfl) | rfl)
    have g_e49 := congrArg List.length e49; try simp only [List.length_append, List.length_cons, List.length_nil, rng_len, List.length_map, List.length_reverse, psort_len, isort_len] at g_e49
    have f_e49 : long.length ≤ 40 := by rw [e49]; exact Int.ofNat_le.mp (post_lrow _ _ _ ⟨by omega, by decide, by decide, by omega, by omega⟩).1
    obtain ⟨reel, e50⟩ : ∃ z, z = (m_lrow reel (40 : Int) modulus).2 := ⟨_, rfl⟩
    rw [← e50] at o14_reel
    have tk : _ = m_law_9 z1 modulus far long := tk.trans (by first | (rw [e50] <;> rfl) | rfl)
    have g_e50 := congrArg List.length e50; try simp only [List.length_append, List.length_cons, List.length_nil, rng_len, List.length_map, List.length_reverse, List.length_set] at g_e50
    refine b_cons (s_if x0_14.s (et_w (ew_and (et_cmp c_gt (ev_v (sl_law_k) (up (x4.g.trans (x7.g.trans (x36.g.trans x48.g))) rt1a)) ev_int) fun c51 => (ew_and1 (et_cmp c_lt (ev_len ⟨gl_law_len, T.b_len⟩ (ev_v (sl_law_long) r14_long)) ev_int)))) (fun h52 G15 H15 x53 l15 => ?_) (fun h52 G15 H15 x53 l15 => ?_))
    · have tk := tk_tt tk h52
      have h52_ := h52; try simp only [Bool.and_eq_true, Bool.or_eq_true, Bool.and_eq_false_iff, Bool.or_eq_false_iff, Bool.not_eq_true', Bool.not_eq_false', decide_eq_true_eq, decide_eq_false_iff_not, Classical.not_not] at h52_
      have x0_15 := x0_14.trans x53
      show tSs _ _ _ [some v_script, some t1a, some t1b, some (.ref q_reel), some v4_modulus, some v11_far, some v14_long, y1_7, y1_8, y1_9, y1_10, y1_11, y1_12] _
      have fc54 := cut_le long none (some (6 : Int))
      refine b_cons (s_set sc_law.nd ss_law_long x0_15.s (ev_sl (ev_v (sl_law_long) (up x53.g r14_long)) eo_none (eo_some ev_int)) fun G16 H16 v16_long x55 l16 r16_long => ?_)
      have x0_16 := x0_15.trans x55
      show tSs _ _ _ [some v_script, some t1a, some t1b, some (.ref q_reel), some v4_modulus, some v11_far, some v16_long, y1_7, y1_8, y1_9, y1_10, y1_11, y1_12] _
      obtain ⟨long, e56⟩ : ∃ z, z = (cut long none (some (6 : Int))) := ⟨_, rfl⟩
      rw [← e56] at r16_long
      have tk : _ = m_law_10 z1 modulus far long := tk.trans (by first | (rw [e56] <;> rfl) | rfl)
      have g_e56 := congrArg List.length e56; try simp only [List.length_append, List.length_cons, List.length_nil, rng_len, List.length_map, List.length_reverse, psort_len, isort_len] at g_e56
      have f_e56 : long.length ≤ 40 := by rw [e56]; exact Nat.le_trans (cut_le _ _ _) (by omega)
      refine b_nil ?_
      show tSs _ _ _ [some v_script, some t1a, some t1b, some (.ref q_reel), some v4_modulus, some v11_far, some v16_long, y1_7, y1_8, y1_9, y1_10, y1_11, y1_12] _
      have fc57 := cut_le long none (some ((([(10 : Int), (6 : Int)] : List Int)).getD ((if (decide (z1.1 > (0 : Int))) = true then 1 else 0 : Int)).toNat (0 : Int)))
      have fc58 := cut_le long none (some (11 : Int))
      refine b_cons (s_for (T := (T1 K 7)) (passes_of rfl) rfl (pg_name (i := 7) sc_law.nd rfl ss_law_row.hx) acts1 x0_16.s (ei_list (ev_list (es_cons (ev_v (sl_law_long) r16_long) (es_cons (ev_sl (ev_v (sl_law_long) r16_long) eo_none (eo_some (ev_ix (0 : Int) (ev_list (es_cons ev_int (es_cons ev_int es_nil))) (ev_intB ⟨gl_law_int, T.b_int⟩ (ev_cmp c_gt (ev_v (sl_law_k) (up (x4.g.trans (x7.g.trans (x36.g.trans (x48.g.trans (x53.g.trans x55.g))))) rt1a)) ev_int)) (by walk_at "sc") (by walk_at "ix")))) (es_cons (ev_sl (ev_v (sl_law_long) r16_long) eo_none (eo_some ev_int)) (es_cons (ev_bin (b_rep (by walk_at "sc") (by walk_at "sc") (by walk_at "sz")) (ev_list (es_cons ev_int es_nil)) ev_int) es_nil)))))) (fun rest σ G H => lrun (m_law_11s modulus far) rest () = lrun (m_law_11s modulus far) ([long, (cut long none (some ((([(10 : Int), (6 : Int)] : List Int)).getD ((if (decide (z1.1 > (0 : Int))) = true then 1 else 0 : Int)).toNat (0 : Int)))), (cut long none (some (11 : Int))), (List.replicate ((11 : Int)).toNat ([(5 : Int)] : List Int)).flatten] : List (List Int)) () ∧ Ext G0 H0 G H ∧ ∃ (y2_7 y2_8 y2_9 y2_10 y2_11 y2_12 : Option V), σ = [some v_script, some t1a, some t1b, some (.ref q_reel), some v4_modulus, some v11_far, some v16_long, y2_7, y2_8, y2_9, y2_10, y2_11, y2_12]) (fun _ _ x => ⟨rfl, x0_16.trans x, y1_7, y1_8, y1_9, y1_10, y1_11, y1_12, rfl⟩) ?_ ?_)
      · intro row rest σ1 G17 H17 G18 H18 σ2 hx2 sgA18 sh2 I_ x59 l18 hT
        obtain ⟨es2, x0_17, y2_7, y2_8, y2_9, y2_10, y2_11, y2_12, rfl⟩ := I_
        have x0_18 := x0_17.trans x59
        obtain ⟨t2, rt2, rfl⟩ := hT
        have mem2 := mem_of hx2.1
        have hlx2 := hx2.2; rw [sizeLine_eq] at hlx2
        have hlr2 := mem_len hx2.1
        have fi2 : row.length ≤ 40 := by exact rows_len (by omega) mem2
        have tk2 := tk
        have tk : m_law_11s modulus far row () = _ := rfl
        show tSs _ _ _ [some v_script, some t1a, some t1b, some (.ref q_reel), some v4_modulus, some v11_far, some v16_long, some t2, y2_8, y2_9, y2_10, y2_11, y2_12] _
        refine b_cons (s_set sc_law.nd ss_law_handed x0_18.s (ev_copy ⟨gl_law_list, T.b_list⟩ (ev_v (sl_law_row) rt2)) fun G19 H19 v19_handed x60 l19 r19_handed => ?_)
        have x0_19 := x0_18.trans x60
        show tSs _ _ _ [some v_script, some t1a, some t1b, some (.ref q_reel), some v4_modulus, some v11_far, some v16_long, some t2, some v19_handed, y2_9, y2_10, y2_11, y2_12] _
        refine b_cons (s_for (T := (T1 K 9)) (passes_of rfl) rfl (pg_name (i := 9) sc_law.nd rfl ss_law_many.hx) acts1 x0_19.s (ei_list (ev_list (es_cons ev_int (es_cons ev_int (es_cons (ev_v (sl_law_far) (up (x48.g.trans (x53.g.trans (x55.g.trans (sgA18.trans (x59.g.trans x60.g))))) r11_far)) (es_cons (Ev.to (y := (-1 : Int)) (ev_neg ev_int) (by decide)) (es_cons (ev_bin b_sub ev_int (ev_v (sl_law_far) (up (x48.g.trans (x53.g.trans (x55.g.trans (sgA18.trans (x59.g.trans x60.g))))) r11_far))) es_nil))))))) (fun rest σ G H => lrun (m_law_13s modulus far row) rest () = lrun (m_law_13s modulus far row) ([(0 : Int), (1 : Int), far, (-1 : Int), ((0 : Int) - far)] : List Int) () ∧ Ext G0 H0 G H ∧ ∃ (y3_9 y3_10 y3_11 y3_12 : Option V), σ = [some v_script, some t1a, some t1b, some (.ref q_reel), some v4_modulus, some v11_far, some v16_long, some t2, some v19_handed, y3_9, y3_10, y3_11, y3_12]) (fun _ _ x => ⟨rfl, x0_19.trans x, y2_9, y2_10, y2_11, y2_12, rfl⟩) ?_ ?_)
        · intro many rest σ1 G20 H20 G21 H21 σ2 hx3 sgA21 sh3 I_ x61 l21 hT
          obtain ⟨es3, x0_20, y3_9, y3_10, y3_11, y3_12, rfl⟩ := I_
          have x0_21 := x0_20.trans x61
          obtain ⟨t3, rt3, rfl⟩ := hT
          have mem3 := mem_of hx3.1
          have hlx3 := hx3.2; rw [sizeLine_eq] at hlx3
          have hlr3 := mem_len hx3.1
          have tk3 := tk
          have tk : m_law_13s modulus far row many () = _ := rfl
          show tSs _ _ _ [some v_script, some t1a, some t1b, some (.ref q_reel), some v4_modulus, some v11_far, some v16_long, some t2, some v19_handed, some t3, y3_10, y3_11, y3_12] _
          refine b_cons (s_for (T := (T1 K 10)) (passes_of rfl) rfl (pg_name (i := 10) sc_law.nd rfl ss_law_door.hx) acts1 x0_21.s (ei_range1 ⟨gl_law_range, T.b_range⟩ ev_int (by walk_at "sc") (by walk_at "sc")) (fun rest σ G H => lrun (m_law_15s modulus far row many) rest () = lrun (m_law_15s modulus far row many) (rng 0 (3 : Int)) () ∧ Ext G0 H0 G H ∧ ∃ (y4_10 y4_11 y4_12 : Option V), σ = [some v_script, some t1a, some t1b, some (.ref q_reel), some v4_modulus, some v11_far, some v16_long, some t2, some v19_handed, some t3, y4_10, y4_11, y4_12]) (fun _ _ x => ⟨rfl, x0_21.trans x, y3_10, y3_11, y3_12, rfl⟩) ?_ ?_)
          · intro door rest σ1 G22 H22 G23 H23 σ2 hx4 sgA23 sh4 I_ x62 l23 hT
            obtain ⟨es4, x0_22, y4_10, y4_11, y4_12, rfl⟩ := I_
            have x0_23 := x0_22.trans x62
            obtain ⟨t4, rt4, rfl⟩ := hT
            have mem4 := mem_of hx4.1
            have hlx4 := hx4.2; rw [sizeLine_eq] at hlx4
            have hlr4 := mem_len hx4.1
            have tk4 := tk
            have mem4_ := mem_rng.mp mem4
            have tk : m_law_15s modulus far row many door () = _ := rfl
            show tSs _ _ _ [some v_script, some t1a, some t1b, some (.ref q_reel), some v4_modulus, some v11_far, some v16_long, some t2, some v19_handed, some t3, some t4, y4_11, y4_12] _
            refine b_cons (s_set sc_law.nd ss_law_due x0_23.s (ev_ix (0 : Int) (ev_list (es_cons (ev_bin (b_mul (by walk_at "mu")) ev_int (ev_intB ⟨gl_law_int, T.b_int⟩ (ev_cmp c_gt (ev_len ⟨gl_law_len, T.b_len⟩ (ev_v (sl_law_row) (up (x60.g.trans (sgA21.trans (x61.g.trans (sgA23.trans x62.g)))) rt2))) ev_int))) (es_cons (ev_bin (b_mul (by walk_at "mu")) ev_int (ev_intB ⟨gl_law_int, T.b_int⟩ (ev_cmp c_gt (ev_len ⟨gl_law_len, T.b_len⟩ (ev_v (sl_law_row) (up (x60.g.trans (sgA21.trans (x61.g.trans (sgA23.trans x62.g)))) rt2))) ev_int))) (es_cons (ev_bin (b_mul (by walk_at "mu")) ev_int (ev_intB ⟨gl_law_int, T.b_int⟩ (ev_cmp c_lt (ev_v (sl_law_many) (up (sgA23.trans x62.g) rt3)) ev_int))) es_nil)))) (ev_v (sl_law_door) rt4) (by walk_at "sc") (by walk_at "ix")) fun G24 H24 v24_due x63 l24 r24_due => ?_)
            have x0_24 := x0_23.trans x63
            show tSs _ _ _ [some v_script, some t1a, some t1b, some (.ref q_reel), some v4_modulus, some v11_far, some v16_long, some t2, some v19_handed, some t3, some t4, some v24_due, y4_12] _
            obtain ⟨due, e64⟩ : ∃ z, z = ((([((3 : Int) * (if (decide (((row).length : Int) > (10 : Int))) = true then 1 else 0 : Int)), ((3 : Int) * (if (decide (((row).length : Int) > (10 : Int))) = true then 1 else 0 : Int)), ((2 : Int) * (if (decide (many < (0 : Int))) = true then 1 else 0 : Int))] : List Int)).getD (door).toNat (0 : Int)) := ⟨_, rfl⟩
            rw [← e64] at r24_due
            have tk : _ = m_law_17 modulus far row many door due := tk.trans (by first | (rw [e64] <;> rfl) | rfl)
            refine b_cons (s_if x0_24.s (et_w (ew_or (et_cmp c_eq (ev_v (sl_law_many) (up (sgA23.trans (x62.g.trans x63.g)) rt3)) ev_int) fun c65 => (ew_or1 (et_cmp c_eq (ev_v (sl_law_door) (up x63.g rt4)) ev_int)))) (fun h66 G25 H25 x67 l25 => ?_) (fun h66 G25 H25 x67 l25 => ?_))
            · have tk := tk_tt tk h66
              have h66_ := h66; try simp only [Bool.and_eq_true, Bool.or_eq_true, Bool.and_eq_false_iff, Bool.or_eq_false_iff, Bool.not_eq_true', Bool.not_eq_false', decide_eq_true_eq, decide_eq_false_iff_not, Classical.not_not] at h66_
              have x0_25 := x0_24.trans x67
              show tSs _ _ _ [some v_script, some t1a, some t1b, some (.ref q_reel), some v4_modulus, some v11_far, some v16_long, some t2, some v19_handed, some t3, some t4, some v24_due, y4_12] _
              refine b_cons (s_if x0_25.s (et_cmp c_ne (ev_c4 C_asked (hr.mono (by decide)) gl_law__law_asked (ev_v (sl_law_door) (up (x63.g.trans x67.g) rt4)) (ev_v (sl_law_handed) (up (sgA21.trans (x61.g.trans (sgA23.trans (x62.g.trans (x63.g.trans x67.g))))) r19_handed)) (ev_v (sl_law_modulus) (up (x36.g.trans (x48.g.trans (x53.g.trans (x55.g.trans (sgA18.trans (x59.g.trans (x60.g.trans (sgA21.trans (x61.g.trans (sgA23.trans (x62.g.trans (x63.g.trans x67.g)))))))))))) r4_modulus)) (ev_v (sl_law_many) (up (sgA23.trans (x62.g.trans (x63.g.trans x67.g))) rt3)) (by walk_at "pre")) (ev_v (sl_law_due) (up x67.g r24_due))) (fun h68 G26 H26 x69 l26 => ?_) (fun h68 G26 H26 x69 l26 => ?_))
              · have tk := tk_tt tk h68
                have h68_ := h68; try simp only [Bool.and_eq_true, Bool.or_eq_true, Bool.and_eq_false_iff, Bool.or_eq_false_iff, Bool.not_eq_true', Bool.not_eq_false', decide_eq_true_eq, decide_eq_false_iff_not, Classical.not_not] at h68_
                have x0_26 := x0_25.trans x69
                show tSs _ _ _ [some v_script, some t1a, some t1b, some (.ref q_reel), some v4_modulus, some v11_far, some v16_long, some t2, some v19_handed, some t3, some t4, some v24_due, y4_12] _
                refine b_cons (s_ret x0_26.s ev_bl fun G_ H_ v71 x70 _ r_ => ?_)
                exact fin.rt _ _ _ (x0_26.trans x70) (rep_of (tk_outR tk1 (lrun_ret es1 (tk_anR tk2 (lrun_ret es2 (tk_anR tk3 (lrun_ret es3 (tk_anR tk4 (lrun_ret es4 tk)))))))) r_) (fun z => nomatch z)
              · have tk := tk_ff tk h68
                have h68_ := h68; try simp only [Bool.and_eq_true, Bool.or_eq_true, Bool.and_eq_false_iff, Bool.or_eq_false_iff, Bool.not_eq_true', Bool.not_eq_false', decide_eq_true_eq, decide_eq_false_iff_not, Classical.not_not] at h68_
                have x0_26 := x0_25.trans x69
                show tSs _ _ _ [some v_script, some t1a, some t1b, some (.ref q_reel), some v4_modulus, some v11_far, some v16_long, some t2, some v19_handed, some t3, some t4, some v24_due, y4_12] _
                refine b_nil ?_
                show tSs _ _ _ [some v_script, some t1a, some t1b, some (.ref q_reel), some v4_modulus, some v11_far, some v16_long, some t2, some v19_handed, some t3, some t4, some v24_due, y4_12] _
                refine b_nil ?_
                show tSs _ _ _ [some v_script, some t1a, some t1b, some (.ref q_reel), some v4_modulus, some v11_far, some v16_long, some t2, some v19_handed, some t3, some t4, some v24_due, y4_12] _
                refine b_cons (s_for (T := (T1 K 12)) (passes_of rfl) rfl (pg_name (i := 12) sc_law.nd rfl ss_law_bad.hx) acts1 x0_26.s (ei_list (ev_list (es_cons ev_int (es_cons (Ev.to (y := (-1 : Int)) (ev_neg ev_int) (by decide)) (es_cons (ev_bin b_sub ev_int (ev_v (sl_law_far) (up (x48.g.trans (x53.g.trans (x55.g.trans (sgA18.trans (x59.g.trans (x60.g.trans (sgA21.trans (x61.g.trans (sgA23.trans (x62.g.trans (x63.g.trans (x67.g.trans x69.g)))))))))))) r11_far))) es_nil))))) (fun rest σ G H => lrun (m_law_18s row many door) rest () = lrun (m_law_18s row many door) ([(0 : Int), (-1 : Int), ((0 : Int) - far)] : List Int) () ∧ Ext G0 H0 G H ∧ ∃ (y5_12 : Option V), σ = [some v_script, some t1a, some t1b, some (.ref q_reel), some v4_modulus, some v11_far, some v16_long, some t2, some v19_handed, some t3, some t4, some v24_due, y5_12]) (fun _ _ x => ⟨rfl, x0_26.trans x, y4_12, rfl⟩) ?_ ?_)
                · intro bad rest σ1 G27 H27 G28 H28 σ2 hx5 sgA28 sh5 I_ x72 l28 hT
                  obtain ⟨es5, x0_27, y5_12, rfl⟩ := I_
                  have x0_28 := x0_27.trans x72
                  obtain ⟨t5, rt5, rfl⟩ := hT
                  have mem5 := mem_of hx5.1
                  have hlx5 := hx5.2; rw [sizeLine_eq] at hlx5
                  have hlr5 := mem_len hx5.1
                  have fi5 : bad < 1 := by have hb_ := mem5; simp only [List.mem_cons, List.mem_nil_iff, or_false] at hb_; (rcases hb_ with rfl | rfl | rfl <;> omega)
                  have tk5 := tk
                  have tk : m_law_18s row many door bad () = _ := rfl
                  show tSs _ _ _ [some v_script, some t1a, some t1b, some (.ref q_reel), some v4_modulus, some v11_far, some v16_long, some t2, some v19_handed, some t3, some t4, some v24_due, some t5] _
                  refine b_cons (s_if x0_28.s (et_w (ew_or (et_cmp c_ne (ev_c4 C_asked (hr.mono (by decide)) gl_law__law_asked (ev_v (sl_law_door) (up (x63.g.trans (x67.g.trans (x69.g.trans (sgA28.trans x72.g)))) rt4)) (ev_v (sl_law_handed) (up (sgA21.trans (x61.g.trans (sgA23.trans (x62.g.trans (x63.g.trans (x67.g.trans (x69.g.trans (sgA28.trans x72.g)))))))) r19_handed)) (ev_v (sl_law_bad) rt5) (ev_v (sl_law_many) (up (sgA23.trans (x62.g.trans (x63.g.trans (x67.g.trans (x69.g.trans (sgA28.trans x72.g)))))) rt3)) (by walk_at "pre")) ev_int) fun c73 => (ew_or1 (et_cmp (c_neD (hu_of64 hr)) (ev_v (sl_law_handed) (up (sgA21.trans (x61.g.trans (sgA23.trans (x62.g.trans (x63.g.trans (x67.g.trans (x69.g.trans (sgA28.trans x72.g)))))))) r19_handed)) (ev_v (sl_law_row) (up (x60.g.trans (sgA21.trans (x61.g.trans (sgA23.trans (x62.g.trans (x63.g.trans (x67.g.trans (x69.g.trans (sgA28.trans x72.g))))))))) rt2)))))) (fun h74 G29 H29 x75 l29 => ?_) (fun h74 G29 H29 x75 l29 => ?_))
                  · have tk := tk_tt tk h74
                    have h74_ := h74; try simp only [Bool.and_eq_true, Bool.or_eq_true, Bool.and_eq_false_iff, Bool.or_eq_false_iff, Bool.not_eq_true', Bool.not_eq_false', decide_eq_true_eq, decide_eq_false_iff_not, Classical.not_not] at h74_
                    have x0_29 := x0_28.trans x75
                    show tSs _ _ _ [some v_script, some t1a, some t1b, some (.ref q_reel), some v4_modulus, some v11_far, some v16_long, some t2, some v19_handed, some t3, some t4, some v24_due, some t5] _
                    refine b_cons (s_ret x0_29.s ev_bl fun G_ H_ v77 x76 _ r_ => ?_)
                    exact fin.rt _ _ _ (x0_29.trans x76) (rep_of (tk_outR tk1 (lrun_ret es1 (tk_anR tk2 (lrun_ret es2 (tk_anR tk3 (lrun_ret es3 (tk_anR tk4 (lrun_ret es4 (tk_anR tk5 (lrun_ret es5 tk)))))))))) r_) (fun z => nomatch z)
                  · have tk := tk_ff tk h74
                    have h74_ := h74; try simp only [Bool.and_eq_true, Bool.or_eq_true, Bool.and_eq_false_iff, Bool.or_eq_false_iff, Bool.not_eq_true', Bool.not_eq_false', decide_eq_true_eq, decide_eq_false_iff_not, Classical.not_not] at h74_
                    have x0_29 := x0_28.trans x75
                    show tSs _ _ _ [some v_script, some t1a, some t1b, some (.ref q_reel), some v4_modulus, some v11_far, some v16_long, some t2, some v19_handed, some t3, some t4, some v24_due, some t5] _
                    refine b_nil ?_
                    show tSs _ _ _ [some v_script, some t1a, some t1b, some (.ref q_reel), some v4_modulus, some v11_far, some v16_long, some t2, some v19_handed, some t3, some t4, some v24_due, some t5] _
                    refine b_nil ?_
                    exact ⟨_, x75.g, x0_29.s, lrun_nxt es5 tk, x0_29, some t5, rfl⟩
                · intro σ1 G30 H30 sgC30 sh5 I_
                  obtain ⟨es5, x0_30, y5_12, rfl⟩ := I_
                  have tk := tk_anN (k := m_law_19) tk es5
                  show tSs _ _ _ [some v_script, some t1a, some t1b, some (.ref q_reel), some v4_modulus, some v11_far, some v16_long, some t2, some v19_handed, some t3, some t4, some v24_due, y5_12] _
                  refine b_nil ?_
                  exact ⟨_, x63.g.trans (x67.g.trans (x69.g.trans sgC30)), x0_30.s, lrun_nxt es4 tk, x0_30, some t4, some v24_due, y5_12, rfl⟩
            · have tk := tk_ff tk h66
              have h66_ := h66; try simp only [Bool.and_eq_true, Bool.or_eq_true, Bool.and_eq_false_iff, Bool.or_eq_false_iff, Bool.not_eq_true', Bool.not_eq_false', decide_eq_true_eq, decide_eq_false_iff_not, Classical.not_not] at h66_
              have x0_25 := x0_24.trans x67
              show tSs _ _ _ [some v_script, some t1a, some t1b, some (.ref q_reel), some v4_modulus, some v11_far, some v16_long, some t2, some v19_handed, some t3, some t4, some v24_due, y4_12] _
              refine b_nil ?_
              show tSs _ _ _ [some v_script, some t1a, some t1b, some (.ref q_reel), some v4_modulus, some v11_far, some v16_long, some t2, some v19_handed, some t3, some t4, some v24_due, y4_12] _
              refine b_cons (s_for (T := (T1 K 12)) (passes_of rfl) rfl (pg_name (i := 12) sc_law.nd rfl ss_law_bad.hx) acts1 x0_25.s (ei_list (ev_list (es_cons ev_int (es_cons (Ev.to (y := (-1 : Int)) (ev_neg ev_int) (by decide)) (es_cons (ev_bin b_sub ev_int (ev_v (sl_law_far) (up (x48.g.trans (x53.g.trans (x55.g.trans (sgA18.trans (x59.g.trans (x60.g.trans (sgA21.trans (x61.g.trans (sgA23.trans (x62.g.trans (x63.g.trans x67.g))))))))))) r11_far))) es_nil))))) (fun rest σ G H => lrun (m_law_20s row many door) rest () = lrun (m_law_20s row many door) ([(0 : Int), (-1 : Int), ((0 : Int) - far)] : List Int) () ∧ Ext G0 H0 G H ∧ ∃ (y5_12 : Option V), σ = [some v_script, some t1a, some t1b, some (.ref q_reel), some v4_modulus, some v11_far, some v16_long, some t2, some v19_handed, some t3, some t4, some v24_due, y5_12]) (fun _ _ x => ⟨rfl, x0_25.trans x, y4_12, rfl⟩) ?_ ?_)
              · intro bad rest σ1 G31 H31 G32 H32 σ2 hx5 sgA32 sh5 I_ x78 l32 hT
                obtain ⟨es5, x0_31, y5_12, rfl⟩ := I_
                have x0_32 := x0_31.trans x78
                obtain ⟨t5, rt5, rfl⟩ := hT
                have mem5 := mem_of hx5.1
                have hlx5 := hx5.2; rw [sizeLine_eq] at hlx5
                have hlr5 := mem_len hx5.1
                have fi5 : bad < 1 := by have hb_ := mem5; simp only [List.mem_cons, List.mem_nil_iff, or_false] at hb_; (rcases hb_ with rfl | rfl | rfl <;> omega)
                have tk5 := tk
                have tk : m_law_20s row many door bad () = _ := rfl
                show tSs _ _ _ [some v_script, some t1a, some t1b, some (.ref q_reel), some v4_modulus, some v11_far, some v16_long, some t2, some v19_handed, some t3, some t4, some v24_due, some t5] _
                refine b_cons (s_if x0_32.s (et_w (ew_or (et_cmp c_ne (ev_c4 C_asked (hr.mono (by decide)) gl_law__law_asked (ev_v (sl_law_door) (up (x63.g.trans (x67.g.trans (sgA32.trans x78.g))) rt4)) (ev_v (sl_law_handed) (up (sgA21.trans (x61.g.trans (sgA23.trans (x62.g.trans (x63.g.trans (x67.g.trans (sgA32.trans x78.g))))))) r19_handed)) (ev_v (sl_law_bad) rt5) (ev_v (sl_law_many) (up (sgA23.trans (x62.g.trans (x63.g.trans (x67.g.trans (sgA32.trans x78.g))))) rt3)) (by walk_at "pre")) ev_int) fun c79 => (ew_or1 (et_cmp (c_neD (hu_of64 hr)) (ev_v (sl_law_handed) (up (sgA21.trans (x61.g.trans (sgA23.trans (x62.g.trans (x63.g.trans (x67.g.trans (sgA32.trans x78.g))))))) r19_handed)) (ev_v (sl_law_row) (up (x60.g.trans (sgA21.trans (x61.g.trans (sgA23.trans (x62.g.trans (x63.g.trans (x67.g.trans (sgA32.trans x78.g)))))))) rt2)))))) (fun h80 G33 H33 x81 l33 => ?_) (fun h80 G33 H33 x81 l33 => ?_))
                · have tk := tk_tt tk h80
                  have h80_ := h80; try simp only [Bool.and_eq_true, Bool.or_eq_true, Bool.and_eq_false_iff, Bool.or_eq_false_iff, Bool.not_eq_true', Bool.not_eq_false', decide_eq_true_eq, decide_eq_false_iff_not, Classical.not_not] at h80_
                  have x0_33 := x0_32.trans x81
                  show tSs _ _ _ [some v_script, some t1a, some t1b, some (.ref q_reel), some v4_modulus, some v11_far, some v16_long, some t2, some v19_handed, some t3, some t4, some v24_due, some t5] _
                  refine b_cons (s_ret x0_33.s ev_bl fun G_ H_ v83 x82 _ r_ => ?_)
                  exact fin.rt _ _ _ (x0_33.trans x82) (rep_of (tk_outR tk1 (lrun_ret es1 (tk_anR tk2 (lrun_ret es2 (tk_anR tk3 (lrun_ret es3 (tk_anR tk4 (lrun_ret es4 (tk_anR tk5 (lrun_ret es5 tk)))))))))) r_) (fun z => nomatch z)
                · have tk := tk_ff tk h80
                  have h80_ := h80; try simp only [Bool.and_eq_true, Bool.or_eq_true, Bool.and_eq_false_iff, Bool.or_eq_false_iff, Bool.not_eq_true', Bool.not_eq_false', decide_eq_true_eq, decide_eq_false_iff_not, Classical.not_not] at h80_
                  have x0_33 := x0_32.trans x81
                  show tSs _ _ _ [some v_script, some t1a, some t1b, some (.ref q_reel), some v4_modulus, some v11_far, some v16_long, some t2, some v19_handed, some t3, some t4, some v24_due, some t5] _
                  refine b_nil ?_
                  show tSs _ _ _ [some v_script, some t1a, some t1b, some (.ref q_reel), some v4_modulus, some v11_far, some v16_long, some t2, some v19_handed, some t3, some t4, some v24_due, some t5] _
                  refine b_nil ?_
                  exact ⟨_, x81.g, x0_33.s, lrun_nxt es5 tk, x0_33, some t5, rfl⟩
              · intro σ1 G34 H34 sgC34 sh5 I_
                obtain ⟨es5, x0_34, y5_12, rfl⟩ := I_
                have tk := tk_anN (k := m_law_21) tk es5
                show tSs _ _ _ [some v_script, some t1a, some t1b, some (.ref q_reel), some v4_modulus, some v11_far, some v16_long, some t2, some v19_handed, some t3, some t4, some v24_due, y5_12] _
                refine b_nil ?_
                exact ⟨_, x63.g.trans (x67.g.trans sgC34), x0_34.s, lrun_nxt es4 tk, x0_34, some t4, some v24_due, y5_12, rfl⟩
          · intro σ1 G35 H35 sgC35 sh4 I_
            obtain ⟨es4, x0_35, y4_10, y4_11, y4_12, rfl⟩ := I_
            have tk := tk_anN (k := m_law_16) tk es4
            show tSs _ _ _ [some v_script, some t1a, some t1b, some (.ref q_reel), some v4_modulus, some v11_far, some v16_long, some t2, some v19_handed, some t3, y4_10, y4_11, y4_12] _
            refine b_nil ?_
            exact ⟨_, sgC35, x0_35.s, lrun_nxt es3 tk, x0_35, some t3, y4_10, y4_11, y4_12, rfl⟩
        · intro σ1 G36 H36 sgC36 sh3 I_
          obtain ⟨es3, x0_36, y3_9, y3_10, y3_11, y3_12, rfl⟩ := I_
          have tk := tk_anN (k := m_law_14) tk es3
          show tSs _ _ _ [some v_script, some t1a, some t1b, some (.ref q_reel), some v4_modulus, some v11_far, some v16_long, some t2, some v19_handed, y3_9, y3_10, y3_11, y3_12] _
          refine b_nil ?_
          exact ⟨_, x60.g.trans sgC36, x0_36.s, lrun_nxt es2 tk, x0_36, some t2, some v19_handed, y3_9, y3_10, y3_11, y3_12, rfl⟩
      · intro σ1 G37 H37 sgC37 sh2 I_
        obtain ⟨es2, x0_37, y2_7, y2_8, y2_9, y2_10, y2_11, y2_12, rfl⟩ := I_
        have tk := tk_anN (k := m_law_12) tk es2
        show tSs _ _ _ [some v_script, some t1a, some t1b, some (.ref q_reel), some v4_modulus, some v11_far, some v16_long, y2_7, y2_8, y2_9, y2_10, y2_11, y2_12] _
        refine b_nil ?_
        exact ⟨_, x4.g.trans (x7.g.trans (x36.g.trans (x48.g.trans (x53.g.trans (x55.g.trans sgC37))))), x0_37.s, lrun_nxt es1 tk, x0_37, some t1a, some t1b, some (.ref q_reel), some v4_modulus, some v11_far, some v16_long, y2_7, y2_8, y2_9, y2_10, y2_11, y2_12, rfl⟩
    · have tk := tk_ff tk h52
      have h52_ := h52; try simp only [Bool.and_eq_true, Bool.or_eq_true, Bool.and_eq_false_iff, Bool.or_eq_false_iff, Bool.not_eq_true', Bool.not_eq_false', decide_eq_true_eq, decide_eq_false_iff_not, Classical.not_not] at h52_
      have x0_15 := x0_14.trans x53
      show tSs _ _ _ [some v_script, some t1a, some t1b, some (.ref q_reel), some v4_modulus, some v11_far, some v14_long, y1_7, y1_8, y1_9, y1_10, y1_11, y1_12] _
      refine b_nil ?_
      show tSs _ _ _ [some v_script, some t1a, some t1b, some (.ref q_reel), some v4_modulus, some v11_far, some v14_long, y1_7, y1_8, y1_9, y1_10, y1_11, y1_12] _
      have fc84 := cut_le long none (some ((([(10 : Int), (6 : Int)] : List Int)).getD ((if (decide (z1.1 > (0 : Int))) = true then 1 else 0 : Int)).toNat (0 : Int)))
      have fc85 := cut_le long none (some (11 : Int))
      refine b_cons (s_for (T := (T1 K 7)) (passes_of rfl) rfl (pg_name (i := 7) sc_law.nd rfl ss_law_row.hx) acts1 x0_15.s (ei_list (ev_list (es_cons (ev_v (sl_law_long) (up x53.g r14_long)) (es_cons (ev_sl (ev_v (sl_law_long) (up x53.g r14_long)) eo_none (eo_some (ev_ix (0 : Int) (ev_list (es_cons ev_int (es_cons ev_int es_nil))) (ev_intB ⟨gl_law_int, T.b_int⟩ (ev_cmp c_gt (ev_v (sl_law_k) (up (x4.g.trans (x7.g.trans (x36.g.trans (x48.g.trans x53.g)))) rt1a)) ev_int)) (by walk_at "sc") (by walk_at "ix")))) (es_cons (ev_sl (ev_v (sl_law_long) (up x53.g r14_long)) eo_none (eo_some ev_int)) (es_cons (ev_bin (b_rep (by walk_at "sc") (by walk_at "sc") (by walk_at "sz")) (ev_list (es_cons ev_int es_nil)) ev_int) es_nil)))))) (fun rest σ G H => lrun (m_law_22s modulus far) rest () = lrun (m_law_22s modulus far) ([long, (cut long none (some ((([(10 : Int), (6 : Int)] : List Int)).getD ((if (decide (z1.1 > (0 : Int))) = true then 1 else 0 : Int)).toNat (0 : Int)))), (cut long none (some (11 : Int))), (List.replicate ((11 : Int)).toNat ([(5 : Int)] : List Int)).flatten] : List (List Int)) () ∧ Ext G0 H0 G H ∧ ∃ (y2_7 y2_8 y2_9 y2_10 y2_11 y2_12 : Option V), σ = [some v_script, some t1a, some t1b, some (.ref q_reel), some v4_modulus, some v11_far, some v14_long, y2_7, y2_8, y2_9, y2_10, y2_11, y2_12]) (fun _ _ x => ⟨rfl, x0_15.trans x, y1_7, y1_8, y1_9, y1_10, y1_11, y1_12, rfl⟩) ?_ ?_)
      · intro row rest σ1 G38 H38 G39 H39 σ2 hx2 sgA39 sh2 I_ x86 l39 hT
        obtain ⟨es2, x0_38, y2_7, y2_8, y2_9, y2_10, y2_11, y2_12, rfl⟩ := I_
        have x0_39 := x0_38.trans x86
        obtain ⟨t2, rt2, rfl⟩ := hT
        have mem2 := mem_of hx2.1
        have hlx2 := hx2.2; rw [sizeLine_eq] at hlx2
        have hlr2 := mem_len hx2.1
        have fi2 : row.length ≤ 40 := by exact rows_len (by omega) mem2
        have tk2 := tk
        have tk : m_law_22s modulus far row () = _ := rfl
        show tSs _ _ _ [some v_script, some t1a, some t1b, some (.ref q_reel), some v4_modulus, some v11_far, some v14_long, some t2, y2_8, y2_9, y2_10, y2_11, y2_12] _
        refine b_cons (s_set sc_law.nd ss_law_handed x0_39.s (ev_copy ⟨gl_law_list, T.b_list⟩ (ev_v (sl_law_row) rt2)) fun G40 H40 v40_handed x87 l40 r40_handed => ?_)
        have x0_40 := x0_39.trans x87
        show tSs _ _ _ [some v_script, some t1a, some t1b, some (.ref q_reel), some v4_modulus, some v11_far, some v14_long, some t2, some v40_handed, y2_9, y2_10, y2_11, y2_12] _
        refine b_cons (s_for (T := (T1 K 9)) (passes_of rfl) rfl (pg_name (i := 9) sc_law.nd rfl ss_law_many.hx) acts1 x0_40.s (ei_list (ev_list (es_cons ev_int (es_cons ev_int (es_cons (ev_v (sl_law_far) (up (x48.g.trans (x53.g.trans (sgA39.trans (x86.g.trans x87.g)))) r11_far)) (es_cons (Ev.to (y := (-1 : Int)) (ev_neg ev_int) (by decide)) (es_cons (ev_bin b_sub ev_int (ev_v (sl_law_far) (up (x48.g.trans (x53.g.trans (sgA39.trans (x86.g.trans x87.g)))) r11_far))) es_nil))))))) (fun rest σ G H => lrun (m_law_24s modulus far row) rest () = lrun (m_law_24s modulus far row) ([(0 : Int), (1 : Int), far, (-1 : Int), ((0 : Int) - far)] : List Int) () ∧ Ext G0 H0 G H ∧ ∃ (y3_9 y3_10 y3_11 y3_12 : Option V), σ = [some v_script, some t1a, some t1b, some (.ref q_reel), some v4_modulus, some v11_far, some v14_long, some t2, some v40_handed, y3_9, y3_10, y3_11, y3_12]) (fun _ _ x => ⟨rfl, x0_40.trans x, y2_9, y2_10, y2_11, y2_12, rfl⟩) ?_ ?_)
        · intro many rest σ1 G41 H41 G42 H42 σ2 hx3 sgA42 sh3 I_ x88 l42 hT
          obtain ⟨es3, x0_41, y3_9, y3_10, y3_11, y3_12, rfl⟩ := I_
          have x0_42 := x0_41.trans x88
          obtain ⟨t3, rt3, rfl⟩ := hT
          have mem3 := mem_of hx3.1
          have hlx3 := hx3.2; rw [sizeLine_eq] at hlx3
          have hlr3 := mem_len hx3.1
          have tk3 := tk
          have tk : m_law_24s modulus far row many () = _ := rfl
          show tSs _ _ _ [some v_script, some t1a, some t1b, some (.ref q_reel), some v4_modulus, some v11_far, some v14_long, some t2, some v40_handed, some t3, y3_10, y3_11, y3_12] _
          refine b_cons (s_for (T := (T1 K 10)) (passes_of rfl) rfl (pg_name (i := 10) sc_law.nd rfl ss_law_door.hx) acts1 x0_42.s (ei_range1 ⟨gl_law_range, T.b_range⟩ ev_int (by walk_at "sc") (by walk_at "sc")) (fun rest σ G H => lrun (m_law_26s modulus far row many) rest () = lrun (m_law_26s modulus far row many) (rng 0 (3 : Int)) () ∧ Ext G0 H0 G H ∧ ∃ (y4_10 y4_11 y4_12 : Option V), σ = [some v_script, some t1a, some t1b, some (.ref q_reel), some v4_modulus, some v11_far, some v14_long, some t2, some v40_handed, some t3, y4_10, y4_11, y4_12]) (fun _ _ x => ⟨rfl, x0_42.trans x, y3_10, y3_11, y3_12, rfl⟩) ?_ ?_)
          · intro door rest σ1 G43 H43 G44 H44 σ2 hx4 sgA44 sh4 I_ x89 l44 hT
            obtain ⟨es4, x0_43, y4_10, y4_11, y4_12, rfl⟩ := I_
            have x0_44 := x0_43.trans x89
            obtain ⟨t4, rt4, rfl⟩ := hT
            have mem4 := mem_of hx4.1
            have hlx4 := hx4.2; rw [sizeLine_eq] at hlx4
            have hlr4 := mem_len hx4.1
            have tk4 := tk
            have mem4_ := mem_rng.mp mem4
            have tk : m_law_26s modulus far row many door () = _ := rfl
            show tSs _ _ _ [some v_script, some t1a, some t1b, some (.ref q_reel), some v4_modulus, some v11_far, some v14_long, some t2, some v40_handed, some t3, some t4, y4_11, y4_12] _
            refine b_cons (s_set sc_law.nd ss_law_due x0_44.s (ev_ix (0 : Int) (ev_list (es_cons (ev_bin (b_mul (by walk_at "mu")) ev_int (ev_intB ⟨gl_law_int, T.b_int⟩ (ev_cmp c_gt (ev_len ⟨gl_law_len, T.b_len⟩ (ev_v (sl_law_row) (up (x87.g.trans (sgA42.trans (x88.g.trans (sgA44.trans x89.g)))) rt2))) ev_int))) (es_cons (ev_bin (b_mul (by walk_at "mu")) ev_int (ev_intB ⟨gl_law_int, T.b_int⟩ (ev_cmp c_gt (ev_len ⟨gl_law_len, T.b_len⟩ (ev_v (sl_law_row) (up (x87.g.trans (sgA42.trans (x88.g.trans (sgA44.trans x89.g)))) rt2))) ev_int))) (es_cons (ev_bin (b_mul (by walk_at "mu")) ev_int (ev_intB ⟨gl_law_int, T.b_int⟩ (ev_cmp c_lt (ev_v (sl_law_many) (up (sgA44.trans x89.g) rt3)) ev_int))) es_nil)))) (ev_v (sl_law_door) rt4) (by walk_at "sc") (by walk_at "ix")) fun G45 H45 v45_due x90 l45 r45_due => ?_)
            have x0_45 := x0_44.trans x90
            show tSs _ _ _ [some v_script, some t1a, some t1b, some (.ref q_reel), some v4_modulus, some v11_far, some v14_long, some t2, some v40_handed, some t3, some t4, some v45_due, y4_12] _
            obtain ⟨due, e91⟩ : ∃ z, z = ((([((3 : Int) * (if (decide (((row).length : Int) > (10 : Int))) = true then 1 else 0 : Int)), ((3 : Int) * (if (decide (((row).length : Int) > (10 : Int))) = true then 1 else 0 : Int)), ((2 : Int) * (if (decide (many < (0 : Int))) = true then 1 else 0 : Int))] : List Int)).getD (door).toNat (0 : Int)) := ⟨_, rfl⟩
            rw [← e91] at r45_due
            have tk : _ = m_law_28 modulus far row many door due := tk.trans (by first | (rw [e91] <;> rfl) | rfl)
            refine b_cons (s_if x0_45.s (et_w (ew_or (et_cmp c_eq (ev_v (sl_law_many) (up (sgA44.trans (x89.g.trans x90.g)) rt3)) ev_int) fun c92 => (ew_or1 (et_cmp c_eq (ev_v (sl_law_door) (up x90.g rt4)) ev_int)))) (fun h93 G46 H46 x94 l46 => ?_) (fun h93 G46 H46 x94 l46 => ?_))
            · have tk := tk_tt tk h93
              have h93_ := h93; try simp only [Bool.and_eq_true, Bool.or_eq_true, Bool.and_eq_false_iff, Bool.or_eq_false_iff, Bool.not_eq_true', Bool.not_eq_false', decide_eq_true_eq, decide_eq_false_iff_not, Classical.not_not] at h93_
              have x0_46 := x0_45.trans x94
              show tSs _ _ _ [some v_script, some t1a, some t1b, some (.ref q_reel), some v4_modulus, some v11_far, some v14_long, some t2, some v40_handed, some t3, some t4, some v45_due, y4_12] _
              refine b_cons (s_if x0_46.s (et_cmp c_ne (ev_c4 C_asked (hr.mono (by decide)) gl_law__law_asked (ev_v (sl_law_door) (up (x90.g.trans x94.g) rt4)) (ev_v (sl_law_handed) (up (sgA42.trans (x88.g.trans (sgA44.trans (x89.g.trans (x90.g.trans x94.g))))) r40_handed)) (ev_v (sl_law_modulus) (up (x36.g.trans (x48.g.trans (x53.g.trans (sgA39.trans (x86.g.trans (x87.g.trans (sgA42.trans (x88.g.trans (sgA44.trans (x89.g.trans (x90.g.trans x94.g))))))))))) r4_modulus)) (ev_v (sl_law_many) (up (sgA44.trans (x89.g.trans (x90.g.trans x94.g))) rt3)) (by walk_at "pre")) (ev_v (sl_law_due) (up x94.g r45_due))) (fun h95 G47 H47 x96 l47 => ?_) (fun h95 G47 H47 x96 l47 => ?_))
              · have tk := tk_tt tk h95
                have h95_ := h95; try simp only [Bool.and_eq_true, Bool.or_eq_true, Bool.and_eq_false_iff, Bool.or_eq_false_iff, Bool.not_eq_true', Bool.not_eq_false', decide_eq_true_eq, decide_eq_false_iff_not, Classical.not_not] at h95_
                have x0_47 := x0_46.trans x96
                show tSs _ _ _ [some v_script, some t1a, some t1b, some (.ref q_reel), some v4_modulus, some v11_far, some v14_long, some t2, some v40_handed, some t3, some t4, some v45_due, y4_12] _
                refine b_cons (s_ret x0_47.s ev_bl fun G_ H_ v98 x97 _ r_ => ?_)
                exact fin.rt _ _ _ (x0_47.trans x97) (rep_of (tk_outR tk1 (lrun_ret es1 (tk_anR tk2 (lrun_ret es2 (tk_anR tk3 (lrun_ret es3 (tk_anR tk4 (lrun_ret es4 tk)))))))) r_) (fun z => nomatch z)
              · have tk := tk_ff tk h95
                have h95_ := h95; try simp only [Bool.and_eq_true, Bool.or_eq_true, Bool.and_eq_false_iff, Bool.or_eq_false_iff, Bool.not_eq_true', Bool.not_eq_false', decide_eq_true_eq, decide_eq_false_iff_not, Classical.not_not] at h95_
                have x0_47 := x0_46.trans x96
                show tSs _ _ _ [some v_script, some t1a, some t1b, some (.ref q_reel), some v4_modulus, some v11_far, some v14_long, some t2, some v40_handed, some t3, some t4, some v45_due, y4_12] _
                refine b_nil ?_
                show tSs _ _ _ [some v_script, some t1a, some t1b, some (.ref q_reel), some v4_modulus, some v11_far, some v14_long, some t2, some v40_handed, some t3, some t4, some v45_due, y4_12] _
                refine b_nil ?_
                show tSs _ _ _ [some v_script, some t1a, some t1b, some (.ref q_reel), some v4_modulus, some v11_far, some v14_long, some t2, some v40_handed, some t3, some t4, some v45_due, y4_12] _
                refine b_cons (s_for (T := (T1 K 12)) (passes_of rfl) rfl (pg_name (i := 12) sc_law.nd rfl ss_law_bad.hx) acts1 x0_47.s (ei_list (ev_list (es_cons ev_int (es_cons (Ev.to (y := (-1 : Int)) (ev_neg ev_int) (by decide)) (es_cons (ev_bin b_sub ev_int (ev_v (sl_law_far) (up (x48.g.trans (x53.g.trans (sgA39.trans (x86.g.trans (x87.g.trans (sgA42.trans (x88.g.trans (sgA44.trans (x89.g.trans (x90.g.trans (x94.g.trans x96.g))))))))))) r11_far))) es_nil))))) (fun rest σ G H => lrun (m_law_29s row many door) rest () = lrun (m_law_29s row many door) ([(0 : Int), (-1 : Int), ((0 : Int) - far)] : List Int) () ∧ Ext G0 H0 G H ∧ ∃ (y5_12 : Option V), σ = [some v_script, some t1a, some t1b, some (.ref q_reel), some v4_modulus, some v11_far, some v14_long, some t2, some v40_handed, some t3, some t4, some v45_due, y5_12]) (fun _ _ x => ⟨rfl, x0_47.trans x, y4_12, rfl⟩) ?_ ?_)
                · intro bad rest σ1 G48 H48 G49 H49 σ2 hx5 sgA49 sh5 I_ x99 l49 hT
                  obtain ⟨es5, x0_48, y5_12, rfl⟩ := I_
                  have x0_49 := x0_48.trans x99
                  obtain ⟨t5, rt5, rfl⟩ := hT
                  have mem5 := mem_of hx5.1
                  have hlx5 := hx5.2; rw [sizeLine_eq] at hlx5
                  have hlr5 := mem_len hx5.1
                  have fi5 : bad < 1 := by have hb_ := mem5; simp only [List.mem_cons, List.mem_nil_iff, or_false] at hb_; (rcases hb_ with rfl | rfl | rfl <;> omega)
                  have tk5 := tk
                  have tk : m_law_29s row many door bad () = _ := rfl
                  show tSs _ _ _ [some v_script, some t1a, some t1b, some (.ref q_reel), some v4_modulus, some v11_far, some v14_long, some t2, some v40_handed, some t3, some t4, some v45_due, some t5] _
                  refine b_cons (s_if x0_49.s (et_w (ew_or (et_cmp c_ne (ev_c4 C_asked (hr.mono (by decide)) gl_law__law_asked (ev_v (sl_law_door) (up (x90.g.trans (x94.g.trans (x96.g.trans (sgA49.trans x99.g)))) rt4)) (ev_v (sl_law_handed) (up (sgA42.trans (x88.g.trans (sgA44.trans (x89.g.trans (x90.g.trans (x94.g.trans (x96.g.trans (sgA49.trans x99.g)))))))) r40_handed)) (ev_v (sl_law_bad) rt5) (ev_v (sl_law_many) (up (sgA44.trans (x89.g.trans (x90.g.trans (x94.g.trans (x96.g.trans (sgA49.trans x99.g)))))) rt3)) (by walk_at "pre")) ev_int) fun c100 => (ew_or1 (et_cmp (c_neD (hu_of64 hr)) (ev_v (sl_law_handed) (up (sgA42.trans (x88.g.trans (sgA44.trans (x89.g.trans (x90.g.trans (x94.g.trans (x96.g.trans (sgA49.trans x99.g)))))))) r40_handed)) (ev_v (sl_law_row) (up (x87.g.trans (sgA42.trans (x88.g.trans (sgA44.trans (x89.g.trans (x90.g.trans (x94.g.trans (x96.g.trans (sgA49.trans x99.g))))))))) rt2)))))) (fun h101 G50 H50 x102 l50 => ?_) (fun h101 G50 H50 x102 l50 => ?_))
                  · have tk := tk_tt tk h101
                    have h101_ := h101; try simp only [Bool.and_eq_true, Bool.or_eq_true, Bool.and_eq_false_iff, Bool.or_eq_false_iff, Bool.not_eq_true', Bool.not_eq_false', decide_eq_true_eq, decide_eq_false_iff_not, Classical.not_not] at h101_
                    have x0_50 := x0_49.trans x102
                    show tSs _ _ _ [some v_script, some t1a, some t1b, some (.ref q_reel), some v4_modulus, some v11_far, some v14_long, some t2, some v40_handed, some t3, some t4, some v45_due, some t5] _
                    refine b_cons (s_ret x0_50.s ev_bl fun G_ H_ v104 x103 _ r_ => ?_)
                    exact fin.rt _ _ _ (x0_50.trans x103) (rep_of (tk_outR tk1 (lrun_ret es1 (tk_anR tk2 (lrun_ret es2 (tk_anR tk3 (lrun_ret es3 (tk_anR tk4 (lrun_ret es4 (tk_anR tk5 (lrun_ret es5 tk)))))))))) r_) (fun z => nomatch z)
                  · have tk := tk_ff tk h101
                    have h101_ := h101; try simp only [Bool.and_eq_true, Bool.or_eq_true, Bool.and_eq_false_iff, Bool.or_eq_false_iff, Bool.not_eq_true', Bool.not_eq_false', decide_eq_true_eq, decide_eq_false_iff_not, Classical.not_not] at h101_
                    have x0_50 := x0_49.trans x102
                    show tSs _ _ _ [some v_script, some t1a, some t1b, some (.ref q_reel), some v4_modulus, some v11_far, some v14_long, some t2, some v40_handed, some t3, some t4, some v45_due, some t5] _
                    refine b_nil ?_
                    show tSs _ _ _ [some v_script, some t1a, some t1b, some (.ref q_reel), some v4_modulus, some v11_far, some v14_long, some t2, some v40_handed, some t3, some t4, some v45_due, some t5] _
                    refine b_nil ?_
                    exact ⟨_, x102.g, x0_50.s, lrun_nxt es5 tk, x0_50, some t5, rfl⟩
                · intro σ1 G51 H51 sgC51 sh5 I_
                  obtain ⟨es5, x0_51, y5_12, rfl⟩ := I_
                  have tk := tk_anN (k := m_law_30) tk es5
                  show tSs _ _ _ [some v_script, some t1a, some t1b, some (.ref q_reel), some v4_modulus, some v11_far, some v14_long, some t2, some v40_handed, some t3, some t4, some v45_due, y5_12] _
                  refine b_nil ?_
                  exact ⟨_, x90.g.trans (x94.g.trans (x96.g.trans sgC51)), x0_51.s, lrun_nxt es4 tk, x0_51, some t4, some v45_due, y5_12, rfl⟩
            · have tk := tk_ff tk h93
              have h93_ := h93; try simp only [Bool.and_eq_true, Bool.or_eq_true, Bool.and_eq_false_iff, Bool.or_eq_false_iff, Bool.not_eq_true', Bool.not_eq_false', decide_eq_true_eq, decide_eq_false_iff_not, Classical.not_not] at h93_
              have x0_46 := x0_45.trans x94
              show tSs _ _ _ [some v_script, some t1a, some t1b, some (.ref q_reel), some v4_modulus, some v11_far, some v14_long, some t2, some v40_handed, some t3, some t4, some v45_due, y4_12] _
              refine b_nil ?_
              show tSs _ _ _ [some v_script, some t1a, some t1b, some (.ref q_reel), some v4_modulus, some v11_far, some v14_long, some t2, some v40_handed, some t3, some t4, some v45_due, y4_12] _
              refine b_cons (s_for (T := (T1 K 12)) (passes_of rfl) rfl (pg_name (i := 12) sc_law.nd rfl ss_law_bad.hx) acts1 x0_46.s (ei_list (ev_list (es_cons ev_int (es_cons (Ev.to (y := (-1 : Int)) (ev_neg ev_int) (by decide)) (es_cons (ev_bin b_sub ev_int (ev_v (sl_law_far) (up (x48.g.trans (x53.g.trans (sgA39.trans (x86.g.trans (x87.g.trans (sgA42.trans (x88.g.trans (sgA44.trans (x89.g.trans (x90.g.trans x94.g)))))))))) r11_far))) es_nil))))) (fun rest σ G H => lrun (m_law_31s row many door) rest () = lrun (m_law_31s row many door) ([(0 : Int), (-1 : Int), ((0 : Int) - far)] : List Int) () ∧ Ext G0 H0 G H ∧ ∃ (y5_12 : Option V), σ = [some v_script, some t1a, some t1b, some (.ref q_reel), some v4_modulus, some v11_far, some v14_long, some t2, some v40_handed, some t3, some t4, some v45_due, y5_12]) (fun _ _ x => ⟨rfl, x0_46.trans x, y4_12, rfl⟩) ?_ ?_)
              · intro bad rest σ1 G52 H52 G53 H53 σ2 hx5 sgA53 sh5 I_ x105 l53 hT
                obtain ⟨es5, x0_52, y5_12, rfl⟩ := I_
                have x0_53 := x0_52.trans x105
                obtain ⟨t5, rt5, rfl⟩ := hT
                have mem5 := mem_of hx5.1
                have hlx5 := hx5.2; rw [sizeLine_eq] at hlx5
                have hlr5 := mem_len hx5.1
                have fi5 : bad < 1 := by have hb_ := mem5; simp only [List.mem_cons, List.mem_nil_iff, or_false] at hb_; (rcases hb_ with rfl | rfl | rfl <;> omega)
                have tk5 := tk
                have tk : m_law_31s row many door bad () = _ := rfl
                show tSs _ _ _ [some v_script, some t1a, some t1b, some (.ref q_reel), some v4_modulus, some v11_far, some v14_long, some t2, some v40_handed, some t3, some t4, some v45_due, some t5] _
                refine b_cons (s_if x0_53.s (et_w (ew_or (et_cmp c_ne (ev_c4 C_asked (hr.mono (by decide)) gl_law__law_asked (ev_v (sl_law_door) (up (x90.g.trans (x94.g.trans (sgA53.trans x105.g))) rt4)) (ev_v (sl_law_handed) (up (sgA42.trans (x88.g.trans (sgA44.trans (x89.g.trans (x90.g.trans (x94.g.trans (sgA53.trans x105.g))))))) r40_handed)) (ev_v (sl_law_bad) rt5) (ev_v (sl_law_many) (up (sgA44.trans (x89.g.trans (x90.g.trans (x94.g.trans (sgA53.trans x105.g))))) rt3)) (by walk_at "pre")) ev_int) fun c106 => (ew_or1 (et_cmp (c_neD (hu_of64 hr)) (ev_v (sl_law_handed) (up (sgA42.trans (x88.g.trans (sgA44.trans (x89.g.trans (x90.g.trans (x94.g.trans (sgA53.trans x105.g))))))) r40_handed)) (ev_v (sl_law_row) (up (x87.g.trans (sgA42.trans (x88.g.trans (sgA44.trans (x89.g.trans (x90.g.trans (x94.g.trans (sgA53.trans x105.g)))))))) rt2)))))) (fun h107 G54 H54 x108 l54 => ?_) (fun h107 G54 H54 x108 l54 => ?_))
                · have tk := tk_tt tk h107
                  have h107_ := h107; try simp only [Bool.and_eq_true, Bool.or_eq_true, Bool.and_eq_false_iff, Bool.or_eq_false_iff, Bool.not_eq_true', Bool.not_eq_false', decide_eq_true_eq, decide_eq_false_iff_not, Classical.not_not] at h107_
                  have x0_54 := x0_53.trans x108
                  show tSs _ _ _ [some v_script, some t1a, some t1b, some (.ref q_reel), some v4_modulus, some v11_far, some v14_long, some t2, some v40_handed, some t3, some t4, some v45_due, some t5] _
                  refine b_cons (s_ret x0_54.s ev_bl fun G_ H_ v110 x109 _ r_ => ?_)
                  exact fin.rt _ _ _ (x0_54.trans x109) (rep_of (tk_outR tk1 (lrun_ret es1 (tk_anR tk2 (lrun_ret es2 (tk_anR tk3 (lrun_ret es3 (tk_anR tk4 (lrun_ret es4 (tk_anR tk5 (lrun_ret es5 tk)))))))))) r_) (fun z => nomatch z)
                · have tk := tk_ff tk h107
                  have h107_ := h107; try simp only [Bool.and_eq_true, Bool.or_eq_true, Bool.and_eq_false_iff, Bool.or_eq_false_iff, Bool.not_eq_true', Bool.not_eq_false', decide_eq_true_eq, decide_eq_false_iff_not, Classical.not_not] at h107_
                  have x0_54 := x0_53.trans x108
                  show tSs _ _ _ [some v_script, some t1a, some t1b, some (.ref q_reel), some v4_modulus, some v11_far, some v14_long, some t2, some v40_handed, some t3, some t4, some v45_due, some t5] _
                  refine b_nil ?_
                  show tSs _ _ _ [some v_script, some t1a, some t1b, some (.ref q_reel), some v4_modulus, some v11_far, some v14_long, some t2, some v40_handed, some t3, some t4, some v45_due, some t5] _
                  refine b_nil ?_
                  exact ⟨_, x108.g, x0_54.s, lrun_nxt es5 tk, x0_54, some t5, rfl⟩
              · intro σ1 G55 H55 sgC55 sh5 I_
                obtain ⟨es5, x0_55, y5_12, rfl⟩ := I_
                have tk := tk_anN (k := m_law_32) tk es5
                show tSs _ _ _ [some v_script, some t1a, some t1b, some (.ref q_reel), some v4_modulus, some v11_far, some v14_long, some t2, some v40_handed, some t3, some t4, some v45_due, y5_12] _
                refine b_nil ?_
                exact ⟨_, x90.g.trans (x94.g.trans sgC55), x0_55.s, lrun_nxt es4 tk, x0_55, some t4, some v45_due, y5_12, rfl⟩
          · intro σ1 G56 H56 sgC56 sh4 I_
            obtain ⟨es4, x0_56, y4_10, y4_11, y4_12, rfl⟩ := I_
            have tk := tk_anN (k := m_law_27) tk es4
            show tSs _ _ _ [some v_script, some t1a, some t1b, some (.ref q_reel), some v4_modulus, some v11_far, some v14_long, some t2, some v40_handed, some t3, y4_10, y4_11, y4_12] _
            refine b_nil ?_
            exact ⟨_, sgC56, x0_56.s, lrun_nxt es3 tk, x0_56, some t3, y4_10, y4_11, y4_12, rfl⟩
        · intro σ1 G57 H57 sgC57 sh3 I_
          obtain ⟨es3, x0_57, y3_9, y3_10, y3_11, y3_12, rfl⟩ := I_
          have tk := tk_anN (k := m_law_25) tk es3
          show tSs _ _ _ [some v_script, some t1a, some t1b, some (.ref q_reel), some v4_modulus, some v11_far, some v14_long, some t2, some v40_handed, y3_9, y3_10, y3_11, y3_12] _
          refine b_nil ?_
          exact ⟨_, x87.g.trans sgC57, x0_57.s, lrun_nxt es2 tk, x0_57, some t2, some v40_handed, y3_9, y3_10, y3_11, y3_12, rfl⟩
      · intro σ1 G58 H58 sgC58 sh2 I_
        obtain ⟨es2, x0_58, y2_7, y2_8, y2_9, y2_10, y2_11, y2_12, rfl⟩ := I_
        have tk := tk_anN (k := m_law_23) tk es2
        show tSs _ _ _ [some v_script, some t1a, some t1b, some (.ref q_reel), some v4_modulus, some v11_far, some v14_long, y2_7, y2_8, y2_9, y2_10, y2_11, y2_12] _
        refine b_nil ?_
        exact ⟨_, x4.g.trans (x7.g.trans (x36.g.trans (x48.g.trans (x53.g.trans sgC58)))), x0_58.s, lrun_nxt es1 tk, x0_58, some t1a, some t1b, some (.ref q_reel), some v4_modulus, some v11_far, some v14_long, y2_7, y2_8, y2_9, y2_10, y2_11, y2_12, rfl⟩
  · intro σ1 G59 H59 sgC59 sh1 I_
    obtain ⟨es1, x0_59, y1_1, y1_2, y1_3, y1_4, y1_5, y1_6, y1_7, y1_8, y1_9, y1_10, y1_11, y1_12, rfl⟩ := I_
    have tk := tk_outN (k := m_law_2) tk es1
    show tSs _ _ _ [some v_script, y1_1, y1_2, y1_3, y1_4, y1_5, y1_6, y1_7, y1_8, y1_9, y1_10, y1_11, y1_12] _
    refine b_cons (s_ret x0_59.s ev_bl fun G_ H_ v112 x111 _ r_ => ?_)
    exact fin.rt _ _ _ (x0_59.trans x111) (rep_of tk r_) (fun z => nomatch z)
end

theorem all_mk {l : PySem.W.OpenLaw} {w : World} {K : PySem.W.Frag} {h : Heap} {mg : Str → Option Value} {fa f1 f2 f3 f4 f5 f6 f7 f8 f9 f10 f11 f12 f13 f14 f15 f16 f17 : Addr} {c_RestError c_NoModulus c_NoCount c_NoPaper c_TooMany c_NoText c_NoForm c_NoneYet : Addr} (X : K.In h) (G : h.Ns mainGlobals mg) (hfa : mg "law" = some (.ref fa))
    {od1 an1 od2 an2 od3 an3 od4 an4 od5 an5 od6 an6 od7 an7 od8 an8 od9 an9 od10 an10 od11 an11 od12 an12 od13 an13 od14 an14 od15 an15 od16 an16 od17 an17 : Option Addr} {sl1 sl2 sl3 sl4 sl5 sl6 sl7 sl8 sl9 sl10 sl11 sl12 sl13 sl14 sl15 sl16 sl17 : Array (Option Value)} {oc1 kV1 dc1 pm1 cd1 ct1 oc2 kV2 dc2 pm2 cd2 ct2 oc3 kV3 dc3 pm3 cd3 ct3 oc4 kV4 dc4 pm4 cd4 ct4 oc5 kV5 dc5 pm5 cd5 ct5 oc6 kV6 dc6 pm6 cd6 ct6 oc7 kV7 dc7 pm7 cd7 ct7 oc8 kV8 dc8 pm8 cd8 ct8 oc9 kV9 dc9 pm9 cd9 ct9 oc10 kV10 dc10 pm10 cd10 ct10 oc11 kV11 dc11 pm11 cd11 ct11 oc12 kV12 dc12 pm12 cd12 ct12 oc13 kV13 dc13 pm13 cd13 ct13 oc14 kV14 dc14 pm14 cd14 ct14 oc15 kV15 dc15 pm15 cd15 ct15 oc16 kV16 dc16 pm16 cd16 ct16 oc17 kV17 dc17 pm17 cd17 ct17 : Value}
    (a1 : PySem.W.nsIn K mainGlobals "need_modulus" = some (some (.ref f1))) (l1 : K.lookup f1 = some ⟨oc1, od1, .func (PySem.W.fnOf "need_modulus" "need_modulus" (defArgs s_need_modulus) (defBody s_need_modulus) (defScope s_need_modulus) .none kV1 dc1 pm1 an1 cd1 ct1), sl1⟩) (c1 : PySem.W.codeIn K cd1 "need_modulus" = true) (k1 : PySem.W.keepIn K (.ref f1) = true)
    (a2 : PySem.W.nsIn K mainGlobals "rests" = some (some (.ref f2))) (l2 : K.lookup f2 = some ⟨oc2, od2, .func (PySem.W.fnOf "rests" "rests" (defArgs s_rests) (defBody s_rests) (defScope s_rests) .none kV2 dc2 pm2 an2 cd2 ct2), sl2⟩) (c2 : PySem.W.codeIn K cd2 "rests" = true) (k2 : PySem.W.keepIn K (.ref f2) = true)
    (a3 : PySem.W.nsIn K mainGlobals "need_count" = some (some (.ref f3))) (l3 : K.lookup f3 = some ⟨oc3, od3, .func (PySem.W.fnOf "need_count" "need_count" (defArgs s_need_count) (defBody s_need_count) (defScope s_need_count) .none kV3 dc3 pm3 an3 cd3 ct3), sl3⟩) (c3 : PySem.W.codeIn K cd3 "need_count" = true) (k3 : PySem.W.keepIn K (.ref f3) = true)
    (a4 : PySem.W.nsIn K mainGlobals "places_of" = some (some (.ref f4))) (l4 : K.lookup f4 = some ⟨oc4, od4, .func (PySem.W.fnOf "places_of" "places_of" (defArgs s_places_of) (defBody s_places_of) (defScope s_places_of) .none kV4 dc4 pm4 an4 cd4 ct4), sl4⟩) (c4 : PySem.W.codeIn K cd4 "places_of" = true) (k4 : PySem.W.keepIn K (.ref f4) = true)
    (a5 : PySem.W.nsIn K mainGlobals "hit_bits" = some (some (.ref f5))) (l5 : K.lookup f5 = some ⟨oc5, od5, .func (PySem.W.fnOf "hit_bits" "hit_bits" (defArgs s_hit_bits) (defBody s_hit_bits) (defScope s_hit_bits) .none kV5 dc5 pm5 an5 cd5 ct5), sl5⟩) (c5 : PySem.W.codeIn K cd5 "hit_bits" = true) (k5 : PySem.W.keepIn K (.ref f5) = true)
    (a6 : PySem.W.nsIn K mainGlobals "best_apart" = some (some (.ref f6))) (l6 : K.lookup f6 = some ⟨oc6, od6, .func (PySem.W.fnOf "best_apart" "best_apart" (defArgs s_best_apart) (defBody s_best_apart) (defScope s_best_apart) .none kV6 dc6 pm6 an6 cd6 ct6), sl6⟩) (c6 : PySem.W.codeIn K cd6 "best_apart" = true) (k6 : PySem.W.keepIn K (.ref f6) = true)
    (a7 : PySem.W.nsIn K mainGlobals "need_few" = some (some (.ref f7))) (l7 : K.lookup f7 = some ⟨oc7, od7, .func (PySem.W.fnOf "need_few" "need_few" (defArgs s_need_few) (defBody s_need_few) (defScope s_need_few) .none kV7 dc7 pm7 an7 cd7 ct7), sl7⟩) (c7 : PySem.W.codeIn K cd7 "need_few" = true) (k7 : PySem.W.keepIn K (.ref f7) = true)
    (a8 : PySem.W.nsIn K mainGlobals "most_apart" = some (some (.ref f8))) (l8 : K.lookup f8 = some ⟨oc8, od8, .func (PySem.W.fnOf "most_apart" "most_apart" (defArgs s_most_apart) (defBody s_most_apart) (defScope s_most_apart) .none kV8 dc8 pm8 an8 cd8 ct8), sl8⟩) (c8 : PySem.W.codeIn K cd8 "most_apart" = true) (k8 : PySem.W.keepIn K (.ref f8) = true)
    (a9 : PySem.W.nsIn K mainGlobals "parted" = some (some (.ref f9))) (l9 : K.lookup f9 = some ⟨oc9, od9, .func (PySem.W.fnOf "parted" "parted" (defArgs s_parted) (defBody s_parted) (defScope s_parted) .none kV9 dc9 pm9 an9 cd9 ct9), sl9⟩) (c9 : PySem.W.codeIn K cd9 "parted" = true) (k9 : PySem.W.keepIn K (.ref f9) = true)
    (a10 : PySem.W.nsIn K mainGlobals "least_for" = some (some (.ref f10))) (l10 : K.lookup f10 = some ⟨oc10, od10, .func (PySem.W.fnOf "least_for" "least_for" (defArgs s_least_for) (defBody s_least_for) (defScope s_least_for) .none kV10 dc10 pm10 an10 cd10 ct10), sl10⟩) (c10 : PySem.W.codeIn K cd10 "least_for" = true) (k10 : PySem.W.keepIn K (.ref f10) = true)
    (a11 : PySem.W.nsIn K mainGlobals "_law_reel" = some (some (.ref f11))) (l11 : K.lookup f11 = some ⟨oc11, od11, .func (PySem.W.fnOf "_law_reel" "_law_reel" (defArgs s__law_reel) (defBody s__law_reel) (defScope s__law_reel) .none kV11 dc11 pm11 an11 cd11 ct11), sl11⟩) (c11 : PySem.W.codeIn K cd11 "_law_reel" = true) (k11 : PySem.W.keepIn K (.ref f11) = true)
    (a12 : PySem.W.nsIn K mainGlobals "_law_take" = some (some (.ref f12))) (l12 : K.lookup f12 = some ⟨oc12, od12, .func (PySem.W.fnOf "_law_take" "_law_take" (defArgs s__law_take) (defBody s__law_take) (defScope s__law_take) .none kV12 dc12 pm12 an12 cd12 ct12), sl12⟩) (c12 : PySem.W.codeIn K cd12 "_law_take" = true) (k12 : PySem.W.keepIn K (.ref f12) = true)
    (a13 : PySem.W.nsIn K mainGlobals "_law_few" = some (some (.ref f13))) (l13 : K.lookup f13 = some ⟨oc13, od13, .func (PySem.W.fnOf "_law_few" "_law_few" (defArgs s__law_few) (defBody s__law_few) (defScope s__law_few) .none kV13 dc13 pm13 an13 cd13 ct13), sl13⟩) (c13 : PySem.W.codeIn K cd13 "_law_few" = true) (k13 : PySem.W.keepIn K (.ref f13) = true)
    (a14 : PySem.W.nsIn K mainGlobals "_law_row" = some (some (.ref f14))) (l14 : K.lookup f14 = some ⟨oc14, od14, .func (PySem.W.fnOf "_law_row" "_law_row" (defArgs s__law_row) (defBody s__law_row) (defScope s__law_row) .none kV14 dc14 pm14 an14 cd14 ct14), sl14⟩) (c14 : PySem.W.codeIn K cd14 "_law_row" = true) (k14 : PySem.W.keepIn K (.ref f14) = true)
    (a15 : PySem.W.nsIn K mainGlobals "_law_word" = some (some (.ref f15))) (l15 : K.lookup f15 = some ⟨oc15, od15, .func (PySem.W.fnOf "_law_word" "_law_word" (defArgs s__law_word) (defBody s__law_word) (defScope s__law_word) .none kV15 dc15 pm15 an15 cd15 ct15), sl15⟩) (c15 : PySem.W.codeIn K cd15 "_law_word" = true) (k15 : PySem.W.keepIn K (.ref f15) = true)
    (a16 : PySem.W.nsIn K mainGlobals "_law_asked" = some (some (.ref f16))) (l16 : K.lookup f16 = some ⟨oc16, od16, .func (PySem.W.fnOf "_law_asked" "_law_asked" (defArgs s__law_asked) (defBody s__law_asked) (defScope s__law_asked) .none kV16 dc16 pm16 an16 cd16 ct16), sl16⟩) (c16 : PySem.W.codeIn K cd16 "_law_asked" = true) (k16 : PySem.W.keepIn K (.ref f16) = true)
    (a17 : PySem.W.nsIn K mainGlobals "law" = some (some (.ref f17))) (l17 : K.lookup f17 = some ⟨oc17, od17, .func (PySem.W.fnOf "law" "law" (defArgs s_law) (defBody s_law) (defScope s_law) .none kV17 dc17 pm17 an17 cd17 ct17), sl17⟩) (c17 : PySem.W.codeIn K cd17 "law" = true) (k17 : PySem.W.keepIn K (.ref f17) = true)
    (z_ValueError : PySem.W.nsIn K mainGlobals "ValueError" = some none)
    (z_abs : PySem.W.nsIn K mainGlobals "abs" = some none)
    (z_enumerate : PySem.W.nsIn K mainGlobals "enumerate" = some none)
    (z_int : PySem.W.nsIn K mainGlobals "int" = some none)
    (z_isinstance : PySem.W.nsIn K mainGlobals "isinstance" = some none)
    (z_len : PySem.W.nsIn K mainGlobals "len" = some none)
    (z_list : PySem.W.nsIn K mainGlobals "list" = some none)
    (z_min : PySem.W.nsIn K mainGlobals "min" = some none)
    (z_range : PySem.W.nsIn K mainGlobals "range" = some none)
    (z_sum : PySem.W.nsIn K mainGlobals "sum" = some none)
    (xg_ : PySem.W.specialIn K (.builtin "object.__class__") "__get__" = some (some (.builtin "getset_descriptor.__get__")))
    (xt_ : PySem.W.takesIn K (.builtin "object.__class__") = some true)
    (xg_RestError : PySem.W.nsIn K mainGlobals "RestError" = some (some (.ref c_RestError)))
    (xk_RestError : PySem.W.keepIn K (.ref c_RestError) = true)
    (xq_RestError : PySem.W.excIn K c_RestError [.type "ValueError", .type "Exception", .type "BaseException", .type "object"] "ValueError.__new__" = true)
    (xs_RestError : PySem.W.subIn K (.ref c_RestError) (.type "BaseException") = some true)
    (xt_RestError : PySem.W.typeIn K (.ref c_RestError) = some (.type "type"))
    (xga_RestError : PySem.W.findIn K (.ref c_RestError) "__getattribute__" = some (some (.builtin "BaseException.__getattribute__")))
    (xgg_RestError : PySem.W.findIn K (.ref c_RestError) "__getattr__" = some none)
    (xhd_RestError : PySem.W.hasDictIn K c_RestError = true)
    (xca_RestError : PySem.W.findIn K (.ref c_RestError) "__class__" = some (some (.builtin "object.__class__")))
    (xmo_RestError : PySem.W.mroIn K c_RestError (.type "object") = some true)
    (xg_NoModulus : PySem.W.nsIn K mainGlobals "NoModulus" = some (some (.ref c_NoModulus)))
    (xk_NoModulus : PySem.W.keepIn K (.ref c_NoModulus) = true)
    (xq_NoModulus : PySem.W.excIn K c_NoModulus [.type "ValueError", .type "Exception", .type "BaseException", .type "object"] "ValueError.__new__" = true)
    (xs_NoModulus : PySem.W.subIn K (.ref c_NoModulus) (.type "BaseException") = some true)
    (xt_NoModulus : PySem.W.typeIn K (.ref c_NoModulus) = some (.type "type"))
    (xga_NoModulus : PySem.W.findIn K (.ref c_NoModulus) "__getattribute__" = some (some (.builtin "BaseException.__getattribute__")))
    (xgg_NoModulus : PySem.W.findIn K (.ref c_NoModulus) "__getattr__" = some none)
    (xhd_NoModulus : PySem.W.hasDictIn K c_NoModulus = true)
    (xca_NoModulus : PySem.W.findIn K (.ref c_NoModulus) "__class__" = some (some (.builtin "object.__class__")))
    (xmo_NoModulus : PySem.W.mroIn K c_NoModulus (.type "object") = some true)
    (xg_NoCount : PySem.W.nsIn K mainGlobals "NoCount" = some (some (.ref c_NoCount)))
    (xk_NoCount : PySem.W.keepIn K (.ref c_NoCount) = true)
    (xq_NoCount : PySem.W.excIn K c_NoCount [.type "ValueError", .type "Exception", .type "BaseException", .type "object"] "ValueError.__new__" = true)
    (xs_NoCount : PySem.W.subIn K (.ref c_NoCount) (.type "BaseException") = some true)
    (xt_NoCount : PySem.W.typeIn K (.ref c_NoCount) = some (.type "type"))
    (xga_NoCount : PySem.W.findIn K (.ref c_NoCount) "__getattribute__" = some (some (.builtin "BaseException.__getattribute__")))
    (xgg_NoCount : PySem.W.findIn K (.ref c_NoCount) "__getattr__" = some none)
    (xhd_NoCount : PySem.W.hasDictIn K c_NoCount = true)
    (xca_NoCount : PySem.W.findIn K (.ref c_NoCount) "__class__" = some (some (.builtin "object.__class__")))
    (xmo_NoCount : PySem.W.mroIn K c_NoCount (.type "object") = some true)
    (xg_NoPaper : PySem.W.nsIn K mainGlobals "NoPaper" = some (some (.ref c_NoPaper)))
    (xk_NoPaper : PySem.W.keepIn K (.ref c_NoPaper) = true)
    (xq_NoPaper : PySem.W.excIn K c_NoPaper [.type "ValueError", .type "Exception", .type "BaseException", .type "object"] "ValueError.__new__" = true)
    (xs_NoPaper : PySem.W.subIn K (.ref c_NoPaper) (.type "BaseException") = some true)
    (xt_NoPaper : PySem.W.typeIn K (.ref c_NoPaper) = some (.type "type"))
    (xga_NoPaper : PySem.W.findIn K (.ref c_NoPaper) "__getattribute__" = some (some (.builtin "BaseException.__getattribute__")))
    (xgg_NoPaper : PySem.W.findIn K (.ref c_NoPaper) "__getattr__" = some none)
    (xhd_NoPaper : PySem.W.hasDictIn K c_NoPaper = true)
    (xca_NoPaper : PySem.W.findIn K (.ref c_NoPaper) "__class__" = some (some (.builtin "object.__class__")))
    (xmo_NoPaper : PySem.W.mroIn K c_NoPaper (.type "object") = some true)
    (xg_TooMany : PySem.W.nsIn K mainGlobals "TooMany" = some (some (.ref c_TooMany)))
    (xk_TooMany : PySem.W.keepIn K (.ref c_TooMany) = true)
    (xq_TooMany : PySem.W.excIn K c_TooMany [.type "ValueError", .type "Exception", .type "BaseException", .type "object"] "ValueError.__new__" = true)
    (xs_TooMany : PySem.W.subIn K (.ref c_TooMany) (.type "BaseException") = some true)
    (xt_TooMany : PySem.W.typeIn K (.ref c_TooMany) = some (.type "type"))
    (xga_TooMany : PySem.W.findIn K (.ref c_TooMany) "__getattribute__" = some (some (.builtin "BaseException.__getattribute__")))
    (xgg_TooMany : PySem.W.findIn K (.ref c_TooMany) "__getattr__" = some none)
    (xhd_TooMany : PySem.W.hasDictIn K c_TooMany = true)
    (xca_TooMany : PySem.W.findIn K (.ref c_TooMany) "__class__" = some (some (.builtin "object.__class__")))
    (xmo_TooMany : PySem.W.mroIn K c_TooMany (.type "object") = some true)
    (xg_NoText : PySem.W.nsIn K mainGlobals "NoText" = some (some (.ref c_NoText)))
    (xk_NoText : PySem.W.keepIn K (.ref c_NoText) = true)
    (xq_NoText : PySem.W.excIn K c_NoText [.type "ValueError", .type "Exception", .type "BaseException", .type "object"] "ValueError.__new__" = true)
    (xs_NoText : PySem.W.subIn K (.ref c_NoText) (.type "BaseException") = some true)
    (xt_NoText : PySem.W.typeIn K (.ref c_NoText) = some (.type "type"))
    (xga_NoText : PySem.W.findIn K (.ref c_NoText) "__getattribute__" = some (some (.builtin "BaseException.__getattribute__")))
    (xgg_NoText : PySem.W.findIn K (.ref c_NoText) "__getattr__" = some none)
    (xhd_NoText : PySem.W.hasDictIn K c_NoText = true)
    (xca_NoText : PySem.W.findIn K (.ref c_NoText) "__class__" = some (some (.builtin "object.__class__")))
    (xmo_NoText : PySem.W.mroIn K c_NoText (.type "object") = some true)
    (xg_NoForm : PySem.W.nsIn K mainGlobals "NoForm" = some (some (.ref c_NoForm)))
    (xk_NoForm : PySem.W.keepIn K (.ref c_NoForm) = true)
    (xq_NoForm : PySem.W.excIn K c_NoForm [.type "ValueError", .type "Exception", .type "BaseException", .type "object"] "ValueError.__new__" = true)
    (xs_NoForm : PySem.W.subIn K (.ref c_NoForm) (.type "BaseException") = some true)
    (xt_NoForm : PySem.W.typeIn K (.ref c_NoForm) = some (.type "type"))
    (xga_NoForm : PySem.W.findIn K (.ref c_NoForm) "__getattribute__" = some (some (.builtin "BaseException.__getattribute__")))
    (xgg_NoForm : PySem.W.findIn K (.ref c_NoForm) "__getattr__" = some none)
    (xhd_NoForm : PySem.W.hasDictIn K c_NoForm = true)
    (xca_NoForm : PySem.W.findIn K (.ref c_NoForm) "__class__" = some (some (.builtin "object.__class__")))
    (xmo_NoForm : PySem.W.mroIn K c_NoForm (.type "object") = some true)
    (xg_NoneYet : PySem.W.nsIn K mainGlobals "NoneYet" = some (some (.ref c_NoneYet)))
    (xk_NoneYet : PySem.W.keepIn K (.ref c_NoneYet) = true)
    (xq_NoneYet : PySem.W.excIn K c_NoneYet [.type "ValueError", .type "Exception", .type "BaseException", .type "object"] "ValueError.__new__" = true)
    (xs_NoneYet : PySem.W.subIn K (.ref c_NoneYet) (.type "BaseException") = some true)
    (xt_NoneYet : PySem.W.typeIn K (.ref c_NoneYet) = some (.type "type"))
    (xga_NoneYet : PySem.W.findIn K (.ref c_NoneYet) "__getattribute__" = some (some (.builtin "BaseException.__getattribute__")))
    (xgg_NoneYet : PySem.W.findIn K (.ref c_NoneYet) "__getattr__" = some none)
    (xhd_NoneYet : PySem.W.hasDictIn K c_NoneYet = true)
    (xca_NoneYet : PySem.W.findIn K (.ref c_NoneYet) "__class__" = some (some (.builtin "object.__class__")))
    (xmo_NoneYet : PySem.W.mroIn K c_NoneYet (.type "object") = some true)
    (m_NoModulus_RestError : PySem.W.exmOne K (.ref c_NoModulus) (.ref c_RestError) = some true)
    (m_TooMany_RestError : PySem.W.exmOne K (.ref c_TooMany) (.ref c_RestError) = some true)
    (m_NoCount_RestError : PySem.W.exmOne K (.ref c_NoCount) (.ref c_RestError) = some true)
    (i_NoCount_NoCount : PySem.W.kitOne K (.ref c_NoCount) (.ref c_NoCount) = some true)
    (i_NoCount_NoForm : PySem.W.kitOne K (.ref c_NoCount) (.ref c_NoForm) = some false)
    (i_NoCount_NoModulus : PySem.W.kitOne K (.ref c_NoCount) (.ref c_NoModulus) = some false)
    (i_NoCount_NoPaper : PySem.W.kitOne K (.ref c_NoCount) (.ref c_NoPaper) = some false)
    (i_NoCount_NoText : PySem.W.kitOne K (.ref c_NoCount) (.ref c_NoText) = some false)
    (i_NoCount_NoneYet : PySem.W.kitOne K (.ref c_NoCount) (.ref c_NoneYet) = some false)
    (i_NoCount_TooMany : PySem.W.kitOne K (.ref c_NoCount) (.ref c_TooMany) = some false)
    (i_NoCount_ValueError : PySem.W.kitOne K (.ref c_NoCount) (.type "ValueError") = some true)
    (i_NoModulus_NoCount : PySem.W.kitOne K (.ref c_NoModulus) (.ref c_NoCount) = some false)
    (i_NoModulus_NoForm : PySem.W.kitOne K (.ref c_NoModulus) (.ref c_NoForm) = some false)
    (i_NoModulus_NoModulus : PySem.W.kitOne K (.ref c_NoModulus) (.ref c_NoModulus) = some true)
    (i_NoModulus_NoPaper : PySem.W.kitOne K (.ref c_NoModulus) (.ref c_NoPaper) = some false)
    (i_NoModulus_NoText : PySem.W.kitOne K (.ref c_NoModulus) (.ref c_NoText) = some false)
    (i_NoModulus_NoneYet : PySem.W.kitOne K (.ref c_NoModulus) (.ref c_NoneYet) = some false)
    (i_NoModulus_TooMany : PySem.W.kitOne K (.ref c_NoModulus) (.ref c_TooMany) = some false)
    (i_NoModulus_ValueError : PySem.W.kitOne K (.ref c_NoModulus) (.type "ValueError") = some true)
    (i_TooMany_NoCount : PySem.W.kitOne K (.ref c_TooMany) (.ref c_NoCount) = some false)
    (i_TooMany_NoForm : PySem.W.kitOne K (.ref c_TooMany) (.ref c_NoForm) = some false)
    (i_TooMany_NoModulus : PySem.W.kitOne K (.ref c_TooMany) (.ref c_NoModulus) = some false)
    (i_TooMany_NoPaper : PySem.W.kitOne K (.ref c_TooMany) (.ref c_NoPaper) = some false)
    (i_TooMany_NoText : PySem.W.kitOne K (.ref c_TooMany) (.ref c_NoText) = some false)
    (i_TooMany_NoneYet : PySem.W.kitOne K (.ref c_TooMany) (.ref c_NoneYet) = some false)
    (i_TooMany_TooMany : PySem.W.kitOne K (.ref c_TooMany) (.ref c_TooMany) = some true)
    (i_TooMany_ValueError : PySem.W.kitOne K (.ref c_TooMany) (.type "ValueError") = some true)
    {tk_MOST_NUMBERS : Tok} (v_MOST_NUMBERS : PySem.W.nsIn K mainGlobals "MOST_NUMBERS" = some (some (.int 10 tk_MOST_NUMBERS))) :
    ∃ fd : FuncData, (∀ (s : Shared) (v : Value), BindsTo s fd ⟨[v], []⟩ [("script", v)]) ∧ ∀ base : Heap, K.In base → base.Ns mainGlobals mg → FnOk l.prog w K mg base (L2.CX l.prog w) 6 fa fd ["script"] (Sp1 K false (fun (script : Scr) => script.ns.length ≤ 63) m_law) := by
  have e := hfa.symm.trans (PySem.W.mg_of X G a17)
  cases e
  have T : Txt K mg c_RestError c_NoModulus c_NoCount c_NoPaper c_TooMany c_NoText c_NoForm c_NoneYet := ⟨⟨PySem.W.mg_of X G xg_RestError, xk_RestError, xq_RestError, xs_RestError, xt_RestError, ⟨xga_RestError, xgg_RestError, xs_RestError, xhd_RestError, xca_RestError, xg_, xt_, xmo_RestError⟩⟩, ⟨PySem.W.mg_of X G xg_NoModulus, xk_NoModulus, xq_NoModulus, xs_NoModulus, xt_NoModulus, ⟨xga_NoModulus, xgg_NoModulus, xs_NoModulus, xhd_NoModulus, xca_NoModulus, xg_, xt_, xmo_NoModulus⟩⟩, ⟨PySem.W.mg_of X G xg_NoCount, xk_NoCount, xq_NoCount, xs_NoCount, xt_NoCount, ⟨xga_NoCount, xgg_NoCount, xs_NoCount, xhd_NoCount, xca_NoCount, xg_, xt_, xmo_NoCount⟩⟩, ⟨PySem.W.mg_of X G xg_NoPaper, xk_NoPaper, xq_NoPaper, xs_NoPaper, xt_NoPaper, ⟨xga_NoPaper, xgg_NoPaper, xs_NoPaper, xhd_NoPaper, xca_NoPaper, xg_, xt_, xmo_NoPaper⟩⟩, ⟨PySem.W.mg_of X G xg_TooMany, xk_TooMany, xq_TooMany, xs_TooMany, xt_TooMany, ⟨xga_TooMany, xgg_TooMany, xs_TooMany, xhd_TooMany, xca_TooMany, xg_, xt_, xmo_TooMany⟩⟩, ⟨PySem.W.mg_of X G xg_NoText, xk_NoText, xq_NoText, xs_NoText, xt_NoText, ⟨xga_NoText, xgg_NoText, xs_NoText, xhd_NoText, xca_NoText, xg_, xt_, xmo_NoText⟩⟩, ⟨PySem.W.mg_of X G xg_NoForm, xk_NoForm, xq_NoForm, xs_NoForm, xt_NoForm, ⟨xga_NoForm, xgg_NoForm, xs_NoForm, xhd_NoForm, xca_NoForm, xg_, xt_, xmo_NoForm⟩⟩, ⟨PySem.W.mg_of X G xg_NoneYet, xk_NoneYet, xq_NoneYet, xs_NoneYet, xt_NoneYet, ⟨xga_NoneYet, xgg_NoneYet, xs_NoneYet, xhd_NoneYet, xca_NoneYet, xg_, xt_, xmo_NoneYet⟩⟩, m_NoModulus_RestError, m_TooMany_RestError, m_NoCount_RestError, i_NoCount_NoCount, i_NoCount_NoForm, i_NoCount_NoModulus, i_NoCount_NoPaper, i_NoCount_NoText, i_NoCount_NoneYet, i_NoCount_TooMany, i_NoCount_ValueError, i_NoModulus_NoCount, i_NoModulus_NoForm, i_NoModulus_NoModulus, i_NoModulus_NoPaper, i_NoModulus_NoText, i_NoModulus_NoneYet, i_NoModulus_TooMany, i_NoModulus_ValueError, i_TooMany_NoCount, i_TooMany_NoForm, i_TooMany_NoModulus, i_TooMany_NoPaper, i_TooMany_NoText, i_TooMany_NoneYet, i_TooMany_TooMany, i_TooMany_ValueError, ⟨_, PySem.W.mg_of X G v_MOST_NUMBERS⟩, PySem.W.mg_none_of X G z_ValueError, PySem.W.mg_none_of X G z_abs, PySem.W.mg_none_of X G z_enumerate, PySem.W.mg_none_of X G z_int, PySem.W.mg_none_of X G z_isinstance, PySem.W.mg_none_of X G z_len, PySem.W.mg_none_of X G z_list, PySem.W.mg_none_of X G z_min, PySem.W.mg_none_of X G z_range, PySem.W.mg_none_of X G z_sum⟩
  have F1 := fun_mk (st := s_need_modulus) l1 c1 k1
  have b1 := F1.binds (ps := ["modulus"]) fun _ _ _ _ _ _ us hl => match us, hl with | [_], _ => rfl
  have F2 := fun_mk (st := s_rests) l2 c2 k2
  have b2 := F2.binds (ps := ["row", "modulus"]) fun _ _ _ _ _ _ us hl => match us, hl with | [_, _], _ => rfl
  have F3 := fun_mk (st := s_need_count) l3 c3 k3
  have b3 := F3.binds (ps := ["many", "least"]) fun _ _ _ _ _ _ us hl => match us, hl with | [_, _], _ => rfl
  have F4 := fun_mk (st := s_places_of) l4 c4 k4
  have b4 := F4.binds (ps := ["bits"]) fun _ _ _ _ _ _ us hl => match us, hl with | [_], _ => rfl
  have F5 := fun_mk (st := s_hit_bits) l5 c5 k5
  have b5 := F5.binds (ps := ["some", "modulus"]) fun _ _ _ _ _ _ us hl => match us, hl with | [_, _], _ => rfl
  have F6 := fun_mk (st := s_best_apart) l6 c6 k6
  have b6 := F6.binds (ps := ["some", "modulus", "whole"]) fun _ _ _ _ _ _ us hl => match us, hl with | [_, _, _], _ => rfl
  have F7 := fun_mk (st := s_need_few) l7 c7 k7
  have b7 := F7.binds (ps := ["some"]) fun _ _ _ _ _ _ us hl => match us, hl with | [_], _ => rfl
  have F8 := fun_mk (st := s_most_apart) l8 c8 k8
  have b8 := F8.binds (ps := ["row", "modulus"]) fun _ _ _ _ _ _ us hl => match us, hl with | [_, _], _ => rfl
  have F9 := fun_mk (st := s_parted) l9 c9 k9
  have b9 := F9.binds (ps := ["row", "modulus"]) fun _ _ _ _ _ _ us hl => match us, hl with | [_, _], _ => rfl
  have F10 := fun_mk (st := s_least_for) l10 c10 k10
  have b10 := F10.binds (ps := ["modulus", "many"]) fun _ _ _ _ _ _ us hl => match us, hl with | [_, _], _ => rfl
  have F11 := fun_mk (st := s__law_reel) l11 c11 k11
  have b11 := F11.binds (ps := ["cell"]) fun _ _ _ _ _ _ us hl => match us, hl with | [_], _ => rfl
  have F12 := fun_mk (st := s__law_take) l12 c12 k12
  have b12 := F12.binds (ps := ["reel", "many"]) fun _ _ _ _ _ _ us hl => match us, hl with | [_, _], _ => rfl
  have F13 := fun_mk (st := s__law_few) l13 c13 k13
  have b13 := F13.binds (ps := ["reel"]) fun _ _ _ _ _ _ us hl => match us, hl with | [_], _ => rfl
  have F14 := fun_mk (st := s__law_row) l14 c14 k14
  have b14 := F14.binds (ps := ["reel", "most", "modulus"]) fun _ _ _ _ _ _ us hl => match us, hl with | [_, _, _], _ => rfl
  have F15 := fun_mk (st := s__law_word) l15 c15 k15
  have b15 := F15.binds (ps := ["found"]) fun _ _ _ _ _ _ us hl => match us, hl with | [_], _ => rfl
  have F16 := fun_mk (st := s__law_asked) l16 c16 k16
  have b16 := F16.binds (ps := ["door", "row", "modulus", "many"]) fun _ _ _ _ _ _ us hl => match us, hl with | [_, _, _, _], _ => rfl
  have F17 := fun_mk (st := s_law) l17 c17 k17
  have b17 := F17.binds (ps := ["script"]) fun _ _ _ _ _ _ us hl => match us, hl with | [_], _ => rfl
  refine ⟨PySem.W.fnOf "law" "law" (defArgs s_law) (defBody s_law) (defScope s_law) .none kV17 dc17 pm17 an17 cd17 ct17, fun s v => .of_eq rfl, fun base _ _ => ?_⟩
  have C_need_modulus : Cal l.prog w K mg base 1 "need_modulus" (Sp1 K false (fun (modulus : Int) => 1 ≤ modulus) m_need_modulus) := cal_need_modulus T F1 (PySem.W.mg_of X G a1) b1 
  have C_need_r : Cal l.prog w K mg base 1 "need_modulus" (SpR1 K (fun (modulus : Int) => modulus < 1) c_NoModulus) := cal_need_r T F1 (PySem.W.mg_of X G a1) b1 
  have C_rests : Cal l.prog w K mg base 2 "rests" (Sp2 K true (fun (row : (List Int)) (modulus : Int) => 1 ≤ modulus) m_rests) := cal_rests T F2 (PySem.W.mg_of X G a2) b2 C_need_modulus
  have C_rests_r : Cal l.prog w K mg base 2 "rests" (SpR2 K (fun (row : (List Int)) (modulus : Int) => modulus < 1) c_NoModulus) := cal_rests_r T F2 (PySem.W.mg_of X G a2) b2 C_need_r
  have C_need_count : Cal l.prog w K mg base 1 "need_count" (Sp2 K false (fun (many : Int) (least : Int) => least ≤ many) m_need_count) := cal_need_count T F3 (PySem.W.mg_of X G a3) b3 
  have C_count_c : Cal l.prog w K mg base 1 "need_count" (SpR2 K (fun (many : Int) (least : Int) => many < least) c_NoCount) := cal_count_c T F3 (PySem.W.mg_of X G a3) b3 
  have C_places_of : Cal l.prog w K mg base 1 "places_of" (Sp1 K false (fun (bits : Int) => 0 ≤ bits ∧ bits < 1024) m_places_of) := cal_places_of T F4 (PySem.W.mg_of X G a4) b4 
  have C_hit_bits : Cal l.prog w K mg base 2 "hit_bits" (Sp2 K false (fun (some_ : (List Int)) (modulus : Int) => 1 ≤ modulus ∧ some_.length ≤ 10) m_hit_bits) := cal_hit_bits T F5 (PySem.W.mg_of X G a5) b5 C_places_of
  have C_best_apart : Cal l.prog w K mg base 3 "best_apart" (Sp3 K false (fun (some_ : (List Int)) (modulus : Int) (whole : Bool) => 1 ≤ modulus ∧ some_.length ≤ 10) m_best_apart) := cal_best_apart T F6 (PySem.W.mg_of X G a6) b6 C_hit_bits C_places_of
  have C_need_few : Cal l.prog w K mg base 1 "need_few" (Sp1 K false (fun (some_ : (List Int)) => some_.length ≤ 10) m_need_few) := cal_need_few T F7 (PySem.W.mg_of X G a7) b7 
  have C_few_t : Cal l.prog w K mg base 1 "need_few" (SpR1 K (fun (some_ : (List Int)) => 10 < some_.length) c_TooMany) := cal_few_t T F7 (PySem.W.mg_of X G a7) b7 
  have C_mosta : Cal l.prog w K mg base 4 "most_apart" (Sp2 K false (fun (row : (List Int)) (modulus : Int) => 1 ≤ modulus ∧ row.length ≤ 10) m_mosta) := cal_mosta T F8 (PySem.W.mg_of X G a8) b8 C_rests C_need_few C_best_apart
  have C_mosta_r : Cal l.prog w K mg base 3 "most_apart" (SpR2 K (fun (row : (List Int)) (modulus : Int) => modulus < 1) c_NoModulus) := cal_mosta_r T F8 (PySem.W.mg_of X G a8) b8 C_rests_r
  have C_mosta_t : Cal l.prog w K mg base 3 "most_apart" (SpR2 K (fun (row : (List Int)) (modulus : Int) => 1 ≤ modulus ∧ 10 < row.length) c_TooMany) := cal_mosta_t T F8 (PySem.W.mg_of X G a8) b8 C_rests C_few_t
  have C_parted_o : Cal l.prog w K mg base 4 "parted" (Sp2 K false (fun (row : (List Int)) (modulus : Int) => 1 ≤ modulus ∧ row.length ≤ 10) m_parted_o) := cal_parted_o T F9 (PySem.W.mg_of X G a9) b9 C_rests C_need_few C_best_apart
  have C_parted_r : Cal l.prog w K mg base 3 "parted" (SpR2 K (fun (row : (List Int)) (modulus : Int) => modulus < 1) c_NoModulus) := cal_parted_r T F9 (PySem.W.mg_of X G a9) b9 C_rests_r
  have C_parted_t : Cal l.prog w K mg base 3 "parted" (SpR2 K (fun (row : (List Int)) (modulus : Int) => 1 ≤ modulus ∧ 10 < row.length) c_TooMany) := cal_parted_t T F9 (PySem.W.mg_of X G a9) b9 C_rests C_few_t
  have C_lfor : Cal l.prog w K mg base 3 "least_for" (Sp2 K false (fun (modulus : Int) (many : Int) => 1 ≤ modulus ∧ modulus ≤ 60 ∧ 0 ≤ many) m_lfor) := cal_lfor T F10 (PySem.W.mg_of X G a10) b10 C_rests C_need_count
  have C_lfor_r : Cal l.prog w K mg base 3 "least_for" (SpR2 K (fun (modulus : Int) (many : Int) => modulus < 1) c_NoModulus) := cal_lfor_r T F10 (PySem.W.mg_of X G a10) b10 C_rests_r
  have C_lfor_c : Cal l.prog w K mg base 3 "least_for" (SpR2 K (fun (modulus : Int) (many : Int) => 1 ≤ modulus ∧ many < 0) c_NoCount) := cal_lfor_c T F10 (PySem.W.mg_of X G a10) b10 C_rests C_count_c
  have C_lreel : Cal l.prog w K mg base 1 "_law_reel" (Sp1 K true (fun (cell : Int) => True) m_lreel) := cal_lreel T F11 (PySem.W.mg_of X G a11) b11 
  have C_ltake : Cal l.prog w K mg base 1 "_law_take" (SpM2 K false (fun (reel : (List Int)) (many : Int) => reel.length = 2 ∧ 1 ≤ many ∧ many ≤ 1073741823) m_ltake) := cal_ltake T F12 (PySem.W.mg_of X G a12) b12 
  have C_lfew : Cal l.prog w K mg base 2 "_law_few" (SpM1 K false (fun (reel : (List Int)) => reel.length = 2) m_lfew) := cal_lfew T F13 (PySem.W.mg_of X G a13) b13 C_ltake
  have C_lrow : Cal l.prog w K mg base 2 "_law_row" (SpM3 K true (fun (reel : (List Int)) (most : Int) (modulus : Int) => reel.length = 2 ∧ 0 ≤ most ∧ most ≤ 40 ∧ 1 ≤ modulus ∧ modulus ≤ 60) m_lrow) := cal_lrow T F14 (PySem.W.mg_of X G a14) b14 C_ltake
  have C_word_n : Cal l.prog w K mg base 1 "_law_word" (Sp1 K false (fun (found : Unit) => True) m_word_n) := cal_word_n T F15 (PySem.W.mg_of X G a15) b15 
  have C_word_m : FlK l.prog w K mg base 1 "_law_word" c_NoModulus m_word_m := cal_word_m T F15 (PySem.W.mg_of X G a15) b15 
  have C_word_c : FlK l.prog w K mg base 1 "_law_word" c_NoCount m_word_c := cal_word_c T F15 (PySem.W.mg_of X G a15) b15 
  have C_word_t : FlK l.prog w K mg base 1 "_law_word" c_TooMany m_word_t := cal_word_t T F15 (PySem.W.mg_of X G a15) b15 
  have C_asked : Cal l.prog w K mg base 5 "_law_asked" (Sp4 K false (fun (door : Int) (row : (List Int)) (modulus : Int) (many : Int) => row.length ≤ 1000 ∧ modulus ≤ 60) m_asked) := cal_asked T F16 (PySem.W.mg_of X G a16) b16 C_mosta_r C_word_m C_mosta_t C_word_t C_mosta C_word_n C_parted_r C_parted_t C_parted_o C_lfor_r C_lfor_c C_word_c C_lfor
  exact cal_law (P := l.prog) (w := w) (base := base) T F17 (PySem.W.mg_of X G a17) b17 C_lreel C_lfew C_ltake C_lrow C_asked
end Q
open PySem PySem.W PyProof.Rows
set_option maxHeartbeats 0 in
theorem PySem.Challenge.cw_restsums_k54_apart_refused_holds : PySem.Challenge.rw_restsums_k54_apart_refused.Holds := by
  w_on; o_law; k_head; (case hw => w_witness2)
  k_fill
  refine L2.walk_of (l := PySem.Challenge.rw_restsums_k54_apart_refused) (n := 63) (k := 6) (x := "script") (CX := fun w => L2.CX (PySem.Challenge.rw_restsums_k54_apart_refused).prog w) (sp := fun w => RL.Sp1 _ false (fun (script : RL.Scr) => script.ns.length ≤ 63) Q.m_law) rfl (by decide) rfl ⟨rfl, by decide, by decide⟩ (fun w h Y => PySem.W.kIn_of Y) ?F (fun _ H a ns hl _ hS => RL.law_sp Q.law_true hl hS) (fun _ _ _ _ _ h => RL.law_cx h)
  case F =>
    intro w mg fa h KX G hmg
    refine' Q.all_mk KX G hmg ?a1 ?l1 ?c1 ?k1 ?a2 ?l2 ?c2 ?k2 ?a3 ?l3 ?c3 ?k3 ?a4 ?l4 ?c4 ?k4 ?a5 ?l5 ?c5 ?k5 ?a6 ?l6 ?c6 ?k6 ?a7 ?l7 ?c7 ?k7 ?a8 ?l8 ?c8 ?k8 ?a9 ?l9 ?c9 ?k9 ?a10 ?l10 ?c10 ?k10 ?a11 ?l11 ?c11 ?k11 ?a12 ?l12 ?c12 ?k12 ?a13 ?l13 ?c13 ?k13 ?a14 ?l14 ?c14 ?k14 ?a15 ?l15 ?c15 ?k15 ?a16 ?l16 ?c16 ?k16 ?a17 ?l17 ?c17 ?k17 ?z_ValueError ?z_abs ?z_enumerate ?z_int ?z_isinstance ?z_len ?z_list ?z_min ?z_range ?z_sum ?xg_ ?xt_ ?xg_RestError ?xk_RestError ?xq_RestError ?xs_RestError ?xt_RestError ?xga_RestError ?xgg_RestError ?xhd_RestError ?xca_RestError ?xmo_RestError ?xg_NoModulus ?xk_NoModulus ?xq_NoModulus ?xs_NoModulus ?xt_NoModulus ?xga_NoModulus ?xgg_NoModulus ?xhd_NoModulus ?xca_NoModulus ?xmo_NoModulus ?xg_NoCount ?xk_NoCount ?xq_NoCount ?xs_NoCount ?xt_NoCount ?xga_NoCount ?xgg_NoCount ?xhd_NoCount ?xca_NoCount ?xmo_NoCount ?xg_NoPaper ?xk_NoPaper ?xq_NoPaper ?xs_NoPaper ?xt_NoPaper ?xga_NoPaper ?xgg_NoPaper ?xhd_NoPaper ?xca_NoPaper ?xmo_NoPaper ?xg_TooMany ?xk_TooMany ?xq_TooMany ?xs_TooMany ?xt_TooMany ?xga_TooMany ?xgg_TooMany ?xhd_TooMany ?xca_TooMany ?xmo_TooMany ?xg_NoText ?xk_NoText ?xq_NoText ?xs_NoText ?xt_NoText ?xga_NoText ?xgg_NoText ?xhd_NoText ?xca_NoText ?xmo_NoText ?xg_NoForm ?xk_NoForm ?xq_NoForm ?xs_NoForm ?xt_NoForm ?xga_NoForm ?xgg_NoForm ?xhd_NoForm ?xca_NoForm ?xmo_NoForm ?xg_NoneYet ?xk_NoneYet ?xq_NoneYet ?xs_NoneYet ?xt_NoneYet ?xga_NoneYet ?xgg_NoneYet ?xhd_NoneYet ?xca_NoneYet ?xmo_NoneYet ?m_NoModulus_RestError ?m_TooMany_RestError ?m_NoCount_RestError ?i_NoCount_NoCount ?i_NoCount_NoForm ?i_NoCount_NoModulus ?i_NoCount_NoPaper ?i_NoCount_NoText ?i_NoCount_NoneYet ?i_NoCount_TooMany ?i_NoCount_ValueError ?i_NoModulus_NoCount ?i_NoModulus_NoForm ?i_NoModulus_NoModulus ?i_NoModulus_NoPaper ?i_NoModulus_NoText ?i_NoModulus_NoneYet ?i_NoModulus_TooMany ?i_NoModulus_ValueError ?i_TooMany_NoCount ?i_TooMany_NoForm ?i_TooMany_NoModulus ?i_TooMany_NoPaper ?i_TooMany_NoText ?i_TooMany_NoneYet ?i_TooMany_TooMany ?i_TooMany_ValueError ?v_MOST_NUMBERS
    (case a1 => k_is)
    (case l1 => k_is)
    (case c1 => k_is)
    (case k1 => k_is)
    (case a2 => k_is)
    (case l2 => k_is)
    (case c2 => k_is)
    (case k2 => k_is)
    (case a3 => k_is)
    (case l3 => k_is)
    (case c3 => k_is)
    (case k3 => k_is)
    (case a4 => k_is)
    (case l4 => k_is)
    (case c4 => k_is)
    (case k4 => k_is)
    (case a5 => k_is)
    (case l5 => k_is)
    (case c5 => k_is)
    (case k5 => k_is)
    (case a6 => k_is)
    (case l6 => k_is)
    (case c6 => k_is)
    (case k6 => k_is)
    (case a7 => k_is)
    (case l7 => k_is)
    (case c7 => k_is)
    (case k7 => k_is)
    (case a8 => k_is)
    (case l8 => k_is)
    (case c8 => k_is)
    (case k8 => k_is)
    (case a9 => k_is)
    (case l9 => k_is)
    (case c9 => k_is)
    (case k9 => k_is)
    (case a10 => k_is)
    (case l10 => k_is)
    (case c10 => k_is)
    (case k10 => k_is)
    (case a11 => k_is)
    (case l11 => k_is)
    (case c11 => k_is)
    (case k11 => k_is)
    (case a12 => k_is)
    (case l12 => k_is)
    (case c12 => k_is)
    (case k12 => k_is)
    (case a13 => k_is)
    (case l13 => k_is)
    (case c13 => k_is)
    (case k13 => k_is)
    (case a14 => k_is)
    (case l14 => k_is)
    (case c14 => k_is)
    (case k14 => k_is)
    (case a15 => k_is)
    (case l15 => k_is)
    (case c15 => k_is)
    (case k15 => k_is)
    (case a16 => k_is)
    (case l16 => k_is)
    (case c16 => k_is)
    (case k16 => k_is)
    (case a17 => k_is)
    (case l17 => k_is)
    (case c17 => k_is)
    (case k17 => k_is)
    (case z_ValueError => k_is)
    (case z_abs => k_is)
    (case z_enumerate => k_is)
    (case z_int => k_is)
    (case z_isinstance => k_is)
    (case z_len => k_is)
    (case z_list => k_is)
    (case z_min => k_is)
    (case z_range => k_is)
    (case z_sum => k_is)
    (case xg_ => k_is)
    (case xt_ => k_is)
    (case xg_RestError => k_is)
    (case xk_RestError => k_is)
    (case xq_RestError => k_exc)
    (case xs_RestError => k_is)
    (case xt_RestError => k_is)
    (case xga_RestError => k_is)
    (case xgg_RestError => k_is)
    (case xhd_RestError => k_is)
    (case xca_RestError => k_is)
    (case xmo_RestError => k_is)
    (case xg_NoModulus => k_is)
    (case xk_NoModulus => k_is)
    (case xq_NoModulus => k_exc)
    (case xs_NoModulus => k_is)
    (case xt_NoModulus => k_is)
    (case xga_NoModulus => k_is)
    (case xgg_NoModulus => k_is)
    (case xhd_NoModulus => k_is)
    (case xca_NoModulus => k_is)
    (case xmo_NoModulus => k_is)
    (case xg_NoCount => k_is)
    (case xk_NoCount => k_is)
    (case xq_NoCount => k_exc)
    (case xs_NoCount => k_is)
    (case xt_NoCount => k_is)
    (case xga_NoCount => k_is)
    (case xgg_NoCount => k_is)
    (case xhd_NoCount => k_is)
    (case xca_NoCount => k_is)
    (case xmo_NoCount => k_is)
    (case xg_NoPaper => k_is)
    (case xk_NoPaper => k_is)
    (case xq_NoPaper => k_exc)
    (case xs_NoPaper => k_is)
    (case xt_NoPaper => k_is)
    (case xga_NoPaper => k_is)
    (case xgg_NoPaper => k_is)
    (case xhd_NoPaper => k_is)
    (case xca_NoPaper => k_is)
    (case xmo_NoPaper => k_is)
    (case xg_TooMany => k_is)
    (case xk_TooMany => k_is)
    (case xq_TooMany => k_exc)
    (case xs_TooMany => k_is)
    (case xt_TooMany => k_is)
    (case xga_TooMany => k_is)
    (case xgg_TooMany => k_is)
    (case xhd_TooMany => k_is)
    (case xca_TooMany => k_is)
    (case xmo_TooMany => k_is)
    (case xg_NoText => k_is)
    (case xk_NoText => k_is)
    (case xq_NoText => k_exc)
    (case xs_NoText => k_is)
    (case xt_NoText => k_is)
    (case xga_NoText => k_is)
    (case xgg_NoText => k_is)
    (case xhd_NoText => k_is)
    (case xca_NoText => k_is)
    (case xmo_NoText => k_is)
    (case xg_NoForm => k_is)
    (case xk_NoForm => k_is)
    (case xq_NoForm => k_exc)
    (case xs_NoForm => k_is)
    (case xt_NoForm => k_is)
    (case xga_NoForm => k_is)
    (case xgg_NoForm => k_is)
    (case xhd_NoForm => k_is)
    (case xca_NoForm => k_is)
    (case xmo_NoForm => k_is)
    (case xg_NoneYet => k_is)
    (case xk_NoneYet => k_is)
    (case xq_NoneYet => k_exc)
    (case xs_NoneYet => k_is)
    (case xt_NoneYet => k_is)
    (case xga_NoneYet => k_is)
    (case xgg_NoneYet => k_is)
    (case xhd_NoneYet => k_is)
    (case xca_NoneYet => k_is)
    (case xmo_NoneYet => k_is)
    (case m_NoModulus_RestError => kts_exm)
    (case m_TooMany_RestError => kts_exm)
    (case m_NoCount_RestError => kts_exm)
    (case i_NoCount_NoCount => kit_is)
    (case i_NoCount_NoForm => kit_is)
    (case i_NoCount_NoModulus => kit_is)
    (case i_NoCount_NoPaper => kit_is)
    (case i_NoCount_NoText => kit_is)
    (case i_NoCount_NoneYet => kit_is)
    (case i_NoCount_TooMany => kit_is)
    (case i_NoCount_ValueError => kit_is)
    (case i_NoModulus_NoCount => kit_is)
    (case i_NoModulus_NoForm => kit_is)
    (case i_NoModulus_NoModulus => kit_is)
    (case i_NoModulus_NoPaper => kit_is)
    (case i_NoModulus_NoText => kit_is)
    (case i_NoModulus_NoneYet => kit_is)
    (case i_NoModulus_TooMany => kit_is)
    (case i_NoModulus_ValueError => kit_is)
    (case i_TooMany_NoCount => kit_is)
    (case i_TooMany_NoForm => kit_is)
    (case i_TooMany_NoModulus => kit_is)
    (case i_TooMany_NoPaper => kit_is)
    (case i_TooMany_NoText => kit_is)
    (case i_TooMany_NoneYet => kit_is)
    (case i_TooMany_TooMany => kit_is)
    (case i_TooMany_ValueError => kit_is)
    (case v_MOST_NUMBERS => k_is)
