import PyProof.Rows.All
import Wide.All
import OpenK.AllK
import Wide.FinOn
import HandS.ForMost
import HandS.ForExc
import HandS.Walk
import HandS.IsInst
import HandS.SortInts
import HandS.SortRule
import HandS.Wide
import HandS.WideBits
import HandS.Deep
import HandS.Style
import HandS.More
import HandS.Strs
import HandS.Conv
import HandS.ExcOwn
import HandS.ExcIs
import HandS.HotCalls
import KE.SortData
import HandS.SortRule
import HandS.More
import HandS.DictTup
import KE.KDictCopyH
import KE.KDictDisplayH
import KE.KDictOf
import HandS.SetFor
import KE.LtData
import PySem.Challenge.RW_restsums_k42_whole_hits_counted
set_option Elab.async false
set_option linter.all false
set_option maxRecDepth 100000
set_option maxHeartbeats 2000000
/-! RL: readings by data. A frozen part G of the heap H; a value read as a datum in G; rules that compose as terms. -/
namespace RL
open PySem PySem.Spec PyProof.Rows L2
abbrev St := L2.St

/-! ### worlds -/
structure Ext (G H G' H' : Hp) : Prop where
  h : Same H H'
  g : Same G G'
  s : Same G' H'
  n : ∀ b o, G' b = some o → G b = some o ∨ H b = none ∨ ∃ xs, o = .tup xs
section
variable {G H G1 H1 G2 H2 : Hp} {p : Addr} {o : HO}
theorem Ext.refl (s : Same G H) : Ext G H G H := ⟨Same.refl _, Same.refl _, s, fun _ _ e => .inl e⟩
theorem Ext.trans (a : Ext G H G1 H1) (b : Ext G1 H1 G2 H2) : Ext G H G2 H2 :=
  ⟨a.h.trans b.h, a.g.trans b.g, b.s, fun c o e => by
    rcases b.n c o e with e1 | e1 | e1
    · exact a.n c o e1
    · exact .inr (.inl (a.h.free e1))
    · exact .inr (.inr e1)⟩
theorem same_new (h : H p = none) : Same H (upd H p o) := fun b x e => by
  rw [upd_ne (ne_of_none e h)]
  exact e
theorem Ext.new (a : Ext G H G1 H1) (hp : H1 p = none) : Ext G H (upd G1 p o) (upd H1 p o) := by
  refine ⟨a.h.trans (same_new hp), a.g.trans (same_new (a.s.free hp)), fun b x e => ?_, fun b x e => ?_⟩
  · by_cases hb : b = p
    · subst hb
      rw [upd_same] at e ⊢
      exact e
    · rw [upd_ne hb] at e ⊢
      exact a.s _ _ e
  · by_cases hb : b = p
    · subst hb
      exact .inr (.inl (a.h.free hp))
    · rw [upd_ne hb] at e
      exact a.n _ _ e
theorem Ext.newH (a : Ext G H G1 H1) (hp : H1 p = none) : Ext G H G1 (upd H1 p o) :=
  ⟨a.h.trans (same_new hp), a.g, a.s.trans (same_new hp), a.n⟩
theorem Ext.wr (a : Ext G H G1 H1) (h0 : H p = none) (g : G1 p = none) : Ext G H G1 (upd H1 p o) := by
  refine ⟨fun b x e => ?_, a.g, fun b x e => ?_, a.n⟩
  · rw [upd_ne (ne_of_none e h0)]
    exact a.h _ _ e
  · rw [upd_ne (ne_of_none e g)]
    exact a.s _ _ e
theorem Ext.frz (a : Ext G H G1 H1) (h0 : H p = none) (e : H1 p = some o) : Ext G H (upd G1 p o) H1 := by
  refine ⟨a.h, fun b x q => ?_, fun b x q => ?_, fun b x q => ?_⟩
  · by_cases hb : b = p
    · subst hb
      rw [upd_same, ← e]
      exact a.s _ _ (a.g _ _ q)
    · rw [upd_ne hb]
      exact a.g _ _ q
  · by_cases hb : b = p
    · subst hb
      rw [upd_same] at q
      rw [e, q]
    · rw [upd_ne hb] at q
      exact a.s _ _ q
  · by_cases hb : b = p
    · subst hb
      exact .inr (.inl h0)
    · rw [upd_ne hb] at q
      exact a.n _ _ q
/-- a tuple that stands in the heap may be told of at once -/
theorem Ext.tup (a : Ext G H G1 H1) {xs : List V} (e : H1 p = some (.tup xs)) : ∃ G2, Ext G H G2 H1 ∧ Same G1 G2 ∧ G2 p = some (.tup xs) := by
  refine ⟨upd G1 p (.tup xs), ⟨a.h, fun b x q => ?_, fun b x q => ?_, fun b x q => ?_⟩, fun b x q => ?_, upd_same⟩
  · by_cases hb : b = p
    · subst hb
      rw [upd_same, ← e]
      exact a.s _ _ (a.g _ _ q)
    · rw [upd_ne hb]
      exact a.g _ _ q
  · by_cases hb : b = p
    · subst hb
      rw [upd_same] at q
      rw [e, q]
    · rw [upd_ne hb] at q
      exact a.s _ _ q
  · by_cases hb : b = p
    · subst hb
      rw [upd_same] at q
      exact .inr (.inr ⟨xs, (Option.some.inj q).symm⟩)
    · rw [upd_ne hb] at q
      exact a.n _ _ q
  · by_cases hb : b = p
    · subst hb
      rw [upd_same, ← e]
      exact a.s _ _ q
    · rw [upd_ne hb]
      exact q
/-- what is not frozen stays so -/
theorem Ext.off (a : Ext G H G1 H1) (g : G p = none) (e : H p = some o) (ht : ∀ xs, o ≠ .tup xs := by intro _ z; cases z) : G1 p = none := by
  cases q : G1 p with
  | none => rfl
  | some x =>
    rcases a.n _ _ q with z | z | ⟨xs, z⟩
    · rw [g] at z
      cases z
    · rw [e] at z
      cases z
    · have z1 := a.h _ _ e
      have z2 := a.s _ _ q
      rw [z1] at z2
      exact absurd ((Option.some.inj z2).trans z) (ht xs)
end

/-- what is tracked has its size in the line -/
def szO : HO → Nat
  | .lst xs => xs.length
  | .tup xs => xs.length
  | .dK kvs => kvs.length
  | .dT kvs => kvs.length
  | .frz _ u => szO u
  | _ => 0
def HLen (H : Hp) : Prop := ∀ a o, H a = some o → szO o ≤ sizeLine
theorem hlen_o {P : Program} {w : World} {H : Hp} {h : Heap} {a : Addr} (o : HO) (k : ObjOk P w H h a o) : szO o ≤ sizeLine := by
  induction o with
  | lst xs => exact k.1
  | tup xs => exact k.1
  | dK kvs => exact k.1
  | dT kvs => exact k.1
  | frz ob u ih => exact ih k.2
  | _ => exact Nat.zero_le _
theorem hlen {X : Cx} {pins : List (Addr × Obj)} {σ : St} {H : Hp} {s : Shared} (I : Inv X pins σ H s) : HLen H := fun a o e => hlen_o o (I.hok a o e)
theorem sql_len {K : PySem.W.Frag} {H : Hp} {a : Addr} {us : List V} (l : HLen H) (h : SqL K H a us) : us.length ≤ sizeLine := by
  rcases h with (h | ⟨o, h⟩) | ⟨o, its, n, _, _, _, _, hz, r⟩
  · exact l _ _ h
  · exact l _ _ h
  · have e := r.length
    simp only [Array.length_toList] at e
    omega

/-! ### values as data -/
class Rep (α : Type) where
  rep : PySem.W.Frag → Hp → V → α → Prop
  up : ∀ {K : PySem.W.Frag} {G G' : Hp} {v : V} {x : α}, Same G G' → rep K G v x → rep K G' v x
open Rep (rep up)
instance instRepInt : Rep Int := ⟨fun _ _ v i => v = .int i, fun _ h => h⟩
instance instRepBool : Rep Bool := ⟨fun _ _ v i => v = .bl i, fun _ h => h⟩
instance instRepStr : Rep Str := ⟨fun _ _ v i => v = .str i, fun _ h => h⟩
instance : Rep Unit := ⟨fun _ _ v _ => v = .non, fun _ h => h⟩
/-- a value of the layer, as it is (built-in classes, for one) -/
instance : Rep V := ⟨fun _ _ v i => v = i, fun _ h => h⟩
theorem pair_up {α : Type} [Rep α] {K : PySem.W.Frag} {G G' : Hp} (s : Same G G') : ∀ {vs : List V} {xs : List α}, Paired (rep K G) vs xs → Paired (rep K G') vs xs
  | _, _, .nil => .nil
  | _, _, .cons h t => .cons (up s h) (pair_up s t)
instance instRepOption {α : Type} [Rep α] : Rep (Option α) where
  rep K G v o := match o with
    | none => v = .non
    | some x => rep K G v x
  up {K G G' v x} s h := match x, h with
    | none, h => h
    | some _, h => up (α := α) s h
instance instRepList {α : Type} [Rep α] : Rep (List α) where
  rep K G v xs := ∃ a vs, v = .ref a ∧ G a = some (.lst vs) ∧ Paired (rep K G) vs xs
  up s h := let ⟨a, vs, e, g, p⟩ := h; ⟨a, vs, e, s _ _ g, pair_up s p⟩
instance instRepProd {α β : Type} [Rep α] [Rep β] : Rep (α × β) where
  rep K G v x := ∃ a u w, v = .ref a ∧ G a = some (.tup [u, w]) ∧ rep K G u x.1 ∧ rep K G w x.2
  up s h := let ⟨a, u, w, e, g, p, q⟩ := h; ⟨a, u, w, e, s _ _ g, up s p, up s q⟩
/-- the script: a list that is read alone -/
structure Scr where
  ns : List Int
instance : Rep Scr where
  rep K G v x := ∃ a, v = .ref a ∧ SqL K G a (x.ns.map V.int)
  up s h := let ⟨a, e, q⟩ := h; ⟨a, e, s.seq q⟩

theorem paired_len {α β : Type} {F : α → β → Prop} : ∀ {xs : List α} {ys : List β}, Paired F xs ys → xs.length = ys.length
  | _, _, .nil => rfl
  | _, _, .cons _ t => by rw [List.length_cons, List.length_cons, paired_len t]
theorem paired_get {α β : Type} {F : α → β → Prop} : ∀ {xs : List α} {ys : List β} {i : Nat} {y : β}, Paired F xs ys → ys[i]? = some y → ∃ x, xs[i]? = some x ∧ F x y
  | _, _, _, _, .nil, e => by simp at e
  | _, _, 0, _, .cons r _, e => by simp at e; subst e; exact ⟨_, rfl, r⟩
  | _, _, i + 1, y, .cons _ t, e => by
    obtain ⟨u, h1, h2⟩ := paired_get (i := i) (y := y) t (by simpa using e)
    exact ⟨u, by simpa using h1, h2⟩
theorem paired_get' {α β : Type} {F : α → β → Prop} : ∀ {xs : List α} {ys : List β} {i : Nat} {x : α}, Paired F xs ys → xs[i]? = some x → ∃ y, ys[i]? = some y ∧ F x y
  | _, _, _, _, .nil, e => by simp at e
  | _, _, 0, _, .cons r _, e => by simp at e; subst e; exact ⟨_, rfl, r⟩
  | _, _, i + 1, x, .cons _ t, e => by
    obtain ⟨u, h1, h2⟩ := paired_get' (i := i) (x := x) t (by simpa using e)
    exact ⟨u, by simpa using h1, h2⟩
theorem paired_app {α β : Type} {F : α → β → Prop} : ∀ {xs us : List α} {ys ws : List β}, Paired F xs ys → Paired F us ws → Paired F (xs ++ us) (ys ++ ws)
  | _, _, _, _, .nil, s => s
  | _, _, _, _, .cons r t, s => .cons r (paired_app t s)
theorem paired_take {α β : Type} {F : α → β → Prop} : ∀ (n : Nat) {xs : List α} {ys : List β}, Paired F xs ys → Paired F (xs.take n) (ys.take n)
  | 0, _, _, _ => .nil
  | _ + 1, _, _, .nil => .nil
  | n + 1, _, _, .cons r t => .cons r (paired_take n t)
theorem paired_drop {α β : Type} {F : α → β → Prop} : ∀ (n : Nat) {xs : List α} {ys : List β}, Paired F xs ys → Paired F (xs.drop n) (ys.drop n)
  | 0, _, _, h => h
  | _ + 1, _, _, .nil => .nil
  | n + 1, _, _, .cons _ t => paired_drop n t
theorem paired_ints {K : PySem.W.Frag} {G : Hp} : ∀ {vs : List V} {ns : List Int}, Paired (rep K G) vs ns → vs = ns.map V.int
  | _, _, .nil => rfl
  | _, _, .cons (h : _ = _) t => by rw [h, paired_ints t]; rfl
theorem ints_paired {K : PySem.W.Frag} {G : Hp} : ∀ (ns : List Int), Paired (rep K G) (ns.map V.int) ns
  | [] => .nil
  | _ :: r => .cons rfl (ints_paired r)

/-! ### the judgements, by what is to hold of the value -/
/-- of a value: in the frozen part, in the heap -/
abbrev PV := Hp → Hp → V → Prop
def Mono (P : PV) : Prop := ∀ G H G1 H1 v, Ext G H G1 H1 → P G H v → P G1 H1 v
/-- it is x -/
def Is {α : Type} [Rep α] (K : PySem.W.Frag) (x : α) : PV := fun G _ v => rep K G v x
/-- a list that may be read now -/
def LstAt {α : Type} [Rep α] (K : PySem.W.Frag) (xs : List α) : PV := fun G H v => ∃ a vs, v = .ref a ∧ SqL K H a vs ∧ Paired (rep K G) vs xs
theorem mono_is {α : Type} [Rep α] {K : PySem.W.Frag} {x : α} : Mono (Is K x) := fun _ _ _ _ _ x h => up x.g h
theorem mono_lst {α : Type} [Rep α] {K : PySem.W.Frag} {xs : List α} : Mono (LstAt K xs) := fun _ _ _ _ _ x ⟨a, vs, e, g, p⟩ => ⟨a, vs, e, x.h.seq g, pair_up x.g p⟩

section
variable {X : Cx}
structure tE (X : Cx) (e : Expr) (σ : St) (H : Hp) (Q : VK) : Prop where
  run : ∀ (pins : List (Addr × Obj)) (s : Shared), Inv X pins σ H s → wpAny (model X.prog X.w) X.A (eval e X.env) (EP X pins σ Q) X.xe s
structure tT (X : Cx) (e : Expr) (σ : St) (H : Hp) (Q : Bool → Hp → Prop) : Prop where
  run : ∀ (pins : List (Addr × Obj)) (s : Shared), Inv X pins σ H s → wpAny (model X.prog X.w) X.A (isTrue e X.env (eval e X.env)) (TP X pins σ Q) X.xe s
structure tW (X : Cx) (e : Expr) (σ : St) (H : Hp) (Q : Bool → Hp → Prop) : Prop where
  run : ∀ (whole : Sem Value) (pins : List (Addr × Obj)) (s : Shared), Inv X pins σ H s → wpAny (model X.prog X.w) X.A (isTrue e X.env whole) (TP X pins σ Q) X.xe s
structure tA (X : Cx) (es : List Expr) (σ : St) (H : Hp) (Q : List V → Hp → Prop) : Prop where
  run : ∀ (pos : Pos) (pins : List (Addr × Obj)) (s : Shared), Inv X pins σ H s → wpAny (model X.prog X.w) X.A (spliced (backTo pos (starEach es X.env))) (AP X pins σ Q) X.xe s
structure tS (X : Cx) (st : Stmt) (D : Ends) (σ : St) (H : Hp) : Prop where
  run : ∀ (pins : List (Addr × Obj)) (s : Shared), Inv X pins σ H s → wpAny (model X.prog X.w) X.A (exec st X.env) (SP X pins D) X.xe s
structure tSs (X : Cx) (st : List Stmt) (D : Ends) (σ : St) (H : Hp) : Prop where
  run : ∀ (pins : List (Addr × Obj)) (s : Shared), Inv X pins σ H s → wpAny (model X.prog X.w) X.A (execs st X.env) (SP X pins D) X.xe s
theorem pe_sem {e : Expr} : PE X e (tE X e) := ⟨fun pins s _ _ _ I h => h.run pins s I⟩
theorem pt_sem {e : Expr} : PT X e (tT X e) := ⟨fun pins s _ _ _ I h => h.run pins s I⟩
theorem pw_sem {e : Expr} : PW X e (tW X e) := ⟨fun wh pins s _ _ _ I h => h.run wh pins s I⟩
theorem pa_sem {es : List Expr} : PA X es (tA X es) := ⟨fun pos pins s _ _ _ I h => h.run pos pins s I⟩
theorem ps_sem {st : Stmt} : PS X st (tS X st) := ⟨fun pins s _ _ _ I h => h.run pins s I⟩
theorem pss_sem {st : List Stmt} : PSs X st (tSs X st) := ⟨fun pins s _ _ _ I h => h.run pins s I⟩
theorem tE_len {e : Expr} {σ : St} {H : Hp} {Q : VK} (h : tE X e σ H fun v H' => HLen H' → Q v H') : tE X e σ H Q := ⟨fun pins s I => thn (h.run pins s I) fun _ _ ⟨v, H', I', r, q⟩ => ⟨v, H', I', r, q (hlen I')⟩⟩
theorem tT_len {e : Expr} {σ : St} {H : Hp} {Q : Bool → Hp → Prop} (h : tT X e σ H fun v H' => HLen H' → Q v H') : tT X e σ H Q := ⟨fun pins s I => thn (h.run pins s I) fun _ _ ⟨H', I', q⟩ => ⟨H', I', q (hlen I')⟩⟩
theorem tW_len {e : Expr} {σ : St} {H : Hp} {Q : Bool → Hp → Prop} (h : tW X e σ H fun v H' => HLen H' → Q v H') : tW X e σ H Q := ⟨fun wh pins s I => thn (h.run wh pins s I) fun _ _ ⟨H', I', q⟩ => ⟨H', I', q (hlen I')⟩⟩
theorem tA_len {es : List Expr} {σ : St} {H : Hp} {Q : List V → Hp → Prop} (h : tA X es σ H fun v H' => HLen H' → Q v H') : tA X es σ H Q := ⟨fun pos pins s I => thn (h.run pos pins s I) fun _ _ ⟨v, H', I', r, q⟩ => ⟨v, H', I', r, q (hlen I')⟩⟩

theorem tE_lenF {e : Expr} {σ : St} {H : Hp} {Q : VK} (h : ∀ (pins : List (Addr × Obj)) (s : Shared), Inv X pins σ H s → wpAny (model X.prog X.w) X.A (eval e X.env) (EP X pins σ fun v H' => HLen H' → Q v H') X.xe s) : tE X e σ H Q := tE_len ⟨h⟩
theorem tT_lenF {e : Expr} {σ : St} {H : Hp} {Q : Bool → Hp → Prop} (h : ∀ (pins : List (Addr × Obj)) (s : Shared), Inv X pins σ H s → wpAny (model X.prog X.w) X.A (isTrue e X.env (eval e X.env)) (TP X pins σ fun v H' => HLen H' → Q v H') X.xe s) : tT X e σ H Q := tT_len ⟨h⟩
theorem tW_lenF {e : Expr} {σ : St} {H : Hp} {Q : Bool → Hp → Prop} (h : ∀ (whole : Sem Value) (pins : List (Addr × Obj)) (s : Shared), Inv X pins σ H s → wpAny (model X.prog X.w) X.A (isTrue e X.env whole) (TP X pins σ fun v H' => HLen H' → Q v H') X.xe s) : tW X e σ H Q := tW_len ⟨h⟩
theorem tA_lenF {es : List Expr} {σ : St} {H : Hp} {Q : List V → Hp → Prop} (h : ∀ (pos : Pos) (pins : List (Addr × Obj)) (s : Shared), Inv X pins σ H s → wpAny (model X.prog X.w) X.A (spliced (backTo pos (starEach es X.env))) (AP X pins σ fun v H' => HLen H' → Q v H') X.xe s) : tA X es σ H Q := tA_len ⟨h⟩
/-- an expression, from the world G, H on: its value is told by P -/
def EvP (X : Cx) (e : Expr) (σ : St) (G H : Hp) (P : PV) : Prop :=
  ∀ G1 H1, Ext G H G1 H1 → ∀ Q : VK, (∀ G2 H2 v, Ext G1 H1 G2 H2 → HLen H2 → P G2 H2 v → Q v H2) → tE X e σ H1 Q
/-- .. it is the datum x -/
abbrev Ev {α : Type} [Rep α] (X : Cx) (e : Expr) (σ : St) (G H : Hp) (x : α) : Prop := EvP X e σ G H (Is X.K x)
/-- .. a list that may be read -/
abbrev EvL {α : Type} [Rep α] (X : Cx) (e : Expr) (σ : St) (G H : Hp) (xs : List α) : Prop := EvP X e σ G H (LstAt X.K xs)
/-- a test -/
def EvT (X : Cx) (e : Expr) (σ : St) (G H : Hp) (b : Bool) : Prop :=
  ∀ G1 H1, Ext G H G1 H1 → ∀ Q : Bool → Hp → Prop, (∀ G2 H2, Ext G1 H1 G2 H2 → HLen H2 → Q b H2) → tT X e σ H1 Q
def EvW (X : Cx) (e : Expr) (σ : St) (G H : Hp) (b : Bool) : Prop :=
  ∀ G1 H1, Ext G H G1 H1 → ∀ Q : Bool → Hp → Prop, (∀ G2 H2, Ext G1 H1 G2 H2 → HLen H2 → Q b H2) → tW X e σ H1 Q
/-- arguments -/
def EvA (X : Cx) (es : List Expr) (σ : St) (G H : Hp) (A : Hp → Hp → List V → Prop) : Prop :=
  ∀ G1 H1, Ext G H G1 H1 → ∀ Q : List V → Hp → Prop, (∀ G2 H2 vs, Ext G1 H1 G2 H2 → HLen H2 → A G2 H2 vs → Q vs H2) → tA X es σ H1 Q

variable {σ : St} {G H G' H' : Hp} {P Pa Pb : PV} {e a b c : Expr} {es : List Expr} {pos : Pos}
theorem EvP.mono (x : Ext G H G' H') (h : EvP X e σ G H P) : EvP X e σ G' H' P := fun G1 H1 x1 Q q => h G1 H1 (x.trans x1) Q q
theorem EvT.mono {b : Bool} (x : Ext G H G' H') (h : EvT X e σ G H b) : EvT X e σ G' H' b := fun G1 H1 x1 Q q => h G1 H1 (x.trans x1) Q q
theorem EvP.imp {P' : PV} (h : EvP X e σ G H P) (k : ∀ G1 H1 v, Ext G H G1 H1 → HLen H1 → P G1 H1 v → P' G1 H1 v) : EvP X e σ G H P' := fun G1 H1 x1 Q q =>
  h G1 H1 x1 Q fun G2 H2 v x2 l p => q G2 H2 v x2 l (k G2 H2 v (x1.trans x2) l p)
theorem evP_of {t : TE} (hp : PE X e t) (k : ∀ G1 H1, Ext G H G1 H1 → ∀ Q : VK, (∀ G2 H2 v, Ext G1 H1 G2 H2 → P G2 H2 v → Q v H2) → t σ H1 Q) : EvP X e σ G H P :=
  fun G1 H1 x1 _ q => tE_lenF fun pins s I => hp.run pins s σ H1 _ I (k G1 H1 x1 _ fun G2 H2 v x2 p hl => q G2 H2 v x2 hl p)
theorem evT_of {t : TT} {b : Bool} (hp : PT X e t) (k : ∀ G1 H1, Ext G H G1 H1 → ∀ Q : Bool → Hp → Prop, (∀ G2 H2, Ext G1 H1 G2 H2 → Q b H2) → t σ H1 Q) : EvT X e σ G H b :=
  fun G1 H1 x1 _ q => tT_lenF fun pins s I => hp.run pins s σ H1 _ I (k G1 H1 x1 _ fun G2 H2 x2 hl => q G2 H2 x2 hl)
theorem evW_of {t : TT} {b : Bool} (hp : PW X e t) (k : ∀ G1 H1, Ext G H G1 H1 → ∀ Q : Bool → Hp → Prop, (∀ G2 H2, Ext G1 H1 G2 H2 → Q b H2) → t σ H1 Q) : EvW X e σ G H b :=
  fun G1 H1 x1 _ q => tW_lenF fun wh pins s I => hp.run wh pins s σ H1 _ I (k G1 H1 x1 _ fun G2 H2 x2 hl => q G2 H2 x2 hl)
theorem evA_of {t : TA} {A : Hp → Hp → List V → Prop} (hp : PA X es t) (k : ∀ G1 H1, Ext G H G1 H1 → ∀ Q : List V → Hp → Prop, (∀ G2 H2 vs, Ext G1 H1 G2 H2 → A G2 H2 vs → Q vs H2) → t σ H1 Q) : EvA X es σ G H A :=
  fun G1 H1 x1 _ q => tA_lenF fun pos pins s I => hp.run pos pins s σ H1 _ I (k G1 H1 x1 _ fun G2 H2 vs x2 p hl => q G2 H2 vs x2 hl p)
/-- the datum may be told otherwise -/
theorem Ev.to {α : Type} [Rep α] {x y : α} (h : Ev X e σ G H x) (q : x = y) : Ev X e σ G H y := q ▸ h
theorem EvT.to {x y : Bool} (h : EvT X e σ G H x) (q : x = y) : EvT X e σ G H y := q ▸ h
theorem ev_l {α : Type} [Rep α] {xs : List α} (h : Ev X e σ G H xs) : EvL X e σ G H xs := h.imp fun _ _ _ x _ ⟨a, vs, e, g, p⟩ => ⟨a, vs, e, SqL.of (x.s _ _ g), p⟩
theorem ev_scr {xs : Scr} (h : Ev X e σ G H xs) : EvL X e σ G H xs.ns := h.imp fun _ _ _ x _ ⟨a, e, g⟩ => ⟨a, _, e, x.s.seq g, ints_paired _⟩

/-! ### names, constants -/
/-- a plain name -/
structure Nm (x : Str) : Prop where
  hd : (x == ("__debug__" : Str)) = false
  hcd : (x == ("__classdict__" : Str)) = false
  hn : x ≠ "__name__"
/-- the name x stands in the i-th slot -/
structure Sl (X : Cx) (i : Nat) (x : Str) : Prop where
  hN : X.N[i]? = some x
  hv : Vis X.env.scope x
  nm : Nm x
end
end RL

namespace RL
open PySem PySem.Spec PyProof.Rows L2 Rep
class MonoC (P : PV) : Prop where
  m : Mono P
instance {α : Type} [Rep α] {K : PySem.W.Frag} {x : α} : MonoC (Is K x) := ⟨mono_is⟩
instance {α : Type} [Rep α] {K : PySem.W.Frag} {xs : List α} : MonoC (LstAt K xs) := ⟨mono_lst⟩
/-- a list, a tuple of one kind, the script: what may be read -/
def SeqAt {α : Type} [Rep α] (K : PySem.W.Frag) (xs : List α) : PV := fun G H v => ∃ a vs, v = .ref a ∧ SqL K H a vs ∧ Paired (rep K G) vs xs
/-- .. that the program made -/
def OwnAt {α : Type} [Rep α] (K : PySem.W.Frag) (xs : List α) : PV := fun G H v => ∃ a vs, v = .ref a ∧ H a = some (.lst vs) ∧ Paired (rep K G) vs xs
instance {α : Type} [Rep α] {K : PySem.W.Frag} {xs : List α} : MonoC (SeqAt K xs) := ⟨fun _ _ _ _ _ x ⟨a, vs, e, g, p⟩ => ⟨a, vs, e, x.h.seq g, pair_up x.g p⟩⟩
instance {α : Type} [Rep α] {K : PySem.W.Frag} {xs : List α} : MonoC (OwnAt K xs) := ⟨fun _ _ _ _ _ x ⟨a, vs, e, g, p⟩ => ⟨a, vs, e, x.h _ _ g, pair_up x.g p⟩⟩
/-- P tells a list that may be read -/
class AsSeq (K : PySem.W.Frag) (P : PV) (α : outParam Type) (inst : outParam (Rep α)) (xs : outParam (List α)) : Prop where
  seq : ∀ G H v, Same G H → P G H v → SeqAt K xs G H v
class AsOwn (K : PySem.W.Frag) (P : PV) (α : outParam Type) (inst : outParam (Rep α)) (xs : outParam (List α)) : Prop where
  own : ∀ G H v, Same G H → P G H v → OwnAt K xs G H v
instance {α : Type} [i : Rep α] {K : PySem.W.Frag} {xs : List α} : AsSeq K (SeqAt K xs) α i xs := ⟨fun _ _ _ _ h => h⟩
instance {α : Type} [i : Rep α] {K : PySem.W.Frag} {xs : List α} : AsOwn K (OwnAt K xs) α i xs := ⟨fun _ _ _ _ h => h⟩
instance {α : Type} [i : Rep α] {K : PySem.W.Frag} {xs : List α} : AsOwn K (Is K xs) α i xs := ⟨fun _ _ _ s ⟨a, vs, e, g, p⟩ => ⟨a, vs, e, s _ _ g, p⟩⟩
instance {α : Type} [i : Rep α] {K : PySem.W.Frag} {xs : List α} : AsSeq K (Is K xs) α i xs := ⟨fun _ _ _ s ⟨a, vs, e, g, p⟩ => ⟨a, vs, e, .of (s _ _ g), p⟩⟩
instance {α : Type} [i : Rep α] {K : PySem.W.Frag} {xs : List α} : AsSeq K (OwnAt K xs) α i xs := ⟨fun _ _ _ _ ⟨a, vs, e, g, p⟩ => ⟨a, vs, e, .of g, p⟩⟩
instance {K : PySem.W.Frag} {x : Scr} : AsSeq K (Is K x) Int instRepInt x.ns := ⟨fun _ _ _ s ⟨a, e, g⟩ => ⟨a, _, e, s.seq g, ints_paired _⟩⟩

section
variable {X : Cx} {σ : St} {G H : Hp} {P Pa Pb : PV} {e a b c : Expr} {es : List Expr} {pos : Pos}
/-! ### names, constants -/
theorem ev_vP {i : Nat} {n : Str} {p : Pos} {v : V} [m : MonoC P] (s : Sl X i n) (r : P G H v) (h : σ[i]? = some (some v) := by rfl) : EvP X (.Name n p) σ G H P :=
  evP_of (pe_var s.hN s.hv s.nm.hd s.nm.hcd) fun G1 H1 x1 Q q => ⟨v, h, q G1 H1 v (Ext.refl x1.s) (m.m _ _ _ _ _ x1 r)⟩
theorem ev_v {α : Type} [Rep α] {x : α} {i : Nat} {n : Str} {p : Pos} {v : V} (s : Sl X i n) (r : rep X.K G v x) (h : σ[i]? = some (some v) := by rfl) : Ev X (.Name n p) σ G H x := ev_vP s (P := Is X.K x) r h
theorem ev_c {v : V} {t : TE} (h : PE X e (tC v)) (r : ∀ G1 H1, Ext G H G1 H1 → P G1 H1 v) : EvP X e σ G H P := evP_of h fun G1 H1 x1 Q q => q G1 H1 v (Ext.refl x1.s) (r G1 H1 x1)
theorem ev_int {i : Int} {j p} : Ev X (.Constant (.int i) j p) σ G H i := ev_c (t := tC .non) pe_int fun _ _ _ => rfl
theorem ev_bl {i : Bool} {j p} : Ev X (.Constant (.bool i) j p) σ G H i := ev_c (t := tC .non) pe_bl fun _ _ _ => rfl
theorem ev_str {i : Str} {j p} : Ev X (.Constant (.str i) j p) σ G H i := ev_c (t := tC .non) pe_str fun _ _ _ => rfl
theorem ev_none {α : Type} [Rep α] {j p} : Ev X (.Constant .none j p) σ G H (none : Option α) := ev_c (t := tC .non) pe_non fun _ _ _ => rfl
theorem ev_unit {j p} : Ev X (.Constant .none j p) σ G H () := ev_c (t := tC .non) pe_non fun _ _ _ => rfl
theorem ev_some {α : Type} [Rep α] {x : α} (h : Ev X e σ G H x) : Ev X e σ G H (some x) := h.imp fun _ _ _ _ _ r => r
theorem ev_glob {α : Type} [Rep α] {x : α} {n : Str} {p : Pos} {v : V} {u : Value} (hg : Gl X n) (hm : X.mg n = some u) (r : RelV v u) (q : ∀ G, rep X.K G v x) (hd : (n == ("__debug__" : Str)) = false := by decide) : Ev X (.Name n p) σ G H x :=
  ev_c (t := tC .non) (pe_glob hg hm r hd) fun _ _ _ => q _
/-- a built-in class, as a value -/
theorem ev_ty {n : Str} {p : Pos} {T : String} (hg : Gl X n) (hm : X.mg n = none) (hv : bootBuiltins n = some (.type T)) (hn : n ≠ "__name__" := by decide) (hd : (n == ("__debug__" : Str)) = false := by decide) : Ev X (.Name n p) σ G H (V.ty T) :=
  ev_c (t := tC .non) (pe_bltn (v := .ty T) hg hm hv rfl hn hd) fun _ _ _ => rfl

/-! ### two operands -/
/-- f of two values, told by data -/
def Bin (X : Cx) (f : Value → Value → Sem Value) (Pa Pb P : PV) (G H : Hp) : Prop :=
  ∃ r : R2, OpR X f r ∧ ∀ G1 H1 v u, Ext G H G1 H1 → HLen H1 → Pa G1 H1 v → Pb G1 H1 u → ∀ Q : VK, (∀ G2 H2 w, Ext G1 H1 G2 H2 → P G2 H2 w → Q w H2) → r v u H1 Q
theorem bin_go {f : R2} [m : MonoC Pa] (ha : EvP X a σ G H Pa) (hb : EvP X b σ G H Pb)
    (k : ∀ G1 H1 v u, Ext G H G1 H1 → HLen H1 → Pa G1 H1 v → Pb G1 H1 u → ∀ Q : VK, (∀ G2 H2 w, Ext G1 H1 G2 H2 → P G2 H2 w → Q w H2) → f v u H1 Q) :
    ∀ G1 H1, Ext G H G1 H1 → ∀ Q : VK, (∀ G2 H2 v, Ext G1 H1 G2 H2 → P G2 H2 v → Q v H2) → tOp f (tE X a) (tE X b) σ H1 Q := fun G1 H1 x1 Q q =>
  ha G1 H1 x1 _ fun G2 H2 v x2 _ pv => hb G2 H2 (x1.trans x2) _ fun G3 H3 u x3 l3 pu => k G3 H3 v u ((x1.trans x2).trans x3) l3 (m.m _ _ _ _ _ x3 pv) pu Q fun G4 H4 w x4 pw => q G4 H4 w ((x2.trans x3).trans x4) pw
theorem ev_bin {op : Operator} [m : MonoC Pa] (k : Bin X (binaryOp op) Pa Pb P G H) (ha : EvP X a σ G H Pa) (hb : EvP X b σ G H Pb) : EvP X (.BinOp a op b pos) σ G H P :=
  let ⟨_, ho, k⟩ := k; evP_of (pe_op ho pe_sem pe_sem) (bin_go ha hb k)
theorem ev_cmp {op : CmpOp} [m : MonoC Pa] (k : Bin X (compareOp op) Pa Pb P G H) (ha : EvP X a σ G H Pa) (hb : EvP X b σ G H Pb) (hm : behindInMarks op b = false := by first | exact nomark _ | rfl) : EvP X (.Compare a [op] [b] pos) σ G H P :=
  let ⟨_, ho, k⟩ := k; evP_of (pe_cmpR ho pe_sem pe_sem hm) (bin_go ha hb k)
theorem et_cmp {op : CmpOp} {d : Bool} [m : MonoC Pa] (k : Bin X (compareOp op) Pa Pb (Is X.K d) G H) (ha : EvP X a σ G H Pa) (hb : EvP X b σ G H Pb) (hm : behindInMarks op b = false := by first | exact nomark _ | rfl) : EvT X (.Compare a [op] [b] pos) σ G H d :=
  let ⟨_, ho, k⟩ := k; evT_of (pt_cmpR ho pe_sem pe_sem hm) fun G1 H1 x1 Q q => bin_go ha hb k G1 H1 x1 _ fun G2 H2 _ x2 r => ⟨d, r, q G2 H2 x2⟩
theorem bin_I {f : Value → Value → Sem Value} {C : Int → Int → Prop} {g : Int → Int → Int} {i j : Int} (ho : OpR X f (rI C fun i j => .int (g i j))) (hc : C i j) : Bin X f (Is X.K i) (Is X.K j) (Is X.K (g i j)) G H :=
  ⟨_, ho, fun G1 H1 _ _ x _ e1 e2 _ q => ⟨i, j, e1, e2, hc, q G1 H1 _ (Ext.refl x.s) rfl⟩⟩
theorem bin_I0 {f : Value → Value → Sem Value} {g : Int → Int → Int} {i j : Int} (ho : OpR X f (rI0 fun i j => .int (g i j))) : Bin X f (Is X.K i) (Is X.K j) (Is X.K (g i j)) G H :=
  ⟨_, ho, fun G1 H1 _ _ x _ e1 e2 _ q => ⟨i, j, e1, e2, q G1 H1 _ (Ext.refl x.s) rfl⟩⟩
theorem bin_B0 {f : Value → Value → Sem Value} {g : Int → Int → Bool} {i j : Int} (ho : OpR X f (rI0 fun i j => .bl (g i j))) : Bin X f (Is X.K i) (Is X.K j) (Is X.K (g i j)) G H :=
  ⟨_, ho, fun G1 H1 _ _ x _ e1 e2 _ q => ⟨i, j, e1, e2, q G1 H1 _ (Ext.refl x.s) rfl⟩⟩
variable {i j : Int}
theorem b_add : Bin X (binaryOp .Add) (Is X.K i) (Is X.K j) (Is X.K (i + j)) G H := bin_I0 (g := fun i j => i + j) op_add
theorem b_sub : Bin X (binaryOp .Sub) (Is X.K i) (Is X.K j) (Is X.K (i - j)) G H := bin_I0 (g := fun i j => i - j) op_sub
theorem b_mul (h : CMul i j) : Bin X (binaryOp .Mult) (Is X.K i) (Is X.K j) (Is X.K (i * j)) G H := bin_I (g := fun i j => i * j) op_mul h
theorem b_mulW (h : CMulW i j) : Bin X (binaryOp .Mult) (Is X.K i) (Is X.K j) (Is X.K (i * j)) G H := bin_I (g := fun i j => i * j) op_mulW h
theorem b_div (h : CDiv i j) : Bin X (binaryOp .FloorDiv) (Is X.K i) (Is X.K j) (Is X.K (i / j)) G H := bin_I (g := fun i j => i / j) op_fdiv h
theorem b_divW (h : CDivW i j) : Bin X (binaryOp .FloorDiv) (Is X.K i) (Is X.K j) (Is X.K (i / j)) G H := bin_I (g := fun i j => i / j) op_fdivW h
theorem b_mod (h : 0 < j) : Bin X (binaryOp .Mod) (Is X.K i) (Is X.K j) (Is X.K (i % j)) G H := bin_I (g := fun i j => i % j) op_mod h
theorem b_pow (h : CPow i j) : Bin X (binaryOp .Pow) (Is X.K i) (Is X.K j) (Is X.K (i ^ j.toNat)) G H := bin_I (g := fun i j => i ^ j.toNat) op_pow h
theorem b_shr (h : 0 ≤ j) : Bin X (binaryOp .RShift) (Is X.K i) (Is X.K j) (Is X.K (i / 2 ^ j.toNat)) G H := bin_I (g := fun i j => i / 2 ^ j.toNat) op_shr h
theorem b_shl (h : CPow i j) : Bin X (binaryOp .LShift) (Is X.K i) (Is X.K j) (Is X.K (i * 2 ^ j.toNat)) G H := bin_I (g := fun i j => i * 2 ^ j.toNat) op_shl h
theorem b_and : Bin X (binaryOp .BitAnd) (Is X.K i) (Is X.K j) (Is X.K (Builtin.bitAnd i j)) G H := bin_I0 (g := fun i j => Builtin.bitAnd i j) op_and
theorem b_or : Bin X (binaryOp .BitOr) (Is X.K i) (Is X.K j) (Is X.K (Builtin.bitOr i j)) G H := bin_I0 (g := fun i j => Builtin.bitOr i j) op_or
theorem i_add : Bin X (inplaceOp .Add) (Is X.K i) (Is X.K j) (Is X.K (i + j)) G H := bin_I0 (g := fun i j => i + j) iop_add
theorem i_sub : Bin X (inplaceOp .Sub) (Is X.K i) (Is X.K j) (Is X.K (i - j)) G H := bin_I0 (g := fun i j => i - j) iop_sub
theorem c_lt : Bin X (compareOp .Lt) (Is X.K i) (Is X.K j) (Is X.K (decide (i < j))) G H := bin_B0 (g := fun i j => decide (i < j)) op_lt
theorem c_le : Bin X (compareOp .LtE) (Is X.K i) (Is X.K j) (Is X.K (decide (i ≤ j))) G H := bin_B0 (g := fun i j => decide (i ≤ j)) op_le
theorem c_gt : Bin X (compareOp .Gt) (Is X.K i) (Is X.K j) (Is X.K (decide (i > j))) G H := bin_B0 (g := fun i j => decide (i > j)) op_gt
theorem c_ge : Bin X (compareOp .GtE) (Is X.K i) (Is X.K j) (Is X.K (decide (i ≥ j))) G H := bin_B0 (g := fun i j => decide (i ≥ j)) op_ge
theorem dec_i : decide (V.int i = V.int j) = decide (i = j) := by
  by_cases h : i = j
  · rw [decide_eq_true h, decide_eq_true (congrArg V.int h)]
  · rw [decide_eq_false h, decide_eq_false fun z => h (V.int.inj z)]
theorem c_eq : Bin X (compareOp .Eq) (Is X.K i) (Is X.K j) (Is X.K (decide (i = j))) G H :=
  ⟨_, op_eq, fun G1 H1 v u x _ e1 e2 Q q => by
    rw [show v = V.int i from e1, show u = V.int j from e2]
    refine ⟨rfl, ?_⟩
    rw [dec_i]
    exact q G1 H1 _ (Ext.refl x.s) rfl⟩
theorem c_ne : Bin X (compareOp .NotEq) (Is X.K i) (Is X.K j) (Is X.K (!decide (i = j))) G H :=
  ⟨_, op_ne, fun G1 H1 v u x _ e1 e2 Q q => by
    rw [show v = V.int i from e1, show u = V.int j from e2]
    refine ⟨rfl, ?_⟩
    rw [dec_i]
    exact q G1 H1 _ (Ext.refl x.s) rfl⟩
theorem dec_b {i j : Bool} : decide (V.bl i = V.bl j) = decide (i = j) := by
  by_cases h : i = j
  · rw [decide_eq_true h, decide_eq_true (congrArg V.bl h)]
  · rw [decide_eq_false h, decide_eq_false fun z => h (V.bl.inj z)]
theorem c_eqB {i j : Bool} : Bin X (compareOp .Eq) (Is X.K i) (Is X.K j) (Is X.K (decide (i = j))) G H :=
  ⟨_, op_eq, fun G1 H1 v u x _ e1 e2 Q q => by
    rw [show v = V.bl i from e1, show u = V.bl j from e2]
    refine ⟨rfl, ?_⟩
    rw [dec_b]
    exact q G1 H1 _ (Ext.refl x.s) rfl⟩
theorem c_neB {i j : Bool} : Bin X (compareOp .NotEq) (Is X.K i) (Is X.K j) (Is X.K (!decide (i = j))) G H :=
  ⟨_, op_ne, fun G1 H1 v u x _ e1 e2 Q q => by
    rw [show v = V.bl i from e1, show u = V.bl j from e2]
    refine ⟨rfl, ?_⟩
    rw [dec_b]
    exact q G1 H1 _ (Ext.refl x.s) rfl⟩
/-- is None -/
class NonV (α : Type) [Rep α] : Prop where
  nn : ∀ {K : PySem.W.Frag} {G : Hp} {v : V} {x : α}, rep K G v x → v ≠ .non
instance : NonV Int := ⟨fun h z => by rw [show _ = V.int _ from h] at z; cases z⟩
instance : NonV Bool := ⟨fun h z => by rw [show _ = V.bl _ from h] at z; cases z⟩
instance : NonV Str := ⟨fun h z => by rw [show _ = V.str _ from h] at z; cases z⟩
instance {α : Type} [Rep α] : NonV (List α) := ⟨fun ⟨a, _, e, _⟩ z => by rw [e] at z; cases z⟩
instance {α β : Type} [Rep α] [Rep β] : NonV (α × β) := ⟨fun ⟨a, _, _, e, _⟩ z => by rw [e] at z; cases z⟩
theorem opt_non {α : Type} [Rep α] [n : NonV α] {K : PySem.W.Frag} {G : Hp} {v : V} {x : Option α} (h : rep K G v x) : decide (v = .non) = x.isNone := by
  cases x with
  | none => exact decide_eq_true h
  | some y => exact decide_eq_false (n.nn (x := y) h)
theorem c_isN {α : Type} [Rep α] [NonV α] {x : Option α} : Bin X (compareOp .Is) (Is X.K x) (Is X.K ()) (Is X.K x.isNone) G H :=
  ⟨_, op_isN, fun G1 H1 v u x _ e1 e2 Q q => ⟨e2, by rw [opt_non e1]; exact q G1 H1 _ (Ext.refl x.s) rfl⟩⟩
theorem c_notN {α : Type} [Rep α] [NonV α] {x : Option α} : Bin X (compareOp .IsNot) (Is X.K x) (Is X.K ()) (Is X.K (!x.isNone)) G H :=
  ⟨_, op_notN, fun G1 H1 v u x _ e1 e2 Q q => ⟨e2, by rw [opt_non e1]; exact q G1 H1 _ (Ext.refl x.s) rfl⟩⟩
theorem ev_neg (h : Ev X a σ G H i) : Ev X (.UnaryOp .USub a pos) σ G H (-i) :=
  evP_of (pe_un un_neg pe_sem) fun G1 H1 x1 Q q => h G1 H1 x1 _ fun G2 H2 v x2 _ r => ⟨i, r, q G2 H2 _ x2 rfl⟩

/-! ### tests -/
variable {x y : Bool}
theorem et_val (h : Ev X e σ G H x) (he : ∀ whole, isTrue e X.env whole = (do let v ← whole; standAt e.pos; holding [v] (truthy v)) := by intro _; rfl) : EvT X e σ G H x :=
  evT_of (pt_val pe_sem he) fun G1 H1 x1 Q q => h G1 H1 x1 _ fun G2 H2 _ x2 _ r => ⟨x, r, q G2 H2 x2⟩
theorem et_w (h : EvW X e σ G H x) : EvT X e σ G H x := evT_of pw_sem.pt h'
  where h' := fun G1 H1 x1 Q q => h G1 H1 x1 Q fun G2 H2 x2 _ => q G2 H2 x2
theorem et_not (h : EvT X e σ G H x) : EvT X (.UnaryOp .Not e pos) σ G H (!x) :=
  evT_of (pt_not pt_sem) fun G1 H1 x1 Q q => h G1 H1 x1 _ fun G2 H2 x2 _ => q G2 H2 x2
theorem ew_and1 (h : EvT X e σ G H x) : EvW X (.BoolOp .And [e] pos) σ G H x := evW_of (pw_and1 pt_sem) fun G1 H1 x1 Q q => h G1 H1 x1 Q fun G2 H2 x2 _ => q G2 H2 x2
theorem ew_or1 (h : EvT X e σ G H x) : EvW X (.BoolOp .Or [e] pos) σ G H x := evW_of (pw_or1 pt_sem) fun G1 H1 x1 Q q => h G1 H1 x1 Q fun G2 H2 x2 _ => q G2 H2 x2
theorem ew_and (h : EvT X a σ G H x) (k : x = true → EvW X (.BoolOp .And (b :: es) pos) σ G H y) : EvW X (.BoolOp .And (a :: b :: es) pos) σ G H (x && y) :=
  evW_of (pw_and pt_sem pw_sem) fun G1 H1 x1 Q q => h G1 H1 x1 _ fun G2 H2 x2 _ => by
    cases x with
    | true =>
      show tW X _ σ H2 Q
      exact k rfl G2 H2 (x1.trans x2) Q fun G3 H3 x3 _ => q G3 H3 (x2.trans x3)
    | false =>
      show Q false H2
      exact q G2 H2 x2
theorem ew_or (h : EvT X a σ G H x) (k : x = false → EvW X (.BoolOp .Or (b :: es) pos) σ G H y) : EvW X (.BoolOp .Or (a :: b :: es) pos) σ G H (x || y) :=
  evW_of (pw_or pt_sem pw_sem) fun G1 H1 x1 Q q => h G1 H1 x1 _ fun G2 H2 x2 _ => by
    cases x with
    | true =>
      show Q true H2
      exact q G2 H2 x2
    | false =>
      show tW X _ σ H2 Q
      exact k rfl G2 H2 (x1.trans x2) Q fun G3 H3 x3 _ => q G3 H3 (x2.trans x3)
/-- .. as values -/
theorem ev_bo1 {op} (h : Ev X e σ G H x) : Ev X (.BoolOp op [e] pos) σ G H x := evP_of (pe_one pe_sem) fun G1 H1 x1 Q q => h G1 H1 x1 Q fun G2 H2 v x2 _ => q G2 H2 v x2
theorem ev_and (h : Ev X a σ G H x) (k : x = true → Ev X (.BoolOp .And (b :: es) pos) σ G H y) : Ev X (.BoolOp .And (a :: b :: es) pos) σ G H (x && y) :=
  evP_of (pe_and pe_sem pe_sem) fun G1 H1 x1 Q q => h G1 H1 x1 _ fun G2 H2 v x2 _ r => ⟨x, r, by
    cases x with
    | true =>
      show tE X _ σ H2 Q
      exact k rfl G2 H2 (x1.trans x2) Q fun G3 H3 w x3 _ => q G3 H3 w (x2.trans x3)
    | false =>
      show Q (.bl false) H2
      exact q G2 H2 _ x2 rfl⟩
theorem ev_or (h : Ev X a σ G H x) (k : x = false → Ev X (.BoolOp .Or (b :: es) pos) σ G H y) : Ev X (.BoolOp .Or (a :: b :: es) pos) σ G H (x || y) :=
  evP_of (pe_or pe_sem pe_sem) fun G1 H1 x1 Q q => h G1 H1 x1 _ fun G2 H2 v x2 _ r => ⟨x, r, by
    cases x with
    | true =>
      show Q (.bl true) H2
      exact q G2 H2 _ x2 rfl
    | false =>
      show tE X _ σ H2 Q
      exact k rfl G2 H2 (x1.trans x2) Q fun G3 H3 w x3 _ => q G3 H3 w (x2.trans x3)⟩
theorem ev_not (h : Ev X e σ G H x) : Ev X (.UnaryOp .Not e pos) σ G H (!x) := evP_of (pe_not pe_sem) fun G1 H1 x1 Q q => h G1 H1 x1 _ fun G2 H2 v x2 _ r => ⟨x, r, q G2 H2 _ x2 rfl⟩
theorem ev_ifP (h : EvT X c σ G H x) (h1 : x = true → EvP X a σ G H P) (h2 : x = false → EvP X b σ G H P) : EvP X (.IfExp c a b pos) σ G H P :=
  evP_of (pe_ifExp pt_sem pe_sem pe_sem) fun G1 H1 x1 Q q => h G1 H1 x1 _ fun G2 H2 x2 _ => by
    cases x with
    | true =>
      show tE X a σ H2 Q
      exact h1 rfl G2 H2 (x1.trans x2) Q fun G3 H3 w x3 _ => q G3 H3 w (x2.trans x3)
    | false =>
      show tE X b σ H2 Q
      exact h2 rfl G2 H2 (x1.trans x2) Q fun G3 H3 w x3 _ => q G3 H3 w (x2.trans x3)
theorem ev_if {α : Type} [Rep α] {u w : α} (h : EvT X c σ G H x) (h1 : x = true → Ev X a σ G H u) (h2 : x = false → Ev X b σ G H w) : Ev X (.IfExp c a b pos) σ G H (if x = true then u else w) :=
  ev_ifP h (fun z => (h1 z).to (by rw [if_pos z])) (fun z => (h2 z).to (by rw [if_neg (by rw [z]; decide)]))
/-- a op1 b op2 c, of ints -/
theorem ch_go {f g : R2} {Pc : PV} [ma : MonoC Pa] [mb : MonoC Pb] (ha : EvP X a σ G H Pa) (hb : EvP X b σ G H Pb) (hc : x = true → EvP X c σ G H Pc)
    (k : ∀ G1 H1 v u, Ext G H G1 H1 → HLen H1 → Pa G1 H1 v → Pb G1 H1 u → ∀ Q : VK, (∀ G2 H2 w, Ext G1 H1 G2 H2 → Is X.K x G2 H2 w → Q w H2) → f v u H1 Q)
    (k' : ∀ G1 H1 v u, Ext G H G1 H1 → HLen H1 → Pb G1 H1 v → Pc G1 H1 u → ∀ Q : VK, (∀ G2 H2 w, Ext G1 H1 G2 H2 → Is X.K y G2 H2 w → Q w H2) → g v u H1 Q) :
    ∀ G1 H1, Ext G H G1 H1 → ∀ Q : VK, (∀ G2 H2 v, Ext G1 H1 G2 H2 → Is X.K (x && y) G2 H2 v → Q v H2) → tChain f g (tE X a) (tE X b) (tE X c) σ H1 Q := fun G1 H1 x1 Q q =>
  ha G1 H1 x1 _ fun G2 H2 v x2 _ pv => hb G2 H2 (x1.trans x2) _ fun G3 H3 u x3 l3 pu => k G3 H3 v u ((x1.trans x2).trans x3) l3 (ma.m _ _ _ _ _ x3 pv) pu _ fun G4 H4 w x4 pw => ⟨x, pw, by
    have x14 := (x1.trans x2).trans (x3.trans x4)
    cases x with
    | true =>
      show tE X c σ H4 _
      exact hc rfl G4 H4 x14 _ fun G5 H5 t x5 l5 pt => k' G5 H5 u t (x14.trans x5) l5 (mb.m _ _ _ _ _ x5 (mb.m _ _ _ _ _ x4 pu)) pt Q fun G6 H6 r x6 pr => q G6 H6 r (((x2.trans x3).trans x4).trans (x5.trans x6)) pr
    | false =>
      show Q (.bl false) H4
      exact q G4 H4 _ ((x2.trans x3).trans x4) rfl⟩
theorem ev_chain {op op' : CmpOp} {Pc : PV} [ma : MonoC Pa] [mb : MonoC Pb] (k : Bin X (compareOp op) Pa Pb (Is X.K x) G H) (k' : Bin X (compareOp op') Pb Pc (Is X.K y) G H)
    (ha : EvP X a σ G H Pa) (hb : EvP X b σ G H Pb) (hc : x = true → EvP X c σ G H Pc) (hm : lastMarks [op, op'] [b, c] = false := by with_unfolding_all rfl) : Ev X (.Compare a [op, op'] [b, c] pos) σ G H (x && y) :=
  let ⟨_, ho, k⟩ := k; let ⟨_, ho', k'⟩ := k'; evP_of (pe_chain ho ho' pe_sem pe_sem pe_sem hm) (ch_go ha hb hc k k')
theorem et_chain {op op' : CmpOp} {Pc : PV} [ma : MonoC Pa] [mb : MonoC Pb] (k : Bin X (compareOp op) Pa Pb (Is X.K x) G H) (k' : Bin X (compareOp op') Pb Pc (Is X.K y) G H)
    (ha : EvP X a σ G H Pa) (hb : EvP X b σ G H Pb) (hc : x = true → EvP X c σ G H Pc) (hm : lastMarks [op, op'] [b, c] = false := by with_unfolding_all rfl) : EvT X (.Compare a [op, op'] [b, c] pos) σ G H (x && y) :=
  let ⟨_, ho, k⟩ := k; let ⟨_, ho', k'⟩ := k'; evT_of (pt_chain ho ho' pe_sem pe_sem pe_sem hm) fun G1 H1 x1 Q q => ch_go ha hb hc k k' G1 H1 x1 _ fun G2 H2 _ x2 r => ⟨_, r, q G2 H2 x2⟩

/-! ### arguments, displays -/
theorem ea_nil : EvA X [] σ G H (fun _ _ vs => vs = []) := evA_of pa_nil fun G1 H1 x1 Q q => q G1 H1 [] (Ext.refl x1.s) rfl
def ACons (P : PV) (A : Hp → Hp → List V → Prop) : Hp → Hp → List V → Prop := fun G H vs => ∃ v r, vs = v :: r ∧ P G H v ∧ A G H r
theorem ea_cons {A : Hp → Hp → List V → Prop} [m : MonoC P] (h : EvP X e σ G H P) (hr : EvA X es σ G H A) (hs : starEach (e :: es) X.env = (false, eval e X.env) :: starEach es X.env := by rfl) : EvA X (e :: es) σ G H (ACons P A) :=
  evA_of (pa_cons pe_sem pa_sem hs) fun G1 H1 x1 Q q => h G1 H1 x1 _ fun G2 H2 v x2 _ pv => hr G2 H2 (x1.trans x2) _ fun G3 H3 vs x3 _ pa => q G3 H3 _ (x2.trans x3) ⟨v, vs, rfl, m.m _ _ _ _ _ x3 pv, pa⟩
/-- items of one kind -/
def AAll {α : Type} [Rep α] (K : PySem.W.Frag) (xs : List α) : Hp → Hp → List V → Prop := fun G _ vs => Paired (rep K G) vs xs
theorem es_nil {α : Type} [Rep α] : EvA X [] σ G H (AAll X.K ([] : List α)) := evA_of pa_nil fun G1 H1 x1 Q q => q G1 H1 [] (Ext.refl x1.s) .nil
theorem es_cons {α : Type} [Rep α] {x : α} {xs : List α} (h : Ev X e σ G H x) (hr : EvA X es σ G H (AAll X.K xs)) (hs : starEach (e :: es) X.env = (false, eval e X.env) :: starEach es X.env := by rfl) : EvA X (e :: es) σ G H (AAll X.K (x :: xs)) :=
  evA_of (pa_cons pe_sem pa_sem hs) fun G1 H1 x1 Q q => h G1 H1 x1 _ fun G2 H2 v x2 _ pv => hr G2 H2 (x1.trans x2) _ fun G3 H3 vs x3 _ pa => q G3 H3 _ (x2.trans x3) (.cons (up x3.g pv) pa)
/-- it is x, and new -/
theorem frz_new {G H G1 H1 : Hp} {p : Addr} {o : HO} (x : Ext G H G1 H1) (hp : H1 p = none) : (upd G1 p o) p = some o := upd_same
theorem ev_list {α : Type} [Rep α] {xs : List α} (h : EvA X es σ G H (AAll X.K xs)) (hl : xs.length ≤ 1000 := by exact Nat.le_of_ble_eq_true rfl) : Ev X (.List es pos) σ G H xs :=
  evP_of (pe_lst pa_sem) fun G1 H1 x1 Q q => h G1 H1 x1 _ fun G2 H2 vs x2 _ pa => ⟨by rw [paired_len pa]; exact Nat.le_of_lt (small1000 hl), fun p hp =>
    q (upd G2 p (.lst vs)) _ _ (x2.new hp) ⟨p, vs, rfl, upd_same, pair_up (same_new (x2.s.free hp)) pa⟩⟩
theorem ev_tup {α β : Type} [Rep α] [Rep β] {x : α} {y : β} {k : Nat} (ha : Ev X a σ G H x) (hb : Ev X b σ G H y) (hs : starEach [a, b] X.env = (false, eval a X.env) :: starEach [b] X.env := by rfl) (hs' : starEach [b] X.env = (false, eval b X.env) :: starEach [] X.env := by rfl) :
    Ev X (.Tuple [a, b] k pos) σ G H (x, y) :=
  evP_of (pe_tup (pa_cons pe_sem (pa_cons pe_sem pa_nil hs') hs)) fun G1 H1 x1 Q q => ha G1 H1 x1 _ fun G2 H2 v x2 _ pv => hb G2 H2 (x1.trans x2) _ fun G3 H3 u x3 _ pu =>
    ⟨by show 2 ≤ sizeLine; decide, fun p hp => q (upd G3 p (.tup [v, u])) _ _ ((x2.trans x3).new hp) ⟨p, v, u, rfl, upd_same, up (same_new (x3.s.free hp)) (up x3.g pv), up (same_new (x3.s.free hp)) pu⟩⟩

/-! ### calls -/
/-- a def of the text that keeps its promise -/
structure Cal (P : Program) (w : World) (K : PySem.W.Frag) (mg : Str → Option Value) (base : Heap) (k : Nat) (x : Str) (sp : Sp) : Prop where
  ex : ∃ (f : Addr) (fd : FuncData) (ps : List Str), FnOk P w K mg base (L2.CX P w) k f fd ps sp ∧ mg x = some (.ref f) ∧ PySem.W.keepIn K (.ref f) = true ∧ Binds K fd ps []
theorem ev_call {k : Nat} {n : Str} {p : Pos} {sp : Sp} {A : Hp → Hp → List V → Prop} (C : Cal X.prog X.w X.K X.mg X.base k n sp) (hr : Room k X.A) (hg : Gl X n) (ha : EvA X (e :: es) σ G H A)
    (h : ∀ G1 H1 vs, Ext G H G1 H1 → HLen H1 → A G1 H1 vs → ∀ Q : VK, (∀ G2 H2 v, Ext G1 H1 G2 H2 → P G2 H2 v → Q v H2) → sp vs H1 Q E0) (hdb : (n == ("__debug__" : Str)) = false := by decide)
    (he : starEach (e :: es) X.env = (false, eval e X.env) :: starEach es X.env := by rfl) (hpl : (backTo pos (starEach es X.env)).any (·.1) = false := by rfl) : EvP X (.Call (.Name n p) (e :: es) [] pos) σ G H P := by
  obtain ⟨f, fd, ps, F, hm, hk, hb⟩ := C.ex
  exact evP_of (pe_call F hr hg hm hk hb .nil passL pa_sem hdb he hpl) fun G1 H1 x1 Q q => ha G1 H1 x1 _ fun G2 H2 vs x2 l2 pa => by
    show sp (vs ++ []) H2 Q E0
    rw [List.append_nil]
    exact h G2 H2 vs (x1.trans x2) l2 pa Q fun G3 H3 v x3 r => q G3 H3 v (x2.trans x3) r
/-- what is new, behind H -/
def New (H : Hp) (v : V) : Prop := ∀ p, v = .ref p → H p = none
section sps
variable {α β γ δ ε ζ : Type} [Rep α] [Rep β] [Rep γ] [Rep δ] [Rep ε] [Rep ζ]
/-- a def of one, two, .. arguments that hands back f of them; fr: a new object -/
def Sp1 (K : PySem.W.Frag) (fr : Bool) (pre : α → Prop) (f : α → ζ) : Sp := fun vs H Q _ => ∃ (G : Hp) (v1 : V) (x1 : α), vs = [v1] ∧ Same G H ∧ rep K G v1 x1 ∧ pre x1 ∧
  ∀ G2 H2 w, Ext G H G2 H2 → rep K G2 w (f x1) → (fr = true → New H w) → Q w H2
def Sp2 (K : PySem.W.Frag) (fr : Bool) (pre : α → β → Prop) (f : α → β → ζ) : Sp := fun vs H Q _ => ∃ (G : Hp) (v1 v2 : V) (x1 : α) (x2 : β), vs = [v1, v2] ∧ Same G H ∧ rep K G v1 x1 ∧ rep K G v2 x2 ∧ pre x1 x2 ∧
  ∀ G2 H2 w, Ext G H G2 H2 → rep K G2 w (f x1 x2) → (fr = true → New H w) → Q w H2
def Sp3 (K : PySem.W.Frag) (fr : Bool) (pre : α → β → γ → Prop) (f : α → β → γ → ζ) : Sp := fun vs H Q _ => ∃ (G : Hp) (v1 v2 v3 : V) (x1 : α) (x2 : β) (x3 : γ), vs = [v1, v2, v3] ∧ Same G H ∧ rep K G v1 x1 ∧ rep K G v2 x2 ∧ rep K G v3 x3 ∧ pre x1 x2 x3 ∧
  ∀ G2 H2 w, Ext G H G2 H2 → rep K G2 w (f x1 x2 x3) → (fr = true → New H w) → Q w H2
def Sp4 (K : PySem.W.Frag) (fr : Bool) (pre : α → β → γ → δ → Prop) (f : α → β → γ → δ → ζ) : Sp := fun vs H Q _ => ∃ (G : Hp) (v1 v2 v3 v4 : V) (x1 : α) (x2 : β) (x3 : γ) (x4 : δ), vs = [v1, v2, v3, v4] ∧ Same G H ∧ rep K G v1 x1 ∧ rep K G v2 x2 ∧ rep K G v3 x3 ∧ rep K G v4 x4 ∧ pre x1 x2 x3 x4 ∧
  ∀ G2 H2 w, Ext G H G2 H2 → rep K G2 w (f x1 x2 x3 x4) → (fr = true → New H w) → Q w H2
def Sp5 (K : PySem.W.Frag) (fr : Bool) (pre : α → β → γ → δ → ε → Prop) (f : α → β → γ → δ → ε → ζ) : Sp := fun vs H Q _ => ∃ (G : Hp) (v1 v2 v3 v4 v5 : V) (x1 : α) (x2 : β) (x3 : γ) (x4 : δ) (x5 : ε), vs = [v1, v2, v3, v4, v5] ∧ Same G H ∧ rep K G v1 x1 ∧ rep K G v2 x2 ∧ rep K G v3 x3 ∧ rep K G v4 x4 ∧ rep K G v5 x5 ∧ pre x1 x2 x3 x4 x5 ∧
  ∀ G2 H2 w, Ext G H G2 H2 → rep K G2 w (f x1 x2 x3 x4 x5) → (fr = true → New H w) → Q w H2
variable {k : Nat} {n : Str} {p : Pos} {fr : Bool} {e1 e2 e3 e4 e5 : Expr} {x1 : α} {x2 : β} {x3 : γ} {x4 : δ} {x5 : ε}
theorem ev_c1 {pre : α → Prop} {f : α → ζ} (C : Cal X.prog X.w X.K X.mg X.base k n (Sp1 X.K fr pre f)) (hr : Room k X.A) (hg : Gl X n) (h1 : Ev X e1 σ G H x1) (hp : pre x1) (hdb : (n == ("__debug__" : Str)) = false := by decide)
    (he : starEach [e1] X.env = (false, eval e1 X.env) :: starEach [] X.env := by rfl) : Ev X (.Call (.Name n p) [e1] [] pos) σ G H (f x1) :=
  ev_call C hr hg (ea_cons h1 ea_nil he) (fun G1 H1 vs x l ⟨v, r, e, rv, e'⟩ Q q => ⟨G1, v, x1, by rw [e, e'], x.s, rv, hp, fun G2 H2 w x r _ => q G2 H2 w x r⟩) hdb he rfl
theorem ev_c2 {pre : α → β → Prop} {f : α → β → ζ} (C : Cal X.prog X.w X.K X.mg X.base k n (Sp2 X.K fr pre f)) (hr : Room k X.A) (hg : Gl X n) (h1 : Ev X e1 σ G H x1) (h2 : Ev X e2 σ G H x2) (hp : pre x1 x2) (hdb : (n == ("__debug__" : Str)) = false := by decide)
    (he : starEach [e1, e2] X.env = (false, eval e1 X.env) :: starEach [e2] X.env := by rfl) (he2 : starEach [e2] X.env = (false, eval e2 X.env) :: starEach [] X.env := by rfl) (hpl : (backTo pos (starEach [e2] X.env)).any (·.1) = false := by rfl) : Ev X (.Call (.Name n p) [e1, e2] [] pos) σ G H (f x1 x2) :=
  ev_call C hr hg (ea_cons h1 (ea_cons h2 ea_nil he2) he) (fun G1 H1 vs x l ⟨v, r, e, rv, v2, r2, e', rv2, e''⟩ Q q => ⟨G1, v, v2, x1, x2, by rw [e, e', e''], x.s, rv, rv2, hp, fun G2 H2 w x r _ => q G2 H2 w x r⟩) hdb he hpl
theorem ev_c3 {pre : α → β → γ → Prop} {f : α → β → γ → ζ} (C : Cal X.prog X.w X.K X.mg X.base k n (Sp3 X.K fr pre f)) (hr : Room k X.A) (hg : Gl X n) (h1 : Ev X e1 σ G H x1) (h2 : Ev X e2 σ G H x2) (h3 : Ev X e3 σ G H x3) (hp : pre x1 x2 x3) (hdb : (n == ("__debug__" : Str)) = false := by decide)
    (he : starEach [e1, e2, e3] X.env = (false, eval e1 X.env) :: starEach [e2, e3] X.env := by rfl) (he2 : starEach [e2, e3] X.env = (false, eval e2 X.env) :: starEach [e3] X.env := by rfl) (he3 : starEach [e3] X.env = (false, eval e3 X.env) :: starEach [] X.env := by rfl) (hpl : (backTo pos (starEach [e2, e3] X.env)).any (·.1) = false := by rfl) : Ev X (.Call (.Name n p) [e1, e2, e3] [] pos) σ G H (f x1 x2 x3) :=
  ev_call C hr hg (ea_cons h1 (ea_cons h2 (ea_cons h3 ea_nil he3) he2) he) (fun G1 H1 vs x l ⟨v, r, e, rv, v2, r2, e', rv2, v3, r3, e'', rv3, e'''⟩ Q q => ⟨G1, v, v2, v3, x1, x2, x3, by rw [e, e', e'', e'''], x.s, rv, rv2, rv3, hp, fun G2 H2 w x r _ => q G2 H2 w x r⟩) hdb he hpl
theorem ev_c4 {pre : α → β → γ → δ → Prop} {f : α → β → γ → δ → ζ} (C : Cal X.prog X.w X.K X.mg X.base k n (Sp4 X.K fr pre f)) (hr : Room k X.A) (hg : Gl X n) (h1 : Ev X e1 σ G H x1) (h2 : Ev X e2 σ G H x2) (h3 : Ev X e3 σ G H x3) (h4 : Ev X e4 σ G H x4) (hp : pre x1 x2 x3 x4) (hdb : (n == ("__debug__" : Str)) = false := by decide)
    (he : starEach [e1, e2, e3, e4] X.env = (false, eval e1 X.env) :: starEach [e2, e3, e4] X.env := by rfl) (he2 : starEach [e2, e3, e4] X.env = (false, eval e2 X.env) :: starEach [e3, e4] X.env := by rfl) (he3 : starEach [e3, e4] X.env = (false, eval e3 X.env) :: starEach [e4] X.env := by rfl) (he4 : starEach [e4] X.env = (false, eval e4 X.env) :: starEach [] X.env := by rfl) (hpl : (backTo pos (starEach [e2, e3, e4] X.env)).any (·.1) = false := by rfl) : Ev X (.Call (.Name n p) [e1, e2, e3, e4] [] pos) σ G H (f x1 x2 x3 x4) :=
  ev_call C hr hg (ea_cons h1 (ea_cons h2 (ea_cons h3 (ea_cons h4 ea_nil he4) he3) he2) he) (fun G1 H1 vs x l ⟨v, r, e, rv, v2, r2, e', rv2, v3, r3, e'', rv3, v4, r4, e3', rv4, e4'⟩ Q q => ⟨G1, v, v2, v3, v4, x1, x2, x3, x4, by rw [e, e', e'', e3', e4'], x.s, rv, rv2, rv3, rv4, hp, fun G2 H2 w x r _ => q G2 H2 w x r⟩) hdb he hpl
end sps
/-- a built-in by name -/
theorem ev_callB {id : String} {r : List V → Hp → VK → Prop} {n : Str} {p : Pos} {A : Hp → Hp → List V → Prop} (hc : CallR X (.builtin id) r) (hg : Gl X n) (hm : X.mg n = none) (hv : bootBuiltins n = some (.builtin id)) (ha : EvA X (e :: es) σ G H A)
    (k : ∀ G1 H1 vs, Ext G H G1 H1 → HLen H1 → A G1 H1 vs → ∀ Q : VK, (∀ G2 H2 w, Ext G1 H1 G2 H2 → P G2 H2 w → Q w H2) → r vs H1 Q)
    (hn : n ≠ "__name__" := by decide) (hdb : (n == ("__debug__" : Str)) = false := by decide) (he : starEach (e :: es) X.env = (false, eval e X.env) :: starEach es X.env := by rfl) (hpl : (backTo pos (starEach es X.env)).any (·.1) = false := by rfl) : EvP X (.Call (.Name n p) (e :: es) [] pos) σ G H P :=
  evP_of (pe_callB hc hg hm hv pa_sem hn hdb he hpl) fun G1 H1 x1 Q q => ha G1 H1 x1 _ fun G2 H2 vs x2 l2 pa => k G2 H2 vs (x1.trans x2) l2 pa Q fun G3 H3 w x3 pw => q G3 H3 w (x2.trans x3) pw
theorem ev_callTy {T : String} {r : List V → Hp → VK → Prop} {n : Str} {p : Pos} {A : Hp → Hp → List V → Prop} (hc : CallR X (.type T) r) (hg : Gl X n) (hm : X.mg n = none) (hv : bootBuiltins n = some (.type T)) (ha : EvA X (e :: es) σ G H A)
    (k : ∀ G1 H1 vs, Ext G H G1 H1 → HLen H1 → A G1 H1 vs → ∀ Q : VK, (∀ G2 H2 w, Ext G1 H1 G2 H2 → P G2 H2 w → Q w H2) → r vs H1 Q)
    (hn : n ≠ "__name__" := by decide) (hdb : (n == ("__debug__" : Str)) = false := by decide) (he : starEach (e :: es) X.env = (false, eval e X.env) :: starEach es X.env := by rfl) (hpl : (backTo pos (starEach es X.env)).any (·.1) = false := by rfl) : EvP X (.Call (.Name n p) (e :: es) [] pos) σ G H P :=
  evP_of (pe_callTy hc hg hm hv pa_sem hn hdb he hpl) fun G1 H1 x1 Q q => ha G1 H1 x1 _ fun G2 H2 vs x2 l2 pa => k G2 H2 vs (x1.trans x2) l2 pa Q fun G3 H3 w x3 pw => q G3 H3 w (x2.trans x3) pw
/-- a name that is the built-in still -/
structure Bl (X : Cx) (n : Str) : Prop where
  g : Gl X n
  m : X.mg n = none
variable {p : Pos}
theorem ev_len {α : Type} {inst : Rep α} {xs : List α} [MonoC P] [s : AsSeq X.K P α inst xs] (B : Bl X "len") (h : EvP X e σ G H P) (he : starEach [e] X.env = (false, eval e X.env) :: starEach [] X.env := by rfl) : Ev X (.Call (.Name "len" p) [e] [] pos) σ G H (xs.length : Int) :=
  ev_callB call_len_seq B.g B.m PySem.boot_len (ea_cons h ea_nil he) (fun G1 H1 vs x l ⟨v, r, e1, pv, e2⟩ Q q => by
    obtain ⟨a, us, e, g, pr⟩ := s.seq _ _ _ x.s pv
    exact ⟨a, us, by rw [e1, e2, e], .inl g, q G1 H1 _ (Ext.refl x.s) (by rw [paired_len pr]; rfl)⟩) (by decide) (by decide) he rfl
theorem ev_max (B : Bl X "max") (hc : X.calm = true) (h1 : Ev X a σ G H i) (h2 : Ev X b σ G H j) (he : starEach [a, b] X.env = (false, eval a X.env) :: starEach [b] X.env := by rfl) (he2 : starEach [b] X.env = (false, eval b X.env) :: starEach [] X.env := by rfl)
    (hpl : (backTo pos (starEach [b] X.env)).any (·.1) = false := by rfl) : Ev X (.Call (.Name "max" p) [a, b] [] pos) σ G H (if j > i then j else i) :=
  ev_callB (call_max2 hc) B.g B.m boot_max (ea_cons h1 (ea_cons h2 ea_nil he2) he) (fun G1 H1 vs x l ⟨v, r, e1, pv, v2, r2, e2, pv2, e3⟩ Q q =>
    ⟨i, j, by rw [e1, e2, e3, show v = _ from pv, show v2 = _ from pv2], q G1 H1 _ (Ext.refl x.s) rfl⟩) (by decide) (by decide) he hpl
theorem ev_min (B : Bl X "min") (hc : X.calm = true) (h1 : Ev X a σ G H i) (h2 : Ev X b σ G H j) (he : starEach [a, b] X.env = (false, eval a X.env) :: starEach [b] X.env := by rfl) (he2 : starEach [b] X.env = (false, eval b X.env) :: starEach [] X.env := by rfl)
    (hpl : (backTo pos (starEach [b] X.env)).any (·.1) = false := by rfl) : Ev X (.Call (.Name "min" p) [a, b] [] pos) σ G H (if j < i then j else i) :=
  ev_callB (call_min2 hc) B.g B.m boot_min (ea_cons h1 (ea_cons h2 ea_nil he2) he) (fun G1 H1 vs x l ⟨v, r, e1, pv, v2, r2, e2, pv2, e3⟩ Q q =>
    ⟨i, j, by rw [e1, e2, e3, show v = _ from pv, show v2 = _ from pv2], q G1 H1 _ (Ext.refl x.s) rfl⟩) (by decide) (by decide) he hpl
theorem ev_sum {xs : List Int} [MonoC P] [s : AsSeq X.K P Int instRepInt xs] (B : Bl X "sum") (hc : X.calm = true) (h : EvP X e σ G H P) (he : starEach [e] X.env = (false, eval e X.env) :: starEach [] X.env := by rfl) : Ev X (.Call (.Name "sum" p) [e] [] pos) σ G H xs.sum :=
  ev_callB (cr_sum hc) B.g B.m boot_sum (ea_cons h ea_nil he) (fun G1 H1 vs x l ⟨v, r, e1, pv, e2⟩ Q q => by
    obtain ⟨a, us, e, g, pr⟩ := s.seq _ _ _ x.s pv
    rw [paired_ints pr] at g
    exact ⟨a, xs, by rw [e1, e2, e], g, q G1 H1 _ (Ext.refl x.s) rfl⟩) (by decide) (by decide) he rfl
/-- list(xs): a copy -/
theorem ev_copy {α : Type} {inst : Rep α} {xs : List α} [MonoC P] [s : AsSeq X.K P α inst xs] (B : Bl X "list") (h : EvP X e σ G H P) (he : starEach [e] X.env = (false, eval e X.env) :: starEach [] X.env := by rfl) : Ev X (.Call (.Name "list" p) [e] [] pos) σ G H xs :=
  ev_callTy call_list_of B.g B.m PyProof.Rows.boot_list (ea_cons h ea_nil he) (fun G1 H1 vs x l ⟨v, r, e1, pv, e2⟩ Q q => by
    obtain ⟨a, us, e, g, pr⟩ := s.seq _ _ _ x.s pv
    exact ⟨a, us, by rw [e1, e2, e], .inl g, fun p hp => q (upd G1 p (.lst us)) _ _ ((Ext.refl x.s).new hp) ⟨p, us, rfl, upd_same, pair_up (same_new (x.s.free hp)) pr⟩⟩) (by decide) (by decide) he rfl
theorem ev_intB (B : Bl X "int") (h : Ev X e σ G H x) (he : starEach [e] X.env = (false, eval e X.env) :: starEach [] X.env := by rfl) : Ev X (.Call (.Name "int" p) [e] [] pos) σ G H (if x = true then 1 else 0 : Int) :=
  ev_callTy call_int1 B.g B.m PyProof.Rows.boot_int (ea_cons h ea_nil he) (fun G1 H1 vs y l ⟨v, r, e1, pv, e2⟩ Q q => .inr ⟨x, by rw [e1, e2, show v = _ from pv], q G1 H1 _ (Ext.refl y.s) rfl⟩) (by decide) (by decide) he rfl

/-! ### lists -/
theorem b_cat {α : Type} {ia : Rep α} {xs ys : List α} [sa : AsOwn X.K Pa α ia xs] [sb : AsOwn X.K Pb α ia ys] (hl : xs.length + ys.length ≤ sizeLine) : Bin X (binaryOp .Add) Pa Pb (Is X.K (xs ++ ys)) G H :=
  ⟨_, op_cat, fun G1 H1 v u x _ h1 h2 Q q => by
    obtain ⟨a, us, e, g, pr⟩ := sa.own _ _ _ x.s h1
    obtain ⟨a2, us2, e2, g2, pr2⟩ := sb.own _ _ _ x.s h2
    exact ⟨a, a2, us, us2, e, e2, g, g2, by rw [paired_len pr, paired_len pr2]; exact hl, fun p hp => q (upd G1 p (.lst (us ++ us2))) _ _ ((Ext.refl x.s).new hp) ⟨p, _, rfl, upd_same, pair_up (same_new (x.s.free hp)) (paired_app pr pr2)⟩⟩⟩
theorem b_rep {α : Type} {ia : Rep α} {xs : List α} {k : Int} [sa : AsOwn X.K Pa α ia xs] (h1 : -(2 ^ 63) ≤ k) (h2 : k < 2 ^ 63) (hl : xs.length * k.toNat ≤ sizeLine) : Bin X (binaryOp .Mult) Pa (Is X.K k) (Is X.K (List.replicate k.toNat xs).flatten) G H :=
  ⟨_, op_rep, fun G1 H1 v u x _ e1 e2 Q q => by
    obtain ⟨a, us, e, g, pr⟩ := sa.own _ _ _ x.s e1
    refine ⟨a, k, us, e, e2, g, h1, h2, by rw [paired_len pr]; exact hl, fun p hp => q (upd G1 p (.lst _)) _ _ ((Ext.refl x.s).new hp) ⟨p, _, rfl, upd_same, pair_up (same_new (x.s.free hp)) ?_⟩⟩
    have z : ∀ n : Nat, Paired (rep X.K G1) (List.replicate n us).flatten (List.replicate n xs).flatten := fun n => by
      induction n with
      | zero => exact .nil
      | succ n ih =>
        rw [List.replicate_succ, List.replicate_succ, List.flatten_cons, List.flatten_cons]
        exact paired_app pr ih
    exact z _⟩
theorem ixN_of {n : Nat} {i : Int} (h0 : 0 ≤ i) (h1 : i < n) : ixN n i = some i.toNat := by
  unfold ixN
  rw [if_pos h0, if_pos h1]
theorem ixN_neg {n : Nat} {i : Int} (h0 : i < 0) (h1 : -(n : Int) ≤ i) : ixN n i = some (i + n).toNat := by
  unfold ixN
  rw [if_neg (by omega), if_pos h1]
theorem ixN_lt {n : Nat} {i : Int} {j : Nat} (h : ixN n i = some j) : j < n := (ixN_seq h).2.1
theorem ev_ixN {α : Type} {inst : Rep α} {xs : List α} [MonoC P] [s : AsSeq X.K P α inst xs] (d : α) {j : Nat} (h : EvP X a σ G H P) (hi : Ev X b σ G H i) (hj : ixN xs.length i = some j) (hs : PlainIx b := by intro _ _; rfl) : Ev X (.Subscript a b pos) σ G H (xs.getD j d) :=
  evP_of (pe_ix ix_list pe_sem pe_sem hs) (bin_go h hi fun G1 H1 v u x _ e1 e2 Q q => by
    obtain ⟨a, us, e, g, pr⟩ := s.seq _ _ _ x.s e1
    have hlt := ixN_lt hj
    have hg : xs[j]? = some (xs.getD j d) := by
      rw [List.getD_eq_getElem?_getD, List.getElem?_eq_getElem hlt]
      rfl
    obtain ⟨w, hw, rw'⟩ := paired_get pr hg
    refine ⟨a, us, i, w, e, e2, g, ?_, q G1 H1 w (Ext.refl x.s) rw'⟩
    unfold atI
    rw [paired_len pr, hj]
    exact hw)
theorem ev_ix {α : Type} {inst : Rep α} {xs : List α} [MonoC P] [s : AsSeq X.K P α inst xs] (d : α) (h : EvP X a σ G H P) (hi : Ev X b σ G H i) (h0 : 0 ≤ i) (h1 : i < (xs.length : Int)) (hs : PlainIx b := by intro _ _; rfl) : Ev X (.Subscript a b pos) σ G H (xs.getD i.toNat d) := ev_ixN d h hi (ixN_of h0 h1) hs
/-- t[0], t[1] of a pair -/
theorem ev_fst {α β : Type} [Rep α] [Rep β] {x : α × β} (h : Ev X a σ G H x) (hi : Ev X b σ G H (0 : Int)) (hs : PlainIx b := by intro _ _; rfl) : Ev X (.Subscript a b pos) σ G H x.1 :=
  evP_of (pe_ix ix_tup pe_sem pe_sem hs) (bin_go h hi fun G1 H1 v u y _ e1 e2 Q q => by
    obtain ⟨a, u1, w, e, g, p1, p2⟩ := e1
    exact ⟨a, _, 0, u1, e, e2, SqT.of (y.s _ _ g), rfl, q G1 H1 _ (Ext.refl y.s) p1⟩)
theorem ev_snd {α β : Type} [Rep α] [Rep β] {x : α × β} (h : Ev X a σ G H x) (hi : Ev X b σ G H (1 : Int)) (hs : PlainIx b := by intro _ _; rfl) : Ev X (.Subscript a b pos) σ G H x.2 :=
  evP_of (pe_ix ix_tup pe_sem pe_sem hs) (bin_go h hi fun G1 H1 v u y _ e1 e2 Q q => by
    obtain ⟨a, u1, w, e, g, p1, p2⟩ := e1
    exact ⟨a, _, 1, w, e, e2, SqT.of (y.s _ _ g), rfl, q G1 H1 _ (Ext.refl y.s) p2⟩)
/-- a slice's part -/
def EvO (X : Cx) (e : Option Expr) (σ : St) (G H : Hp) (o : Option Int) : Prop := ∃ t, PO X e t ∧ ∀ G1 H1, Ext G H G1 H1 → ∀ Q : Option Int → Hp → Prop, (∀ G2 H2, Ext G1 H1 G2 H2 → Q o H2) → t σ H1 Q
theorem eo_none : EvO X none σ G H none := ⟨_, po_none, fun G1 H1 x1 Q q => q G1 H1 (Ext.refl x1.s)⟩
theorem eo_some (h : Ev X e σ G H i) : EvO X (some e) σ G H (some i) := ⟨_, po_some pe_sem, fun G1 H1 x1 Q q => h G1 H1 x1 _ fun G2 H2 v x2 _ r => ⟨i, r, q G2 H2 x2⟩⟩
def cut {α : Type} (xs : List α) (lo hi : Option Int) : List α := (xs.drop (HT.sIx xs.length 0 lo)).take (HT.sIx xs.length xs.length hi - HT.sIx xs.length 0 lo)
theorem cut_le {α : Type} (xs : List α) (lo hi : Option Int) : (cut xs lo hi).length ≤ xs.length := by
  unfold cut
  rw [List.length_take, List.length_drop]
  omega
theorem getD_bd {xs : List Int} {d lo hi : Int} (i : Nat) (h : ∀ x ∈ xs, lo ≤ x ∧ x ≤ hi) (hd : lo ≤ d ∧ d ≤ hi) : lo ≤ xs.getD i d ∧ xs.getD i d ≤ hi := by
  rw [List.getD_eq_getElem?_getD]
  cases e : xs[i]? with
  | none => exact hd
  | some y => exact h y (List.mem_of_getElem? e)
theorem getD_bd' {xs : List Int} {d lo hi : Int} {i : Nat} (hl : i < xs.length) (h : ∀ x ∈ xs, lo ≤ x ∧ x ≤ hi) : lo ≤ xs.getD i d ∧ xs.getD i d ≤ hi := by
  rw [List.getD_eq_getElem?_getD, List.getElem?_eq_getElem hl]
  exact h _ (List.getElem_mem hl)
theorem paired_cut {α : Type} {F : V → α → Prop} {vs : List V} {xs : List α} {lo hi : Option Int} (h : Paired F vs xs) : Paired F (cutV vs lo hi) (cut xs lo hi) := by
  unfold cutV cut
  rw [paired_len h]
  exact paired_take _ (paired_drop _ h)
theorem ev_sl {α : Type} {inst : Rep α} {xs : List α} {lo hi : Option Expr} {l u : Option Int} {p2 : Pos} [m : MonoC P] [s : AsSeq X.K P α inst xs] (h : EvP X a σ G H P) (h1 : EvO X lo σ G H l) (h2 : EvO X hi σ G H u) : Ev X (.Subscript a (.Slice lo hi none p2) pos) σ G H (cut xs l u) := by
  obtain ⟨t1, p1, k1⟩ := h1
  obtain ⟨t2, p2, k2⟩ := h2
  exact evP_of (pe_slice sl_list pe_sem p1 p2) fun G1 H1 x1 Q q => h G1 H1 x1 _ fun G2 H2 v x2 _ pv => k1 G2 H2 (x1.trans x2) _ fun G3 H3 x3 => k2 G3 H3 ((x1.trans x2).trans x3) _ fun G4 H4 x4 => by
    obtain ⟨a, us, e, g, pr⟩ := s.seq _ _ _ x4.s (m.m _ _ _ _ _ (x3.trans x4) pv)
    exact ⟨a, us, e, g, fun p hp => q (upd G4 p (.lst _)) _ _ ((x2.trans (x3.trans x4)).new hp) ⟨p, _, rfl, upd_same, pair_up (same_new (x4.s.free hp)) (paired_cut pr)⟩⟩
end
end RL

namespace RL
open PySem PySem.Spec PyProof.Rows L2 Rep
/-! ### what is walked -/
/-- while the frozen part stands, J gives the data xs, one after another -/
def WalkOf {α : Type} [Rep α] (K : PySem.W.Frag) (J : It) (G : Hp) (xs : List α) : Prop :=
  ∀ G' H', Same G G' → Same G' H' → (∀ i, i < xs.length → J.go i H') ∧ J.stop xs.length H' ∧ ∀ i x v H'', xs[i]? = some x → J.yld i H' v H'' → ∃ G'', Ext G' H' G'' H'' ∧ rep K G'' v x
def EvI {α : Type} [Rep α] (X : Cx) (tg iter : Expr) (σ : St) (G H : Hp) (xs : List α) : Prop :=
  ∃ wi : TI, PI X tg iter wi ∧ ∀ G1 H1, Ext G H G1 H1 → ∀ R : It → Hp → Prop, (∀ J G2 H2, Ext G1 H1 G2 H2 → xs.length ≤ sizeLine → WalkOf X.K J G2 xs → R J H2) → wi σ H1 R
/-- P tells a list that stands still -/
class AsFrz (K : PySem.W.Frag) (P : PV) (α : outParam Type) (inst : outParam (Rep α)) (xs : outParam (List α)) : Prop where
  frz : ∀ G H v, Same G H → P G H v → SeqAt K xs G G v
instance {α : Type} [i : Rep α] {K : PySem.W.Frag} {xs : List α} : AsFrz K (Is K xs) α i xs := ⟨fun _ _ _ s ⟨a, vs, e, g, p⟩ => ⟨a, vs, e, .of g, p⟩⟩
instance {K : PySem.W.Frag} {x : Scr} : AsFrz K (Is K x) Int instRepInt x.ns := ⟨fun _ _ _ s ⟨a, e, g⟩ => ⟨a, _, e, g, ints_paired _⟩⟩
/-- lo, lo + 1, .. below hi -/
def rng (lo hi : Int) : List Int := (List.range (hi - lo).toNat).map fun (k : Nat) => lo + (k : Int)
theorem rng_len {lo hi : Int} : (rng lo hi).length = (hi - lo).toNat := by simp [rng]
theorem rng_get {lo hi : Int} {i : Nat} {x : Int} (h : (rng lo hi)[i]? = some x) : i < (hi - lo).toNat ∧ x = lo + (i : Int) := by
  unfold rng at h
  rw [List.getElem?_map] at h
  by_cases hi : i < (hi - lo).toNat
  · rw [List.getElem?_range hi] at h
    exact ⟨hi, (Option.some.inj h).symm⟩
  · rw [List.getElem?_eq_none (by simpa using hi)] at h
    cases h
theorem mem_rng {lo hi x : Int} : x ∈ rng lo hi ↔ lo ≤ x ∧ x < hi := by
  unfold rng
  rw [List.mem_map]
  constructor
  · rintro ⟨k, hk, e⟩
    have := List.mem_range.mp hk
    omega
  · intro h
    exact ⟨(x - lo).toNat, List.mem_range.mpr (by omega), by omega⟩
def enum {α : Type} (xs : List α) : List (Int × α) := xs.zipIdx.map fun p => ((p.2 : Int), p.1)
theorem enum_len {α : Type} (xs : List α) : (enum xs).length = xs.length := by simp [enum]
theorem enum_get {α : Type} {xs : List α} {i : Nat} {p : Int × α} (h : (enum xs)[i]? = some p) : p.1 = (i : Int) ∧ xs[i]? = some p.2 := by
  unfold enum at h
  rw [List.getElem?_map, List.getElem?_zipIdx] at h
  cases q : xs[i]? with
  | none =>
    rw [q] at h
    cases h
  | some x =>
    rw [q] at h
    have e := Option.some.inj h
    rw [← e]
    exact ⟨by simp, rfl⟩
section
variable {X : Cx} {σ : St} {G H : Hp} {P Pa Pb : PV} {e a b c tg : Expr} {es : List Expr} {pos p : Pos} {i j k : Int}
theorem ei_list {α : Type} {inst : Rep α} {xs : List α} [s : AsFrz X.K P α inst xs] (h : EvP X e σ G H P) : EvI X tg e σ G H xs :=
  ⟨_, pi_list pe_sem, fun G1 H1 x1 R r => h G1 H1 x1 _ fun G2 H2 v x2 l2 pv => by
    obtain ⟨a, us, e, g, pr⟩ := s.frz _ _ _ x2.s pv
    refine ⟨a, e, ⟨us, x2.s.seq g⟩, r _ G2 H2 x2 (by rw [← paired_len pr]; exact sql_len l2 (x2.s.seq g)) fun G' H' s1 s2 => ?_⟩
    have hq : SqL X.K H' a us := s2.seq (s1.seq g)
    refine ⟨fun i hi => ?_, ⟨us, hq, by rw [paired_len pr]; exact Nat.le_refl _⟩, fun i x v H'' hx y => ?_⟩
    · rw [← paired_len pr] at hi
      exact ⟨us, us[i], hq, List.getElem?_eq_getElem hi⟩
    · obtain ⟨rfl, y⟩ := y
      obtain ⟨w, hw, rw'⟩ := paired_get pr hx
      have e : w = v := Option.some.inj (hw.symm.trans (y us hq))
      exact ⟨G', Ext.refl s2, up s1 (e ▸ rw')⟩⟩
theorem walk_rng {K : PySem.W.Frag} {lo : Int} {n : Nat} {hi : Int} (e : n = (hi - lo).toNat) : WalkOf K (Itr lo n) G (rng lo hi) := fun G' H' s1 s2 => by
  subst e
  refine ⟨fun i h => by rw [rng_len] at h; exact h, by rw [rng_len]; exact Nat.le_refl _, fun i x v H'' hx y => ?_⟩
  obtain ⟨rfl, y⟩ := y
  obtain ⟨_, e⟩ := rng_get hx
  rw [e]
  exact ⟨G', Ext.refl s2, y⟩
theorem ei_range1 (B : Bl X "range") (h : Ev X a σ G H j) (h1 : -(2 ^ 62) ≤ j) (h2 : j ≤ 16777216) (he : starEach [a] X.env = (false, eval a X.env) :: starEach [] X.env := by rfl) (hs : starEach [a] X.env = [(false, eval a X.env)] := by rfl) :
    EvI X tg (.Call (.Name "range" p) [a] [] pos) σ G H (rng 0 j) :=
  ⟨_, pi_range1 B.g B.m (pa_cons pe_sem pa_nil he) hs, fun G1 H1 x1 R r => h G1 H1 x1 _ fun G2 H2 v x2 _ pv => ⟨j, by rw [show v = _ from pv], h1, by omega, r _ G2 H2 x2 (by rw [rng_len, sizeLine_eq]; omega) (walk_rng (by rw [Int.sub_zero]))⟩⟩
theorem ei_range2 (B : Bl X "range") (h : Ev X a σ G H i) (h' : Ev X b σ G H j) (hb : (-(2 ^ 62) ≤ i ∧ i < 2 ^ 62) ∧ -(2 ^ 62) ≤ j ∧ j < 2 ^ 62 ∧ j - i ≤ 16777216) (he : starEach [a, b] X.env = (false, eval a X.env) :: starEach [b] X.env := by rfl) (he2 : starEach [b] X.env = (false, eval b X.env) :: starEach [] X.env := by rfl)
    (hs : starEach [a, b] X.env = [(false, eval a X.env), (false, eval b X.env)] := by rfl) (hs2 : starEach [b] X.env = [(false, eval b X.env)] := by rfl) :
    EvI X tg (.Call (.Name "range" p) [a, b] [] pos) σ G H (rng i j) :=
  ⟨_, pi_range2 B.g B.m (pa_cons pe_sem (pa_cons pe_sem pa_nil he2) he) hs hs2, fun G1 H1 x1 R r => h G1 H1 x1 _ fun G2 H2 v x2 _ pv => h' G2 H2 (x1.trans x2) _ fun G3 H3 u x3 _ pu =>
    ⟨i, j, by rw [show v = _ from pv, show u = _ from pu], ⟨hb.1.1, hb.1.2, hb.2.1, hb.2.2.1⟩, r _ G3 H3 (x2.trans x3) (by rw [rng_len, sizeLine_eq]; omega) (walk_rng rfl)⟩⟩
theorem pair_new {α β : Type} [Rep α] [Rep β] {K : PySem.W.Frag} {G H : Hp} {T : Addr} {v u : V} {x : α} {y : β} (s : Same G H) (hT : H T = none) (hv : rep K G v x) (hu : rep K G u y) :
    ∃ G'', Ext G H G'' (upd H T (.tup [v, u])) ∧ rep K G'' (V.ref T) (x, y) :=
  ⟨upd G T (.tup [v, u]), (Ext.refl s).new hT, ⟨T, v, u, rfl, upd_same, up (same_new (s.free hT)) hv, up (same_new (s.free hT)) hu⟩⟩
theorem ei_enum {α : Type} {inst : Rep α} {xs : List α} {elts : List Expr} {kk : Nat} {tpos : Pos} [s : AsFrz X.K P α inst xs] (B : Bl X "enumerate") (h : EvP X e σ G H P) (he : starEach [e] X.env = (false, eval e X.env) :: starEach [] X.env := by rfl) (hs : starEach [e] X.env = [(false, eval e X.env)] := by rfl) :
    EvI X (.Tuple elts kk tpos) (.Call (.Name "enumerate" p) [e] [] pos) σ G H (enum xs) :=
  ⟨_, pi_enum B.g B.m (pa_cons pe_sem pa_nil he) hs, fun G1 H1 x1 R r => h G1 H1 x1 _ fun G2 H2 v x2 l2 pv => by
    obtain ⟨a, us, e, g, pr⟩ := s.frz _ _ _ x2.s pv
    refine ⟨a, us, by rw [e], x2.s.seq g, r _ G2 H2 x2 (by rw [enum_len, ← paired_len pr]; exact sql_len l2 (x2.s.seq g)) fun G' H' s1 s2 => ?_⟩
    have hq : SqL X.K H' a us := s2.seq (s1.seq g)
    refine ⟨fun i hi => ?_, ⟨us, hq, by rw [enum_len, paired_len pr]; exact Nat.le_refl _⟩, fun i x v H'' hx y => ?_⟩
    · rw [enum_len, ← paired_len pr] at hi
      exact ⟨us, us[i], hq, List.getElem?_eq_getElem hi⟩
    · obtain ⟨T, w, rfl, hT, rfl, y⟩ := y
      obtain ⟨e1, e2⟩ := enum_get hx
      obtain ⟨w', hw, rw'⟩ := paired_get pr e2
      have e : w' = w := Option.some.inj (hw.symm.trans (y us hq))
      subst e
      obtain ⟨x1, x2⟩ := x
      have e1 : x1 = (i : Int) := e1
      subst e1
      exact pair_new (x := (i : Int)) (y := x2) (K := X.K) s2 hT rfl (up s1 rw')⟩
theorem ei_zip {α β : Type} {ia : Rep α} {ib : Rep β} {xs : List α} {ys : List β} {elts : List Expr} {kk : Nat} {tpos : Pos} [m : MonoC Pa] [sa : AsFrz X.K Pa α ia xs] [sb : AsFrz X.K Pb β ib ys] (B : Bl X "zip") (h : EvP X a σ G H Pa) (h' : EvP X b σ G H Pb)
    (he : starEach [a, b] X.env = (false, eval a X.env) :: starEach [b] X.env := by rfl) (he2 : starEach [b] X.env = (false, eval b X.env) :: starEach [] X.env := by rfl) (hpl : (backTo pos (starEach [b] X.env)).any (·.1) = false := by rfl) :
    EvI X (.Tuple elts kk tpos) (.Call (.Name "zip" p) [a, b] [] pos) σ G H (xs.zip ys) :=
  ⟨_, pi_zip B.g B.m (pa_cons pe_sem (pa_cons pe_sem pa_nil he2) he) he hpl, fun G1 H1 x1 R r => h G1 H1 x1 _ fun G2 H2 v x2 _ pv => h' G2 H2 (x1.trans x2) _ fun G3 H3 u x3 l3 pu => by
    obtain ⟨a1, us, e, g, pr⟩ := sa.frz _ _ _ x3.s (m.m _ _ _ _ _ x3 pv)
    obtain ⟨a2, us2, e', g', pr'⟩ := sb.frz _ _ _ x3.s pu
    refine ⟨a1, a2, us, us2, by rw [e, e'], x3.s.seq g, x3.s.seq g', r _ G3 H3 (x2.trans x3) (by have z := sql_len l3 (x3.s.seq g); rw [paired_len pr] at z; rw [List.length_zip]; omega) fun G' H' s1 s2 => ?_⟩
    have hq : SqL X.K H' a1 us := s2.seq (s1.seq g)
    have hq' : SqL X.K H' a2 us2 := s2.seq (s1.seq g')
    refine ⟨fun i hi => ?_, ⟨us, us2, hq, hq', ?_⟩, fun i x v H'' hx y => ?_⟩
    · rw [List.length_zip, ← paired_len pr, ← paired_len pr'] at hi
      have h1 : i < us.length := by omega
      have h2 : i < us2.length := by omega
      exact ⟨us, us2, us[i], us2[i], hq, hq', List.getElem?_eq_getElem h1, List.getElem?_eq_getElem h2⟩
    · rw [List.length_zip, ← paired_len pr, ← paired_len pr']
      omega
    · obtain ⟨T, w, w2, rfl, hT, rfl, y, y2⟩ := y
      obtain ⟨e1, e2⟩ := List.getElem?_zip_eq_some.mp hx
      obtain ⟨w', hw, rw'⟩ := paired_get pr e1
      obtain ⟨w2', hw2, rw2'⟩ := paired_get pr' e2
      have e : w' = w := Option.some.inj (hw.symm.trans (y us hq))
      have e2 : w2' = w2 := Option.some.inj (hw2.symm.trans (y2 us2 hq'))
      subst e e2
      exact pair_new (x := x.1) (y := x.2) (K := X.K) s2 hT (up s1 rw') (up s1 rw2')⟩
theorem ei_rev {α : Type} {inst : Rep α} {xs : List α} [s : AsFrz X.K P α inst xs] (B : Bl X "reversed") (h : EvP X e σ G H P) (he : starEach [e] X.env = (false, eval e X.env) :: starEach [] X.env := by rfl) (hs : starEach [e] X.env = [(false, eval e X.env)] := by rfl) :
    EvI X tg (.Call (.Name "reversed" p) [e] [] pos) σ G H xs.reverse :=
  ⟨_, pi_reversed B.g B.m (pa_cons pe_sem pa_nil he) hs, fun G1 H1 x1 R r => h G1 H1 x1 _ fun G2 H2 v x2 l2 pv => by
    obtain ⟨a, us, e, g, pr⟩ := s.frz _ _ _ x2.s pv
    refine ⟨a, us, by rw [e], x2.s.seq g, r _ G2 H2 x2 (by rw [List.length_reverse, ← paired_len pr]; exact sql_len l2 (x2.s.seq g)) fun G' H' s1 s2 => ?_⟩
    have hq : SqL X.K H' a us := s2.seq (s1.seq g)
    refine ⟨fun i hi => ?_, by rw [List.length_reverse, paired_len pr]; exact Nat.le_refl _, fun i x v H'' hx y => ?_⟩
    · rw [List.length_reverse, ← paired_len pr] at hi
      exact ⟨hi, us, us[us.length - 1 - i]'(by omega), hq, List.getElem?_eq_getElem (by omega)⟩
    · obtain ⟨rfl, y⟩ := y
      have hi : i < xs.length := by
        have := (List.getElem?_eq_some_iff.mp hx).1
        rwa [List.length_reverse] at this
      rw [List.getElem?_reverse hi, ← paired_len pr] at hx
      obtain ⟨w, hw, rw'⟩ := paired_get pr hx
      have e : w = v := Option.some.inj (hw.symm.trans (y us hq))
      exact ⟨G', Ext.refl s2, up s1 (e ▸ rw')⟩⟩
theorem paired_rev {α β : Type} {F : α → β → Prop} : ∀ {vs : List α} {ys : List β}, Paired F vs ys → Paired F vs.reverse ys.reverse
  | _, _, .nil => .nil
  | _, _, .cons r t => by
    rw [List.reverse_cons, List.reverse_cons]
    exact paired_app (paired_rev t) (.cons r .nil)
theorem ev_revsl {α : Type} {inst : Rep α} {xs : List α} {k0 : Nat} {p1 p2 p3 : Pos} [s : AsSeq X.K P α inst xs] (h : EvP X e σ G H P) : Ev X (.Subscript e (.Slice none none (some (.UnaryOp .USub (.Constant (.int 1) k0 p1) p2)) p3) pos) σ G H xs.reverse :=
  evP_of (pe_revL pe_sem) fun G1 H1 x1 Q q => h G1 H1 x1 _ fun G2 H2 v x2 _ pv => by
    obtain ⟨a, us, e, g, pr⟩ := s.seq _ _ _ x2.s pv
    refine ⟨a, us, e, g, fun p hp => q (upd G2 p (.lst _)) _ _ (x2.new hp) ⟨p, _, rfl, upd_same, pair_up (same_new (x2.s.free hp)) ?_⟩⟩
    exact paired_rev pr

/-! ### comprehensions -/
/-- the tests of a clause -/
def EvTs (X : Cx) (ifs : List Expr) (σ : St) (G H : Hp) (b : Bool) : Prop := ∀ G1 H1, Ext G H G1 H1 → ∀ Q : Bool → Hp → Prop, (∀ G2 H2, Ext G1 H1 G2 H2 → Q b H2) →
  ∀ (pins : List (Addr × Obj)) (s : Shared), Inv X pins σ H1 s → wpAny (model X.prog X.w) X.A (forIn ifs true fun c r => if r = true then do let ok ← isTrue c X.env (eval c X.env); pure (ForInStep.yield ok) else pure (ForInStep.yield r)) (TP X pins σ Q) X.xe s
theorem ets_nil : EvTs X [] σ G H true := fun G1 H1 x1 Q q pins s I => pts_nil.run pins s σ H1 Q I (q G1 H1 (Ext.refl x1.s))
theorem ets_one {x : Bool} (h : EvT X e σ G H x) : EvTs X [e] σ G H x := fun G1 H1 x1 Q q pins s I => (pts_one pt_sem).run pins s σ H1 Q I (h G1 H1 x1 Q fun G2 H2 x2 _ => q G2 H2 x2)
/-- the context of a comprehension's block -/
abbrev InB (X : Cx) (scope : Scope) (s : Shared) (H0 : Hp) (C : Addr) (cl : List (Str × Addr)) (fp : List Addr) : Cx := X.blk s H0 scope (compEnvC scope cl C X.env) fp
def lcT (X : Cx) (scope : Scope) (ifs : List Expr) : TT := fun σ H Q => ∀ s H0 C cl fp (pins : List (Addr × Obj)) (s' : Shared), Inv (InB X scope s H0 C cl fp) pins σ H s' →
  wpAny (model X.prog X.w) X.A (forIn ifs true fun c r => if r = true then do let ok ← isTrue c (compEnvC scope cl C X.env) (eval c (compEnvC scope cl C X.env)); pure (ForInStep.yield ok) else pure (ForInStep.yield r)) (TP (InB X scope s H0 C cl fp) pins σ Q) (fun _ _ => False) s'
def lcE (X : Cx) (scope : Scope) (elt : Expr) : TE := fun σ H Q => ∀ s H0 C cl fp, tE (InB X scope s H0 C cl fp) elt σ H Q
theorem pts_lc {scope : Scope} {ifs : List Expr} : ∀ (s : Shared) (H : Hp) (C : Addr) (cl : List (Str × Addr)) (fp : List Addr), PTs (X.blk s H scope (compEnvC scope cl C X.env) fp) ifs (lcT X scope ifs) := fun s H C cl fp => ⟨fun pins s' _ _ _ I h => h s H C cl fp pins s' I⟩
theorem pe_lcE {scope : Scope} {elt : Expr} : ∀ (s : Shared) (H : Hp) (C : Addr) (cl : List (Str × Addr)) (fp : List Addr), PE (X.blk s H scope (compEnvC scope cl C X.env) fp) elt (lcE X scope elt) := fun s H C cl fp => ⟨fun pins s' _ _ _ I h => (h s H C cl fp).run pins s' I⟩
/-- what a target does with a datum: the slots behind it -/
abbrev TgT (α : Type) := Hp → α → St → St → Prop
def T1 {α : Type} [Rep α] (K : PySem.W.Frag) (i : Nat) : TgT α := fun G x σ σ' => ∃ v, rep K G v x ∧ σ' = σ.set i (some v)
def T2 {α β : Type} [Rep α] [Rep β] (K : PySem.W.Frag) (i j : Nat) : TgT (α × β) := fun G x σ σ' => ∃ u w, rep K G u x.1 ∧ rep K G w x.2 ∧ σ' = (σ.set i (some u)).set j (some w)
def Acts {α : Type} [Rep α] (K : PySem.W.Frag) (g : TG) (T : TgT α) : Prop := ∀ x v G H σ (Q : St → Hp → Prop), Same G H → rep K G v x → (∀ σ', T G x σ σ' → Q σ' H) → g v σ H Q
theorem acts1 {α : Type} [Rep α] {K : PySem.W.Frag} {i : Nat} : Acts K (gName i) (T1 (α := α) K i) := fun x v G H σ Q s r q => q _ ⟨v, r, rfl⟩
theorem acts2 {α β : Type} [Rep α] [Rep β] {K : PySem.W.Frag} {i j : Nat} : Acts K (gTup K 2 (gCons (gName i) (gCons (gName j) gNil))) (T2 (α := α) (β := β) K i j) := fun x v G H σ Q s r q => by
  obtain ⟨a, u, w, e, g, p1, p2⟩ := r
  exact ⟨a, _, e, .of (s _ _ g), rfl, u, [w], rfl, w, [], rfl, rfl, q _ ⟨u, w, p1, p2, rfl⟩⟩
theorem lc_go {α β : Type} [Rep α] [Rep β] {xs : List α} {f : α → β} {t : α → Bool} {elt : Expr} {ifs : List Expr} {scope : Scope} {vs : List Nat} {g : TG} {T : TgT α} {wi : TI}
    (hi : ∀ G1 H1, Ext G H G1 H1 → ∀ R : It → Hp → Prop, (∀ J G2 H2, Ext G1 H1 G2 H2 → xs.length ≤ sizeLine → WalkOf X.K J G2 xs → R J H2) → wi σ H1 R) (hg : Acts X.K g T) (hw : ∀ G x σ', T G x (wipe σ vs) σ' → wipe σ' vs = wipe σ vs)
    (ht : ∀ x G1 H1 σ', x ∈ xs → Ext G H G1 H1 → T G1 x (wipe σ vs) σ' → ∀ s H0 C cl fp, EvTs (InB X scope s H0 C cl fp) ifs σ' G1 H1 (t x))
    (he : ∀ x G1 H1 σ', x ∈ xs → t x = true → Ext G H G1 H1 → T G1 x (wipe σ vs) σ' → ∀ s H0 C cl fp, Ev (InB X scope s H0 C cl fp) elt σ' G1 H1 (f x))
    (hm : ∀ G1 H1 G2 H2 x σ', Ext G1 H1 G2 H2 → T G1 x (wipe σ vs) σ' → T G2 x (wipe σ vs) σ') :
    ∀ G1 H1, Ext G H G1 H1 → ∀ Q : VK, (∀ G2 H2 v, Ext G1 H1 G2 H2 → Is X.K ((xs.filter t).map f) G2 H2 v → New H1 v → Q v H2) → tLc wi g (lcT X scope ifs) (lcE X scope elt) vs σ H1 Q := by
  intro G1 H1 x1 Q q
  refine hi G1 H1 x1 _ fun J G2 H2 x2 hl hwk D hD => ?_
  -- the state behind i turns
  let Pv : Nat → Hp → Prop := fun i H' => ∃ G' acc, Ext G1 H1 G' H' ∧ Same G2 G' ∧ G' D = none ∧ H' D = some (.lst acc) ∧ acc.length ≤ i ∧ Paired (rep X.K G') acc (((xs.take i).filter t).map f)
  have hD1 : H1 D = none := x2.h.free hD
  refine ⟨fun i m H' => m = xs.length - i ∧ i ≤ xs.length ∧ Pv i H', ⟨xs.length, rfl, Nat.zero_le _, G2, [], x2.newH hD, Same.refl _, x2.s.free hD, upd_same, Nat.zero_le _, .nil⟩, ?_⟩
  rintro i m H' ⟨rfl, hi', G', acc, x', sg, gD, eD, hacc, pr⟩
  obtain ⟨go, stop, yld⟩ := hwk G' H' sg x'.s
  by_cases hlt : i < xs.length
  · have hx : xs[i]? = some xs[i] := List.getElem?_eq_getElem hlt
    have hmem : xs[i] ∈ xs := List.getElem_mem hlt
    refine .inr ⟨go i hlt, Pv (i + 1), fun H'' p => ⟨_, by omega, rfl, hlt, p⟩, fun v H'' y => ?_⟩
    obtain ⟨G'', x'', rv⟩ := yld i _ v H'' hx y
    have ek : xs.take (i + 1) = xs.take i ++ [xs[i]] := by rw [List.take_add_one, hx]; rfl
    have gD2 : G'' D = none := x''.off gD eD
    have eD2 : H'' D = some (.lst acc) := x''.h _ _ eD
    refine hg _ v G'' H'' _ _ x''.s rv fun σ' hst => ⟨hw _ _ _ hst, fun s H0 C cl fp pins s' I => ?_⟩
    refine ht _ G'' H'' σ' hmem (x1.trans (x'.trans x'')) hst s H0 C cl fp G'' H'' (Ext.refl x''.s) _ (fun G3 H3 x3 => ?_) pins s' I
    have gD3 : G3 D = none := x3.off gD2 eD2
    have eD3 : H3 D = some (.lst acc) := x3.h _ _ eD2
    by_cases hb : t xs[i] = true
    · rw [hb, if_pos rfl]
      intro s1 H01 C1 cl1 fp1
      refine he _ G3 H3 σ' hmem hb (x1.trans (x'.trans (x''.trans x3))) (hm _ _ _ _ _ _ x3 hst) s1 H01 C1 cl1 fp1 G3 H3 (Ext.refl x3.s) _ fun G4 H4 w x4 _ rw' => ?_
      have gD4 : G4 D = none := x4.off gD3 eD3
      refine ⟨acc, x4.h _ _ eD3, Nat.lt_of_le_of_lt hacc (Nat.lt_of_lt_of_le hlt hl), G4, acc ++ [w], (x'.trans (x''.trans (x3.trans x4))).wr hD1 gD4, (sg.trans x''.g).trans (x3.g.trans x4.g), gD4, upd_same, by rw [List.length_append]; exact Nat.succ_le_succ hacc, ?_⟩
      rw [ek, List.filter_append, List.map_append, List.filter_cons_of_pos hb]
      exact paired_app (pair_up (x''.g.trans (x3.g.trans x4.g)) pr) (.cons rw' .nil)
    · rw [if_neg hb]
      refine ⟨G3, acc, x'.trans (x''.trans x3), (sg.trans x''.g).trans x3.g, gD3, eD3, Nat.le_succ_of_le hacc, ?_⟩
      rw [ek, List.filter_append, List.filter_cons_of_neg hb, List.filter_nil, List.append_nil]
      exact pair_up (x''.g.trans x3.g) pr
  · have e : i = xs.length := by omega
    subst e
    refine .inl ⟨stop, q (upd G' D (.lst acc)) H' _ (x'.frz hD1 eD) ⟨D, acc, rfl, upd_same, ?_⟩ fun p e => by cases e; exact hD1⟩
    rw [List.take_length] at pr
    exact pair_up (same_new gD) pr
theorem t1_up {α : Type} [Rep α] {K : PySem.W.Frag} {i : Nat} {σ : St} : ∀ G1 H1 G2 H2 (x : α) σ', Ext G1 H1 G2 H2 → T1 K i G1 x σ σ' → T1 K i G2 x σ σ' := fun _ _ _ _ _ _ x ⟨v, r, e⟩ => ⟨v, up x.g r, e⟩
theorem t2_up {α β : Type} [Rep α] [Rep β] {K : PySem.W.Frag} {i j : Nat} {σ : St} : ∀ G1 H1 G2 H2 (x : α × β) σ', Ext G1 H1 G2 H2 → T2 K i j G1 x σ σ' → T2 K i j G2 x σ σ' := fun _ _ _ _ _ _ x ⟨u, w, r, r', e⟩ => ⟨u, w, up x.g r, up x.g r', e⟩
variable {α β γ : Type} [Rep α] [Rep β] [Rep γ] {iter elt : Expr} {ifs : List Expr} {scope : Scope} {own : List (Str × Nat)}
/-- [elt for n in iter if ..]; a name in slot i -/
theorem ev_lc1 {xs : List α} {n : Str} {np : Pos} {i : Nat} (f : α → β) (t : α → Bool) (hc : X.calm = true) (hN : X.N.Nodup) (hi : EvI X (.Name n np) iter σ G H xs) (own : List (Str × Nat)) (ok : BlkOk X.N X.env.scope scope own)
    (hg : ∀ (s : Shared) (H : Hp) (C : Addr) (cl : List (Str × Addr)) (fp : List Addr), PG (X.blk s H scope (compEnvC scope cl C X.env) fp) (.Name n np) (gName i))
    (ht : ∀ x v G1 H1, x ∈ xs → Ext G H G1 H1 → rep X.K G1 v x → ∀ s H0 C cl fp, EvTs (InB X scope s H0 C cl fp) ifs ((wipe σ (own.map (·.2))).set i (some v)) G1 H1 (t x))
    (he : ∀ x v G1 H1, x ∈ xs → t x = true → Ext G H G1 H1 → rep X.K G1 v x → ∀ s H0 C cl fp, Ev (InB X scope s H0 C cl fp) elt ((wipe σ (own.map (·.2))).set i (some v)) G1 H1 (f x))
    (hw : ∀ v, wipe ((wipe σ (own.map (·.2))).set i (some v)) (own.map (·.2)) = wipe σ (own.map (·.2)) := by intro _; rfl) (hs : ∀ x, foldedSetIterable iter X.env x = pure x := by intro _; rfl) :
    Ev X (.ListComp elt [⟨.Name n np, iter, ifs, 0⟩] scope pos) σ G H ((xs.filter t).map f) := by
  obtain ⟨wi, pi, hi⟩ := hi
  exact evP_of (pe_lc hc hN pi ok hg pts_lc pe_lcE hs) fun G1 H1 x1 Q q => lc_go (T := T1 X.K i) (f := f) (t := t) hi acts1 (fun G x σ' ⟨v, _, e⟩ => by rw [e]; exact hw v)
    (fun x G1 H1 σ' hx e ⟨v, r, e'⟩ => e' ▸ ht x v G1 H1 hx e r) (fun x G1 H1 σ' hx hb e ⟨v, r, e'⟩ => e' ▸ he x v G1 H1 hx hb e r) t1_up G1 H1 x1 Q fun G2 H2 v x2 r _ => q G2 H2 v x2 r
/-- [elt for a, b in iter if ..] -/
theorem ev_lc2 {xs : List (α × γ)} {tg : Expr} {i j : Nat} (f : α × γ → β) (t : α × γ → Bool) (hc : X.calm = true) (hN : X.N.Nodup) (hi : EvI X tg iter σ G H xs) (own : List (Str × Nat)) (ok : BlkOk X.N X.env.scope scope own)
    (hg : ∀ (s : Shared) (H : Hp) (C : Addr) (cl : List (Str × Addr)) (fp : List Addr), PG (X.blk s H scope (compEnvC scope cl C X.env) fp) tg (gTup X.K 2 (gCons (gName i) (gCons (gName j) gNil))))
    (ht : ∀ x u w G1 H1, x ∈ xs → Ext G H G1 H1 → rep X.K G1 u x.1 → rep X.K G1 w x.2 → ∀ s H0 C cl fp, EvTs (InB X scope s H0 C cl fp) ifs (((wipe σ (own.map (·.2))).set i (some u)).set j (some w)) G1 H1 (t x))
    (he : ∀ x u w G1 H1, x ∈ xs → t x = true → Ext G H G1 H1 → rep X.K G1 u x.1 → rep X.K G1 w x.2 → ∀ s H0 C cl fp, Ev (InB X scope s H0 C cl fp) elt (((wipe σ (own.map (·.2))).set i (some u)).set j (some w)) G1 H1 (f x))
    (hw : ∀ u w, wipe (((wipe σ (own.map (·.2))).set i (some u)).set j (some w)) (own.map (·.2)) = wipe σ (own.map (·.2)) := by intro _ _; rfl) (hs : ∀ x, foldedSetIterable iter X.env x = pure x := by intro _; rfl) :
    Ev X (.ListComp elt [⟨tg, iter, ifs, 0⟩] scope pos) σ G H ((xs.filter t).map f) := by
  obtain ⟨wi, pi, hi⟩ := hi
  exact evP_of (pe_lc hc hN pi ok hg pts_lc pe_lcE hs) fun G1 H1 x1 Q q => lc_go (T := T2 X.K i j) (f := f) (t := t) hi acts2 (fun G x σ' ⟨u, w, _, _, e⟩ => by rw [e]; exact hw u w)
    (fun x G1 H1 σ' hx e ⟨u, w, r, r', e'⟩ => e' ▸ ht x u w G1 H1 hx e r r') (fun x G1 H1 σ' hx hb e ⟨u, w, r, r', e'⟩ => e' ▸ he x u w G1 H1 hx hb e r r') t2_up G1 H1 x1 Q fun G2 H2 v x2 r _ => q G2 H2 v x2 r
end
end RL

namespace RL
open PySem PySem.Spec PyProof.Rows L2 Rep
/-! ### statements -/
section
variable {X : Cx} {σ : St} {G H : Hp} {P Pa Pb : PV} {e a b c tg : Expr} {es : List Expr} {st : Stmt} {sts sts' : List Stmt} {pos p : Pos} {D : Ends}
theorem tS_len (h : tS X st { D with nx := fun σ' H' => HLen H' → D.nx σ' H', rt := fun v H' => HLen H' → D.rt v H' } σ H) : tS X st D σ H := .mk fun pins s I => thn (h.run pins s I) fun f s' q => by
  cases f with
  | next =>
    obtain ⟨σ', H', I', q⟩ := q
    exact ⟨σ', H', I', q (hlen I')⟩
  | ret u =>
    obtain ⟨v, σ', H', I', r, q⟩ := q
    exact ⟨v, σ', H', I', r, q (hlen I')⟩
  | brk => exact q
  | cont => exact q
theorem tSs_lenI (h : HLen H → tSs X sts D σ H) : tSs X sts D σ H := .mk fun pins s I => (h (hlen I)).run pins s I
theorem s_of {t : TS} (h : PS X st t) (q : t D σ H) : tS X st D σ H := ⟨fun pins s I => h.run pins s σ H D I q⟩
theorem ss_of {t : TS} (h : PSs X sts t) (q : t D σ H) : tSs X sts D σ H := ⟨fun pins s I => h.run pins s σ H D I q⟩
theorem b_nil (h : D.nx σ H) : tSs X [] D σ H := ss_of pss_nil h
theorem b_cons (h : tS X st { D with nx := tSs X sts D } σ H) : tSs X (st :: sts) D σ H := ss_of (pss_cons ps_sem pss_sem) h
theorem b_one (h : tS X st D σ H) : tSs X [st] D σ H := ss_of (pss_one ps_sem) h
theorem s_pass (h : D.nx σ H) : tS X (.Pass pos) D σ H := s_of ps_pass h
theorem s_break (h : D.bk σ H) : tS X (.Break pos) D σ H := s_of ps_break h
theorem s_continue (h : D.ct σ H) : tS X (.Continue pos) D σ H := s_of ps_continue h
theorem s_ret (s0 : Same G H) (h : EvP X e σ G H P) (k : ∀ G1 H1 v, Ext G H G1 H1 → HLen H1 → P G1 H1 v → D.rt v H1) : tS X (.Return (some e) pos) D σ H :=
  s_of (ps_ret pe_sem) (h G H (Ext.refl s0) _ fun G1 H1 v x l r => k G1 H1 v x l r)
theorem s_retN (h : D.rt .non H) : tS X (.Return none pos) D σ H := s_of ps_retN h
theorem s_expr (s0 : Same G H) (h : EvP X e σ G H P) (k : ∀ G1 H1 v, Ext G H G1 H1 → HLen H1 → P G1 H1 v → D.nx σ H1) (hs : swapsWith e none pos.line X.env = pure false := by rfl) : tS X (.Expr e pos) D σ H :=
  s_of (ps_expr pe_sem hs) (h G H (Ext.refl s0) _ fun G1 H1 v x l r => k G1 H1 v x l r)
theorem s_if {x : Bool} (s0 : Same G H) (h : EvT X c σ G H x) (h1 : x = true → ∀ G1 H1, Ext G H G1 H1 → HLen H1 → tSs X sts D σ H1) (h2 : x = false → ∀ G1 H1, Ext G H G1 H1 → HLen H1 → tSs X sts' D σ H1) : tS X (.If c sts sts' pos) D σ H :=
  s_of (ps_if pt_sem pss_sem pss_sem) (h G H (Ext.refl s0) _ fun G1 H1 x1 l => by
    cases x with
    | true =>
      show tSs X sts D σ H1
      exact h1 rfl G1 H1 x1 l
    | false =>
      show tSs X sts' D σ H1
      exact h2 rfl G1 H1 x1 l)
/-- a name that may be stored -/
structure Ss (X : Cx) (i : Nat) (n : Str) : Prop where
  hN : X.N[i]? = some n
  hx : Loc X.env.scope n
  hf : X.fn n = true ∨ X.env.scope.names.lookup n = some .local
theorem s_set {i : Nat} {n : Str} (hN : X.N.Nodup) (sl : Ss X i n) (s0 : Same G H) (h : EvP X e σ G H P) (k : ∀ G1 H1 v, Ext G H G1 H1 → HLen H1 → P G1 H1 v → D.nx (σ.set i (some v)) H1)
    (hs : swapsWith e (some (.Name n p)) pos.line X.env = pure false := by rfl) : tS X (.Assign [.Name n p] e pos) D σ H :=
  s_of (ps_set hN sl.hN sl.hx pe_sem hs sl.hf) (h G H (Ext.refl s0) _ fun G1 H1 v x l r => k G1 H1 v x l r)
/-- .. a new object that no frozen part knows -/
def EvN (X : Cx) (e : Expr) (σ : St) (G H : Hp) (P : PV) : Prop :=
  ∀ G1 H1, Ext G H G1 H1 → ∀ Q : VK, (∀ G2 H2 v, Ext G1 H1 G2 H2 → HLen H2 → P G2 H2 v → New H1 v → Q v H2) → tE X e σ H1 Q
theorem EvN.ev (h : EvN X e σ G H P) : EvP X e σ G H P := fun G1 H1 x1 Q q => h G1 H1 x1 Q fun G2 H2 v x2 l r _ => q G2 H2 v x2 l r
theorem s_setN {i : Nat} {n : Str} (hN : X.N.Nodup) (sl : Ss X i n) (s0 : Same G H) (h : EvN X e σ G H P) (k : ∀ G1 H1 v, Ext G H G1 H1 → HLen H1 → P G1 H1 v → New H v → D.nx (σ.set i (some v)) H1)
    (hs : swapsWith e (some (.Name n p)) pos.line X.env = pure false := by rfl) : tS X (.Assign [.Name n p] e pos) D σ H :=
  s_of (ps_set hN sl.hN sl.hx pe_sem hs sl.hf) (h G H (Ext.refl s0) _ fun G1 H1 v x l r n => k G1 H1 v x l r n)
theorem evN_of {t : TE} (hp : PE X e t) (k : ∀ G1 H1, Ext G H G1 H1 → ∀ Q : VK, (∀ G2 H2 v, Ext G1 H1 G2 H2 → P G2 H2 v → New H1 v → Q v H2) → t σ H1 Q) : EvN X e σ G H P :=
  fun G1 H1 x1 _ q => tE_lenF fun pins s I => hp.run pins s σ H1 _ I (k G1 H1 x1 _ fun G2 H2 v x2 p n hl => q G2 H2 v x2 hl p n)
theorem evN_list {α : Type} [Rep α] {xs : List α} (h : EvA X es σ G H (AAll X.K xs)) (hl : xs.length ≤ 1000 := by exact Nat.le_of_ble_eq_true rfl) : EvN X (.List es pos) σ G H (Is X.K xs) :=
  evN_of (pe_lst pa_sem) fun G1 H1 x1 Q q => h G1 H1 x1 _ fun G2 H2 vs x2 _ pa => ⟨by rw [paired_len pa]; exact Nat.le_of_lt (small1000 hl), fun p hp =>
    q (upd G2 p (.lst vs)) _ _ (x2.new hp) ⟨p, vs, rfl, upd_same, pair_up (same_new (x2.s.free hp)) pa⟩ fun p' e => by cases e; exact x2.h.free hp⟩
/-- n op= e -/
theorem s_aug {i : Nat} {n : Str} {op : Operator} {v0 : V} [m : MonoC Pa] (hN : X.N.Nodup) (sl : Ss X i n) (s0 : Same G H) (k : Bin X (inplaceOp op) Pa Pb P G H) (r0 : Pa G H v0) (h : EvP X e σ G H Pb) (kn : ∀ G1 H1 v, Ext G H G1 H1 → HLen H1 → P G1 H1 v → D.nx (σ.set i (some v)) H1)
    (h0 : σ[i]? = some (some v0) := by rfl) : tS X (.AugAssign (.Name n p) op e pos) D σ H := by
  obtain ⟨r, ho, k⟩ := k
  refine tS_len (s_of (ps_aug hN sl.hN sl.hx pe_sem (ti := r) ho sl.hf) ⟨v0, h0, h G H (Ext.refl s0) _ fun G1 H1 u x l pu => k G1 H1 v0 u x l (m.m _ _ _ _ _ x r0) pu _ fun G2 H2 w x2 pw l2 => kn G2 H2 w (x.trans x2) l2 pw⟩)
/-- a list of the def's own: tracked, not frozen -/
structure Own {α : Type} [Rep α] (K : PySem.W.Frag) (G H : Hp) (q : Addr) (xs : List α) : Prop where
  at_ : ∃ vs, H q = some (.lst vs) ∧ Paired (rep K G) vs xs
  off : G q = none
theorem Own.mono {α : Type} [Rep α] {K : PySem.W.Frag} {G H G1 H1 : Hp} {q : Addr} {xs : List α} (o : Own K G H q xs) (x : Ext G H G1 H1) : Own K G1 H1 q xs :=
  let ⟨vs, e, p⟩ := o.at_; ⟨⟨vs, x.h _ _ e, pair_up x.g p⟩, x.off o.off e⟩
theorem Own.pv {α : Type} [Rep α] {K : PySem.W.Frag} {q : Addr} {xs : List α} (o : Own K G H q xs) : OwnAt K xs G H (.ref q) := let ⟨vs, e, p⟩ := o.at_; ⟨q, vs, rfl, e, p⟩
theorem Own.len {α : Type} [Rep α] {K : PySem.W.Frag} {q : Addr} {xs : List α} (o : Own K G H q xs) (l : HLen H) : xs.length ≤ sizeLine := by
  obtain ⟨vs, e, p⟩ := o.at_
  rw [← paired_len p]
  exact l _ _ e
/-- behind a store to another own object -/
theorem Own.wr {α : Type} [Rep α] {K : PySem.W.Frag} {q q' : Addr} {xs : List α} {o' : HO} (o : Own K G H q xs) (h : q ≠ q') : Own K G (upd H q' o') q xs :=
  let ⟨vs, e, p⟩ := o.at_; ⟨⟨vs, by rw [upd_ne h]; exact e, p⟩, o.off⟩
theorem Own.ex {α : Type} [Rep α] {K : PySem.W.Frag} {q : Addr} {xs : List α} (o : Own K G H q xs) : ∃ u, H q = some u := let ⟨_, e, _⟩ := o.at_; ⟨_, e⟩
/-- values that no heap tells -/
class Flat (α : Type) [Rep α] : Prop where
  flat : ∀ {K : PySem.W.Frag} {G G' : Hp} {v : V} {x : α}, rep K G v x → rep K G' v x
instance : Flat Int := ⟨fun h => h⟩
instance : Flat Bool := ⟨fun h => h⟩
instance : Flat Str := ⟨fun h => h⟩
/-- from a new list of flat things: own it; the frozen part as it was ahead -/
theorem own_new {α : Type} [Rep α] [Flat α] {K : PySem.W.Frag} {G H G1 H1 : Hp} {v : V} {xs : List α} (s0 : Same G H) (x : Ext G H G1 H1) (n : New H v) (r : Is K xs G1 H1 v) : ∃ q, v = .ref q ∧ H q = none ∧ Own K G H1 q xs ∧ Ext G H G H1 := by
  obtain ⟨q, vs, rfl, e, p⟩ := r
  have hq : H q = none := n q rfl
  refine ⟨q, rfl, hq, ⟨⟨vs, x.s _ _ e, ?_⟩, s0.free hq⟩, ⟨x.h, Same.refl _, fun b o h => x.s _ _ (x.g _ _ h), fun b o h => .inl h⟩⟩
  clear e
  induction p with
  | nil => exact .nil
  | cons h t ih => exact .cons (Flat.flat h) ih
/-- an own list without items -/
theorem evO_nil : EvN X (.List [] pos) σ G H (fun G H v => ∃ q, v = .ref q ∧ H q = some (.lst []) ∧ G q = none) :=
  evN_of (pe_lst pa_nil) fun G1 H1 x1 Q q => ⟨Nat.zero_le _, fun p hp => q G1 _ _ ((Ext.refl x1.s).newH hp) ⟨p, rfl, upd_same, x1.s.free hp⟩ fun p' e => by cases e; exact hp⟩
theorem s_nil {α : Type} [Rep α] {i : Nat} {n : Str} {lp : Pos} (hN : X.N.Nodup) (sl : Ss X i n) (s0 : Same G H) (k : ∀ H1 q, Ext G H G H1 → HLen H1 → H q = none → Own X.K G H1 q ([] : List α) → D.nx (σ.set i (some (.ref q))) H1)
    (hs : swapsWith (.List [] lp) (some (.Name n p)) pos.line X.env = pure false := by rfl) : tS X (.Assign [.Name n p] (.List [] lp) pos) D σ H :=
  s_of (ps_set hN sl.hN sl.hx pe_sem hs sl.hf) (tE_len (tE_of' s0 k))
  where tE_of' (s0 : Same G H) (k : ∀ H1 q, Ext G H G H1 → HLen H1 → H q = none → Own X.K G H1 q ([] : List α) → D.nx (σ.set i (some (.ref q))) H1) : tE X (.List [] lp) σ H (fun v H' => HLen H' → D.nx (σ.set i (some v)) H') :=
    ⟨fun pins s I => (pe_lst pa_nil).run pins s σ H _ I ⟨Nat.zero_le _, fun q hq l => k _ q ((Ext.refl s0).newH hq) l hq ⟨⟨[], upd_same, .nil⟩, s0.free hq⟩⟩⟩
/-- q.append(e) -/
theorem s_append {α : Type} [Rep α] {xs : List α} {y : α} {i : Nat} {n : Str} {q : Addr} {ap cp np : Pos} (sl : Sl X i n) (s0 : Same G H) (o : Own X.K G H q xs) (h : Ev X e σ G H y) (hz : xs.length < sizeLine)
    (k : ∀ G1 H1 vs', Ext G H G1 H1 → HLen H1 → Own X.K G1 (upd H1 q (.lst vs')) q (xs ++ [y]) → D.nx σ (upd H1 q (.lst vs'))) (h0 : σ[i]? = some (some (.ref q)) := by rfl)
    (hbase : attributeBase (.Name n np) "append" X.env (eval (.Name n np) X.env) = eval (.Name n np) X.env := by rfl)
    (hfew : ((backTo cp (starEach [e] X.env)).all (fun x => !x.1) && (backToKw cp (keywordEach [] X.env)).all (fun x => x.1.isSome)
      && decide ([e].length + ([] : List Keyword).length + (if ([] : List Keyword).isEmpty then 0 else 1) < 30)) = true := by rfl)
    (hline : (ap.endLine == cp.line) = true := by rfl) (he : starEach [e] X.env = (false, eval e X.env) :: starEach [] X.env := by rfl) (hplain : (backTo cp (starEach [] X.env)).any (·.1) = false := by rfl)
    (hsw : swapsWith (.Call (.Attribute (.Name n np) "append" ap) [e] [] cp) none pos.line X.env = pure false := by rfl) :
    tS X (.Expr (.Call (.Attribute (.Name n np) "append" ap) [e] [] cp) pos) D σ H := by
  obtain ⟨vs, eq, pr⟩ := o.at_
  refine s_of (ps_expr (pe_bm PySem.F.plainAttrs_list PySem.F.slot_list_append PySem.F.type_list_append mt_append (pe_var sl.hN sl.hv sl.nm.hd sl.nm.hcd) (pa_cons pe_sem pa_nil he) hbase hfew hline he hplain) hsw) ?_
  refine ⟨_, h0, .inl ⟨rfl, _, SqL.of eq⟩, h G H (Ext.refl s0) _ fun G1 H1 w x l rw' => ?_⟩
  have e1 : H1 q = some (.lst vs) := x.h _ _ eq
  exact ⟨q, vs, w, rfl, rfl, e1, by rw [paired_len pr]; exact hz, k G1 H1 _ x l ⟨⟨_, upd_same, paired_app (pair_up x.g pr) (.cons rw' .nil)⟩, x.off o.off eq⟩⟩
/-- an own list handed on: frozen from now on -/
theorem Own.frz {α : Type} [Rep α] {K : PySem.W.Frag} {G0 H0 : Hp} {q : Addr} {xs : List α} (o : Own K G H q xs) (x0 : Ext G0 H0 G H) (n : H0 q = none) : ∃ G', Ext G0 H0 G' H ∧ Same G G' ∧ rep K G' (.ref q) xs :=
  let ⟨vs, e, p⟩ := o.at_; ⟨upd G q (.lst vs), x0.frz n e, same_new o.off, q, vs, rfl, upd_same, pair_up (same_new o.off) p⟩
/-- for: I tells what is left to be walked, the slots and the world -/
theorem s_for {α : Type} [Rep α] {xs : List α} {T : TgT α} {g : TG} {iter : Expr} {body : List Stmt} (hp : PassesOwn (model X.prog X.w) X.A X.env X.xe) (hc : X.calm = true) (hg : PG X tg g) (ha : Acts X.K g T) (s0 : Same G H) (hi : EvI X tg iter σ G H xs)
    (I : List α → St → Hp → Hp → Prop) (h0 : ∀ G1 H1, Ext G H G1 H1 → I xs σ G1 H1)
    (hs : ∀ x rest σ1 G1 H1 G2 H2 σ2, (∃ l, l ++ x :: rest = xs) ∧ xs.length ≤ sizeLine → Same G G1 → Same G1 H1 → I (x :: rest) σ1 G1 H1 → Ext G1 H1 G2 H2 → HLen H2 → T G2 x σ1 σ2 →
      tSs X body { D with nx := fun σ' H' => ∃ G', Same G2 G' ∧ Same G' H' ∧ I rest σ' G' H', ct := fun σ' H' => ∃ G', Same G2 G' ∧ Same G' H' ∧ I rest σ' G' H', bk := D.nx } σ2 H2)
    (hd : ∀ σ1 G1 H1, Same G G1 → Same G1 H1 → I [] σ1 G1 H1 → D.nx σ1 H1) (hsf : ∀ x, foldedSetIterable iter X.env x = pure x := by intro _; rfl) : tS X (.For tg iter body [] pos) D σ H := by
  obtain ⟨wi, pi, hi⟩ := hi
  refine s_of (ps_for hp hc pi hg pss_sem hsf) (hi G H (Ext.refl s0) _ fun J Gs Hs xs0 hl hw => ?_)
  refine ⟨fun i m σ' H' => m = xs.length - i ∧ i ≤ xs.length ∧ ∃ G', Same Gs G' ∧ Same G' H' ∧ I (xs.drop i) σ' G' H', ⟨xs.length, rfl, Nat.zero_le _, Gs, Same.refl _, xs0.s, h0 Gs Hs xs0⟩, ?_⟩
  rintro i m σ' H' ⟨rfl, hi', G', sg, sh, Iv⟩
  obtain ⟨go, stop, yld⟩ := hw G' H' sg sh
  by_cases hlt : i < xs.length
  · have hx : xs[i]? = some xs[i] := List.getElem?_eq_getElem hlt
    have ed : xs.drop i = xs[i] :: xs.drop (i + 1) := List.drop_eq_getElem_cons hlt
    rw [ed] at Iv
    refine .inr ⟨go i hlt, fun σ2 H2 => ∃ G2, Same Gs G2 ∧ Same G2 H2 ∧ I (xs.drop (i + 1)) σ2 G2 H2, fun σ2 H2 q => ⟨_, by omega, rfl, hlt, q⟩, fun v H'' y => ?_⟩
    obtain ⟨G'', x'', rv⟩ := yld i _ v H'' hx y
    refine ha _ v G'' H'' _ _ x''.s rv fun σ2 hT => tSs_lenI fun l => ?_
    refine .mk fun pins s Iv' => ?_
    refine thn ((hs xs[i] (xs.drop (i + 1)) σ' G' H' G'' H'' σ2 ⟨⟨xs.take i, by rw [← ed, List.take_append_drop]⟩, hl⟩ (xs0.g.trans sg) sh Iv x'' l hT).run pins s Iv') fun f s' q => ?_
    have fin : ∀ {H3 : Hp} {σ3 : St}, (∃ G3, Same G'' G3 ∧ Same G3 H3 ∧ I (xs.drop (i + 1)) σ3 G3 H3) → ∃ G2, Same Gs G2 ∧ Same G2 H3 ∧ I (xs.drop (i + 1)) σ3 G2 H3 := fun ⟨G3, a, b, c⟩ => ⟨G3, sg.trans (x''.g.trans a), b, c⟩
    cases f with
    | next =>
      obtain ⟨σ3, H3, I3, q⟩ := q
      exact ⟨σ3, H3, I3, fin q⟩
    | cont =>
      obtain ⟨σ3, H3, I3, q⟩ := q
      exact ⟨σ3, H3, I3, fin q⟩
    | brk => exact q
    | ret u => exact q
  · have e : i = xs.length := by omega
    subst e
    rw [List.drop_length] at Iv
    exact .inl ⟨stop, hd σ' G' H' (xs0.g.trans sg) sh Iv⟩
end

/-! ### what a loop's turns come to -/
inductive LR (R S : Type) where
  | ret (r : R) | nxt (s : S) | brk (s : S)
def lrun {α R S : Type} (step : α → S → LR R S) : List α → S → LR R S
  | [], s => .nxt s
  | x :: xs, s => match step x s with
    | .nxt s' => lrun step xs s'
    | .brk s' => .nxt s'
    | .ret r => .ret r
theorem lrun_nxt {α R S : Type} {step : α → S → LR R S} {x : α} {xs : List α} {s s' : S} {y : LR R S} (e : lrun step (x :: xs) s = y) (h : step x s = .nxt s') : lrun step xs s' = y := by
  rw [← e]
  show _ = match step x s with | .nxt s' => lrun step xs s' | .brk s' => .nxt s' | .ret r => .ret r
  rw [h]
theorem lrun_brk {α R S : Type} {step : α → S → LR R S} {x : α} {xs : List α} {s s' : S} {y : LR R S} (e : lrun step (x :: xs) s = y) (h : step x s = .brk s') : y = .nxt s' := by
  rw [← e]
  show (match step x s with | .nxt s' => lrun step xs s' | .brk s' => .nxt s' | .ret r => .ret r) = _
  rw [h]
theorem lrun_ret {α R S : Type} {step : α → S → LR R S} {x : α} {xs : List α} {s : S} {r : R} {y : LR R S} (e : lrun step (x :: xs) s = y) (h : step x s = .ret r) : y = .ret r := by
  rw [← e]
  show (match step x s with | .nxt s' => lrun step xs s' | .brk s' => .nxt s' | .ret r => .ret r) = _
  rw [h]
/-- behind a loop: what it handed back, or what follows it -/
def LR.out {R S : Type} (y : LR R S) (k : S → R) : R := match y with
  | .ret r => r
  | .nxt s => k s
  | .brk s => k s
def LR.andThen {R S S' : Type} (y : LR R S) (k : S → LR R S') : LR R S' := match y with
  | .ret r => .ret r
  | .nxt s => k s
  | .brk s => k s

/-! ### defs -/
section
variable {P : Program} {w : World} {K : PySem.W.Frag} {mg : Str → Option Value} {base : Heap} {x : Str} {st : Stmt} {f : Addr} {fd : FuncData} {N ps : List Str} {k : Nat}
theorem cal_of {sp : Sp} (F : Fun K x x st f fd) (hm : mg x = some (.ref f)) (hb : Binds K fd ps []) (S : FnScope N ps (defScope st)) (len : ∀ vs H Q E, sp vs H Q E → vs.length = ps.length)
    (body : ∀ (cdv : Value) (A : Around) (outer : List Env) (s : Shared) (H : Hp) (vs : List V) (Q : VK) (E : XK), Room k (A.deeper (envOfC x (defScope st) s.heap.objs.size f cdv)) → sp vs H Q E →
      tSs (cxOf (L2.CX P w) P w K mg base N x (defScope st) f cdv A outer s H E) (defBody st) { nx := fun _ H' => Q .non H', rt := Q } (start N vs) H) : Cal P w K mg base (k + 1) x sp :=
  ⟨f, fd, ps, F.okX S len fun cdv A outer s H vs Q E hr h => ⟨_, pss_sem, body cdv A outer s H vs Q E hr h⟩, hm, F.kp, hb⟩
theorem fok_of {sp : Sp} (F : Fun K x x st f fd) (S : FnScope N ps (defScope st)) (len : ∀ vs H Q E, sp vs H Q E → vs.length = ps.length)
    (body : ∀ (cdv : Value) (A : Around) (outer : List Env) (s : Shared) (H : Hp) (vs : List V) (Q : VK) (E : XK), Room k (A.deeper (envOfC x (defScope st) s.heap.objs.size f cdv)) → sp vs H Q E →
      tSs (cxOf (L2.CX P w) P w K mg base N x (defScope st) f cdv A outer s H E) (defBody st) { nx := fun _ H' => Q .non H', rt := Q } (start N vs) H) : FnOk P w K mg base (L2.CX P w) (k + 1) f fd ps sp :=
  F.okX S len fun cdv A outer s H vs Q E hr h => ⟨_, pss_sem, body cdv A outer s H vs Q E hr h⟩
variable {α β γ δ ε ζ : Type} [Rep α] [Rep β] [Rep γ] [Rep δ] [Rep ε] [Rep ζ] {fr : Bool}
/-- what a def's end wants: y, from G, H on -/
structure End (K : PySem.W.Frag) (fr : Bool) (G H : Hp) (y : ζ) (D : Ends) : Prop where
  rt : ∀ G2 H2 w, Ext G H G2 H2 → rep K G2 w y → (fr = true → New H w) → D.rt w H2
  nx : ∀ G2 H2 σ, Ext G H G2 H2 → rep K G2 .non y → D.nx σ H2
theorem End.to {K : PySem.W.Frag} {G H : Hp} {y z : ζ} {D : Ends} (h : End K fr G H y D) (e : y = z) : End K fr G H z D := e ▸ h
theorem End.tt {K : PySem.W.Frag} {G H : Hp} {x : Bool} {y z : ζ} {D : Ends} (h : End K fr G H (if x = true then y else z) D) (e : x = true) : End K fr G H y D := by rwa [if_pos e] at h
theorem End.ff {K : PySem.W.Frag} {G H : Hp} {x : Bool} {y z : ζ} {D : Ends} (h : End K fr G H (if x = true then y else z) D) (e : x = false) : End K fr G H z D := by rwa [if_neg (by rw [e]; decide)] at h
theorem End.outR {K : PySem.W.Frag} {G H : Hp} {S : Type} {y : LR ζ S} {k : S → ζ} {r : ζ} {D : Ends} (h : End K fr G H (y.out k) D) (e : y = .ret r) : End K fr G H r D := by rwa [e] at h
theorem End.outN {K : PySem.W.Frag} {G H : Hp} {S : Type} {y : LR ζ S} {k : S → ζ} {s : S} {D : Ends} (h : End K fr G H (y.out k) D) (e : y = .nxt s) : End K fr G H (k s) D := by rwa [e] at h
theorem end_of {K : PySem.W.Frag} {G H : Hp} {y : ζ} {Q : VK} (q : ∀ G2 H2 w, Ext G H G2 H2 → rep K G2 w y → (fr = true → New H w) → Q w H2) : End K fr G H y { nx := fun _ H' => Q .non H', rt := Q } :=
  ⟨q, fun G2 H2 _ x r => q G2 H2 _ x r fun _ p e => nomatch e⟩
theorem fn1 {pre : α → Prop} {m : α → ζ} (F : Fun K x x st f fd) (hm : mg x = some (.ref f)) (hb : Binds K fd ps []) (S : FnScope N ps (defScope st)) (hl : ps.length = 1)
    (body : ∀ (cdv : Value) (A : Around) (outer : List Env) (s : Shared) (H : Hp) (E : XK), Room k (A.deeper (envOfC x (defScope st) s.heap.objs.size f cdv)) → ∀ (G : Hp) (v1 : V) (x1 : α) (D : Ends), Same G H → rep K G v1 x1 → pre x1 → End K fr G H (m x1) D →
      tSs (cxOf (L2.CX P w) P w K mg base N x (defScope st) f cdv A outer s H E) (defBody st) D (start N [v1]) H) : Cal P w K mg base (k + 1) x (Sp1 K fr pre m) :=
  cal_of F hm hb S (fun vs H Q E h => by obtain ⟨_, _, _, rfl, _⟩ := h; exact hl.symm) fun cdv A outer s H vs Q E hr h => by
    obtain ⟨G, v1, x1, rfl, s0, r1, hp, q⟩ := h
    exact body cdv A outer s H E hr G v1 x1 _ s0 r1 hp (end_of q)
theorem fn1F {pre : α → Prop} {m : α → ζ} (F : Fun K x x st f fd) (hm : mg x = some (.ref f)) (hb : Binds K fd ps []) (S : FnScope N ps (defScope st)) (hl : ps.length = 1)
    (body : ∀ (cdv : Value) (A : Around) (outer : List Env) (s : Shared) (H : Hp) (E : XK), Room k (A.deeper (envOfC x (defScope st) s.heap.objs.size f cdv)) → ∀ (G : Hp) (v1 : V) (x1 : α) (D : Ends), Same G H → rep K G v1 x1 → pre x1 → End K fr G H (m x1) D →
      tSs (cxOf (L2.CX P w) P w K mg base N x (defScope st) f cdv A outer s H E) (defBody st) D (start N [v1]) H) : FnOk P w K mg base (L2.CX P w) (k + 1) f fd ps (Sp1 K fr pre m) :=
  fok_of F S (fun vs H Q E h => by obtain ⟨_, _, _, rfl, _⟩ := h; exact hl.symm) fun cdv A outer s H vs Q E hr h => by
    obtain ⟨G, v1, x1, rfl, s0, r1, hp, q⟩ := h
    exact body cdv A outer s H E hr G v1 x1 _ s0 r1 hp (end_of q)
theorem fn2 {pre : α → β → Prop} {m : α → β → ζ} (F : Fun K x x st f fd) (hm : mg x = some (.ref f)) (hb : Binds K fd ps []) (S : FnScope N ps (defScope st)) (hl : ps.length = 2)
    (body : ∀ (cdv : Value) (A : Around) (outer : List Env) (s : Shared) (H : Hp) (E : XK), Room k (A.deeper (envOfC x (defScope st) s.heap.objs.size f cdv)) → ∀ (G : Hp) (v1 v2 : V) (x1 : α) (x2 : β) (D : Ends), Same G H → rep K G v1 x1 → rep K G v2 x2 → pre x1 x2 → End K fr G H (m x1 x2) D →
      tSs (cxOf (L2.CX P w) P w K mg base N x (defScope st) f cdv A outer s H E) (defBody st) D (start N [v1, v2]) H) : Cal P w K mg base (k + 1) x (Sp2 K fr pre m) :=
  cal_of F hm hb S (fun vs H Q E h => by obtain ⟨_, _, _, _, _, rfl, _⟩ := h; exact hl.symm) fun cdv A outer s H vs Q E hr h => by
    obtain ⟨G, v1, v2, x1, x2, rfl, s0, r1, r2, hp, q⟩ := h
    exact body cdv A outer s H E hr G v1 v2 x1 x2 _ s0 r1 r2 hp (end_of q)
theorem fn3 {pre : α → β → γ → Prop} {m : α → β → γ → ζ} (F : Fun K x x st f fd) (hm : mg x = some (.ref f)) (hb : Binds K fd ps []) (S : FnScope N ps (defScope st)) (hl : ps.length = 3)
    (body : ∀ (cdv : Value) (A : Around) (outer : List Env) (s : Shared) (H : Hp) (E : XK), Room k (A.deeper (envOfC x (defScope st) s.heap.objs.size f cdv)) → ∀ (G : Hp) (v1 v2 v3 : V) (x1 : α) (x2 : β) (x3 : γ) (D : Ends), Same G H → rep K G v1 x1 → rep K G v2 x2 → rep K G v3 x3 → pre x1 x2 x3 → End K fr G H (m x1 x2 x3) D →
      tSs (cxOf (L2.CX P w) P w K mg base N x (defScope st) f cdv A outer s H E) (defBody st) D (start N [v1, v2, v3]) H) : Cal P w K mg base (k + 1) x (Sp3 K fr pre m) :=
  cal_of F hm hb S (fun vs H Q E h => by obtain ⟨_, _, _, _, _, _, _, rfl, _⟩ := h; exact hl.symm) fun cdv A outer s H vs Q E hr h => by
    obtain ⟨G, v1, v2, v3, x1, x2, x3, rfl, s0, r1, r2, r3, hp, q⟩ := h
    exact body cdv A outer s H E hr G v1 v2 v3 x1 x2 x3 _ s0 r1 r2 r3 hp (end_of q)
theorem fn4 {pre : α → β → γ → δ → Prop} {m : α → β → γ → δ → ζ} (F : Fun K x x st f fd) (hm : mg x = some (.ref f)) (hb : Binds K fd ps []) (S : FnScope N ps (defScope st)) (hl : ps.length = 4)
    (body : ∀ (cdv : Value) (A : Around) (outer : List Env) (s : Shared) (H : Hp) (E : XK), Room k (A.deeper (envOfC x (defScope st) s.heap.objs.size f cdv)) → ∀ (G : Hp) (v1 v2 v3 v4 : V) (x1 : α) (x2 : β) (x3 : γ) (x4 : δ) (D : Ends), Same G H → rep K G v1 x1 → rep K G v2 x2 → rep K G v3 x3 → rep K G v4 x4 → pre x1 x2 x3 x4 → End K fr G H (m x1 x2 x3 x4) D →
      tSs (cxOf (L2.CX P w) P w K mg base N x (defScope st) f cdv A outer s H E) (defBody st) D (start N [v1, v2, v3, v4]) H) : Cal P w K mg base (k + 1) x (Sp4 K fr pre m) :=
  cal_of F hm hb S (fun vs H Q E h => by obtain ⟨_, _, _, _, _, _, _, _, _, rfl, _⟩ := h; exact hl.symm) fun cdv A outer s H vs Q E hr h => by
    obtain ⟨G, v1, v2, v3, v4, x1, x2, x3, x4, rfl, s0, r1, r2, r3, r4, hp, q⟩ := h
    exact body cdv A outer s H E hr G v1 v2 v3 v4 x1 x2 x3 x4 _ s0 r1 r2 r3 r4 hp (end_of q)
end
end RL

namespace RL
open PySem PySem.Spec PyProof.Rows L2 Rep
section
variable {α : Type}
theorem rep_of [Rep α] {K : PySem.W.Frag} {G : Hp} {v : V} {x y : α} (e : x = y) (r : rep K G v y) : rep K G v x := e ▸ r
theorem tk_tt {a y z : α} {x : Bool} (h : a = if x = true then y else z) (e : x = true) : a = y := by rwa [if_pos e] at h
theorem tk_ff {a y z : α} {x : Bool} (h : a = if x = true then y else z) (e : x = false) : a = z := by rwa [if_neg (by rw [e]; decide)] at h
theorem tk_outR {S : Type} {a : α} {y : LR α S} {k : S → α} {r : α} (h : a = y.out k) (e : y = .ret r) : a = r := by rw [e] at h; exact h
theorem tk_outN {S : Type} {a : α} {y : LR α S} {k : S → α} {s : S} (h : a = y.out k) (e : LR.nxt s = y) : a = k s := by rw [← e] at h; exact h
theorem tk_anR {S S' : Type} {a : LR α S'} {y : LR α S} {k : S → LR α S'} {r : α} (h : a = y.andThen k) (e : y = .ret r) : a = .ret r := by rw [e] at h; exact h
theorem tk_anN {S S' : Type} {a : LR α S'} {y : LR α S} {k : S → LR α S'} {s : S} (h : a = y.andThen k) (e : LR.nxt s = y) : a = k s := by rw [← e] at h; exact h
theorem tk_fold {S : Type} {a : α} {y s : S} {k : S → α} (h : a = k y) (e : s = y) : a = k s := by rw [e]; exact h
def lfold {S : Type} (step : α → S → S) : List α → S → S
  | [], s => s
  | x :: xs, s => lfold step xs (step x s)
theorem lfold_nxt {S : Type} {step : α → S → S} {x : α} {xs : List α} {s s' y : S} (e : lfold step (x :: xs) s = y) (h : step x s = s') : lfold step xs s' = y := by
  rw [← e, ← h]
  rfl
theorem mem_of {x : α} {rest xs : List α} (h : ∃ l, l ++ x :: rest = xs) : x ∈ xs := by
  obtain ⟨l, rfl⟩ := h
  simp
end
theorem mem_len {α : Type} {x : α} {rest xs : List α} (h : ∃ l, l ++ x :: rest = xs) : rest.length < xs.length := by
  obtain ⟨l, rfl⟩ := h
  rw [List.length_append, List.length_cons]
  omega
/-- a new list of flat things is the def's own from some moment on -/
theorem thaw {α : Type} [Rep α] [Flat α] {K : PySem.W.Frag} {G0 H0 Ga Ha Gb Hb Gw Hw : Hp} {v : V} {xs : List α} (xa : Ext G0 H0 Ga Ha) (x : Ext Ga Ha Gb Hb) (n : New Ha v) (xw : Ext G0 H0 Gw Hw) (s : Same Hb Hw) (r : rep K Gb v xs) :
    ∃ q, v = .ref q ∧ H0 q = none ∧ Own K Ga Hw q xs ∧ Ext G0 H0 Ga Hw := by
  obtain ⟨q, vs, rfl, e, p⟩ := r
  have hq : Ha q = none := n q rfl
  refine ⟨q, rfl, xa.h.free hq, ⟨⟨vs, s _ _ (x.s _ _ e), ?_⟩, xa.s.free hq⟩, ⟨xw.h, xa.g, fun b o h => s _ _ (x.h _ _ (xa.s _ _ h)), xa.n⟩⟩
  clear e
  induction p with
  | nil => exact .nil
  | cons h t ih => exact .cons (Flat.flat h) ih

section
variable {X : Cx} {σ : St} {G H : Hp} {P Pa Pb : PV} {e a b c tg : Expr} {es : List Expr} {st : Stmt} {sts sts' : List Stmt} {pos p : Pos} {D : Ends}
theorem s_retN_ (s0 : Same G H) (h : EvN X e σ G H P) (k : ∀ G1 H1 v, Ext G H G1 H1 → HLen H1 → P G1 H1 v → New H v → D.rt v H1) : tS X (.Return (some e) pos) D σ H :=
  s_of (ps_ret pe_sem) (h G H (Ext.refl s0) _ fun G1 H1 v x l r n => k G1 H1 v x l r n)
/-- the very value of a name -/
theorem s_retV {i : Nat} {n : Str} {np : Pos} {v : V} (sl : Sl X i n) (s0 : Same G H) (k : D.rt v H) (h : σ[i]? = some (some v) := by rfl) : tS X (.Return (some (.Name n np)) pos) D σ H :=
  s_of (ps_ret (pe_var sl.hN sl.hv sl.nm.hd sl.nm.hcd)) ⟨v, h, k⟩

/-! ### comprehensions, as a value and as a statement -/
def LcOk (X : Cx) (elt : Expr) (gen : Comprehension) (scope : Scope) (σ : St) (G H : Hp) (P : PV) : Prop :=
  ∃ (tg iter : Expr) (ifs : List Expr) (wi : TI) (g : TG) (own : List (Str × Nat)), gen = ⟨tg, iter, ifs, 0⟩ ∧ X.calm = true ∧ X.N.Nodup ∧ PI X tg iter wi ∧ BlkOk X.N X.env.scope scope own ∧
    (∀ (s : Shared) (H : Hp) (C : Addr) (cl : List (Str × Addr)) (fp : List Addr), PG (X.blk s H scope (compEnvC scope cl C X.env) fp) tg g) ∧ (∀ x, foldedSetIterable iter X.env x = pure x) ∧
    ∀ G1 H1, Ext G H G1 H1 → ∀ Q : VK, (∀ G2 H2 v, Ext G1 H1 G2 H2 → P G2 H2 v → New H1 v → Q v H2) → tLc wi g (lcT X scope ifs) (lcE X scope elt) (own.map (·.2)) σ H1 Q
theorem evN_lc {elt : Expr} {gen : Comprehension} {scope : Scope} (h : LcOk X elt gen scope σ G H P) : EvN X (.ListComp elt [gen] scope pos) σ G H P := by
  obtain ⟨tg, iter, ifs, wi, g, own, rfl, hc, hN, pi, ok, hg, hs, k⟩ := h
  exact evN_of (pe_lc hc hN pi ok hg pts_lc pe_lcE hs) k
theorem ev_lc {elt : Expr} {gen : Comprehension} {scope : Scope} (h : LcOk X elt gen scope σ G H P) : EvP X (.ListComp elt [gen] scope pos) σ G H P := (evN_lc h).ev
theorem s_setLc {elt : Expr} {gen : Comprehension} {scope : Scope} {pos' : Pos} {i : Nat} {n : Str} (hN : X.N.Nodup) (sl : Ss X i n) (s0 : Same G H) (h : LcOk X elt gen scope σ G H P) (k : ∀ G1 H1 v, Ext G H G1 H1 → HLen H1 → P G1 H1 v → New H v → D.nx (σ.set i (some v)) H1)
    (hl : X.env.scope.names.lookup n = some .local := by rfl) (hsw : swapsWith (.ListComp elt [gen] scope pos) (some (.Name n p)) pos'.line X.env = pure true := by exact sw_true rfl rfl rfl (by decide +kernel)) :
    tS X (.Assign [.Name n p] (.ListComp elt [gen] scope pos) pos') D σ H := by
  obtain ⟨tg, iter, ifs, wi, g, own, rfl, hc, hN', pi, ok, hg, hs, k'⟩ := h
  exact tS_len (s_of (ps_setLc hc hN sl.hN hl hsw pi ok hg pts_lc pe_lcE hs) (k' G H (Ext.refl s0) _ fun G1 H1 v x r n l => k G1 H1 v x l r n))
variable {α β γ : Type} [Rep α] [Rep β] [Rep γ] {iter elt : Expr} {ifs : List Expr} {scope : Scope}
theorem lc1 {xs : List α} {n : Str} {np : Pos} {i : Nat} (f : α → β) (t : α → Bool) (hc : X.calm = true) (hN : X.N.Nodup) (hi : EvI X (.Name n np) iter σ G H xs) (own : List (Str × Nat)) (ok : BlkOk X.N X.env.scope scope own)
    (hg : ∀ (s : Shared) (H : Hp) (C : Addr) (cl : List (Str × Addr)) (fp : List Addr), PG (X.blk s H scope (compEnvC scope cl C X.env) fp) (.Name n np) (gName i))
    (ht : ∀ x v G1 H1, x ∈ xs → Ext G H G1 H1 → rep X.K G1 v x → ∀ s H0 C cl fp, EvTs (InB X scope s H0 C cl fp) ifs ((wipe σ (own.map (·.2))).set i (some v)) G1 H1 (t x))
    (he : ∀ x v G1 H1, x ∈ xs → t x = true → Ext G H G1 H1 → rep X.K G1 v x → ∀ s H0 C cl fp, Ev (InB X scope s H0 C cl fp) elt ((wipe σ (own.map (·.2))).set i (some v)) G1 H1 (f x))
    (hw : ∀ v, wipe ((wipe σ (own.map (·.2))).set i (some v)) (own.map (·.2)) = wipe σ (own.map (·.2)) := by intro _; rfl) (hs : ∀ x, foldedSetIterable iter X.env x = pure x := by intro _; rfl) :
    LcOk X elt ⟨.Name n np, iter, ifs, 0⟩ scope σ G H (Is X.K ((xs.filter t).map f)) := by
  obtain ⟨wi, pi, hi⟩ := hi
  exact ⟨_, _, _, wi, _, own, rfl, hc, hN, pi, ok, hg, hs, fun G1 H1 x1 Q q => lc_go (T := T1 X.K i) (f := f) (t := t) hi acts1 (fun G x σ' ⟨v, _, e⟩ => by rw [e]; exact hw v)
    (fun x G1 H1 σ' hx e ⟨v, r, e'⟩ => e' ▸ ht x v G1 H1 hx e r) (fun x G1 H1 σ' hx hb e ⟨v, r, e'⟩ => e' ▸ he x v G1 H1 hx hb e r) t1_up G1 H1 x1 Q q⟩
theorem filter_tt {xs : List α} : xs.filter (fun _ => true) = xs := List.filter_eq_self.mpr fun _ _ => rfl
theorem lc1A {xs : List α} {n : Str} {np : Pos} {i : Nat} (f : α → β) (hc : X.calm = true) (hN : X.N.Nodup) (hi : EvI X (.Name n np) iter σ G H xs) (own : List (Str × Nat)) (ok : BlkOk X.N X.env.scope scope own)
    (hg : ∀ (s : Shared) (H : Hp) (C : Addr) (cl : List (Str × Addr)) (fp : List Addr), PG (X.blk s H scope (compEnvC scope cl C X.env) fp) (.Name n np) (gName i))
    (he : ∀ x v G1 H1, x ∈ xs → Ext G H G1 H1 → rep X.K G1 v x → ∀ s H0 C cl fp, Ev (InB X scope s H0 C cl fp) elt ((wipe σ (own.map (·.2))).set i (some v)) G1 H1 (f x))
    (hw : ∀ v, wipe ((wipe σ (own.map (·.2))).set i (some v)) (own.map (·.2)) = wipe σ (own.map (·.2)) := by intro _; rfl) (hs : ∀ x, foldedSetIterable iter X.env x = pure x := by intro _; rfl) :
    LcOk X elt ⟨.Name n np, iter, [], 0⟩ scope σ G H (Is X.K (xs.map f)) := by
  have h := lc1 (ifs := []) f (fun _ => true) hc hN hi own ok hg (fun _ _ _ _ _ _ _ _ _ _ _ _ => ets_nil) (fun x v G1 H1 hx _ => he x v G1 H1 hx) hw hs
  rwa [filter_tt] at h
theorem lc2 {xs : List (α × γ)} {tg : Expr} {i j : Nat} (f : α × γ → β) (t : α × γ → Bool) (hc : X.calm = true) (hN : X.N.Nodup) (hi : EvI X tg iter σ G H xs) (own : List (Str × Nat)) (ok : BlkOk X.N X.env.scope scope own)
    (hg : ∀ (s : Shared) (H : Hp) (C : Addr) (cl : List (Str × Addr)) (fp : List Addr), PG (X.blk s H scope (compEnvC scope cl C X.env) fp) tg (gTup X.K 2 (gCons (gName i) (gCons (gName j) gNil))))
    (ht : ∀ x u w G1 H1, x ∈ xs → Ext G H G1 H1 → rep X.K G1 u x.1 → rep X.K G1 w x.2 → ∀ s H0 C cl fp, EvTs (InB X scope s H0 C cl fp) ifs (((wipe σ (own.map (·.2))).set i (some u)).set j (some w)) G1 H1 (t x))
    (he : ∀ x u w G1 H1, x ∈ xs → t x = true → Ext G H G1 H1 → rep X.K G1 u x.1 → rep X.K G1 w x.2 → ∀ s H0 C cl fp, Ev (InB X scope s H0 C cl fp) elt (((wipe σ (own.map (·.2))).set i (some u)).set j (some w)) G1 H1 (f x))
    (hw : ∀ u w, wipe (((wipe σ (own.map (·.2))).set i (some u)).set j (some w)) (own.map (·.2)) = wipe σ (own.map (·.2)) := by intro _ _; rfl) (hs : ∀ x, foldedSetIterable iter X.env x = pure x := by intro _; rfl) :
    LcOk X elt ⟨tg, iter, ifs, 0⟩ scope σ G H (Is X.K ((xs.filter t).map f)) := by
  obtain ⟨wi, pi, hi⟩ := hi
  exact ⟨_, _, _, wi, _, own, rfl, hc, hN, pi, ok, hg, hs, fun G1 H1 x1 Q q => lc_go (T := T2 X.K i j) (f := f) (t := t) hi acts2 (fun G x σ' ⟨u, w, _, _, e⟩ => by rw [e]; exact hw u w)
    (fun x G1 H1 σ' hx e ⟨u, w, r, r', e'⟩ => e' ▸ ht x u w G1 H1 hx e r r') (fun x G1 H1 σ' hx hb e ⟨u, w, r, r', e'⟩ => e' ▸ he x u w G1 H1 hx hb e r r') t2_up G1 H1 x1 Q q⟩
theorem lc2A {xs : List (α × γ)} {tg : Expr} {i j : Nat} (f : α × γ → β) (hc : X.calm = true) (hN : X.N.Nodup) (hi : EvI X tg iter σ G H xs) (own : List (Str × Nat)) (ok : BlkOk X.N X.env.scope scope own)
    (hg : ∀ (s : Shared) (H : Hp) (C : Addr) (cl : List (Str × Addr)) (fp : List Addr), PG (X.blk s H scope (compEnvC scope cl C X.env) fp) tg (gTup X.K 2 (gCons (gName i) (gCons (gName j) gNil))))
    (he : ∀ x u w G1 H1, x ∈ xs → Ext G H G1 H1 → rep X.K G1 u x.1 → rep X.K G1 w x.2 → ∀ s H0 C cl fp, Ev (InB X scope s H0 C cl fp) elt (((wipe σ (own.map (·.2))).set i (some u)).set j (some w)) G1 H1 (f x))
    (hw : ∀ u w, wipe (((wipe σ (own.map (·.2))).set i (some u)).set j (some w)) (own.map (·.2)) = wipe σ (own.map (·.2)) := by intro _ _; rfl) (hs : ∀ x, foldedSetIterable iter X.env x = pure x := by intro _; rfl) :
    LcOk X elt ⟨tg, iter, [], 0⟩ scope σ G H (Is X.K (xs.map f)) := by
  have h := lc2 (ifs := []) f (fun _ => true) hc hN hi own ok hg (fun _ _ _ _ _ _ _ _ _ _ _ _ _ _ => ets_nil) (fun x u w G1 H1 hx _ => he x u w G1 H1 hx) hw hs
  rwa [filter_tt] at h
/-! ### sorted, in, of ints -/
def ins (x : Int) : List Int → List Int
  | [] => [x]
  | y :: ys => if x ≤ y then x :: y :: ys else y :: ins x ys
def isort : List Int → List Int
  | [] => []
  | x :: xs => ins x (isort xs)
theorem ins_perm (x : Int) : ∀ ys, (ins x ys).Perm (x :: ys)
  | [] => .refl _
  | y :: ys => by
    unfold ins
    split
    · exact .refl _
    · exact ((ins_perm x ys).cons y).trans (.swap x y ys)
theorem isort_perm : ∀ xs, (isort xs).Perm xs
  | [] => .refl _
  | x :: xs => (ins_perm x _).trans ((isort_perm xs).cons x)
theorem mem_ins {x z : Int} {ys : List Int} : z ∈ ins x ys ↔ z = x ∨ z ∈ ys := by
  rw [(ins_perm x ys).mem_iff, List.mem_cons]
theorem ins_sorted (x : Int) : ∀ ys, ys.Pairwise (· ≤ ·) → (ins x ys).Pairwise (· ≤ ·)
  | [], _ => List.pairwise_singleton _ _
  | y :: ys, h => by
    unfold ins
    have h' := List.pairwise_cons.mp h
    split
    · rename_i hx
      exact List.pairwise_cons.mpr ⟨fun z hz => by
        rcases List.mem_cons.mp hz with rfl | hz
        · exact hx
        · exact Int.le_trans hx (h'.1 z hz), h⟩
    · rename_i hx
      exact List.pairwise_cons.mpr ⟨fun z hz => by
        rcases mem_ins.mp hz with rfl | hz
        · omega
        · exact h'.1 z hz, ins_sorted x ys h'.2⟩
theorem isort_sorted : ∀ xs, (isort xs).Pairwise (· ≤ ·)
  | [] => List.Pairwise.nil
  | x :: xs => ins_sorted x _ (isort_sorted xs)
theorem sorted_one : ∀ {xs ys : List Int}, xs.Perm ys → xs.Pairwise (· ≤ ·) → ys.Pairwise (· ≤ ·) → xs = ys
  | [], ys, p, _, _ => (List.nil_perm.mp p).symm
  | x :: xs, [], p, _, _ => absurd p.symm (List.not_perm_nil_cons _ _)
  | x :: xs, y :: ys, p, h1, h2 => by
    have a := List.pairwise_cons.mp h1
    have b := List.pairwise_cons.mp h2
    have e : x = y := by
      have m1 : x ∈ y :: ys := p.mem_iff.mp List.mem_cons_self
      have m2 : y ∈ x :: xs := p.mem_iff.mpr List.mem_cons_self
      rcases List.mem_cons.mp m1 with z | z
      · exact z
      · rcases List.mem_cons.mp m2 with w | w
        · exact w.symm
        · have := b.1 x z
          have := a.1 y w
          omega
    subst e
    rw [sorted_one (List.Perm.cons_inv p) a.2 b.2]
/-! ### new objects -/
theorem evN_bin {op : Operator} {ha' : MonoC Pa} (k : ∃ r : R2, OpR X (binaryOp op) r ∧ ∀ G1 H1 v u, Ext G H G1 H1 → HLen H1 → Pa G1 H1 v → Pb G1 H1 u → ∀ Q : VK, (∀ G2 H2 w, Ext G1 H1 G2 H2 → P G2 H2 w → New H1 w → Q w H2) → r v u H1 Q) (ha : EvP X a σ G H Pa) (hb : EvP X b σ G H Pb) : EvN X (.BinOp a op b pos) σ G H P :=
  let ⟨_, ho, k⟩ := k; evN_of (pe_op ho pe_sem pe_sem) fun G1 H1 x1 Q q => ha G1 H1 x1 _ fun G2 H2 v x2 _ pv => hb G2 H2 (x1.trans x2) _ fun G3 H3 u x3 l3 pu =>
    k G3 H3 v u ((x1.trans x2).trans x3) l3 (ha'.m _ _ _ _ _ x3 pv) pu Q fun G4 H4 w x4 pw n => q G4 H4 w ((x2.trans x3).trans x4) pw fun p e => (x2.trans x3).h.free (n p e)
theorem evN_sl {xs : List α} {inst : Rep α} {lo hi : Option Expr} {l u : Option Int} {p2 : Pos} [m : MonoC P] [s : AsSeq X.K P α inst xs] (h : EvP X a σ G H P) (h1 : EvO X lo σ G H l) (h2 : EvO X hi σ G H u) : EvN X (.Subscript a (.Slice lo hi none p2) pos) σ G H (Is X.K (cut xs l u)) := by
  obtain ⟨t1, p1, k1⟩ := h1
  obtain ⟨t2, p2, k2⟩ := h2
  exact evN_of (pe_slice sl_list pe_sem p1 p2) fun G1 H1 x1 Q q => h G1 H1 x1 _ fun G2 H2 v x2 _ pv => k1 G2 H2 (x1.trans x2) _ fun G3 H3 x3 => k2 G3 H3 ((x1.trans x2).trans x3) _ fun G4 H4 x4 => by
    obtain ⟨a, us, e, g, pr⟩ := s.seq _ _ _ x4.s (m.m _ _ _ _ _ (x3.trans x4) pv)
    exact ⟨a, us, e, g, fun p hp => q (upd G4 p (.lst _)) _ _ ((x2.trans (x3.trans x4)).new hp) ⟨p, _, rfl, upd_same, pair_up (same_new (x4.s.free hp)) (paired_cut pr)⟩ fun p' e => by cases e; exact (x2.trans (x3.trans x4)).h.free hp⟩
theorem ev_cat {xs ys : List α} {ia : Rep α} [m : MonoC Pa] [sa : AsOwn X.K Pa α ia xs] [sb : AsOwn X.K Pb α ia ys] (hl : xs.length + ys.length ≤ sizeLine) (ha : EvP X a σ G H Pa) (hb : EvP X b σ G H Pb) : Ev X (.BinOp a .Add b pos) σ G H (xs ++ ys) := ev_bin (b_cat hl) ha hb
theorem evN_cat {xs ys : List α} {ia : Rep α} [m : MonoC Pa] [sa : AsOwn X.K Pa α ia xs] [sb : AsOwn X.K Pb α ia ys] (hl : xs.length + ys.length ≤ sizeLine) (ha : EvP X a σ G H Pa) (hb : EvP X b σ G H Pb) : EvN X (.BinOp a .Add b pos) σ G H (Is X.K (xs ++ ys)) :=
  evN_bin (ha' := m) ⟨_, op_cat, fun G1 H1 v u x _ h1 h2 Q q => by
    obtain ⟨a, us, e, g, pr⟩ := sa.own _ _ _ x.s h1
    obtain ⟨a2, us2, e2, g2, pr2⟩ := sb.own _ _ _ x.s h2
    exact ⟨a, a2, us, us2, e, e2, g, g2, by rw [paired_len pr, paired_len pr2]; exact hl, fun p hp => q (upd G1 p (.lst (us ++ us2))) _ _ ((Ext.refl x.s).new hp) ⟨p, _, rfl, upd_same, pair_up (same_new (x.s.free hp)) (paired_app pr pr2)⟩ fun p' e => by cases e; exact hp⟩⟩ ha hb
theorem evN_revsl {xs : List α} {inst : Rep α} {k0 : Nat} {p1 p2 p3 : Pos} [s : AsSeq X.K P α inst xs] (h : EvP X e σ G H P) : EvN X (.Subscript e (.Slice none none (some (.UnaryOp .USub (.Constant (.int 1) k0 p1) p2)) p3) pos) σ G H (Is X.K xs.reverse) :=
  evN_of (pe_revL pe_sem) fun G1 H1 x1 Q q => h G1 H1 x1 _ fun G2 H2 v x2 _ pv => by
    obtain ⟨a, us, e, g, pr⟩ := s.seq _ _ _ x2.s pv
    exact ⟨a, us, e, g, fun p hp => q (upd G2 p (.lst _)) _ _ (x2.new hp) ⟨p, _, rfl, upd_same, pair_up (same_new (x2.s.free hp)) (paired_rev pr)⟩ fun p' e => by cases e; exact x2.h.free hp⟩
theorem evN_sorted {xs : List Int} [MonoC P] [s : AsSeq X.K P Int instRepInt xs] (B : Bl X "sorted") (h : EvP X e σ G H P) (he : starEach [e] X.env = (false, eval e X.env) :: starEach [] X.env := by rfl) : EvN X (.Call (.Name "sorted" p) [e] [] pos) σ G H (Is X.K (isort xs)) :=
  evN_of (pe_callB cr_sortedI B.g B.m PyProof.Rows.boot_sorted (pa_cons pe_sem pa_nil he) (by decide) (by decide) he rfl) fun G1 H1 x1 Q q => h G1 H1 x1 _ fun G2 H2 v x2 _ pv => by
    obtain ⟨a, us, e, g, pr⟩ := s.seq _ _ _ x2.s pv
    rw [paired_ints pr] at g
    refine ⟨a, xs, by rw [e], g, fun ns' p perm srt hp => ?_⟩
    have e : ns' = isort xs := sorted_one (perm.trans (isort_perm xs).symm) srt (isort_sorted xs)
    subst e
    exact q (upd G2 p (.lst _)) _ _ (x2.new hp) ⟨p, _, rfl, upd_same, ints_paired _⟩ fun p' e => by cases e; exact x2.h.free hp
theorem evN_copy {xs : List α} {inst : Rep α} [MonoC P] [s : AsSeq X.K P α inst xs] (B : Bl X "list") (h : EvP X e σ G H P) (he : starEach [e] X.env = (false, eval e X.env) :: starEach [] X.env := by rfl) : EvN X (.Call (.Name "list" p) [e] [] pos) σ G H (Is X.K xs) :=
  evN_of (pe_callTy call_list_of B.g B.m PyProof.Rows.boot_list (pa_cons pe_sem pa_nil he) (by decide) (by decide) he rfl) fun G1 H1 x1 Q q => h G1 H1 x1 _ fun G2 H2 v x2 _ pv => by
    obtain ⟨a, us, e, g, pr⟩ := s.seq _ _ _ x2.s pv
    exact ⟨a, us, by rw [e], .inl g, fun p hp => q (upd G2 p (.lst us)) _ _ (x2.new hp) ⟨p, us, rfl, upd_same, pair_up (same_new (x2.s.free hp)) pr⟩ fun p' e => by cases e; exact x2.h.free hp⟩
theorem evN_call {k : Nat} {n : Str} {p : Pos} {sp : Sp} {A : Hp → Hp → List V → Prop} (C : Cal X.prog X.w X.K X.mg X.base k n sp) (hr : Room k X.A) (hg : Gl X n) (ha : EvA X (e :: es) σ G H A)
    (h : ∀ G1 H1 vs, Ext G H G1 H1 → HLen H1 → A G1 H1 vs → ∀ Q : VK, (∀ G2 H2 v, Ext G1 H1 G2 H2 → P G2 H2 v → New H1 v → Q v H2) → sp vs H1 Q E0) (hdb : (n == ("__debug__" : Str)) = false := by decide)
    (he : starEach (e :: es) X.env = (false, eval e X.env) :: starEach es X.env := by rfl) (hpl : (backTo pos (starEach es X.env)).any (·.1) = false := by rfl) : EvN X (.Call (.Name n p) (e :: es) [] pos) σ G H P := by
  obtain ⟨f, fd, ps, F, hm, hk, hb⟩ := C.ex
  exact evN_of (pe_call F hr hg hm hk hb .nil passL pa_sem hdb he hpl) fun G1 H1 x1 Q q => ha G1 H1 x1 _ fun G2 H2 vs x2 l2 pa => by
    show sp (vs ++ []) H2 Q E0
    rw [List.append_nil]
    exact h G2 H2 vs (x1.trans x2) l2 pa Q fun G3 H3 v x3 r n => q G3 H3 v (x2.trans x3) r fun p e => x2.h.free (n p e)
variable {δ ζ : Type} [Rep δ] [Rep ζ] {k : Nat} {n : Str} {e1 e2 e3 e4 : Expr} {x1 : α} {x2 : β} {x3 : γ} {x4 : δ}
theorem evN_c1 {pre : α → Prop} {f : α → ζ} (C : Cal X.prog X.w X.K X.mg X.base k n (Sp1 X.K true pre f)) (hr : Room k X.A) (hg : Gl X n) (h1 : Ev X e1 σ G H x1) (hp : pre x1) (hdb : (n == ("__debug__" : Str)) = false := by decide)
    (he : starEach [e1] X.env = (false, eval e1 X.env) :: starEach [] X.env := by rfl) : EvN X (.Call (.Name n p) [e1] [] pos) σ G H (Is X.K (f x1)) :=
  evN_call C hr hg (ea_cons h1 ea_nil he) (fun G1 H1 vs x l ⟨v, r, e, rv, e'⟩ Q q => ⟨G1, v, x1, by rw [e, e'], x.s, rv, hp, fun G2 H2 w x r n => q G2 H2 w x r (n rfl)⟩) hdb he rfl
theorem evN_c2 {pre : α → β → Prop} {f : α → β → ζ} (C : Cal X.prog X.w X.K X.mg X.base k n (Sp2 X.K true pre f)) (hr : Room k X.A) (hg : Gl X n) (h1 : Ev X e1 σ G H x1) (h2 : Ev X e2 σ G H x2) (hp : pre x1 x2) (hdb : (n == ("__debug__" : Str)) = false := by decide)
    (he : starEach [e1, e2] X.env = (false, eval e1 X.env) :: starEach [e2] X.env := by rfl) (he2 : starEach [e2] X.env = (false, eval e2 X.env) :: starEach [] X.env := by rfl) (hpl : (backTo pos (starEach [e2] X.env)).any (·.1) = false := by rfl) : EvN X (.Call (.Name n p) [e1, e2] [] pos) σ G H (Is X.K (f x1 x2)) :=
  evN_call C hr hg (ea_cons h1 (ea_cons h2 ea_nil he2) he) (fun G1 H1 vs x l ⟨v, r, e, rv, v2, r2, e', rv2, e''⟩ Q q => ⟨G1, v, v2, x1, x2, by rw [e, e', e''], x.s, rv, rv2, hp, fun G2 H2 w x r n => q G2 H2 w x r (n rfl)⟩) hdb he hpl
theorem evN_c3 {pre : α → β → γ → Prop} {f : α → β → γ → ζ} (C : Cal X.prog X.w X.K X.mg X.base k n (Sp3 X.K true pre f)) (hr : Room k X.A) (hg : Gl X n) (h1 : Ev X e1 σ G H x1) (h2 : Ev X e2 σ G H x2) (h3 : Ev X e3 σ G H x3) (hp : pre x1 x2 x3) (hdb : (n == ("__debug__" : Str)) = false := by decide)
    (he : starEach [e1, e2, e3] X.env = (false, eval e1 X.env) :: starEach [e2, e3] X.env := by rfl) (he2 : starEach [e2, e3] X.env = (false, eval e2 X.env) :: starEach [e3] X.env := by rfl) (he3 : starEach [e3] X.env = (false, eval e3 X.env) :: starEach [] X.env := by rfl) (hpl : (backTo pos (starEach [e2, e3] X.env)).any (·.1) = false := by rfl) : EvN X (.Call (.Name n p) [e1, e2, e3] [] pos) σ G H (Is X.K (f x1 x2 x3)) :=
  evN_call C hr hg (ea_cons h1 (ea_cons h2 (ea_cons h3 ea_nil he3) he2) he) (fun G1 H1 vs x l ⟨v, r, e, rv, v2, r2, e', rv2, v3, r3, e'', rv3, e'''⟩ Q q => ⟨G1, v, v2, v3, x1, x2, x3, by rw [e, e', e'', e'''], x.s, rv, rv2, rv3, hp, fun G2 H2 w x r n => q G2 H2 w x r (n rfl)⟩) hdb he hpl

/-! ### data compared -/
class Dat (α : Type) [Rep α] [DecidableEq α] where
  toD : α → PyData
  dp : ∀ {K : PySem.W.Frag} {G H : Hp} {v : V} {x : α}, Same G H → rep K G v x → Dp K H v (toD x)
  ok : ∀ x, (toD x).canLay0 = true
  deep : Nat
  dep : ∀ x, (toD x).depth ≤ deep
  eqv : ∀ x y, PyData.eqv (toD x) (toD y) = decide (x = y)
class DatN (α : Type) [Rep α] [DecidableEq α] [Dat α] : Prop where
  l : ∀ x : α, PyData.eqv .none (Dat.toD x) = false
  r : ∀ x : α, PyData.eqv (Dat.toD x) .none = false
instance : Dat Int := ⟨fun i => .int i, fun s h => by rw [show _ = V.int _ from h]; exact .int _, fun _ => rfl, 0, fun _ => Nat.le_refl _, fun x y => by show (x == y) = _; by_cases h : x = y <;> simp [h]⟩
instance : Dat Bool := ⟨fun i => .bool i, fun s h => by rw [show _ = V.bl _ from h]; exact .bl _, fun _ => rfl, 0, fun _ => Nat.le_refl _, fun x y => by show (x == y) = _; by_cases h : x = y <;> simp [h]⟩
instance : DatN Int := ⟨fun _ => rfl, fun _ => rfl⟩
instance : DatN Bool := ⟨fun _ => rfl, fun _ => rfl⟩
theorem dp_all {α : Type} [Rep α] [DecidableEq α] [Dat α] {K : PySem.W.Frag} {G H : Hp} (s : Same G H) : ∀ {vs : List V} {xs : List α}, Paired (rep K G) vs xs → DpAll K H vs (xs.map Dat.toD)
  | _, _, .nil => .nil
  | _, _, .cons r t => .cons (Dat.dp s r) (dp_all s t)
theorem ok_all {α : Type} [Rep α] [DecidableEq α] [Dat α] : ∀ xs : List α, PyData.canLayAll0 (xs.map Dat.toD) = true
  | [] => rfl
  | x :: xs => by
    show (PyData.canLay0 (Dat.toD x) && PyData.canLayAll0 (xs.map Dat.toD)) = true
    rw [Dat.ok, ok_all xs]
    rfl
theorem dep_all {α : Type} [Rep α] [DecidableEq α] [Dat α] : ∀ xs : List α, PyData.depthAll (xs.map Dat.toD) ≤ Dat.deep α
  | [] => Nat.zero_le _
  | x :: xs => by
    show max (PyData.depth (Dat.toD x)) (PyData.depthAll (xs.map Dat.toD)) ≤ _
    exact Nat.max_le.mpr ⟨Dat.dep x, dep_all xs⟩
theorem eqv_all {α : Type} [Rep α] [DecidableEq α] [Dat α] : ∀ xs ys : List α, PyData.eqvAll (xs.map Dat.toD) (ys.map Dat.toD) = decide (xs = ys)
  | [], [] => by simp [PyData.eqvAll]
  | [], _ :: _ => by simp [PyData.eqvAll]
  | _ :: _, [] => by simp [PyData.eqvAll]
  | x :: xs, y :: ys => by
    show (PyData.eqv (Dat.toD x) (Dat.toD y) && PyData.eqvAll (xs.map Dat.toD) (ys.map Dat.toD)) = _
    rw [Dat.eqv, eqv_all xs ys, ← Bool.decide_and]
    exact decide_eq_decide.mpr (by rw [List.cons.injEq])
instance {α : Type} [Rep α] [DecidableEq α] [Dat α] : Dat (List α) := ⟨fun xs => .list (xs.map Dat.toD), fun s ⟨a, vs, e, g, p⟩ => by rw [e]; exact .lst (.of (s _ _ g)) (dp_all s p), ok_all, Dat.deep α + 1, fun xs => Nat.succ_le_succ (dep_all xs), fun xs ys => eqv_all xs ys⟩
instance {α : Type} [Rep α] [DecidableEq α] [Dat α] : DatN (List α) := ⟨fun _ => rfl, fun _ => rfl⟩
instance {α β : Type} [Rep α] [Rep β] [DecidableEq α] [DecidableEq β] [Dat α] [Dat β] : Dat (α × β) :=
  ⟨fun x => .tuple [Dat.toD x.1, Dat.toD x.2], fun s ⟨a, u, w, e, g, p, q⟩ => by rw [e]; exact .tup (.of (s _ _ g)) (.cons (Dat.dp s p) (.cons (Dat.dp s q) .nil)),
    fun x => by
      show (PyData.canLay0 (Dat.toD x.1) && (PyData.canLay0 (Dat.toD x.2) && true)) = true
      rw [Dat.ok, Dat.ok]; rfl, max (Dat.deep α) (Dat.deep β) + 1, fun x => by
      show max (PyData.depth (Dat.toD x.1)) (max (PyData.depth (Dat.toD x.2)) 0) + 1 ≤ _
      have h1 := Dat.dep x.1
      have h2 := Dat.dep x.2
      omega, fun x y => by
      show (PyData.eqv (Dat.toD x.1) (Dat.toD y.1) && (PyData.eqv (Dat.toD x.2) (Dat.toD y.2) && true)) = _
      rw [Dat.eqv, Dat.eqv, Bool.and_true, ← Bool.decide_and]
      exact decide_eq_decide.mpr (by rw [Prod.ext_iff])⟩
instance {α β : Type} [Rep α] [Rep β] [DecidableEq α] [DecidableEq β] [Dat α] [Dat β] : DatN (α × β) := ⟨fun _ => rfl, fun _ => rfl⟩
instance {α : Type} [Rep α] [DecidableEq α] [Dat α] [DatN α] : Dat (Option α) :=
  ⟨fun o => match o with
    | none => .none
    | some x => Dat.toD x, fun {K G H v x} s h => match x, h with
    | none, h => by rw [show v = .non from h]; exact .non
    | some x, h => Dat.dp (α := α) s h, fun o => match o with
    | none => rfl
    | some x => Dat.ok x, Dat.deep α, fun o => match o with
    | none => Nat.zero_le _
    | some x => Dat.dep x, fun x y => match x, y with
    | none, none => by simp [PyData.eqv]
    | none, some y => by simp [DatN.l]
    | some x, none => by simp [DatN.r]
    | some x, some y => by simp [Dat.eqv]⟩
theorem hu64 {A : Around} {k : Nat} (hr : Room k A) : A.units + 64 < cLine := hr.units
theorem hu_of64 {A : Around} {k : Nat} (hr : Room k A) : A.units + 64 < cLine := hr.units
/-- P tells a datum to be compared -/
class AsDat (K : PySem.W.Frag) (P : PV) (α : outParam Type) (ir : outParam (Rep α)) (id : outParam (DecidableEq α)) (dd : outParam (Dat α)) (x : outParam α) : Prop where
  dp : ∀ G H v, Same G H → P G H v → Dp K H v (Dat.toD x)
instance {K : PySem.W.Frag} {α : Type} [ir : Rep α] [id : DecidableEq α] [dd : Dat α] {x : α} : AsDat K (Is K x) α ir id dd x := ⟨fun _ _ _ s h => Dat.dp s h⟩
instance {K : PySem.W.Frag} {α : Type} [ir : Rep α] [id : DecidableEq α] [dd : Dat α] {x : List α} : AsDat K (OwnAt K x) (List α) inferInstance inferInstance inferInstance x := ⟨fun _ _ _ s ⟨a, vs, e, g, p⟩ => by rw [e]; exact .lst (.of g) (dp_all s p)⟩
theorem shaped_d {α : Type} [Rep α] [DecidableEq α] [Dat α] (h : Dat.deep α ≤ 64) (x : α) : SeqAt.shaped (Dat.toD x) = true := by
  unfold SeqAt.shaped
  rw [Dat.ok, decide_eq_true (Nat.le_trans (Dat.dep x) h)]
  rfl
theorem c_eqD {α : Type} {ir : Rep α} {id : DecidableEq α} {dd : Dat α} {x y : α} [A1 : AsDat X.K Pa α ir id dd x] [A2 : AsDat X.K Pb α ir id dd y] (hu : X.A.units + 64 < cLine) (h : Dat.deep α ≤ 64 := by decide) : Bin X (compareOp .Eq) Pa Pb (Is X.K (decide (x = y))) G H :=
  ⟨_, op_eqD hu, fun G1 H1 v u z _ e1 e2 Q q => ⟨_, _, A1.dp _ _ _ z.s e1, A2.dp _ _ _ z.s e2, shaped_d h x, shaped_d h y, by rw [Dat.eqv]; exact q G1 H1 _ (Ext.refl z.s) rfl⟩⟩
theorem c_neD {α : Type} {ir : Rep α} {id : DecidableEq α} {dd : Dat α} {x y : α} [A1 : AsDat X.K Pa α ir id dd x] [A2 : AsDat X.K Pb α ir id dd y] (hu : X.A.units + 64 < cLine) (h : Dat.deep α ≤ 64 := by decide) : Bin X (compareOp .NotEq) Pa Pb (Is X.K (!decide (x = y))) G H :=
  ⟨_, op_neD hu, fun G1 H1 v u z _ e1 e2 Q q => ⟨_, _, A1.dp _ _ _ z.s e1, A2.dp _ _ _ z.s e2, shaped_d h x, shaped_d h y, by rw [Dat.eqv]; exact q G1 H1 _ (Ext.refl z.s) rfl⟩⟩
theorem any_d {α : Type} [Rep α] [DecidableEq α] [Dat α] (x : α) : ∀ xs : List α, ((xs.map Dat.toD).any fun z => PyData.eqv z (Dat.toD x)) = decide (x ∈ xs)
  | [] => by simp
  | y :: ys => by
    rw [List.map_cons, List.any_cons, Dat.eqv, any_d x ys]
    by_cases h : y = x
    · simp [h]
    · have h' : ¬ x = y := fun z => h z.symm
      simp [h, h']
/-! ### is, isinstance -/
theorem c_isX {α : Type} [Rep α] [NonV α] {x : α} : Bin X (compareOp .Is) (Is X.K x) (Is X.K ()) (Is X.K false) G H :=
  ⟨_, op_isN, fun G1 H1 v u y _ e1 e2 Q q => ⟨e2, by rw [decide_eq_false (NonV.nn e1)]; exact q G1 H1 _ (Ext.refl y.s) rfl⟩⟩
theorem c_notX {α : Type} [Rep α] [NonV α] {x : α} : Bin X (compareOp .IsNot) (Is X.K x) (Is X.K ()) (Is X.K true) G H :=
  ⟨_, op_notN, fun G1 H1 v u y _ e1 e2 Q q => ⟨e2, by rw [decide_eq_false (NonV.nn e1)]; exact q G1 H1 _ (Ext.refl y.s) rfl⟩⟩
theorem c_isU : Bin X (compareOp .Is) (Is X.K ()) (Is X.K ()) (Is X.K true) G H :=
  ⟨_, op_isN, fun G1 H1 v u y _ e1 e2 Q q => ⟨e2, by rw [decide_eq_true (show v = .non from e1)]; exact q G1 H1 _ (Ext.refl y.s) rfl⟩⟩
theorem c_notU : Bin X (compareOp .IsNot) (Is X.K ()) (Is X.K ()) (Is X.K false) G H :=
  ⟨_, op_notN, fun G1 H1 v u y _ e1 e2 Q q => ⟨e2, by rw [decide_eq_true (show v = .non from e1)]; exact q G1 H1 _ (Ext.refl y.s) rfl⟩⟩
theorem c_isB {i j : Bool} : Bin X (compareOp .Is) (Is X.K i) (Is X.K j) (Is X.K (decide (i = j))) G H :=
  ⟨_, op_isBl, fun G1 H1 v u y _ e1 e2 Q q => ⟨i, j, e1, e2, q G1 H1 _ (Ext.refl y.s) rfl⟩⟩
theorem c_isnB {i j : Bool} : Bin X (compareOp .IsNot) (Is X.K i) (Is X.K j) (Is X.K (!decide (i = j))) G H :=
  ⟨_, op_notBl, fun G1 H1 v u y _ e1 e2 Q q => ⟨i, j, e1, e2, q G1 H1 _ (Ext.refl y.s) rfl⟩⟩
/-- P tells a value of the built-in type T -/
class AsTy (K : PySem.W.Frag) (P : PV) (T : outParam String) : Prop where
  ty : ∀ G H v, Same G H → P G H v → TyX K H v (.type T)
instance {K : PySem.W.Frag} {x : Int} : AsTy K (Is K x) "int" := ⟨fun _ _ _ _ h => by rw [show _ = V.int _ from h]; exact .base (.int _)⟩
instance {K : PySem.W.Frag} {x : Bool} : AsTy K (Is K x) "bool" := ⟨fun _ _ _ _ h => by rw [show _ = V.bl _ from h]; exact .base (.bl _)⟩
instance {K : PySem.W.Frag} {x : Str} : AsTy K (Is K x) "str" := ⟨fun _ _ _ _ h => by rw [show _ = V.str _ from h]; exact .base (.str _)⟩
instance {K : PySem.W.Frag} {x : Unit} : AsTy K (Is K x) "NoneType" := ⟨fun _ _ _ _ h => by rw [show _ = V.non from h]; exact .base .non⟩
instance {K : PySem.W.Frag} {α : Type} [Rep α] {x : List α} : AsTy K (Is K x) "list" := ⟨fun _ _ _ s ⟨a, vs, e, g, _⟩ => by rw [e]; exact .base (.lst (s _ _ g))⟩
instance {K : PySem.W.Frag} {α : Type} [Rep α] {x : List α} : AsTy K (OwnAt K x) "list" := ⟨fun _ _ _ s ⟨a, vs, e, g, _⟩ => by rw [e]; exact .base (.lst g)⟩
instance {K : PySem.W.Frag} {α β : Type} [Rep α] [Rep β] {x : α × β} : AsTy K (Is K x) "tuple" := ⟨fun _ _ _ s ⟨a, u, w, e, g, _⟩ => by rw [e]; exact .base (.tup (s _ _ g))⟩
theorem ev_isi {T T' : String} {r : Bool} [MonoC P] [t : AsTy X.K P T] (B : Bl X "isinstance") (h : EvP X a σ G H P) (hT : Ev X b σ G H (V.ty T')) (k : kitB T T' = some r) (he : starEach [a, b] X.env = (false, eval a X.env) :: starEach [b] X.env := by rfl) (he2 : starEach [b] X.env = (false, eval b X.env) :: starEach [] X.env := by rfl)
    (hpl : (backTo pos (starEach [b] X.env)).any (·.1) = false := by rfl) : Ev X (.Call (.Name "isinstance" p) [a, b] [] pos) σ G H r :=
  ev_callB call_isi B.g B.m PyProof.Rows.boot_isinstance (ea_cons h (ea_cons hT ea_nil he2) he) (fun G1 H1 vs y l ⟨v, r', e1, pv, v2, r2, e2, pv2, e3⟩ Q q =>
    ⟨v, v2, .type T, .type T', r, by rw [e1, e2, e3], by rw [show v2 = _ from pv2]; exact .ty T', t.ty _ _ _ y.s pv, kit_ty k, q G1 H1 _ (Ext.refl y.s) rfl⟩) (by decide) (by decide) he hpl
/-- isinstance(x, (T1, T2)) -/
theorem ev_isiT {T T1 T2 : String} {r1 r2 : Bool} {c1 c2 : Expr} {kk : Nat} {tp : Pos} [MonoC P] [t : AsTy X.K P T] (B : Bl X "isinstance") (h : EvP X a σ G H P) (h1 : Ev X c1 σ G H (V.ty T1)) (h2 : Ev X c2 σ G H (V.ty T2)) (k : kitB T T1 = some r1 ∧ kitB T T2 = some r2)
    (he : starEach [a, .Tuple [c1, c2] kk tp] X.env = (false, eval a X.env) :: starEach [.Tuple [c1, c2] kk tp] X.env := by rfl) (he2 : starEach [.Tuple [c1, c2] kk tp] X.env = (false, eval (.Tuple [c1, c2] kk tp) X.env) :: starEach [] X.env := by rfl)
    (hpl : (backTo pos (starEach [.Tuple [c1, c2] kk tp] X.env)).any (·.1) = false := by rfl) (hs : starEach [c1, c2] X.env = (false, eval c1 X.env) :: starEach [c2] X.env := by rfl) (hs' : starEach [c2] X.env = (false, eval c2 X.env) :: starEach [] X.env := by rfl) :
    Ev X (.Call (.Name "isinstance" p) [a, .Tuple [c1, c2] kk tp] [] pos) σ G H (r1 || r2) :=
  ev_callB call_isiT B.g B.m PyProof.Rows.boot_isinstance (ea_cons h (ea_cons (ev_tup (k := kk) h1 h2 hs hs') ea_nil he2) he) (fun G1 H1 vs y l ⟨v, r', e1, pv, v2, r2', e2, pv2, e3⟩ Q q => by
    obtain ⟨ta, w1, w2, rfl, g, p1, p2⟩ := pv2
    have p1 : w1 = V.ty T1 := p1
    have p2 : w2 = V.ty T2 := p2
    subst p1 p2
    refine ⟨v, ta, _, .type T, [.type T1, .type T2], r1 || r2, by rw [e1, e2, e3], y.s _ _ g, .cons (.ty _) (.cons (.ty _) .nil), t.ty _ _ _ y.s pv, ?_, q G1 H1 _ (Ext.refl y.s) rfl⟩
    refine kitAny_cons (kit_ty k.1) (fun z => ?_) fun z => by rw [z]; rfl
    rw [z, Bool.false_or]
    refine kitAny_cons (kit_ty k.2) (fun z' => ?_) fun z' => z'
    rw [z']
    exact kitAny_nil) (by decide) (by decide) he hpl
theorem boot_int' : bootBuiltins "int" = some (.type "int") := PyProof.Rows.boot_int
theorem boot_bool' : bootBuiltins "bool" = some (.type "bool") := by decide +kernel
theorem boot_str' : bootBuiltins "str" = some (.type "str") := PyProof.Rows.boot_str
theorem boot_list' : bootBuiltins "list" = some (.type "list") := PyProof.Rows.boot_list
theorem boot_tuple' : bootBuiltins "tuple" = some (.type "tuple") := by decide +kernel

theorem ev_sorted {xs : List Int} [MonoC P] [s : AsSeq X.K P Int instRepInt xs] (B : Bl X "sorted") (h : EvP X e σ G H P) (he : starEach [e] X.env = (false, eval e X.env) :: starEach [] X.env := by rfl) : Ev X (.Call (.Name "sorted" p) [e] [] pos) σ G H (isort xs) :=
  ev_callB cr_sortedI B.g B.m PyProof.Rows.boot_sorted (ea_cons h ea_nil he) (fun G1 H1 vs x l ⟨v, r, e1, pv, e2⟩ Q q => by
    obtain ⟨a, us, e, g, pr⟩ := s.seq _ _ _ x.s pv
    rw [paired_ints pr] at g
    refine ⟨a, xs, by rw [e1, e2, e], g, fun ns' p perm srt hp => ?_⟩
    have e : ns' = isort xs := sorted_one (perm.trans (isort_perm xs).symm) srt (isort_sorted xs)
    subst e
    exact q (upd G1 p (.lst _)) _ _ ((Ext.refl x.s).new hp) ⟨p, _, rfl, upd_same, ints_paired _⟩) (by decide) (by decide) he rfl
theorem inV_ints {i : Int} : ∀ ns : List Int, inV (.int i) (ns.map V.int) = decide (i ∈ ns)
  | [] => by simp [inV]
  | n :: ns => by
    have ih := inV_ints (i := i) ns
    unfold inV at ih ⊢
    rw [List.map_cons, List.any_cons, ih]
    show (n == i || _) = _
    by_cases h : n = i
    · simp [h]
    · have h' : ¬ i = n := fun z => h z.symm
      simp [h, h']
theorem flat_ints (ns : List Int) : (ns.map V.int).all flatV = true := by
  rw [List.all_eq_true]
  intro x hx
  obtain ⟨i, _, rfl⟩ := List.mem_map.mp hx
  rfl
theorem c_in {i : Int} {xs : List Int} [s : AsSeq X.K Pb Int instRepInt xs] : Bin X (compareOp .In) (Is X.K i) Pb (Is X.K (decide (i ∈ xs))) G H :=
  ⟨_, op_in_seq, fun G1 H1 v u y _ e1 e2 Q q => by
    obtain ⟨a, us, e, g, pr⟩ := s.seq _ _ _ y.s e2
    rw [paired_ints pr] at g
    refine ⟨a, _, e, .inl g, by rw [show v = _ from e1]; rfl, flat_ints xs, ?_⟩
    rw [show v = _ from e1, inV_ints]
    exact q G1 H1 _ (Ext.refl y.s) rfl⟩
theorem c_nin {i : Int} {xs : List Int} [s : AsSeq X.K Pb Int instRepInt xs] : Bin X (compareOp .NotIn) (Is X.K i) Pb (Is X.K (!decide (i ∈ xs))) G H :=
  ⟨_, op_notIn_seq, fun G1 H1 v u y _ e1 e2 Q q => by
    obtain ⟨a, us, e, g, pr⟩ := s.seq _ _ _ y.s e2
    rw [paired_ints pr] at g
    refine ⟨a, _, e, .inl g, by rw [show v = _ from e1]; rfl, flat_ints xs, ?_⟩
    rw [show v = _ from e1, inV_ints]
    exact q G1 H1 _ (Ext.refl y.s) rfl⟩
end
end RL

namespace RL
open PySem PySem.Spec PyProof.Rows L2 Rep
theorem ixN_neg' {n : Nat} {i : Int} (h0 : i < 0) (h1 : -(n : Int) ≤ i) {j : Nat} (h : (j : Int) = i + n := by omega) : ixN n i = some j := by
  rw [ixN_neg h0 h1, ← h]
  rfl
/-! ### a law's end -/
theorem law_sp {K : PySem.W.Frag} {H : Hp} {a : Addr} {ns : List Int} {m : Scr → Bool} (ht : ∀ s : Scr, s.ns.length ≤ 63 → m s = true) (hl : ns.length ≤ 63) (hS : SqL K H a (ns.map V.int)) :
    Sp1 K false (fun (script : Scr) => script.ns.length ≤ 63) m [.ref a] H (fun v _ => v = .bl true) fun _ _ _ => False :=
  ⟨H, .ref a, ⟨ns⟩, rfl, Same.refl _, ⟨a, rfl, hS⟩, hl, fun G2 H2 w _ r _ => by rw [ht ⟨ns⟩ hl] at r; exact r⟩
theorem law_cx {P : Program} {w : World} {H : Hp} {s s' : Shared} {e : Value} (h : L2.CX P w [] H s (fun _ _ _ => False) e s') : False := by
  obtain ⟨_, _, _, _, _, _, _, _, _, _, _, _, z⟩ := h
  exact z
end RL

namespace RL
/-! ### loops, plainly -/
theorem lrun_cons {α R S : Type} (step : α → S → LR R S) (x : α) (xs : List α) (s : S) : lrun step (x :: xs) s = match step x s with | .nxt s' => lrun step xs s' | .brk s' => .nxt s' | .ret r => .ret r := rfl
theorem lrun_unit {α R : Type} {step : α → Unit → LR R Unit} : ∀ {xs : List α}, (∀ x ∈ xs, step x () = .nxt ()) → lrun step xs () = .nxt ()
  | [], _ => rfl
  | x :: xs, h => by
    rw [lrun_cons, h x List.mem_cons_self]
    exact lrun_unit fun y hy => h y (List.mem_cons_of_mem _ hy)
theorem lrun_inv {α R S : Type} {step : α → S → LR R S} (I : S → Prop) : ∀ {xs : List α} {s : S}, I s → (∀ x ∈ xs, ∀ s, I s → ∃ s', step x s = .nxt s' ∧ I s') → ∃ s', lrun step xs s = .nxt s' ∧ I s'
  | [], s, h, _ => ⟨s, rfl, h⟩
  | x :: xs, s, h, k => by
    obtain ⟨s', e, h'⟩ := k x List.mem_cons_self s h
    obtain ⟨t, e2, h2⟩ := lrun_inv I (xs := xs) h' fun y hy => k y (List.mem_cons_of_mem _ hy)
    refine ⟨t, ?_, h2⟩
    rw [lrun_cons, e]
    exact e2
theorem lfold_foldl {α S : Type} (step : α → S → S) : ∀ (xs : List α) (s : S), lfold step xs s = xs.foldl (fun s x => step x s) s
  | [], _ => rfl
  | x :: xs, s => lfold_foldl step xs (step x s)
theorem lfold_len {α β : Type} {step : α → List β → List β} {c : Nat} (h : ∀ x s, (step x s).length = s.length + c) : ∀ (xs : List α) (s : List β), (lfold step xs s).length = s.length + c * xs.length
  | [], s => by simp [lfold]
  | x :: xs, s => by
    rw [lfold, lfold_len h xs, h, List.length_cons, Nat.mul_add]
    omega
/-- a list that is filled by a loop is a map -/
theorem lfold_map {α β : Type} {step : α → List β → List β} {f : α → β} (h : ∀ x s, step x s = s ++ [f x]) : ∀ (xs : List α) (s : List β), lfold step xs s = s ++ xs.map f
  | [], s => by simp [lfold]
  | x :: xs, s => by rw [lfold, h, lfold_map h xs, List.map_cons, List.append_assoc]; rfl
end RL

namespace RL
open PySem PySem.Spec PyProof.Rows L2 Rep
/-! ### dicts -/
/-- a dict, its pairs in order -/
structure Dct (κ α : Type) where
  kvs : List (κ × α)
def dlook {κ α : Type} [DecidableEq κ] (kvs : List (κ × α)) (k : κ) : Option α := (kvs.find? fun kv => decide (kv.1 = k)).map (·.2)
def dput {κ α : Type} [DecidableEq κ] (kvs : List (κ × α)) (k : κ) (v : α) : List (κ × α) :=
  if (kvs.any fun kv => decide (kv.1 = k)) = true then kvs.map (fun kv => if kv.1 = k then (kv.1, v) else kv) else kvs ++ [(k, v)]
/-- what may be a key: how such a dict stands in the heap -/
class DKey (κ : Type) [Rep κ] [DecidableEq κ] where
  obj : List (κ × V) → HO
  get : ∀ {K : PySem.W.Frag} {G H : Hp} {a : Addr} {y : V} {k : κ} {ps : List (κ × V)}, Same G H → rep K G y k → Rd H a (obj ps) → DGet H a y (valV ps k)
  put : ∀ {K : PySem.W.Frag} {G H : Hp} {a : Addr} {y v : V} {k : κ} {ps : List (κ × V)}, Same G H → rep K G y k → H a = some (obj ps) → ps.length < sizeLine → DPut H a y v (upd H a (obj (putK ps k v)))
  isD : ∀ {H : Hp} {a : Addr} {ps : List (κ × V)}, Rd H a (obj ps) → IsD H a
  new : ∀ {X : Cx} {pos : Pos}, PE X (.Dict [] [] pos) (fun _ H Q => ∀ p, H p = none → Q (.ref p) (upd H p (obj [])))
  len : ∀ ps : List (κ × V), szO (obj ps) = ps.length
  isM : ∀ ps : List (κ × V), Mut (some (obj ps))
  inj : ∀ ps qs : List (κ × V), obj ps = obj qs → ps = qs
theorem map_put {κ κ' : Type} [DecidableEq κ] [DecidableEq κ'] {f : κ → κ'} (hf : ∀ a b, f a = f b → a = b) (ps : List (κ × V)) (k : κ) (v : V) : putK (ps.map fun p => (f p.1, p.2)) (f k) v = (putK ps k v).map fun p => (f p.1, p.2) := by
  have e : ∀ a, (f a = f k) = (a = k) := fun a => propext ⟨hf a k, fun h => by rw [h]⟩
  unfold putK
  rw [List.any_map]
  have ea : (ps.any ((fun kv => decide (kv.1 = f k)) ∘ fun p => (f p.1, p.2))) = ps.any fun kv => decide (kv.1 = k) := by
    congr 1
    funext p
    exact decide_eq_decide.mpr (by rw [e])
  rw [ea]
  split
  · rw [List.map_map, List.map_map]
    refine List.map_congr_left fun p _ => ?_
    show (if f p.1 = f k then (f p.1, v) else (f p.1, p.2)) = (f (if p.1 = k then (p.1, v) else p).1, (if p.1 = k then (p.1, v) else p).2)
    by_cases h : p.1 = k
    · rw [if_pos (by rw [h]), if_pos h]
    · rw [if_neg (fun z => h (hf _ _ z)), if_neg h]
  · rw [List.map_append]
    rfl
theorem map_val {κ κ' : Type} [DecidableEq κ] [DecidableEq κ'] {f : κ → κ'} (hf : ∀ a b, f a = f b → a = b) (k : κ) : ∀ ps : List (κ × V), valV (ps.map fun p => (f p.1, p.2)) (f k) = valV ps k
  | [] => rfl
  | p :: ps => by
    rw [List.map_cons]
    by_cases h : p.1 = k
    · rw [valV_pos h, valV_pos (by show f p.1 = f k; rw [h])]
    · rw [valV_neg h, valV_neg (fun z => h (hf _ _ z)), map_val hf k ps]
instance : DKey Int where
  obj ps := .dK (ps.map fun p => (Sum.inl p.1, p.2))
  get {K G H a y k ps} s r e := by
    have r : y = V.int k := r
    rw [← map_val (f := (Sum.inl : Int → Key)) (fun _ _ => Sum.inl.inj) k ps, r]
    exact .inl ⟨_, Sum.inl k, e, rfl, rfl⟩
  put {K G H a y v k ps} s r e hl := by
    have r : y = V.int k := r
    show DPut H a y v (upd H a (.dK ((putK ps k v).map fun p => (Sum.inl p.1, p.2))))
    rw [← map_put (f := (Sum.inl : Int → Key)) (fun _ _ => Sum.inl.inj) ps k v, r]
    exact DPut.k (k := Sum.inl k) e (by rw [List.length_map]; exact hl)
  isD e := .inl ⟨_, e⟩
  new := pe_dnewK
  len ps := List.length_map _
  isM _ := trivial
  inj ps qs h := List.map_inj_right (f := fun p : Int × V => ((Sum.inl p.1 : Key), p.2)) (fun a b e => Prod.ext (Sum.inl.inj (Prod.ext_iff.mp e).1) (Prod.ext_iff.mp e).2) |>.mp (HO.dK.inj h)
theorem pairK_inj : ∀ a b : Int × Int, [(Sum.inl a.1 : Key), Sum.inl a.2] = [Sum.inl b.1, Sum.inl b.2] → a = b := fun a b h => by
  have h1 := (List.cons.inj h).1
  have h2 := (List.cons.inj (List.cons.inj h).2).1
  exact Prod.ext (Sum.inl.inj h1) (Sum.inl.inj h2)
instance : DKey (Int × Int) where
  obj ps := .dT (ps.map fun p => ([Sum.inl p.1.1, Sum.inl p.1.2], p.2))
  get {K G H a y k ps} s r e := by
    obtain ⟨b, u, w, rfl, g, p1, p2⟩ := r
    have p1 : u = V.int k.1 := p1
    have p2 : w = V.int k.2 := p2
    subst p1 p2
    rw [← map_val (f := fun q : Int × Int => [(Sum.inl q.1 : Key), Sum.inl q.2]) pairK_inj k ps]
    exact .inr ⟨_, [Sum.inl k.1, Sum.inl k.2], b, e, rfl, s _ _ g, rfl⟩
  put {K G H a y v k ps} s r e hl := by
    obtain ⟨b, u, w, rfl, g, p1, p2⟩ := r
    have p1 : u = V.int k.1 := p1
    have p2 : w = V.int k.2 := p2
    subst p1 p2
    show DPut H a _ v (upd H a (.dT ((putK ps k v).map fun p => ([Sum.inl p.1.1, Sum.inl p.1.2], p.2))))
    rw [← map_put (f := fun q : Int × Int => [(Sum.inl q.1 : Key), Sum.inl q.2]) pairK_inj ps k v]
    exact DPut.t (k := [Sum.inl k.1, Sum.inl k.2]) e (s _ _ g) (by rw [List.length_map]; exact hl)
  isD e := .inr ⟨_, e⟩
  new := pe_dnewT
  len ps := List.length_map _
  isM _ := trivial
  inj ps qs h := List.map_inj_right (f := fun p : (Int × Int) × V => ([(Sum.inl p.1.1 : Key), Sum.inl p.1.2], p.2)) (fun a b e => Prod.ext (pairK_inj _ _ (Prod.ext_iff.mp e).1) (Prod.ext_iff.mp e).2) |>.mp (HO.dT.inj h)
/-- the pairs of a dict as data -/
def PairD {κ α : Type} [Rep α] (K : PySem.W.Frag) (G : Hp) : List (κ × V) → List (κ × α) → Prop := Paired fun p e => p.1 = e.1 ∧ rep K G p.2 e.2
theorem pairD_up {κ α : Type} [Rep α] {K : PySem.W.Frag} {G G' : Hp} (s : Same G G') : ∀ {ps : List (κ × V)} {es : List (κ × α)}, PairD K G ps es → PairD K G' ps es
  | _, _, .nil => .nil
  | _, _, .cons h t => .cons ⟨h.1, up s h.2⟩ (pairD_up s t)
theorem pairD_some {κ α : Type} [DecidableEq κ] [Rep α] {K : PySem.W.Frag} {G : Hp} {k : κ} : ∀ {ps : List (κ × V)} {es : List (κ × α)}, PairD K G ps es → ∀ x, dlook es k = some x → ∃ v, valV ps k = some v ∧ rep K G v x
  | _, _, .nil, _, h => by cases h
  | p :: ps, e :: es, .cons h t, x, hx => by
    by_cases hk : e.1 = k
    · rw [dlook, List.find?_cons_of_pos (by simpa using hk)] at hx
      cases hx
      exact ⟨p.2, valV_pos (h.1.trans hk), h.2⟩
    · rw [dlook, List.find?_cons_of_neg (by simpa using hk)] at hx
      obtain ⟨v, e1, e2⟩ := pairD_some t x hx
      exact ⟨v, by rw [valV_neg (by rw [h.1]; exact hk)]; exact e1, e2⟩
theorem pairD_none {κ α : Type} [DecidableEq κ] [Rep α] {K : PySem.W.Frag} {G : Hp} {k : κ} : ∀ {ps : List (κ × V)} {es : List (κ × α)}, PairD K G ps es → dlook es k = none → valV ps k = none
  | _, _, .nil, _ => rfl
  | p :: ps, e :: es, .cons h t, hx => by
    by_cases hk : e.1 = k
    · rw [dlook, List.find?_cons_of_pos (by simpa using hk)] at hx
      cases hx
    · rw [dlook, List.find?_cons_of_neg (by simpa using hk)] at hx
      rw [valV_neg (by rw [h.1]; exact hk)]
      exact pairD_none t hx
theorem pairD_is {κ α : Type} [DecidableEq κ] [Rep α] {K : PySem.W.Frag} {G : Hp} {k : κ} {ps : List (κ × V)} {es : List (κ × α)} (h : PairD K G ps es) : (valV ps k).isSome = (dlook es k).isSome := by
  cases e : dlook es k with
  | none =>
    rw [pairD_none h e]
    rfl
  | some x =>
    obtain ⟨v, e1, _⟩ := pairD_some h x e
    rw [e1]
    rfl
theorem pairD_any {κ α : Type} [DecidableEq κ] [Rep α] {K : PySem.W.Frag} {G : Hp} {k : κ} : ∀ {ps : List (κ × V)} {es : List (κ × α)}, PairD K G ps es → (ps.any fun kv => decide (kv.1 = k)) = es.any fun kv => decide (kv.1 = k)
  | _, _, .nil => rfl
  | p :: ps, e :: es, .cons h t => by rw [List.any_cons, List.any_cons, pairD_any t, h.1]
theorem pairD_map {κ α : Type} [DecidableEq κ] [Rep α] {K : PySem.W.Frag} {G : Hp} {k : κ} {v : V} {x : α} (r : rep K G v x) : ∀ {ps : List (κ × V)} {es : List (κ × α)}, PairD K G ps es → PairD K G (ps.map fun kv => if kv.1 = k then (kv.1, v) else kv) (es.map fun kv => if kv.1 = k then (kv.1, x) else kv)
  | _, _, .nil => .nil
  | p :: ps, e :: es, .cons h t => by
    refine .cons ?_ (pairD_map r t)
    show (if p.1 = k then (p.1, v) else p).1 = (if e.1 = k then (e.1, x) else e).1 ∧ rep K G (if p.1 = k then (p.1, v) else p).2 (if e.1 = k then (e.1, x) else e).2
    by_cases hk : e.1 = k
    · rw [if_pos hk, if_pos (h.1.trans hk)]
      exact ⟨h.1, r⟩
    · rw [if_neg hk, if_neg (by rw [h.1]; exact hk)]
      exact h
theorem pairD_put {κ α : Type} [DecidableEq κ] [Rep α] {K : PySem.W.Frag} {G : Hp} {k : κ} {v : V} {x : α} {ps : List (κ × V)} {es : List (κ × α)} (h : PairD K G ps es) (r : rep K G v x) : PairD K G (putK ps k v) (dput es k x) := by
  unfold putK dput
  rw [pairD_any h]
  split
  · exact pairD_map r h
  · exact paired_app h (.cons ⟨rfl, r⟩ .nil)
instance instRepDct {κ α : Type} [Rep κ] [DecidableEq κ] [DKey κ] [Rep α] : Rep (Dct κ α) where
  rep K G v d := ∃ a o ps, v = .ref a ∧ G a = some (.frz o (DKey.obj ps)) ∧ PairD K G ps d.kvs
  up s h := let ⟨a, o, ps, e, g, p⟩ := h; ⟨a, o, ps, e, s _ _ g, pairD_up s p⟩
def DctAt {κ α : Type} [Rep κ] [DecidableEq κ] [DKey κ] [Rep α] (K : PySem.W.Frag) (d : Dct κ α) : PV := fun G H v => ∃ a ps, v = .ref a ∧ Rd H a (DKey.obj ps) ∧ PairD K G ps d.kvs
theorem rd_up {H H' : Hp} {a : Addr} {u : HO} (s : Same H H') (h : Rd H a u) : Rd H' a u := h.elim (fun z => .inl (s _ _ z)) fun ⟨o, z⟩ => .inr ⟨o, s _ _ z⟩
instance {κ α : Type} [Rep κ] [DecidableEq κ] [DKey κ] [Rep α] {K : PySem.W.Frag} {d : Dct κ α} : MonoC (DctAt K d) := ⟨fun _ _ _ _ _ x ⟨a, ps, e, g, p⟩ => ⟨a, ps, e, rd_up x.h g, pairD_up x.g p⟩⟩
class AsDct (K : PySem.W.Frag) (P : PV) (κ α : outParam Type) (r1 : outParam (Rep κ)) (dk : outParam (DecidableEq κ)) (k1 : outParam (DKey κ)) (r2 : outParam (Rep α)) (d : outParam (Dct κ α)) : Prop where
  dct : ∀ G H v, Same G H → P G H v → DctAt K d G H v
instance {κ α : Type} [r1 : Rep κ] [dk : DecidableEq κ] [k1 : DKey κ] [r2 : Rep α] {K : PySem.W.Frag} {d : Dct κ α} : AsDct K (DctAt K d) κ α r1 dk k1 r2 d := ⟨fun _ _ _ _ h => h⟩
instance {κ α : Type} [r1 : Rep κ] [dk : DecidableEq κ] [k1 : DKey κ] [r2 : Rep α] {K : PySem.W.Frag} {d : Dct κ α} : AsDct K (Is K d) κ α r1 dk k1 r2 d := ⟨fun _ _ _ s ⟨a, o, ps, e, g, p⟩ => ⟨a, ps, e, .inr ⟨o, s _ _ g⟩, p⟩⟩
structure OwnD {κ α : Type} [Rep κ] [DecidableEq κ] [DKey κ] [Rep α] (K : PySem.W.Frag) (G H : Hp) (q : Addr) (d : Dct κ α) : Prop where
  at_ : ∃ ps, H q = some (DKey.obj ps) ∧ PairD K G ps d.kvs
  off : G q = none
section
variable {κ α : Type} [Rep κ] [DecidableEq κ] [DKey κ] [Rep α] {K : PySem.W.Frag} {d : Dct κ α}
theorem OwnD.mono {G H G1 H1 : Hp} {q : Addr} (o : OwnD K G H q d) (x : Ext G H G1 H1) : OwnD K G1 H1 q d := let ⟨vs, e, p⟩ := o.at_; ⟨⟨vs, x.h _ _ e, pairD_up x.g p⟩, x.off o.off e fun xs z => by have := DKey.isM (κ := κ) vs; rw [z] at this; exact this⟩
theorem OwnD.pv {G H : Hp} {q : Addr} (o : OwnD K G H q d) : DctAt K d G H (.ref q) := let ⟨vs, e, p⟩ := o.at_; ⟨q, vs, rfl, .inl e, p⟩
theorem OwnD.ex {G H : Hp} {q : Addr} (o : OwnD K G H q d) : ∃ u, H q = some u := let ⟨_, e, _⟩ := o.at_; ⟨_, e⟩
theorem OwnD.wr {G H : Hp} {q q' : Addr} {o' : HO} (o : OwnD K G H q d) (h : q ≠ q') : OwnD K G (upd H q' o') q d := let ⟨vs, e, p⟩ := o.at_; ⟨⟨vs, by rw [upd_ne h]; exact e, p⟩, o.off⟩
theorem OwnD.len {G H : Hp} {q : Addr} (o : OwnD K G H q d) (l : HLen H) : d.kvs.length ≤ sizeLine := by
  obtain ⟨vs, e, p⟩ := o.at_
  have := l _ _ e
  rw [DKey.len, paired_len p] at this
  exact this
/-- an own dict, from now on as it is: locked, frozen -/
theorem OwnD.lock {X : Cx} {G0 H0 G H : Hp} {q : Addr} {d : Dct κ α} {sts : List Stmt} {D : Ends} {σ : St} (o : OwnD X.K G H q d) (x0 : Ext G0 H0 G H) (n : H0 q = none)
    (k : ∀ u, Ext G0 H0 (upd G q u) (upd H q u) → rep X.K (upd G q u) (.ref q) d → tSs X sts D σ (upd H q u)) : tSs X sts D σ H := .mk fun pins s I => by
  obtain ⟨ps, e, p⟩ := o.at_
  obtain ⟨od, I2⟩ := I.lock e (DKey.isM ps)
  exact k (.frz od (DKey.obj ps)) ((x0.wr n o.off).frz n upd_same) ⟨q, od, ps, rfl, upd_same, pairD_up (same_new o.off) p⟩ |>.run pins s I2
end
section
variable {X : Cx} {σ : St} {G H : Hp} {P Pa Pb : PV} {e a b c : Expr} {pos p : Pos} {D : Ends} {κ α : Type} {r1 : Rep κ} {dk : DecidableEq κ} {k1 : DKey κ} {r2 : Rep α} {d : Dct κ α} {k : κ}
theorem din_go (neg : Bool) [A : AsDct X.K P κ α r1 dk k1 r2 d] (hk : Ev X a σ G H k) (hd : EvP X b σ G H P) : ∀ G1 H1, Ext G H G1 H1 → ∀ Q : VK, (∀ G2 H2 v, Ext G1 H1 G2 H2 → Is X.K (if neg then !(dlook d.kvs k).isSome else (dlook d.kvs k).isSome) G2 H2 v → Q v H2) →
    (if neg then tDNotIn (tE X a) (tE X b) else tDIn (tE X a) (tE X b)) σ H1 Q := fun G1 H1 x1 Q q => by
  cases neg with
  | false =>
    exact hk G1 H1 x1 _ fun G2 H2 y x2 _ ry => hd G2 H2 (x1.trans x2) _ fun G3 H3 v x3 _ pv => by
      obtain ⟨a, ps, e, g, pr⟩ := A.dct _ _ _ x3.s pv
      exact ⟨a, _, e, DKey.get x3.s (up x3.g ry) g, q G3 H3 _ (x2.trans x3) (by rw [pairD_is pr]; rfl)⟩
  | true =>
    exact hk G1 H1 x1 _ fun G2 H2 y x2 _ ry => hd G2 H2 (x1.trans x2) _ fun G3 H3 v x3 _ pv => by
      obtain ⟨a, ps, e, g, pr⟩ := A.dct _ _ _ x3.s pv
      exact ⟨a, _, e, DKey.get x3.s (up x3.g ry) g, q G3 H3 _ (x2.trans x3) (by rw [pairD_is pr]; rfl)⟩
theorem hu1 {A : Around} {k : Nat} (hr : Room k A) : A.units + 1 < cLine := hu_of hr
theorem ev_din [AsDct X.K P κ α r1 dk k1 r2 d] (hu : X.A.units + 1 < cLine) (hk : Ev X a σ G H k) (hd : EvP X b σ G H P) (hm : behindInMarks .In b = false := by rfl) : Ev X (.Compare a [.In] [b] pos) σ G H (dlook d.kvs k).isSome :=
  evP_of (pe_cmp (pc_din hu pe_sem pe_sem) hm) (din_go false hk hd)
theorem et_din [AsDct X.K P κ α r1 dk k1 r2 d] (hu : X.A.units + 1 < cLine) (hk : Ev X a σ G H k) (hd : EvP X b σ G H P) (hm : behindInMarks .In b = false := by rfl) : EvT X (.Compare a [.In] [b] pos) σ G H (dlook d.kvs k).isSome :=
  evT_of (pt_cmp (pc_din hu pe_sem pe_sem) hm) fun G1 H1 x1 Q q => din_go false hk hd G1 H1 x1 _ fun G2 H2 _ x2 r => ⟨_, r, q G2 H2 x2⟩
theorem ev_dnin [AsDct X.K P κ α r1 dk k1 r2 d] (hu : X.A.units + 1 < cLine) (hk : Ev X a σ G H k) (hd : EvP X b σ G H P) (hm : behindInMarks .NotIn b = false := by rfl) : Ev X (.Compare a [.NotIn] [b] pos) σ G H (!(dlook d.kvs k).isSome) :=
  evP_of (pe_cmp (pc_dnotin hu pe_sem pe_sem) hm) (din_go true hk hd)
theorem et_dnin [AsDct X.K P κ α r1 dk k1 r2 d] (hu : X.A.units + 1 < cLine) (hk : Ev X a σ G H k) (hd : EvP X b σ G H P) (hm : behindInMarks .NotIn b = false := by rfl) : EvT X (.Compare a [.NotIn] [b] pos) σ G H (!(dlook d.kvs k).isSome) :=
  evT_of (pt_cmp (pc_dnotin hu pe_sem pe_sem) hm) fun G1 H1 x1 Q q => din_go true hk hd G1 H1 x1 _ fun G2 H2 _ x2 r => ⟨_, r, q G2 H2 x2⟩
/-- d[k], k is there -/
theorem ev_dget (dv : α) [m : MonoC P] [A : AsDct X.K P κ α r1 dk k1 r2 d] (hu : X.A.units + 1 < cLine) (hd : EvP X a σ G H P) (hk : Ev X b σ G H k) (h : (dlook d.kvs k).isSome = true) (hs : NoSl b := by exact fun _ _ => rfl) : Ev X (.Subscript a b pos) σ G H ((dlook d.kvs k).getD dv) :=
  evP_of (pe_dget hu pe_sem pe_sem hs) fun G1 H1 x1 Q q => hd G1 H1 x1 _ fun G2 H2 v x2 _ pv => hk G2 H2 (x1.trans x2) _ fun G3 H3 y x3 _ ry => by
    obtain ⟨a, ps, e, g, pr⟩ := A.dct _ _ _ x3.s (m.m _ _ _ _ _ x3 pv)
    obtain ⟨x, hx⟩ := Option.isSome_iff_exists.mp h
    obtain ⟨w, e1, e2⟩ := pairD_some pr x hx
    exact ⟨a, w, e, e1 ▸ DKey.get x3.s ry g, q G3 H3 w (x2.trans x3) (by rw [hx]; exact e2)⟩
/-- d.get(k, x) -/
theorem ev_dget2 {x : α} {ap cp : Pos} [m : MonoC P] [A : AsDct X.K P κ α r1 dk k1 r2 d] (hu : X.A.units + 1 < cLine) (hd : EvP X a σ G H P) (hk : Ev X b σ G H k) (hx : Ev X c σ G H x) (m2 : M2 X a "get" ap b c cp := by exact ⟨rfl, rfl, rfl, rfl⟩) :
    Ev X (.Call (.Attribute a "get" ap) [b, c] [] cp) σ G H ((dlook d.kvs k).getD x) :=
  evP_of (pe_dget2 hu pe_sem pe_sem pe_sem m2) fun G1 H1 x1 Q q => hd G1 H1 x1 _ fun G2 H2 v x2 _ pv => by
    obtain ⟨a', ps', e', g', _⟩ := A.dct _ _ _ x2.s pv
    refine ⟨a', e', DKey.isD g', hk G2 H2 (x1.trans x2) _ fun G3 H3 y x3 _ ry => hx G3 H3 ((x1.trans x2).trans x3) _ fun G4 H4 z x4 _ rz => ?_⟩
    obtain ⟨a, ps, e, g, pr⟩ := A.dct _ _ _ x4.s (m.m _ _ _ _ _ (x3.trans x4) pv)
    rw [e'] at e
    cases e
    refine ⟨_, DKey.get x4.s (up x4.g ry) g, ?_⟩
    cases hl : dlook d.kvs k with
    | none =>
      rw [pairD_none pr hl]
      exact q G4 H4 _ (x2.trans (x3.trans x4)) (by rw [hl]; exact rz)
    | some t =>
      obtain ⟨w, e1, e2⟩ := pairD_some pr t hl
      rw [e1]
      exact q G4 H4 _ (x2.trans (x3.trans x4)) (by rw [hl]; exact e2)
/-- n = {} -/
theorem s_dnew {i : Nat} {n : Str} {lp : Pos} {κ α : Type} [Rep κ] [DecidableEq κ] [DKey κ] [Rep α] (hN : X.N.Nodup) (sl : Ss X i n) (s0 : Same G H) (k : ∀ H1 q, Ext G H G H1 → HLen H1 → H q = none → OwnD X.K G H1 q (⟨[]⟩ : Dct κ α) → D.nx (σ.set i (some (.ref q))) H1)
    (hs : swapsWith (.Dict [] [] lp) (some (.Name n p)) pos.line X.env = pure false := by rfl) : tS X (.Assign [.Name n p] (.Dict [] [] lp) pos) D σ H :=
  s_of (ps_set hN sl.hN sl.hx pe_sem hs sl.hf) (tE_lenF fun pins s I => (DKey.new (κ := κ)).run pins s σ H _ I fun q hq l => k _ q ((Ext.refl s0).newH hq) l hq ⟨⟨[], upd_same, .nil⟩, s0.free hq⟩)
/-- q[k] = v -/
theorem s_dput {v : α} {i : Nat} {n : Str} {q : Addr} {sp np : Pos} (sl : Sl X i n) (hu : X.A.units + 1 < cLine) (s0 : Same G H) (o : OwnD X.K G H q d) (hv : Ev X c σ G H v) (hk : Ev X b σ G H k) (hz : d.kvs.length < sizeLine)
    (kk : ∀ G1 H1 o', Ext G H G1 H1 → HLen H1 → OwnD X.K G1 (upd H1 q o') q (⟨dput d.kvs k v⟩ : Dct κ α) → D.nx σ (upd H1 q o')) (h0 : σ[i]? = some (some (.ref q)) := by rfl)
    (hs : swapsWith c (some (.Subscript (.Name n np) b sp)) pos.line X.env = pure false := by rfl) : tS X (.Assign [.Subscript (.Name n np) b sp] c pos) D σ H := by
  refine s_of (ps_dput hu (pe_var sl.hN sl.hv sl.nm.hd sl.nm.hcd) pe_sem pe_sem hs) ?_
  refine hv G H (Ext.refl s0) _ fun G1 H1 w x1 _ rw' => ⟨_, h0, hk G1 H1 x1 _ fun G2 H2 y x2 l2 ry => ?_⟩
  obtain ⟨ps, e, pr⟩ := (o.mono (x1.trans x2)).at_
  exact ⟨q, _, rfl, DKey.put x2.s ry e (by rw [paired_len pr]; exact hz), kk G2 H2 _ (x1.trans x2) l2 ⟨⟨_, upd_same, pairD_put pr (up x2.g rw')⟩, (o.mono (x1.trans x2)).off⟩⟩
end
end RL

namespace RL
open PySem PySem.Spec PyProof.Rows L2 Rep
section
variable {X : Cx} {σ : St} {G H : Hp}
theorem ev_vO {α : Type} [Rep α] {xs : List α} {i : Nat} {n : Str} {p : Pos} {q : Addr} (s : Sl X i n) (o : Own X.K G H q xs) (h : σ[i]? = some (some (.ref q)) := by rfl) : EvP X (.Name n p) σ G H (OwnAt X.K xs) := ev_vP s o.pv h
theorem ev_vD {κ α : Type} [Rep κ] [DecidableEq κ] [DKey κ] [Rep α] {d : Dct κ α} {i : Nat} {n : Str} {p : Pos} {q : Addr} (s : Sl X i n) (o : OwnD X.K G H q d) (h : σ[i]? = some (some (.ref q)) := by rfl) : EvP X (.Name n p) σ G H (DctAt X.K d) := ev_vP s o.pv h
end
end RL

namespace RL
open L2
theorem cut_take {α : Type} (xs : List α) {k : Int} (h : 0 ≤ k) : cut xs none (some k) = xs.take k.toNat := by
  unfold cut
  rw [HT.sIx_none, List.drop_zero, Nat.sub_zero]
  show xs.take (if k < 0 then _ else min k.toNat xs.length) = _
  rw [if_neg (by omega)]
  by_cases hk : k.toNat ≤ xs.length
  · rw [Nat.min_eq_left hk]
  · rw [Nat.min_eq_right (by omega), List.take_of_length_le (Nat.le_refl _), List.take_of_length_le (by omega)]
theorem cut_drop {α : Type} (xs : List α) {k : Int} (h : 0 ≤ k) : cut xs (some k) none = xs.drop k.toNat := by
  unfold cut
  rw [HT.sIx_none]
  show (xs.drop (if k < 0 then _ else min k.toNat xs.length)).take (xs.length - (if k < 0 then _ else min k.toNat xs.length)) = _
  rw [if_neg (by omega)]
  have e : xs.drop (min k.toNat xs.length) = xs.drop k.toNat := by
    by_cases hk : k.toNat ≤ xs.length
    · rw [Nat.min_eq_left hk]
    · rw [Nat.min_eq_right (by omega), List.drop_of_length_le (Nat.le_refl _), List.drop_of_length_le (by omega)]
  rw [e]
  exact List.take_of_length_le (by rw [List.length_drop]; omega)
theorem cut_mid {α : Type} (xs : List α) {j k : Int} (h : 0 ≤ j) (h' : 0 ≤ k) : cut xs (some j) (some k) = (xs.drop j.toNat).take (k.toNat - j.toNat) := by
  unfold cut
  show (xs.drop (if j < 0 then _ else min j.toNat xs.length)).take ((if k < 0 then _ else min k.toNat xs.length) - (if j < 0 then _ else min j.toNat xs.length)) = _
  rw [if_neg (by omega), if_neg (by omega)]
  by_cases hj : j.toNat ≤ xs.length
  · rw [Nat.min_eq_left hj]
    by_cases hk : k.toNat ≤ xs.length
    · rw [Nat.min_eq_left hk]
    · rw [Nat.min_eq_right (show xs.length ≤ k.toNat by omega), List.take_of_length_le (by rw [List.length_drop]; omega), List.take_of_length_le (by rw [List.length_drop]; omega)]
  · rw [Nat.min_eq_right (show xs.length ≤ j.toNat by omega), List.drop_of_length_le (Nat.le_refl _), List.drop_of_length_le (by omega), List.take_nil, List.take_nil]
theorem rng_map {β : Type} (n : Nat) (f : Int → β) : (rng 0 (n : Int)).map f = (List.range n).map fun (k : Nat) => f (k : Int) := by
  unfold rng
  rw [List.map_map, Int.sub_zero, Int.toNat_natCast]
  exact List.map_congr_left fun k _ => by
    show f (0 + (k : Int)) = f k
    rw [Int.zero_add]
end RL

namespace RL
theorem dput_len {κ α : Type} [DecidableEq κ] (kvs : List (κ × α)) (k : κ) (v : α) : (dput kvs k v).length ≤ kvs.length + 1 := by
  unfold dput
  split
  · rw [List.length_map]; omega
  · rw [List.length_append]; exact Nat.le_refl _
theorem dlook_nil {κ α : Type} [DecidableEq κ] (k : κ) : dlook ([] : List (κ × α)) k = none := rfl
theorem dlook_cons {κ α : Type} [DecidableEq κ] (p : κ × α) (r : List (κ × α)) (k : κ) : dlook (p :: r) k = if p.1 = k then some p.2 else dlook r k := by
  unfold dlook
  by_cases h : p.1 = k
  · rw [List.find?_cons_of_pos (by simpa using h), if_pos h]; rfl
  · rw [List.find?_cons_of_neg (by simpa using h), if_neg h]
theorem dlook_map {κ α : Type} [DecidableEq κ] {k j : κ} {v : α} : ∀ (kvs : List (κ × α)), (kvs.any fun kv => decide (kv.1 = k)) = true → dlook (kvs.map fun kv => if kv.1 = k then (kv.1, v) else kv) j = if j = k then some v else dlook kvs j
  | [], h => by cases h
  | p :: r, h => by
    rw [List.map_cons, dlook_cons, dlook_cons]
    by_cases hk : p.1 = k
    · rw [if_pos hk]
      show (if p.1 = j then some v else _) = _
      by_cases hj : j = k
      · rw [if_pos (hk.trans hj.symm), if_pos hj]
      · have hj' : ¬ p.1 = j := fun z => hj (z.symm.trans hk)
        simp only [if_neg hj, if_neg hj']
        by_cases ha : (r.any fun kv => decide (kv.1 = k)) = true
        · simp only [dlook_map r ha, if_neg hj]
        · have e : (r.map fun kv => if kv.1 = k then (kv.1, v) else kv) = r := by
            conv => rhs; rw [← List.map_id r]
            refine List.map_congr_left fun q hq => ?_
            have : ¬ q.1 = k := fun z => ha (List.any_eq_true.mpr ⟨q, hq, by simpa using z⟩)
            rw [if_neg this]; rfl
          rw [e]
    · rw [if_neg hk]
      have ha : (r.any fun kv => decide (kv.1 = k)) = true := by
        rw [List.any_cons] at h
        simpa [hk] using h
      rw [dlook_map r ha]
      by_cases hj : j = k
      · have : ¬ p.1 = j := fun z => hk (z.trans hj)
        simp only [if_pos hj, if_neg this]
      · simp only [if_neg hj]
theorem dlook_app {κ α : Type} [DecidableEq κ] {k j : κ} {v : α} : ∀ (kvs : List (κ × α)), (kvs.any fun kv => decide (kv.1 = k)) = false → dlook (kvs ++ [(k, v)]) j = if j = k then some v else dlook kvs j
  | [], _ => by
    rw [List.nil_append, dlook_cons, dlook_nil]
    by_cases hj : j = k
    · rw [if_pos hj.symm, if_pos hj]
    · rw [if_neg (fun z => hj z.symm), if_neg hj]
  | p :: r, h => by
    rw [List.any_cons, Bool.or_eq_false_iff] at h
    have hk : ¬ p.1 = k := by simpa using h.1
    rw [List.cons_append, dlook_cons, dlook_cons, dlook_app r h.2]
    by_cases hj : j = k
    · rw [if_pos hj, if_pos hj, if_neg (fun z => hk (z.trans hj))]
    · rw [if_neg hj, if_neg hj]
theorem dlook_dput {κ α : Type} [DecidableEq κ] (kvs : List (κ × α)) (k j : κ) (v : α) : dlook (dput kvs k v) j = if j = k then some v else dlook kvs j := by
  unfold dput
  by_cases h : (kvs.any fun kv => decide (kv.1 = k)) = true
  · rw [if_pos h]; exact dlook_map kvs h
  · rw [if_neg h]; exact dlook_app kvs (by simpa only [Bool.not_eq_true] using h)
end RL
namespace RL
theorem rng_nat (a b : Nat) : rng (a : Int) (b : Int) = (List.range' a (b - a)).map fun (k : Nat) => (k : Int) := by
  have e : ((b : Int) - (a : Int)).toNat = b - a := by omega
  unfold rng
  rw [e, List.range'_eq_map_range, List.map_map]
  exact List.map_congr_left fun k _ => by show (a : Int) + (k : Int) = ((a + k : Nat) : Int); omega
theorem rng0_nat (b : Nat) : rng 0 (b : Int) = (List.range b).map fun (k : Nat) => (k : Int) := by
  have := rng_nat 0 b
  rw [List.range_eq_range']
  exact this
theorem lfold_cons {α S : Type} (step : α → S → S) (x : α) (xs : List α) (s : S) : lfold step (x :: xs) s = lfold step xs (step x s) := rfl
theorem lfold_nil {α S : Type} (step : α → S → S) (s : S) : lfold step [] s = s := rfl
theorem lfold_mapL {α β S : Type} (step : β → S → S) (g : α → β) : ∀ (xs : List α) (s : S), lfold step (xs.map g) s = lfold (fun x => step (g x)) xs s
  | [], _ => rfl
  | x :: xs, s => lfold_mapL step g xs (step (g x) s)
theorem lfold_flat {α β : Type} {step : α → List β → List β} {g : α → List β} : ∀ {xs : List α} {s : List β}, (∀ x ∈ xs, ∀ s, step x s = s ++ g x) → lfold step xs s = s ++ xs.flatMap g
  | [], s, _ => by rw [lfold_nil, List.flatMap_nil, List.append_nil]
  | x :: xs, s, h => by
    rw [lfold_cons, h x List.mem_cons_self, lfold_flat fun y hy => h y (List.mem_cons_of_mem _ hy), List.flatMap_cons, List.append_assoc]
theorem lfold_inv {α S : Type} {step : α → S → S} (I : S → Prop) : ∀ {xs : List α} {s : S}, I s → (∀ x ∈ xs, ∀ s, I s → I (step x s)) → I (lfold step xs s)
  | [], _, h, _ => h
  | x :: xs, s, h, g => lfold_inv I (xs := xs) (g x List.mem_cons_self s h) fun y hy => g y (List.mem_cons_of_mem _ hy)
theorem lrun_nil {α R S : Type} (step : α → S → LR R S) (s : S) : lrun step [] s = .nxt s := rfl
theorem lrun_mapL {α β R S : Type} (step : β → S → LR R S) (g : α → β) : ∀ (xs : List α) (s : S), lrun step (xs.map g) s = lrun (fun x => step (g x)) xs s
  | [], _ => rfl
  | x :: xs, s => by
    rw [List.map_cons, lrun_cons, lrun_cons]
    cases step (g x) s with
    | nxt s' => exact lrun_mapL step g xs s'
    | brk s' => rfl
    | ret r => rfl
theorem getD_take_sum (row : List Int) (k : Nat) (h : k < row.length) : (row.take (k + 1)).sum = (row.take k).sum + row.getD k 0 := by
  rw [List.take_succ_eq_append_getElem h, List.sum_append, List.getD_eq_getElem?_getD, List.getElem?_eq_getElem h]
  simp
end RL
namespace RL
open PySem PySem.Spec PyProof.Rows L2 Rep
/-! ### what may be None -/
theorem rep_get {α : Type} [Rep α] {K : PySem.W.Frag} {G : Hp} {v : V} {x : Option α} (d : α) (h : x.isNone = false) (r : rep K G v x) : rep K G v (x.getD d) := by
  cases x with
  | none => cases h
  | some y => exact r
theorem rep_unit {α : Type} [Rep α] {K : PySem.W.Frag} {G : Hp} {v : V} {x : Option α} (h : x.isNone = true) (r : rep K G v x) : rep K G v () := by
  cases x with
  | none => exact r
  | some y => cases h
section
variable {X : Cx} {σ : St} {G H : Hp} {P Pa Pb : PV} {e a b c : Expr} {es : List Expr} {pos p : Pos} {α β γ : Type} [Rep α] [Rep β] [Rep γ]
theorem ev_get {x : Option α} (d : α) (h : x.isNone = false) (r : Ev X e σ G H x) : Ev X e σ G H (x.getD d) := r.imp fun _ _ _ _ _ q => rep_get d h q
/-- isinstance of what may be None -/
theorem ev_isiO {x : Option α} {T T' : String} {r : Bool} [t : ∀ y : α, AsTy X.K (Is X.K y) T] (B : Bl X "isinstance") (h : Ev X a σ G H x) (hT : Ev X b σ G H (V.ty T')) (k : kitB T T' = some r) (k0 : kitB "NoneType" T' = some false) (he : starEach [a, b] X.env = (false, eval a X.env) :: starEach [b] X.env := by rfl) (he2 : starEach [b] X.env = (false, eval b X.env) :: starEach [] X.env := by rfl)
    (hpl : (backTo pos (starEach [b] X.env)).any (·.1) = false := by rfl) : Ev X (.Call (.Name "isinstance" p) [a, b] [] pos) σ G H (!x.isNone && r) := by
  cases x with
  | none => exact ev_isi (P := Is X.K ()) B (h.imp fun _ _ _ _ _ q => q) hT k0 he he2 hpl
  | some y => exact (ev_isi (P := Is X.K y) B (h.imp fun _ _ _ _ _ q => q) hT k he he2 hpl).to (by simp)
theorem ev_isiTO {x : Option α} {T T1 T2 : String} {r1 r2 : Bool} {c1 c2 : Expr} {kk : Nat} {tp : Pos} [t : ∀ y : α, AsTy X.K (Is X.K y) T] (B : Bl X "isinstance") (h : Ev X a σ G H x) (h1 : Ev X c1 σ G H (V.ty T1)) (h2 : Ev X c2 σ G H (V.ty T2)) (k : kitB T T1 = some r1 ∧ kitB T T2 = some r2)
    (k0 : kitB "NoneType" T1 = some false ∧ kitB "NoneType" T2 = some false)
    (he : starEach [a, .Tuple [c1, c2] kk tp] X.env = (false, eval a X.env) :: starEach [.Tuple [c1, c2] kk tp] X.env := by rfl) (he2 : starEach [.Tuple [c1, c2] kk tp] X.env = (false, eval (.Tuple [c1, c2] kk tp) X.env) :: starEach [] X.env := by rfl)
    (hpl : (backTo pos (starEach [.Tuple [c1, c2] kk tp] X.env)).any (·.1) = false := by rfl) (hs : starEach [c1, c2] X.env = (false, eval c1 X.env) :: starEach [c2] X.env := by rfl) (hs' : starEach [c2] X.env = (false, eval c2 X.env) :: starEach [] X.env := by rfl) :
    Ev X (.Call (.Name "isinstance" p) [a, .Tuple [c1, c2] kk tp] [] pos) σ G H (!x.isNone && (r1 || r2)) := by
  cases x with
  | none => exact ev_isiT (P := Is X.K ()) B (h.imp fun _ _ _ _ _ q => q) h1 h2 k0 he he2 hpl hs hs'
  | some y => exact (ev_isiT (P := Is X.K y) B (h.imp fun _ _ _ _ _ q => q) h1 h2 k he he2 hpl hs hs').to (by simp)
/-! ### pairs as they stand -/
theorem ev_lenP {x : β × γ} (B : Bl X "len") (h : Ev X e σ G H x) (he : starEach [e] X.env = (false, eval e X.env) :: starEach [] X.env := by rfl) : Ev X (.Call (.Name "len" p) [e] [] pos) σ G H (2 : Int) :=
  ev_callB call_len_seq B.g B.m PySem.boot_len (ea_cons h ea_nil he) (fun G1 H1 vs y l ⟨v, r, e1, pv, e2⟩ Q q => by
    obtain ⟨t, u, w, e, g, _⟩ := pv
    exact ⟨t, [u, w], by rw [e1, e2, e], .inr (.of (y.s _ _ g)), q G1 H1 _ (Ext.refl y.s) rfl⟩) (by decide) (by decide) he rfl
/-! ### sorted, of pairs of ints -/
def leP (x y : Int × Int) : Prop := x.1 < y.1 ∨ (x.1 = y.1 ∧ x.2 ≤ y.2)
instance (x y : Int × Int) : Decidable (leP x y) := inferInstanceAs (Decidable (_ ∨ _))
def insP (x : Int × Int) : List (Int × Int) → List (Int × Int)
  | [] => [x]
  | y :: ys => if leP x y then x :: y :: ys else y :: insP x ys
def psort : List (Int × Int) → List (Int × Int)
  | [] => []
  | x :: xs => insP x (psort xs)
theorem insP_perm (x : Int × Int) : ∀ ys, (insP x ys).Perm (x :: ys)
  | [] => .refl _
  | y :: ys => by
    unfold insP
    split
    · exact .refl _
    · exact ((insP_perm x ys).cons y).trans (.swap x y ys)
theorem psort_perm : ∀ xs, (psort xs).Perm xs
  | [] => .refl _
  | x :: xs => (insP_perm x _).trans ((psort_perm xs).cons x)
theorem leP_tr {x y z : Int × Int} (h : leP x y) (h' : leP y z) : leP x z := by unfold leP at *; omega
theorem leP_tot {x y : Int × Int} (h : ¬ leP x y) : leP y x := by unfold leP at *; omega
theorem leP_anti {x y : Int × Int} (h : leP x y) (h' : leP y x) : x = y := by
  unfold leP at *
  exact Prod.ext (by omega) (by omega)
theorem insP_sorted (x : Int × Int) : ∀ ys, ys.Pairwise leP → (insP x ys).Pairwise leP
  | [], _ => List.pairwise_singleton _ _
  | y :: ys, h => by
    unfold insP
    have h' := List.pairwise_cons.mp h
    split
    · rename_i hx
      exact List.pairwise_cons.mpr ⟨fun z hz => by
        rcases List.mem_cons.mp hz with rfl | hz
        · exact hx
        · exact leP_tr hx (h'.1 z hz), h⟩
    · rename_i hx
      exact List.pairwise_cons.mpr ⟨fun z hz => by
        rcases List.mem_cons.mp ((insP_perm x ys).mem_iff.mp hz) with rfl | hz
        · exact leP_tot hx
        · exact h'.1 z hz, insP_sorted x ys h'.2⟩
theorem psort_sorted : ∀ xs, (psort xs).Pairwise leP
  | [] => List.Pairwise.nil
  | x :: xs => insP_sorted x _ (psort_sorted xs)
theorem psorted_one : ∀ {xs ys : List (Int × Int)}, xs.Perm ys → xs.Pairwise leP → ys.Pairwise leP → xs = ys
  | [], ys, p, _, _ => (List.nil_perm.mp p).symm
  | x :: xs, [], p, _, _ => absurd p.symm (List.not_perm_nil_cons _ _)
  | x :: xs, y :: ys, p, h1, h2 => by
    have a := List.pairwise_cons.mp h1
    have b := List.pairwise_cons.mp h2
    have e : x = y := by
      have m1 : x ∈ y :: ys := p.mem_iff.mp List.mem_cons_self
      have m2 : y ∈ x :: xs := p.mem_iff.mpr List.mem_cons_self
      rcases List.mem_cons.mp m1 with z | z
      · exact z
      · rcases List.mem_cons.mp m2 with w | w
        · exact w.symm
        · exact leP_anti (a.1 y w) (b.1 x z)
    subst e
    rw [psorted_one (List.Perm.cons_inv p) a.2 b.2]
/-- the two ints of a tuple -/
def keyP (H : Hp) : V → Int × Int
  | .ref t => match H t with
    | some (.tup [.int i, .int j]) => (i, j)
    | _ => (0, 0)
  | _ => (0, 0)
theorem keyP_of {K : PySem.W.Frag} {G H : Hp} (s : Same G H) {v : V} {x : Int × Int} (r : rep K G v x) : keyP H v = x ∧ ∃ t, v = V.ref t ∧ H t = some (.tup [.int x.1, .int x.2]) := by
  obtain ⟨t, u, w, e, g, p1, p2⟩ := r
  have p1 : u = V.int x.1 := p1
  have p2 : w = V.int x.2 := p2
  subst p1 p2 e
  have g := s _ _ g
  exact ⟨by simp only [keyP, g], t, rfl, g⟩
theorem keyP_map {K : PySem.W.Frag} {G H : Hp} (s : Same G H) : ∀ {us : List V} {xs : List (Int × Int)}, Paired (rep K G) us xs → us.map (keyP H) = xs
  | _, _, .nil => rfl
  | _, _, .cons r t => by rw [List.map_cons, (keyP_of s r).1, keyP_map s t]
theorem keyP_mem {K : PySem.W.Frag} {G : Hp} : ∀ {us : List V} {xs : List (Int × Int)}, Paired (rep K G) us xs → ∀ u ∈ us, ∃ x : Int × Int, rep K G u x
  | _, _, .nil, _, h => by cases h
  | _, _, .cons r t, u, h => by
    rcases List.mem_cons.mp h with rfl | h
    · exact ⟨_, r⟩
    · exact keyP_mem t u h
theorem keyP_pair {K : PySem.W.Frag} {G H : Hp} (s : Same G H) : ∀ (ys : List V), (∀ y ∈ ys, ∃ x : Int × Int, rep K G y x) → Paired (rep K G) ys (ys.map (keyP H))
  | [], _ => .nil
  | y :: ys, h => by
    obtain ⟨x, r⟩ := h y List.mem_cons_self
    refine .cons ?_ (keyP_pair s ys fun z hz => h z (List.mem_cons_of_mem _ hz))
    rw [(keyP_of s r).1]
    exact r
theorem psort_go {K : PySem.W.Frag} {G H : Hp} (s : Same G H) {us ys : List V} {xs : List (Int × Int)} (pr : Paired (rep K G) us xs) (h : SrtO.Srtd (ltP (keyP H)) ys) (hb : SrtO.Stb (ltP (keyP H)) ys us) : Paired (rep K G) ys (psort xs) := by
  have e : ys.map (keyP H) = psort xs := by
    refine psorted_one ?_ ?_ (psort_sorted xs)
    · have := hb.perm.map (keyP H)
      rw [keyP_map s pr] at this
      exact this.trans (psort_perm xs).symm
    · refine List.pairwise_map.mpr (List.Pairwise.imp (fun {x y} hxy => ?_) h)
      have := SrtO.lexB_no.mp hxy
      unfold leP
      omega
  rw [← e]
  exact keyP_pair s ys fun y hy => keyP_mem pr y (hb.perm.mem_iff.mp hy)
theorem ev_sortedP {xs : List (Int × Int)} [m : MonoC P] [s : AsSeq X.K P (Int × Int) instRepProd xs] (B : Bl X "sorted") (h : EvP X e σ G H P) (he : starEach [e] X.env = (false, eval e X.env) :: starEach [] X.env := by rfl) : Ev X (.Call (.Name "sorted" p) [e] [] pos) σ G H (psort xs) :=
  ev_callB cr_sortedPO B.g B.m PyProof.Rows.boot_sorted (ea_cons h ea_nil he) (fun G1 H1 vs y l ⟨v, r, e1, pv, e2⟩ Q q => by
    obtain ⟨a, us, e, g, pr⟩ := s.seq _ _ _ y.s pv
    refine ⟨a, us, keyP H1, by rw [e1, e2, e], g, fun u hu => ?_, fun ys p srt stb hp => ?_⟩
    · obtain ⟨x, rx⟩ := keyP_mem pr u hu
      obtain ⟨k, t, e, g⟩ := keyP_of y.s rx
      exact ⟨t, e, by rw [k]; exact g⟩
    · exact q (upd G1 p (.lst ys)) _ _ ((Ext.refl y.s).new hp) ⟨p, _, rfl, upd_same, pair_up (same_new (y.s.free hp)) (psort_go y.s pr srt stb)⟩) (by decide) (by decide) he rfl
theorem evN_sortedP {xs : List (Int × Int)} [m : MonoC P] [s : AsSeq X.K P (Int × Int) instRepProd xs] (B : Bl X "sorted") (h : EvP X e σ G H P) (he : starEach [e] X.env = (false, eval e X.env) :: starEach [] X.env := by rfl) : EvN X (.Call (.Name "sorted" p) [e] [] pos) σ G H (Is X.K (psort xs)) :=
  evN_of (pe_callB cr_sortedPO B.g B.m PyProof.Rows.boot_sorted (pa_cons pe_sem pa_nil he) (by decide) (by decide) he rfl) fun G1 H1 x1 Q q => h G1 H1 x1 _ fun G2 H2 v x2 _ pv => by
    obtain ⟨a, us, e, g, pr⟩ := s.seq _ _ _ x2.s pv
    refine ⟨a, us, keyP H2, by rw [e], g, fun u hu => ?_, fun ys p srt stb hp => ?_⟩
    · obtain ⟨x, rx⟩ := keyP_mem pr u hu
      obtain ⟨k, t, e, g⟩ := keyP_of x2.s rx
      exact ⟨t, e, by rw [k]; exact g⟩
    · exact q (upd G2 p (.lst ys)) _ _ (x2.new hp) ⟨p, _, rfl, upd_same, pair_up (same_new (x2.s.free hp)) (psort_go x2.s pr srt stb)⟩ fun p' e => by cases e; exact x2.h.free hp
end
end RL
namespace RL
theorem psort_len (xs : List (Int × Int)) : (psort xs).length = xs.length := (psort_perm xs).length_eq
theorem isort_len (xs : List Int) : (isort xs).length = xs.length := (isort_perm xs).length_eq
theorem flat_len {α β : Type} {g : α → List β} {c : Nat} : ∀ (xs : List α), (∀ x ∈ xs, (g x).length ≤ c) → (xs.flatMap g).length ≤ c * xs.length
  | [], _ => Nat.zero_le _
  | x :: xs, h => by
    have h1 := h x List.mem_cons_self
    have h2 := flat_len xs fun y hy => h y (List.mem_cons_of_mem _ hy)
    rw [List.flatMap_cons, List.length_append, List.length_cons, Nat.mul_succ]
    omega
end RL
namespace RL
theorem enum_range {α : Type} (f : Nat → α) (n : Nat) : enum ((List.range n).map f) = (List.range n).map fun (k : Nat) => ((k : Int), f k) := by
  unfold enum
  refine List.ext_getElem (by simp) fun i h1 h2 => ?_
  simp
theorem psort_head {x : Int × Int} {xs : List (Int × Int)} (h : x ∈ xs) (hm : ∀ y ∈ xs, leP x y) : ∃ r, psort xs = x :: r := by
  have p := psort_perm xs
  have s := psort_sorted xs
  cases e : psort xs with
  | nil => rw [e] at p; rw [List.nil_perm.mp p] at h; cases h
  | cons y r =>
    rw [e] at p s
    have hx : x ∈ y :: r := p.mem_iff.mpr h
    have hy : leP x y := hm y (p.mem_iff.mp List.mem_cons_self)
    rcases List.mem_cons.mp hx with rfl | hx
    · exact ⟨r, rfl⟩
    · exact ⟨r, by rw [leP_anti hy ((List.pairwise_cons.mp s).1 x hx)]⟩
end RL
namespace RL
open PySem PySem.Spec PyProof.Rows L2 Rep
theorem paired_set {α β : Type} {F : α → β → Prop} {w : α} {y : β} (h : F w y) : ∀ {xs : List α} {ys : List β} (j : Nat), Paired F xs ys → Paired F (xs.set j w) (ys.set j y)
  | _, _, _, .nil => .nil
  | _, _, 0, .cons _ t => .cons h t
  | _, _, j + 1, .cons r t => .cons r (paired_set h j t)
section
variable {X : Cx} {σ : St} {G H : Hp} {D : Ends} {P Pa Pb : PV} {e a b c : Expr} {es : List Expr} {pos p : Pos} {α β γ : Type} [Rep α] [Rep β] [Rep γ]
/-- xs[i] = v, of an own list -/
theorem s_setix {xs : List α} {y : α} {k : Nat} {n : Str} {q : Addr} {i : Int} {np sp : Pos} (sl : Sl X k n) (s0 : Same G H) (o : Own X.K G H q xs) (hv : Ev X c σ G H y) (hi : Ev X a σ G H i) (h0 : 0 ≤ i) (h1 : i < (xs.length : Int))
    (kk : ∀ G1 H1 vs', Ext G H G1 H1 → HLen H1 → Own X.K G1 (upd H1 q (.lst vs')) q (xs.set i.toNat y) → D.nx σ (upd H1 q (.lst vs'))) (hq : σ[k]? = some (some (.ref q)) := by rfl)
    (hs : swapsWithSole [.Subscript (.Name n np) a sp] c pos.line X.env = pure false := by rfl) (hw : swappedStores [.Subscript (.Name n np) a sp] c X.env = pure none := by rfl)
    (hh : (assignEach [.Subscript (.Name n np) a sp] X.env).map (·.2) = [assign (.Subscript (.Name n np) a sp) X.env] := by rfl)
    (ha : ∀ v, assign (.Subscript (.Name n np) a sp) X.env v = (do
      let ov ← holding [v] (eval (.Name n np) X.env)
      let iv ← holding [v, ov] (eval a X.env)
      standAt sp
      holding [v, ov, iv] (setItem ov iv v)
      release [v, ov, iv] []) := by intro _; rfl) : tS X (.Assign [.Subscript (.Name n np) a sp] c pos) D σ H := by
  refine s_of (ps_asg pe_sem (pg_sub (pe_var sl.hN sl.hv sl.nm.hd sl.nm.hcd) pe_sem set_list ha) hs hw hh) ?_
  refine hv G H (Ext.refl s0) _ fun G1 H1 w x1 _ rw' => ⟨_, hq, hi G1 H1 x1 _ fun G2 H2 u x2 l2 ru => ?_⟩
  obtain ⟨vs, e, pr⟩ := (o.mono (x1.trans x2)).at_
  have ru : u = V.int i := ru
  exact ⟨q, vs, i, i.toNat, rfl, ru, e, by rw [paired_len pr]; exact ixN_of h0 h1, kk G2 H2 _ (x1.trans x2) l2 ⟨⟨_, upd_same, paired_set (up x2.g rw') _ pr⟩, (o.mono (x1.trans x2)).off⟩⟩
/-- xs[i], xs[j] = v, w, of an own list, i and j plain names -/
theorem s_swapix {xs : List α} {y z : α} {k k1 k2 : Nat} {n n1 n2 : Str} {q : Addr} {i j : Int} {np np2 sp sp2 tp tp2 ap ap2 : Pos} {kt kt2 : Nat} {c2 : Expr} (sl : Sl X k n) (sl1 : Sl X k1 n1) (sl2 : Sl X k2 n2) (s0 : Same G H) (o : Own X.K G H q xs) (hc : X.calm = true) (hv : Ev X c σ G H y) (hv2 : Ev X c2 σ G H z)
    {vi vj : V} (ri : rep X.K G vi i) (rj : rep X.K G vj j) (h0 : 0 ≤ i) (h1 : i < (xs.length : Int)) (h2 : 0 ≤ j) (h3 : j < (xs.length : Int))
    (kk : ∀ G1 H1 vs', Ext G H G1 H1 → HLen H1 → Own X.K G1 (upd H1 q (.lst vs')) q ((xs.set i.toNat y).set j.toNat z) → D.nx σ (upd H1 q (.lst vs'))) (hq : σ[k]? = some (some (.ref q)) := by rfl) (hqi : σ[k1]? = some (some vi) := by rfl) (hqj : σ[k2]? = some (some vj) := by rfl)
    (he : starEach [c, c2] X.env = (false, eval c X.env) :: starEach [c2] X.env := by rfl) (he2 : starEach [c2] X.env = (false, eval c2 X.env) :: starEach [] X.env := by rfl)
    (hs : swapsWithSole [.Tuple [.Subscript (.Name n np) (.Name n1 ap) sp, .Subscript (.Name n np2) (.Name n2 ap2) sp2] kt tp] (.Tuple [c, c2] kt2 tp2) pos.line X.env = pure false := by rfl) (hw : swappedStores [.Tuple [.Subscript (.Name n np) (.Name n1 ap) sp, .Subscript (.Name n np2) (.Name n2 ap2) sp2] kt tp] (.Tuple [c, c2] kt2 tp2) X.env = pure none := by rfl)
    (hh : (assignEach [.Tuple [.Subscript (.Name n np) (.Name n1 ap) sp, .Subscript (.Name n np2) (.Name n2 ap2) sp2] kt tp] X.env).map (·.2) = [assign (.Tuple [.Subscript (.Name n np) (.Name n1 ap) sp, .Subscript (.Name n np2) (.Name n2 ap2) sp2] kt tp) X.env] := by rfl) :
    tS X (.Assign [.Tuple [.Subscript (.Name n np) (.Name n1 ap) sp, .Subscript (.Name n np2) (.Name n2 ap2) sp2] kt tp] (.Tuple [c, c2] kt2 tp2) pos) D σ H := by
  have ri : vi = V.int i := ri
  have rj : vj = V.int j := rj
  have hg := pg_tup (k := kt) (pos := tp) hc (pgs_cons (pg_sub (pos := sp) (pe_var (pos := np) sl.hN sl.hv sl.nm.hd sl.nm.hcd) (pe_var (pos := ap) sl1.hN sl1.hv sl1.nm.hd sl1.nm.hcd) set_list) (pgs_cons (pg_sub (pos := sp2) (pe_var (pos := np2) sl.hN sl.hv sl.nm.hd sl.nm.hcd) (pe_var (pos := ap2) sl2.hN sl2.hv sl2.nm.hd sl2.nm.hcd) set_list) pgs_nil))
  refine tS_len (s_of (ps_asg pe_sem hg hs hw hh) ?_)
  refine ev_tup hv hv2 he he2 G H (Ext.refl s0) _ fun G1 H1 w x1 l1 ⟨t, u1, u2, e, gt, r1, r2⟩ => ?_
  obtain ⟨vs, e1, pr⟩ := (o.mono x1).at_
  have pr1 : Paired (rep X.K G1) (vs.set i.toNat u1) (xs.set i.toNat y) := paired_set r1 _ pr
  refine ⟨t, [u1, u2], e, .of (x1.s _ _ gt), rfl, u1, [u2], rfl, _, hq, _, hqi, q, vs, i, i.toNat, rfl, ri, e1, by rw [paired_len pr]; exact ixN_of h0 h1, u2, [], rfl, _, hq, _, hqj, q, _, j, j.toNat, rfl, rj, upd_same, ?_, rfl, ?_⟩
  · rw [paired_len pr1, List.length_set]; exact ixN_of h2 h3
  · rw [upd_upd]
    exact fun l => kk G1 H1 _ x1 l1 ⟨⟨_, upd_same, paired_set r2 _ pr1⟩, (o.mono x1).off⟩
/-- x, y = a, b: plain names -/
theorem s_par {x : α} {y : β} {i j : Nat} {n1 n2 : Str} {p1 p2 tp tp2 : Pos} {kt kt2 : Nat} (hc : X.calm = true) (hN : X.N.Nodup) (s1 : Ss X i n1) (s2 : Ss X j n2) (hij : i ≠ j) (s0 : Same G H) (ha : Ev X a σ G H x) (hb : Ev X b σ G H y)
    (kk : ∀ G1 H1 v w, Ext G H G1 H1 → HLen H1 → rep X.K G1 v x → rep X.K G1 w y → D.nx ((σ.set i (some v)).set j (some w)) H1)
    (hx : X.env.scope.names.lookup n1 = some .local := by rfl) (hy : X.env.scope.names.lookup n2 = some .local := by rfl)
    (he : starEach [a, b] X.env = (false, eval a X.env) :: starEach [b] X.env := by rfl) (he2 : starEach [b] X.env = (false, eval b X.env) :: starEach [] X.env := by rfl)
    (hw : swappedStores [.Tuple [.Name n1 p1, .Name n2 p2] kt tp] (.Tuple [a, b] kt2 tp2) X.env = pure (some [n1, n2]) := by rfl)
    (hs : swapsWithSole [.Tuple [.Name n1 p1, .Name n2 p2] kt tp] (.Tuple [a, b] kt2 tp2) pos.line X.env = pure false := by rfl) :
    tS X (.Assign [.Tuple [.Name n1 p1, .Name n2 p2] kt tp] (.Tuple [a, b] kt2 tp2) pos) D σ H := by
  refine s_of (ps_par hc hN s1.hN s2.hN hij hx hy pa_sem hw hs) ?_
  refine ea_cons ha (ea_cons hb ea_nil he2) he G H (Ext.refl s0) _ fun G1 H1 vs x1 l ⟨v, r, e, rv, v2, r2, e2, rv2, e3⟩ => ?_
  exact ⟨v, v2, by rw [e, e2, e3], kk G1 H1 v v2 x1 l rv rv2⟩
/-- x, y = e, a pair -/
theorem s_unp {x : α × β} {i j : Nat} {n1 n2 : Str} {p1 p2 tp : Pos} {kt : Nat} (hc : X.calm = true) (hN : X.N.Nodup) (s1 : Ss X i n1) (s2 : Ss X j n2) (s0 : Same G H) (h : Ev X e σ G H x)
    (kk : ∀ G1 H1 v w, Ext G H G1 H1 → HLen H1 → rep X.K G1 v x.1 → rep X.K G1 w x.2 → D.nx ((σ.set i (some v)).set j (some w)) H1)
    (hs : swapsWithSole [.Tuple [.Name n1 p1, .Name n2 p2] kt tp] e pos.line X.env = pure false := by rfl) (hw : swappedStores [.Tuple [.Name n1 p1, .Name n2 p2] kt tp] e X.env = pure none := by rfl)
    (hh : (assignEach [.Tuple [.Name n1 p1, .Name n2 p2] kt tp] X.env).map (·.2) = [assign (.Tuple [.Name n1 p1, .Name n2 p2] kt tp) X.env] := by rfl) :
    tS X (.Assign [.Tuple [.Name n1 p1, .Name n2 p2] kt tp] e pos) D σ H := by
  refine s_of (ps_asg pe_sem (pg_tup hc (pgs_cons (pg_name hN s1.hN s1.hx s1.hf) (pgs_cons (pg_name hN s2.hN s2.hx s2.hf) pgs_nil))) hs hw hh) ?_
  refine h G H (Ext.refl s0) _ fun G1 H1 v x1 l ⟨t, u1, u2, e, gt, r1, r2⟩ => ?_
  exact ⟨t, [u1, u2], e, .of (x1.s _ _ gt), rfl, u1, [u2], rfl, u2, [], rfl, rfl, kk G1 H1 u1 u2 x1 l r1 r2⟩
theorem rgV_pair {K : PySem.W.Frag} {G : Hp} (a b : Int) : Paired (rep K G) (rgV a b) (rng a b) := by
  have : rgV a b = (rng a b).map V.int := by
    unfold rgV rng
    rw [List.map_map]
    rfl
  rw [this]
  exact ints_paired _
/-- list(range(..)) -/
theorem evN_lrg1 {j : Int} {p2 pos2 : Pos} (hc : X.calm = true) (B : Bl X "list") (B2 : Bl X "range") (h : Ev X a σ G H j) (hs : RgOk 0 j) (na : starEach [a] X.env = (false, eval a X.env) :: starEach [] X.env := by rfl) (na2 : starEach [.Call (.Name "range" p2) [a] [] pos2] X.env = (false, eval (.Call (.Name "range" p2) [a] [] pos2) X.env) :: starEach [] X.env := by rfl) :
    EvN X (.Call (.Name "list" p) [.Call (.Name "range" p2) [a] [] pos2] [] pos) σ G H (Is X.K (rng 0 j)) :=
  evN_of (pe_listRg hc B.g B.m (prg_1 B2.g B2.m pe_sem na) na2) fun G1 H1 x1 Q q => h G1 H1 x1 _ fun G2 H2 v x2 _ pv =>
    ⟨j, pv, hs, fun l hl => q (upd G2 l (.lst (rgV 0 j))) _ _ (x2.new hl) ⟨l, _, rfl, upd_same, rgV_pair _ _⟩ fun p' e => by cases e; exact x2.h.free hl⟩
theorem evN_lrg2 {i j : Int} {p2 pos2 : Pos} (hc : X.calm = true) (B : Bl X "list") (B2 : Bl X "range") (h : Ev X a σ G H i) (h' : Ev X b σ G H j) (hs : RgOk i j) (na : starEach [a, b] X.env = (false, eval a X.env) :: starEach [b] X.env := by rfl) (nb : starEach [b] X.env = (false, eval b X.env) :: starEach [] X.env := by rfl) (hp : (backTo pos2 (starEach [b] X.env)).any (·.1) = false := by rfl) (na2 : starEach [.Call (.Name "range" p2) [a, b] [] pos2] X.env = (false, eval (.Call (.Name "range" p2) [a, b] [] pos2) X.env) :: starEach [] X.env := by rfl) :
    EvN X (.Call (.Name "list" p) [.Call (.Name "range" p2) [a, b] [] pos2] [] pos) σ G H (Is X.K (rng i j)) :=
  evN_of (pe_listRg hc B.g B.m (prg_2 B2.g B2.m pe_sem pe_sem na nb hp) na2) fun G1 H1 x1 Q q => h G1 H1 x1 _ fun G2 H2 v x2 _ pv => h' G2 H2 (x1.trans x2) _ fun G3 H3 u x3 _ pu =>
    ⟨i, j, pv, pu, hs, fun l hl => q (upd G3 l (.lst (rgV i j))) _ _ ((x2.trans x3).new hl) ⟨l, _, rfl, upd_same, rgV_pair _ _⟩ fun p' e => by cases e; exact (x2.trans x3).h.free hl⟩
theorem ev_lrg1 {j : Int} {p2 pos2 : Pos} (hc : X.calm = true) (B : Bl X "list") (B2 : Bl X "range") (h : Ev X a σ G H j) (hs : RgOk 0 j) (na : starEach [a] X.env = (false, eval a X.env) :: starEach [] X.env := by rfl) (na2 : starEach [.Call (.Name "range" p2) [a] [] pos2] X.env = (false, eval (.Call (.Name "range" p2) [a] [] pos2) X.env) :: starEach [] X.env := by rfl) :
    Ev X (.Call (.Name "list" p) [.Call (.Name "range" p2) [a] [] pos2] [] pos) σ G H (rng 0 j) := (evN_lrg1 hc B B2 h hs na na2).ev
theorem ev_lrg2 {i j : Int} {p2 pos2 : Pos} (hc : X.calm = true) (B : Bl X "list") (B2 : Bl X "range") (h : Ev X a σ G H i) (h' : Ev X b σ G H j) (hs : RgOk i j) (na : starEach [a, b] X.env = (false, eval a X.env) :: starEach [b] X.env := by rfl) (nb : starEach [b] X.env = (false, eval b X.env) :: starEach [] X.env := by rfl) (hp : (backTo pos2 (starEach [b] X.env)).any (·.1) = false := by rfl) (na2 : starEach [.Call (.Name "range" p2) [a, b] [] pos2] X.env = (false, eval (.Call (.Name "range" p2) [a, b] [] pos2) X.env) :: starEach [] X.env := by rfl) :
    Ev X (.Call (.Name "list" p) [.Call (.Name "range" p2) [a, b] [] pos2] [] pos) σ G H (rng i j) := (evN_lrg2 hc B B2 h h' hs na nb hp na2).ev
end
end RL
namespace RL
open PySem PySem.Spec PyProof.Rows L2 Rep
section
variable {X : Cx} {σ : St} {G H : Hp} {D : Ends} {P : PV} {e : Expr} {pos p : Pos} {α : Type} [Rep α]
theorem flat_paired [Flat α] {K : PySem.W.Frag} {G G' : Hp} : ∀ {vs : List V} {xs : List α}, Paired (rep K G) vs xs → Paired (rep K G') vs xs
  | _, _, .nil => .nil
  | _, _, .cons h t => .cons (Flat.flat h) (flat_paired t)
/-- name = a new list, the def's own from here on -/
theorem s_setO [Flat α] {xs : List α} {i : Nat} {n : Str} (hN : X.N.Nodup) (sl : Ss X i n) (s0 : Same G H) (h : EvN X e σ G H (Is X.K xs)) (k : ∀ G1 H1 q, Ext G H G1 H1 → HLen H1 → H q = none → Own X.K G1 H1 q xs → D.nx (σ.set i (some (.ref q))) H1)
    (hs : swapsWith e (some (.Name n p)) pos.line X.env = pure false := by rfl) : tS X (.Assign [.Name n p] e pos) D σ H :=
  s_setN hN sl s0 h (fun G1 H1 v x l r nw => by
    obtain ⟨q, vs, rfl, g, pr⟩ := r
    have hq : H q = none := nw q rfl
    refine k (fun a => if a = q then none else G1 a) H1 q ⟨x.h, fun a o e => ?_, fun a o e => ?_, fun a o e => ?_⟩ l hq ⟨⟨vs, x.s _ _ g, ?_⟩, if_pos rfl⟩
    · by_cases ha : a = q
      · subst ha; rw [s0 _ _ e] at hq; cases hq
      · show (if a = q then none else G1 a) = _
        rw [if_neg ha]; exact x.g _ _ e
    · by_cases ha : a = q
      · have e : (if a = q then none else G1 a) = some o := e
        rw [if_pos ha] at e; cases e
      · have e : (if a = q then none else G1 a) = some o := e
        rw [if_neg ha] at e; exact x.s _ _ e
    · by_cases ha : a = q
      · have e : (if a = q then none else G1 a) = some o := e
        rw [if_pos ha] at e; cases e
      · have e : (if a = q then none else G1 a) = some o := e
        rw [if_neg ha] at e; exact x.n _ _ e
    · exact flat_paired pr) hs
theorem ev_abs {i : Int} (B : Bl X "abs") (h : Ev X e σ G H i) (he : starEach [e] X.env = (false, eval e X.env) :: starEach [] X.env := by rfl) : Ev X (.Call (.Name "abs" p) [e] [] pos) σ G H (if i < 0 then -i else i) :=
  ev_callB call_abs B.g B.m PyProof.Rows.boot_abs (ea_cons h ea_nil he) (fun G1 H1 vs y l ⟨v, r, e1, pv, e2⟩ Q q => ⟨i, by rw [e1, e2, show v = _ from pv], q G1 H1 _ (Ext.refl y.s) rfl⟩) (by decide) (by decide) he rfl
theorem rep_of2 {ζ : Type} [Rep ζ] {K : PySem.W.Frag} {G : Hp} {v : V} {y z : ζ × List Int} (e : y = z) (r : rep K G v z.1) : rep K G v y.1 := e ▸ r
theorem own_of {ζ : Type} {K : PySem.W.Frag} {G H : Hp} {q : Addr} {y z : ζ × List Int} (e : y = z) (o : Own K G H q z.2) : Own K G H q y.2 := e ▸ o
end
end RL
namespace RL
theorem cut_but {α : Type} (xs : List α) : cut xs none (some (-1)) = xs.dropLast := by
  have e : cut xs none (some (-1)) = xs.take (xs.length - 1) := by
    unfold cut
    have h1 : HT.sIx xs.length 0 none = 0 := rfl
    have h2 : HT.sIx xs.length xs.length (some (-1)) = xs.length - 1 := by
      simp only [HT.sIx]
      rw [if_pos (by decide)]
      omega
    rw [h1, h2, List.drop_zero, Nat.sub_zero]
  rw [e, List.dropLast_eq_take]
end RL
namespace RL
open PySem PySem.Spec PyProof.Rows L2 Rep
/-- i, i + c, .. below j -/
def rng3 (i j c : Int) : List Int := (List.range (if i < j then (j - i - 1) / c + 1 else 0).toNat).map fun (k : Nat) => i + (k : Int) * c
theorem rng3_len {i j c : Int} : (rng3 i j c).length = (if i < j then (j - i - 1) / c + 1 else 0).toNat := by simp [rng3]
theorem small_pos {a b c : Int} (ha : -(2 ^ 62) ≤ a) (ha' : a < 2 ^ 62) (hb : -(2 ^ 62) ≤ b) (hb' : b < 2 ^ 62) (hc : 1 ≤ c) (hc' : c < 1073741824) : Builtin.Range.small a b c = true := by
  unfold Builtin.Range.small
  have h0 : Builtin.Range.rangeSize a b c = if a < b then (b - a - 1) / c + 1 else 0 := by
    unfold Builtin.Range.rangeSize
    rw [if_pos (by omega)]
  rw [h0]
  simp only [Builtin.Range.rangeFitsLong, Bool.and_eq_true, Bool.or_eq_true, decide_eq_true_eq, beq_iff_eq, show c > 0 by omega, if_true]
  by_cases h : a < b
  · rw [if_pos h]
    have h1 : (b - a - 1) / c ≤ b - a - 1 := Int.ediv_le_self c (by omega)
    have h2 : 0 ≤ (b - a - 1) / c := Int.ediv_nonneg (by omega) (by omega)
    omega
  · rw [if_neg h]
    omega
theorem walk_rng3 {K : PySem.W.Frag} {G : Hp} {lo hi c : Int} {n : Nat} (e : n = (if lo < hi then (hi - lo - 1) / c + 1 else 0).toNat) : WalkOf K (Itc lo c n) G (rng3 lo hi c) := fun G' H' s1 s2 => by
  subst e
  refine ⟨fun i h => by rw [rng3_len] at h; exact h, by rw [rng3_len]; exact Nat.le_refl _, fun i x v H'' hx y => ?_⟩
  obtain ⟨rfl, y⟩ := y
  unfold rng3 at hx
  rw [List.getElem?_map] at hx
  cases hq : (List.range (if lo < hi then (hi - lo - 1) / c + 1 else 0).toNat)[i]? with
  | none => rw [hq] at hx; cases hx
  | some t =>
    rw [hq] at hx
    obtain ⟨ht, he⟩ := List.getElem?_eq_some_iff.mp hq
    simp at he
    subst he
    cases hx
    exact ⟨G', Ext.refl s2, y⟩
section
variable {X : Cx} {σ : St} {G H : Hp} {D : Ends} {P : PV} {a b c tg : Expr} {pos p : Pos} {i j k : Int}
theorem ei_range3 (B : Bl X "range") (h : Ev X a σ G H i) (h' : Ev X b σ G H j) (h'' : Ev X c σ G H k) (hb : (-(2 ^ 62) ≤ i ∧ i < 2 ^ 62) ∧ -(2 ^ 62) ≤ j ∧ j < 2 ^ 62 ∧ j - i ≤ 16777216) (hk : 1 ≤ k) (hk' : k < 1073741824)
    (he : starEach [a, b, c] X.env = (false, eval a X.env) :: starEach [b, c] X.env := by rfl) (he2 : starEach [b, c] X.env = (false, eval b X.env) :: starEach [c] X.env := by rfl) (he3 : starEach [c] X.env = (false, eval c X.env) :: starEach [] X.env := by rfl) (hpl : (backTo pos (starEach [b, c] X.env)).any (·.1) = false := by rfl) :
    EvI X tg (.Call (.Name "range" p) [a, b, c] [] pos) σ G H (rng3 i j k) :=
  ⟨_, pi_range3 B.g B.m (pa_cons pe_sem (pa_cons pe_sem (pa_cons pe_sem pa_nil he3) he2) he) he hpl, fun G1 H1 x1 R r => h G1 H1 x1 _ fun G2 H2 v x2 _ pv => h' G2 H2 (x1.trans x2) _ fun G3 H3 u x3 _ pu => h'' G3 H3 ((x1.trans x2).trans x3) _ fun G4 H4 w x4 _ pw => by
    have h0 : Builtin.Range.rangeSize i j k = if i < j then (j - i - 1) / k + 1 else 0 := by
      unfold Builtin.Range.rangeSize
      rw [if_pos (by omega)]
    have h1 : (j - i - 1) / k ≤ j - i - 1 ∨ ¬ i < j := by
      by_cases z : i < j
      · exact .inl (Int.ediv_le_self k (by omega))
      · exact .inr z
    have h2 : 0 ≤ (j - i - 1) / k ∨ ¬ i < j := by
      by_cases z : i < j
      · exact .inl (Int.ediv_nonneg (by omega) (by omega))
      · exact .inr z
    refine ⟨i, j, k, (if i < j then (j - i - 1) / k + 1 else 0).toNat, by rw [show v = _ from pv, show u = _ from pu, show w = _ from pw], ⟨by omega, by omega, small_pos hb.1.1 hb.1.2 hb.2.1 hb.2.2.1 hk hk', ?_⟩, r _ G4 H4 ((x2.trans x3).trans x4) ?_ (walk_rng3 rfl)⟩
    · rw [h0]; split <;> omega
    · rw [rng3_len, sizeLine_eq]; split <;> omega⟩
/-! ### while -/
def wrun {S : Type} (c : S → Bool) (f : S → S) : Nat → S → S
  | 0, s => s
  | n + 1, s => if c s = true then wrun c f n (f s) else s
theorem wrun_step {S : Type} {c : S → Bool} {f : S → S} {m : Nat} {s s' y : S} (e : wrun c f m s = y) (hc : c s = true) (hm : 1 ≤ m) (hs : f s = s') : wrun c f (m - 1) s' = y := by
  cases m with
  | zero => omega
  | succ m =>
    rw [wrun, if_pos hc, hs] at e
    exact e
theorem wrun_stop {S : Type} {c : S → Bool} {f : S → S} {m : Nat} {s y : S} (e : wrun c f m s = y) (hc : c s = false) : s = y := by
  cases m with
  | zero => exact e
  | succ m =>
    rw [wrun, if_neg (by rw [hc]; decide)] at e
    exact e
theorem tk_whl {α S : Type} {a : α} {k : S → α} {c : S → Bool} {f : S → S} {m M : Nat} {s s0 : S} (h : a = k (wrun c f M s0)) (e : wrun c f m s = wrun c f M s0) (hc : c s = false) : a = k s := by
  rw [h, ← e, ← wrun_stop rfl hc]
theorem s_while {body : List Stmt} (hp : PassesOwn (model X.prog X.w) X.A X.env X.xe) (s0 : Same G H) (I : Nat → St → Hp → Hp → Prop) (M : Nat) (h0 : I M σ G H)
    (ht : ∀ m σ1 G1 H1, Same G G1 → Same G1 H1 → I m σ1 G1 H1 → ∃ b, EvT X c σ1 G1 H1 b ∧
      (b = true → ∀ G2 H2, Ext G1 H1 G2 H2 → HLen H2 → tSs X body { D with nx := fun σ' H' => ∃ m' G', m' < m ∧ Same G2 G' ∧ Same G' H' ∧ I m' σ' G' H', ct := fun σ' H' => ∃ m' G', m' < m ∧ Same G2 G' ∧ Same G' H' ∧ I m' σ' G' H', bk := D.nx } σ1 H2) ∧
      (b = false → ∀ G2 H2, Ext G1 H1 G2 H2 → HLen H2 → D.nx σ1 H2)) : tS X (.While c body [] pos) D σ H := by
  refine s_of (ps_while hp pt_sem pss_sem) ⟨fun m σ' H' => ∃ G', Same G G' ∧ Same G' H' ∧ I m σ' G' H', ⟨M, G, Same.refl _, s0, h0⟩, ?_⟩
  rintro m σ1 H1 ⟨G1, sg, sh, Iv⟩
  obtain ⟨b, hc, h1, h2⟩ := ht m σ1 G1 H1 sg sh Iv
  refine hc G1 H1 (Ext.refl sh) _ fun G2 H2 x2 l => ?_
  cases b with
  | false => exact h2 rfl G2 H2 x2 l
  | true =>
    refine ⟨fun σ2 H2 => ∃ m' G', m' < m ∧ Same G G' ∧ Same G' H2 ∧ I m' σ2 G' H2, fun σ2 H2 ⟨m', G', hm, a, b, c⟩ => ⟨m', hm, G', a, b, c⟩, ?_⟩
    refine .mk fun pins s Iv' => ?_
    refine thn ((h1 rfl G2 H2 x2 l).run pins s Iv') fun f s' q => ?_
    have fin : ∀ {H3 : Hp} {σ3 : St}, (∃ m' G', m' < m ∧ Same G2 G' ∧ Same G' H3 ∧ I m' σ3 G' H3) → ∃ m' G', m' < m ∧ Same G G' ∧ Same G' H3 ∧ I m' σ3 G' H3 := fun ⟨m', G', hm, a, b, c⟩ => ⟨m', G', hm, sg.trans (x2.g.trans a), b, c⟩
    cases f with
    | next =>
      obtain ⟨σ3, H3, I3, q⟩ := q
      exact ⟨σ3, H3, I3, fin q⟩
    | cont =>
      obtain ⟨σ3, H3, I3, q⟩ := q
      exact ⟨σ3, H3, I3, fin q⟩
    | brk => exact q
    | ret u => exact q
end
end RL
namespace RL
theorem enum_mem {α : Type} {z : Int × α} {xs : List α} (h : z ∈ enum xs) : 0 ≤ z.1 ∧ z.1 < (xs.length : Int) := by
  obtain ⟨i, hi, e⟩ := List.getElem_of_mem h
  have e2 : (enum xs)[i]? = some z := by rw [List.getElem?_eq_getElem hi, e]
  obtain ⟨e1, _⟩ := enum_get e2
  rw [enum_len] at hi
  omega
theorem rep_len {α : Type} (n : Nat) (a : α) : (List.replicate n [a]).flatten.length = n := by simp
theorem rep_len2 {α : Type} (n : Nat) (a b : α) : (List.replicate n [a, b]).flatten.length = n * 2 := by simp
end RL
namespace RL
theorem getD_set {xs : List Int} {i : Nat} {v : Int} (h : i < xs.length) : (xs.set i v).getD i 0 = v := by
  rw [List.getD_eq_getElem?_getD, List.getElem?_set_self h]
  rfl
end RL
namespace RL
open PySem PySem.Spec PyProof.Rows L2 Rep
section
variable {X : Cx} {σ : St} {G H : Hp} {p : Pos}
/-- a constant of the text -/
theorem ev_globI {n : Str} {i : Int} (hg : Gl X n) (h : ∃ t, X.mg n = some (.int i t)) (hd : (n == ("__debug__" : Str)) = false := by decide) : Ev X (.Name n p) σ G H i :=
  let ⟨t, h⟩ := h; ev_glob (v := .int i) hg h ⟨t, rfl⟩ (fun _ => rfl) hd
theorem ev_globS {n x : Str} (hg : Gl X n) (h : ∃ t, X.mg n = some (.str x t)) (hd : (n == ("__debug__" : Str)) = false := by decide) : Ev X (.Name n p) σ G H x :=
  let ⟨t, h⟩ := h; ev_glob (v := .str x) hg h ⟨t, rfl⟩ (fun _ => rfl) hd
end
end RL
namespace RL
open PySem PySem.Spec PyProof.Rows L2 Rep
section
variable {X : Cx} {σ : St} {G H : Hp} {es : List Expr} {pos p lp : Pos} {D : Ends}
/-- n = [..]: the def's own at once, whatever its items -/
theorem s_listO {α : Type} [Rep α] {xs : List α} {i : Nat} {n : Str} (hN : X.N.Nodup) (sl : Ss X i n) (s0 : Same G H) (h : EvA X es σ G H (AAll X.K xs)) (k : ∀ G1 H1 q, Ext G H G1 H1 → HLen H1 → H q = none → Own X.K G1 H1 q xs → D.nx (σ.set i (some (.ref q))) H1)
    (hl : xs.length ≤ 1000 := by exact Nat.le_of_ble_eq_true rfl) (hs : swapsWith (.List es lp) (some (.Name n p)) pos.line X.env = pure false := by rfl) : tS X (.Assign [.Name n p] (.List es lp) pos) D σ H :=
  s_of (ps_set hN sl.hN sl.hx pe_sem hs sl.hf) (tE_lenF fun pins s I => (pe_lst pa_sem).run pins s σ H _ I (h G H (Ext.refl s0) _ fun G1 H1 vs x _ pa => ⟨by rw [paired_len pa]; exact Nat.le_of_lt (small1000 hl), fun q hq l =>
    k G1 _ q (x.newH hq) l (x.h.free hq) ⟨⟨vs, upd_same, pa⟩, x.s.free hq⟩⟩))
end
end RL
namespace RL
open PySem PySem.Spec PyProof.Rows L2
/-- names of a block within a block -/
def relS (scope sc0 : Scope) : Scope := { scope with names := scope.names.map fun (n, k) => if (k == NameKind.free && sc0.kind == .function && sc0.names.lookup n == some NameKind.cell) then (n, NameKind.cell) else (n, k) }
theorem blk_in {X : Cx} {N : List Str} {sc0 scope scope2 : Scope} {own : List (Str × Nat)} {s : Shared} {H0 : Hp} {C : Addr} {cl : List (Str × Addr)} {fp : List Addr} (hs : X.env.scope = sc0) (h : blkC N (relS scope sc0) scope2 own = true) : BlkOk N (InB X scope s H0 C cl fp).env.scope scope2 own := by
  subst hs
  exact blkOk_by h
end RL
namespace RL
open PySem PySem.Spec PyProof.Rows L2 Rep
section
variable {X : Cx} {σ : St} {G H : Hp} {pos p : Pos} {α β γ δ ζ : Type} [Rep α] [Rep β] [Rep γ] [Rep δ] [Rep ζ] {k : Nat} {n : Str} {e1 e2 e3 e4 : Expr} {x1 : α} {x2 : β} {x3 : γ} {x4 : δ}
theorem evN_c4 {pre : α → β → γ → δ → Prop} {f : α → β → γ → δ → ζ} (C : Cal X.prog X.w X.K X.mg X.base k n (Sp4 X.K true pre f)) (hr : Room k X.A) (hg : Gl X n) (h1 : Ev X e1 σ G H x1) (h2 : Ev X e2 σ G H x2) (h3 : Ev X e3 σ G H x3) (h4 : Ev X e4 σ G H x4) (hp : pre x1 x2 x3 x4) (hdb : (n == ("__debug__" : Str)) = false := by decide)
    (he : starEach [e1, e2, e3, e4] X.env = (false, eval e1 X.env) :: starEach [e2, e3, e4] X.env := by rfl) (he2 : starEach [e2, e3, e4] X.env = (false, eval e2 X.env) :: starEach [e3, e4] X.env := by rfl) (he3 : starEach [e3, e4] X.env = (false, eval e3 X.env) :: starEach [e4] X.env := by rfl) (he4 : starEach [e4] X.env = (false, eval e4 X.env) :: starEach [] X.env := by rfl) (hpl : (backTo pos (starEach [e2, e3, e4] X.env)).any (·.1) = false := by rfl) : EvN X (.Call (.Name n p) [e1, e2, e3, e4] [] pos) σ G H (Is X.K (f x1 x2 x3 x4)) :=
  evN_call C hr hg (ea_cons h1 (ea_cons h2 (ea_cons h3 (ea_cons h4 ea_nil he4) he3) he2) he) (fun G1 H1 vs x l ⟨v, r, e, rv, v2, r2, e', rv2, v3, r3, e'', rv3, v4, r4, e3', rv4, e4'⟩ Q q => ⟨G1, v, v2, v3, v4, x1, x2, x3, x4, by rw [e, e', e'', e3', e4'], x.s, rv, rv2, rv3, rv4, hp, fun G2 H2 w x r n => q G2 H2 w x r (n rfl)⟩) hdb he hpl
end
end RL
namespace RL
open PySem PySem.Spec PyProof.Rows L2 Rep
section
variable {α β : Type} [Rep α] [Rep β] {K : PySem.W.Frag} {G H G0 H0 : Hp} {q p : Addr} {xs : List α} {ys : List β}
/-- an own list frozen beside others -/
theorem Own.frzK (o : Own K G H q xs) (x0 : Ext G0 H0 G H) (n : H0 q = none) : ∃ G', Ext G0 H0 G' H ∧ Same G G' ∧ rep K G' (.ref q) xs ∧ ∀ b, b ≠ q → G' b = G b :=
  let ⟨vs, e, p⟩ := o.at_; ⟨upd G q (.lst vs), x0.frz n e, same_new o.off, ⟨q, vs, rfl, upd_same, pair_up (same_new o.off) p⟩, fun _ h => upd_ne h⟩
theorem Own.reK {G' : Hp} (o : Own K G H p ys) (s : Same G G') (k : ∀ b, b ≠ q → G' b = G b) (h : p ≠ q) : Own K G' H p ys :=
  let ⟨vs, e, r⟩ := o.at_; ⟨⟨vs, e, pair_up s r⟩, (k p h).trans o.off⟩
end
end RL

set_option Elab.async false
set_option linter.all false
set_option maxRecDepth 100000
set_option maxHeartbeats 4000000
/-! RX: own errors: defs that refuse, try .. except .. as e, a def that is asked of the error in hand. -/
namespace RL
open PySem PySem.Spec PyProof.Rows L2 Rep
theorem cx_no {P : Program} {w : World} {outer : List Env} {H : Hp} {s s' : Shared} {e : Value} (h : L2.CX P w outer H s (fun _ _ _ => False) e s') : False := by
  obtain ⟨_, _, _, _, _, _, _, _, _, _, _, _, z⟩ := h
  exact z
theorem roomS {k : Nat} {A : Around} {v : Option Value} (r : Room k A) : L2H.RoomH k (A.mark v) := ⟨r.dp, r.un⟩
/-- an error class of the text without own __init__, over ValueError -/
structure XC (K : PySem.W.Frag) (mg : Str → Option Value) (x : Str) (C : Addr) : Prop where
  g : mg x = some (.ref C)
  k : PySem.W.keepIn K (.ref C) = true
  q : PySem.W.excIn K C [.type "ValueError", .type "Exception", .type "BaseException", .type "object"] "ValueError.__new__" = true
  s : PySem.W.subIn K (.ref C) (.type "BaseException") = some true
  t : PySem.W.typeIn K (.ref C) = some (.type "type")
  c : ExcC K C
section
variable {X : Cx} {σ : St} {G H : Hp} {P : PV} {W : WX} {D : Ends} {e a b tg : Expr} {es : List Expr} {st : Stmt} {sts body suite : List Stmt} {b0 : Stmt} {pos p p2 p3 : Pos}
/-! ### what never comes to a value -/
def EvR (X : Cx) (e : Expr) (σ : St) (H : Hp) : Prop := ∀ Q : VK, tE X e σ H Q
theorem s_raise {x m : Str} {C : Addr} {j : Nat} (hc : X.calm = true) (tk : Takes X W) (c : XC X.K X.mg x C) (hg : Gl X x) (h : W (.ref C) none σ H) (hdb : (x == ("__debug__" : Str)) = false := by decide) :
    tS X (.Raise (some (.Call (.Name x p) [.Constant (.str m) j p2] [] p3)) none pos) D σ H :=
  s_of (ps_raise hc tk (pmk_own PySem.F.excBase_ValueError c.q c.g c.k (raises_own c.s c.t) hg hdb)) h
theorem s_exprR (h : EvR X e σ H) (hs : swapsWith e none pos.line X.env = pure false := by rfl) : tS X (.Expr e pos) D σ H := s_of (ps_expr pe_sem hs) (h _)
theorem s_retR (h : EvR X e σ H) : tS X (.Return (some e) pos) D σ H := s_of (ps_ret pe_sem) (h _)
theorem s_setR {i : Nat} {n : Str} (hN : X.N.Nodup) (sl : Ss X i n) (h : EvR X e σ H) (hs : swapsWith e (some (.Name n p)) pos.line X.env = pure false := by rfl) : tS X (.Assign [.Name n p] e pos) D σ H :=
  s_of (ps_set hN sl.hN sl.hx pe_sem hs sl.hf) (h _)
def EiR (X : Cx) (tg iter : Expr) (σ : St) (H : Hp) : Prop := ∃ wi, PI X tg iter wi ∧ ∀ R : It → Hp → Prop, wi σ H R
theorem eir_list (h : EvR X e σ H) : EiR X tg e σ H := ⟨_, pi_list pe_sem, fun _ => h _⟩
theorem eir_enum {elts : List Expr} {kk : Nat} {tpos : Pos} (B : Bl X "enumerate") (h : EvR X e σ H) (he : starEach [e] X.env = (false, eval e X.env) :: starEach [] X.env := by rfl) (hs : starEach [e] X.env = [(false, eval e X.env)] := by rfl) :
    EiR X (.Tuple elts kk tpos) (.Call (.Name "enumerate" p) [e] [] pos) σ H := ⟨_, pi_enum B.g B.m (pa_cons pe_sem pa_nil he) hs, fun _ => h _⟩
theorem s_forR {g : TG} (hp : PassesOwn (model X.prog X.w) X.A X.env X.xe) (hc : X.calm = true) (hg : PG X tg g) (h : EiR X tg e σ H) (hsf : ∀ x, foldedSetIterable e X.env x = pure x := by intro _; rfl) : tS X (.For tg e body [] pos) D σ H :=
  let ⟨_, pi, h⟩ := h; s_of (ps_for hp hc pi hg pss_sem hsf) (h _)
/-! ### defs that refuse -/
section sps
variable {α β γ δ : Type} [Rep α] [Rep β] [Rep γ] [Rep δ]
def SpR1 (K : PySem.W.Frag) (pre : α → Prop) (C : Addr) : Sp := fun vs H _ E => ∃ (G : Hp) (v1 : V) (x1 : α), vs = [v1] ∧ Same G H ∧ rep K G v1 x1 ∧ pre x1 ∧ ∀ G2 H2, Ext G H G2 H2 → E (.ref C) none H2
def SpR2 (K : PySem.W.Frag) (pre : α → β → Prop) (C : Addr) : Sp := fun vs H _ E => ∃ (G : Hp) (v1 v2 : V) (x1 : α) (x2 : β), vs = [v1, v2] ∧ Same G H ∧ rep K G v1 x1 ∧ rep K G v2 x2 ∧ pre x1 x2 ∧ ∀ G2 H2, Ext G H G2 H2 → E (.ref C) none H2
def SpR3 (K : PySem.W.Frag) (pre : α → β → γ → Prop) (C : Addr) : Sp := fun vs H _ E => ∃ (G : Hp) (v1 v2 v3 : V) (x1 : α) (x2 : β) (x3 : γ), vs = [v1, v2, v3] ∧ Same G H ∧ rep K G v1 x1 ∧ rep K G v2 x2 ∧ rep K G v3 x3 ∧ pre x1 x2 x3 ∧ ∀ G2 H2, Ext G H G2 H2 → E (.ref C) none H2
def SpR4 (K : PySem.W.Frag) (pre : α → β → γ → δ → Prop) (C : Addr) : Sp := fun vs H _ E => ∃ (G : Hp) (v1 v2 v3 v4 : V) (x1 : α) (x2 : β) (x3 : γ) (x4 : δ), vs = [v1, v2, v3, v4] ∧ Same G H ∧ rep K G v1 x1 ∧ rep K G v2 x2 ∧ rep K G v3 x3 ∧ rep K G v4 x4 ∧ pre x1 x2 x3 x4 ∧ ∀ G2 H2, Ext G H G2 H2 → E (.ref C) none H2
variable {k : Nat} {n : Str} {e1 e2 e3 e4 : Expr} {x1 : α} {x2 : β} {x3 : γ} {x4 : δ} {C : Addr}
theorem evR_call {sp : Sp} {A : Hp → Hp → List V → Prop} (c : Cal X.prog X.w X.K X.mg X.base k n sp) (hr : Room k X.A) (hg : Gl X n) (tk : Takes X W) (s0 : Same G H) (ha : EvA X (e :: es) σ G H A)
    (h : ∀ G1 H1 vs Q, Ext G H G1 H1 → A G1 H1 vs → sp vs H1 Q (WE W σ)) (hdb : (n == ("__debug__" : Str)) = false := by decide)
    (he : starEach (e :: es) X.env = (false, eval e X.env) :: starEach es X.env := by rfl) (hpl : (backTo pos (starEach es X.env)).any (·.1) = false := by rfl) : EvR X (.Call (.Name n p) (e :: es) [] pos) σ H := by
  obtain ⟨f, fd, ps, F, hm, hk, hb⟩ := c.ex
  refine fun Q => .mk fun pins s I => ?_
  exact (pe_callS F hr hg hm hk hb (fun τ => passAt tk τ) pa_sem hdb he hpl).run pins s σ H Q I (ha G H (Ext.refl s0) _ fun G1 H1 vs x _ q => h G1 H1 vs Q x q)
theorem evR_c1 {pre : α → Prop} (c : Cal X.prog X.w X.K X.mg X.base k n (SpR1 X.K pre C)) (hr : Room k X.A) (hg : Gl X n) (tk : Takes X W) (s0 : Same G H) (h1 : Ev X e1 σ G H x1) (hp : pre x1) (w : ∀ G2 H2, Ext G H G2 H2 → W (.ref C) none σ H2)
    (hdb : (n == ("__debug__" : Str)) = false := by decide) (he : starEach [e1] X.env = (false, eval e1 X.env) :: starEach [] X.env := by rfl) : EvR X (.Call (.Name n p) [e1] [] pos) σ H :=
  evR_call c hr hg tk s0 (ea_cons h1 ea_nil he) (fun G1 H1 vs Q x ⟨v, r, e, rv, e'⟩ => ⟨G1, v, x1, by rw [e, e'], x.s, rv, hp, fun G2 H2 y => w G2 H2 (x.trans y)⟩) hdb he rfl
theorem evR_c2 {pre : α → β → Prop} (c : Cal X.prog X.w X.K X.mg X.base k n (SpR2 X.K pre C)) (hr : Room k X.A) (hg : Gl X n) (tk : Takes X W) (s0 : Same G H) (h1 : Ev X e1 σ G H x1) (h2 : Ev X e2 σ G H x2) (hp : pre x1 x2) (w : ∀ G2 H2, Ext G H G2 H2 → W (.ref C) none σ H2)
    (hdb : (n == ("__debug__" : Str)) = false := by decide) (he : starEach [e1, e2] X.env = (false, eval e1 X.env) :: starEach [e2] X.env := by rfl) (he2 : starEach [e2] X.env = (false, eval e2 X.env) :: starEach [] X.env := by rfl)
    (hpl : (backTo pos (starEach [e2] X.env)).any (·.1) = false := by rfl) : EvR X (.Call (.Name n p) [e1, e2] [] pos) σ H :=
  evR_call c hr hg tk s0 (ea_cons h1 (ea_cons h2 ea_nil he2) he) (fun G1 H1 vs Q x ⟨v, r, e, rv, v2, r2, e', rv2, e''⟩ => ⟨G1, v, v2, x1, x2, by rw [e, e', e''], x.s, rv, rv2, hp, fun G2 H2 y => w G2 H2 (x.trans y)⟩) hdb he hpl
theorem evR_c3 {pre : α → β → γ → Prop} (c : Cal X.prog X.w X.K X.mg X.base k n (SpR3 X.K pre C)) (hr : Room k X.A) (hg : Gl X n) (tk : Takes X W) (s0 : Same G H) (h1 : Ev X e1 σ G H x1) (h2 : Ev X e2 σ G H x2) (h3 : Ev X e3 σ G H x3) (hp : pre x1 x2 x3) (w : ∀ G2 H2, Ext G H G2 H2 → W (.ref C) none σ H2)
    (hdb : (n == ("__debug__" : Str)) = false := by decide) (he : starEach [e1, e2, e3] X.env = (false, eval e1 X.env) :: starEach [e2, e3] X.env := by rfl) (he2 : starEach [e2, e3] X.env = (false, eval e2 X.env) :: starEach [e3] X.env := by rfl)
    (he3 : starEach [e3] X.env = (false, eval e3 X.env) :: starEach [] X.env := by rfl) (hpl : (backTo pos (starEach [e2, e3] X.env)).any (·.1) = false := by rfl) : EvR X (.Call (.Name n p) [e1, e2, e3] [] pos) σ H :=
  evR_call c hr hg tk s0 (ea_cons h1 (ea_cons h2 (ea_cons h3 ea_nil he3) he2) he) (fun G1 H1 vs Q x ⟨v, r, e, rv, v2, r2, e', rv2, v3, r3, e'', rv3, e3'⟩ => ⟨G1, v, v2, v3, x1, x2, x3, by rw [e, e', e'', e3'], x.s, rv, rv2, rv3, hp, fun G2 H2 y => w G2 H2 (x.trans y)⟩) hdb he hpl
theorem evR_c4 {pre : α → β → γ → δ → Prop} (c : Cal X.prog X.w X.K X.mg X.base k n (SpR4 X.K pre C)) (hr : Room k X.A) (hg : Gl X n) (tk : Takes X W) (s0 : Same G H) (h1 : Ev X e1 σ G H x1) (h2 : Ev X e2 σ G H x2) (h3 : Ev X e3 σ G H x3) (h4 : Ev X e4 σ G H x4) (hp : pre x1 x2 x3 x4) (w : ∀ G2 H2, Ext G H G2 H2 → W (.ref C) none σ H2)
    (hdb : (n == ("__debug__" : Str)) = false := by decide) (he : starEach [e1, e2, e3, e4] X.env = (false, eval e1 X.env) :: starEach [e2, e3, e4] X.env := by rfl) (he2 : starEach [e2, e3, e4] X.env = (false, eval e2 X.env) :: starEach [e3, e4] X.env := by rfl)
    (he3 : starEach [e3, e4] X.env = (false, eval e3 X.env) :: starEach [e4] X.env := by rfl) (he4 : starEach [e4] X.env = (false, eval e4 X.env) :: starEach [] X.env := by rfl) (hpl : (backTo pos (starEach [e2, e3, e4] X.env)).any (·.1) = false := by rfl) : EvR X (.Call (.Name n p) [e1, e2, e3, e4] [] pos) σ H :=
  evR_call c hr hg tk s0 (ea_cons h1 (ea_cons h2 (ea_cons h3 (ea_cons h4 ea_nil he4) he3) he2) he) (fun G1 H1 vs Q x ⟨v, r, e, rv, v2, r2, e', rv2, v3, r3, e'', rv3, v4, r4, e3', rv4, e4'⟩ => ⟨G1, v, v2, v3, v4, x1, x2, x3, x4, by rw [e, e', e'', e3', e4'], x.s, rv, rv2, rv3, rv4, hp, fun G2 H2 y => w G2 H2 (x.trans y)⟩) hdb he hpl
end sps
/-! ### try: body / except x as n: suite -/
theorem s_try {x n : Str} {c : Value} {i : Nat} {np pos' : Pos} (hs : X.stack = X.env :: X.outer) (hf : X.env.frame = some X.env.locals) (hN : X.N.Nodup) (hi : X.N[i]? = some n) (hln : X.env.kindOf n = some .local) (hc : Names X x c)
    (h : ∀ (pn : List (Addr × Obj)) (xe : Value → Shared → Prop) (W : WX),
      (∀ cls τ H', PySem.W.exmOne X.K (.ref cls) c = some true → (∀ a oe pn', H' a = none → Zc (.ref cls) none oe → (∃ vs, oe.data = .fields vs) →
        tSs (X.suite a ((a, oe) :: pn')) (b0 :: suite) { nx := fun σ' H' => D.nx (σ'.set i none) H', rt := D.rt, bk := fun σ' H' => D.bk (σ'.set i none) H', ct := fun σ' H' => D.ct (σ'.set i none) H' } (τ.set i (some (.ref a))) H') → W (.ref cls) none τ H') →
      Takes (X.tr pn xe) W → PassesOwn (model X.prog X.w) X.A X.env xe → tSs (X.tr pn xe) body D σ H) :
    tS X (.Try body [.ExceptHandler (some (.Name x np)) (some n) (b0 :: suite) pos'] [] [] pos) D σ H :=
  s_of (ps_try_as (i := i) (c := c) (Wout := fun _ _ _ _ => False)
    (tb := fun W D σ H => ∀ pn xe, Takes (X.tr pn xe) W → PassesOwn (model X.prog X.w) X.A X.env xe → tSs (X.tr pn xe) body D σ H)
    (ts := fun a cls d D σ H => ∀ oe pn, Zc cls d oe → (∃ vs, oe.data = .fields vs) → tSs (X.suite a ((a, oe) :: pn)) (b0 :: suite) D σ H)
    hs hf hN hi hln hc takes0 (fun W pn xe tk po => ⟨fun pins s σ H D I q => (q pn xe tk po).run pins s I⟩) (fun a oe cls d pn hz hv => ⟨fun pins s σ H D I q => (q oe pn hz hv).run pins s I⟩))
    fun pn xe tk po => h pn xe _ (fun cls τ H' hx k => ⟨true, hx, fun _ a ha oe pn' hz hv => k a oe pn' ha hz hv, fun z => nomatch z⟩) tk po
/-! ### the error in hand, asked -/
/-- isinstance(e, c), where e's object is pinned -/
theorem cr_isE {a C : Addr} {oe : Obj} (c : ExcC X.K C) (hz : Zc (.ref C) none oe) (hf : ∃ vs, oe.data = .fields vs) (hp : (a, oe) ∈ X.pn) : CallR X (.builtin "isinstance") (rIsE X.K C a) := by
  rintro pins s σ H xs us Q I r ⟨u, cv, y, rfl, hcv, k, q⟩
  rcases r with _ | ⟨rx, _ | ⟨rt, _ | _⟩⟩
  cases rx
  cases hcv _ rt
  have P := (I.pin (a, oe) (List.mem_append_left _ hp)).1
  rcases oe with ⟨oc, od, oda, osl⟩
  rcases hf with ⟨vs, rfl⟩
  rcases hz with ⟨rfl, rfl⟩
  exact PySem.W.kia_one (PySem.W.handS_kitx_exc c.hg c.hk c.hs c.hd c.ha c.hn c.ht c.hm) I.kIn (⟨P, rfl, rfl, trivial⟩ : PySem.W.InstAt s.heap a _ C none) k (fun z => nomatch z) fun tk => ⟨.bl y, H, I.kept (t' := tk) fun _ _ z => z, rfl, q⟩
theorem ev_isE {a C : Addr} {oe : Obj} {u : V} {cv : Value} {y : Bool} (B : Bl X "isinstance") (c : ExcC X.K C) (hz : Zc (.ref C) none oe) (hf : ∃ vs, oe.data = .fields vs) (hp : (a, oe) ∈ X.pn) (h1 : Ev X e σ G H (V.ref a)) (h2 : Ev X b σ G H u) (hu : ∀ z, RelV u z → z = cv)
    (k : PySem.W.kitOne X.K (.ref C) cv = some y) (he : starEach [e, b] X.env = (false, eval e X.env) :: starEach [b] X.env := by rfl) (he2 : starEach [b] X.env = (false, eval b X.env) :: starEach [] X.env := by rfl)
    (hpl : (backTo pos (starEach [b] X.env)).any (·.1) = false := by rfl) : Ev X (.Call (.Name "isinstance" p) [e, b] [] pos) σ G H y :=
  ev_callB (cr_isE c hz hf hp) B.g B.m PyProof.Rows.boot_isinstance (ea_cons h1 (ea_cons h2 ea_nil he2) he) (fun G1 H1 vs x l ⟨v, r, e1, pv, v2, r2, e2, pv2, e3⟩ Q q =>
    ⟨u, cv, y, by rw [e1, e2, e3, show v = _ from pv, show v2 = _ from pv2], hu, k, q G1 H1 _ (Ext.refl x.s) rfl⟩) (by decide) (by decide) he hpl
/-- a def of one argument, asked of an error of the class C while that is in hand, hands back y -/
structure FlE (P : Program) (w : World) (K : PySem.W.Frag) (mg : Str → Option Value) (base : Heap) (k : Nat) (n : Str) (C : Addr) {β : Type} [Rep β] (y : β) : Prop where
  ex : ∃ (f : Addr) (fd : FuncData) (x : Str), mg n = some (.ref f) ∧ PySem.W.keepIn K (.ref f) = true ∧ Binds K fd [x] [] ∧
    ∀ (A : Around) (outer : List Env) (s : Shared) (H : Hp) (args : Args) (Q : VK) (a : Addr) (oe : Obj), L2H.RoomH k A → L2H.PinOk outer H s (a, oe) → Zc (.ref C) none oe → (∃ vs, oe.data = .fields vs) → Env0 P w K mg base A outer s H → BindsTo s fd args [(x, .ref a)] →
      (∃ G, Same G H ∧ ∀ G2 H2 v, Ext G H G2 H2 → rep K G2 v y → Q v H2) → codeAny (model P w) A (.call (.ref f) args) (CR (L2.CX P w) outer P w H s Q (fun _ _ _ => False)) s
theorem ev_flE {β : Type} [Rep β] {y : β} {k i : Nat} {n en : Str} {a C : Addr} {oe : Obj} {pe : Pos} (c : FlE X.prog X.w X.K X.mg X.base k n C y) (hr : L2H.RoomH k X.A) (hg : Gl X n) (hz : Zc (.ref C) none oe) (hf : ∃ vs, oe.data = .fields vs) (hp : (a, oe) ∈ X.pn)
    (sl : Sl X i en) (h0 : σ[i]? = some (some (.ref a)) := by rfl) (hdb : (n == ("__debug__" : Str)) = false := by decide) (he : starEach [.Name en pe] X.env = (false, eval (.Name en pe) X.env) :: starEach [] X.env := by rfl) :
    Ev X (.Call (.Name n p) [.Name en pe] [] pos) σ G H y := by
  obtain ⟨f, fd, x, hm, hk, hb, run⟩ := c.ex
  intro G1 H1 x1 Q q
  refine tE_lenF fun pins s I => wpAny_Call_Name_kw (ld_glob I hg hm ?_ hdb)
  refine PySem.W.callWith_K (h₀ := X.base) I.ok.mod.kin hk (thn ((pa_cons (pe_var sl.hN sl.hv sl.nm.hd sl.nm.hcd) pa_nil he).run pos pins s σ H1 (fun vs H2 => vs = [.ref a] ∧ H2 = H1) I ⟨_, h0, rfl, rfl⟩) fun us s1 z => ?_) he rfl
  obtain ⟨vs, H2, I2, r, rfl, rfl⟩ := z
  refine ⟨I2.kIn, ?_⟩
  rcases r with _ | ⟨ra, _ | _⟩
  cases ra
  have pk := I2.pin (a, oe) (List.mem_append_left _ hp)
  have b := hb s1 [.ref a] I2.kIn rfl
  refine wpAny_call (codeAny_mono (run X.A X.stack s1 H2 _ (fun v H' => HLen H' → Q v H') a oe hr ⟨pk.1, pk.2.1, fun z => (List.mem_cons.mp (I2.stkSub a z)).elim pk.2.2.1 pk.2.2.2.1, pk.2.2.2.2⟩ hz hf I2.env0 (by simpa using b)
    ⟨G1, x1.s, fun G2 H2 v x2 rv l => q G2 H2 v x2 l rv⟩) fun fr s2 z => ?_)
  rcases fr with e | fl
  · exact (cx_no z).elim
  · rcases fl with _ | u
    all_goals first | exact I2.after z | exact z.elim
end
/-- .. by its body -/
theorem flE_of {P : Program} {w : World} {K : PySem.W.Frag} {mg : Str → Option Value} {base : Heap} {x n : Str} {st : Stmt} {f : Addr} {fd : FuncData} {N : List Str} {k : Nat} {C : Addr} {β : Type} [Rep β] {y : β} (F : Fun K n n st f fd) (hm : mg n = some (.ref f)) (hb : Binds K fd [x] []) (S : FnScope N [x] (defScope st))
    (body : ∀ (cdv : Value) (A : Around) (outer : List Env) (s : Shared) (H : Hp) (a : Addr) (oe : Obj) (G : Hp) (D : Ends), Zc (.ref C) none oe → (∃ vs, oe.data = .fields vs) → Same G H → End K false G H y D →
      tSs (L2H.cxH (L2.CX P w) P w K mg base N n (defScope st) f cdv A outer s H (fun _ _ _ => False) (a, oe)) (defBody st) D (start N [.ref a]) H) : FlE P w K mg base (k + 1) n C y := by
  obtain ⟨oc, od, kV, dc, pm, an, cdv, ct, osl, rfl, lk, hcd⟩ := F.ex
  refine ⟨f, _, x, hm, F.kp, hb, fun A outer s H args Q a oe hr pk hz hv E0 bt ⟨G, s0, q⟩ => ?_⟩
  have kin := E0.mod.kin.keeps fun b o z => (E0.bs b o z).1
  have lim := E0.mod.nolimit.keeps fun b o z => (E0.bs b o z).1
  have knd : ∀ z ∈ [(x, Value.ref a)], (defScope st).names.lookup z.1 = some .local ∨ ((defScope st).names.lookup z.1 = some .cell ∧ ((cellsFrom (s.heap.objs.size + 1) (defScope st).names []).lookup z.1).isSome = true) := fun z hz => by
    cases List.mem_singleton.mp hz
    exact (S.par x (List.mem_singleton.mpr rfl)).imp id fun t => ⟨t, PySem.W.cellsFrom_some _ _ _ (.inl t)⟩
  refine codeAny_call_function hr.depth (kin _ _ lk) rfl S.co S.gen rfl (PySem.W.codeRec_of kin hcd) (bt _ _ _ _ (wpAny_newFunctionEnv_cells S.kind knd fun env en s1 z => ?_))
  subst en
  refine ⟨lim.keeps z.toInCall.keep, codeAny_func ?_⟩
  have I : Inv (L2H.cxH (L2.CX P w) P w K mg base N n (defScope st) f cdv A outer s H (fun _ _ _ => False) (a, oe)) [] (start N [.ref a]) H s1 := L2H.inv_startH S pk E0 (show [V.ref a].length = [x].length from rfl) (.cons rfl .nil) z
  refine wpAny_mono (body cdv A outer s H a oe G _ hz hv s0 (end_of fun G2 H2 v x r _ => q G2 H2 v x r) |>.run [] s1 I) (fun fl s2 t => ?_) fun _ _ t => t
  rcases fl with _ | u | _ | _
  all_goals first
    | (obtain ⟨v, τ, H', J, rv, t⟩ := t; exact ⟨v, H', J.os, J.bare, J.base, J.hok, rv, t⟩)
    | (obtain ⟨τ, H', J, t⟩ := t; exact ⟨.non, H', J.os, J.bare, J.base, J.hok, rfl, t⟩)
    | (obtain ⟨_, _, _, t⟩ := t; exact t.elim)
/-! ### defs that refuse, by their bodies -/
section
variable {P : Program} {w : World} {K : PySem.W.Frag} {mg : Str → Option Value} {base : Heap} {x : Str} {st : Stmt} {f C : Addr} {fd : FuncData} {N ps : List Str} {k : Nat} {α β γ δ : Type} [Rep α] [Rep β] [Rep γ] [Rep δ]
theorem fnR1 {pre : α → Prop} (F : Fun K x x st f fd) (hm : mg x = some (.ref f)) (hb : Binds K fd ps []) (S : FnScope N ps (defScope st)) (hl : ps.length = 1)
    (body : ∀ (cdv : Value) (A : Around) (outer : List Env) (s : Shared) (H : Hp) (E : XK), Room k (A.deeper (envOfC x (defScope st) s.heap.objs.size f cdv)) → ∀ (G : Hp) (v1 : V) (x1 : α) (D : Ends), Same G H → rep K G v1 x1 → pre x1 → (∀ G2 H2, Ext G H G2 H2 → E (.ref C) none H2) →
      tSs (cxOf (L2.CX P w) P w K mg base N x (defScope st) f cdv A outer s H E) (defBody st) D (start N [v1]) H) : Cal P w K mg base (k + 1) x (SpR1 K pre C) :=
  cal_of F hm hb S (fun vs H Q E h => by obtain ⟨_, _, _, rfl, _⟩ := h; exact hl.symm) fun cdv A outer s H vs Q E hr h => by
    obtain ⟨G, v1, x1, rfl, s0, r1, hp, q⟩ := h
    exact body cdv A outer s H E hr G v1 x1 _ s0 r1 hp q
theorem fnR2 {pre : α → β → Prop} (F : Fun K x x st f fd) (hm : mg x = some (.ref f)) (hb : Binds K fd ps []) (S : FnScope N ps (defScope st)) (hl : ps.length = 2)
    (body : ∀ (cdv : Value) (A : Around) (outer : List Env) (s : Shared) (H : Hp) (E : XK), Room k (A.deeper (envOfC x (defScope st) s.heap.objs.size f cdv)) → ∀ (G : Hp) (v1 v2 : V) (x1 : α) (x2 : β) (D : Ends), Same G H → rep K G v1 x1 → rep K G v2 x2 → pre x1 x2 → (∀ G2 H2, Ext G H G2 H2 → E (.ref C) none H2) →
      tSs (cxOf (L2.CX P w) P w K mg base N x (defScope st) f cdv A outer s H E) (defBody st) D (start N [v1, v2]) H) : Cal P w K mg base (k + 1) x (SpR2 K pre C) :=
  cal_of F hm hb S (fun vs H Q E h => by obtain ⟨_, _, _, _, _, rfl, _⟩ := h; exact hl.symm) fun cdv A outer s H vs Q E hr h => by
    obtain ⟨G, v1, v2, x1, x2, rfl, s0, r1, r2, hp, q⟩ := h
    exact body cdv A outer s H E hr G v1 v2 x1 x2 _ s0 r1 r2 hp q
theorem fnR3 {pre : α → β → γ → Prop} (F : Fun K x x st f fd) (hm : mg x = some (.ref f)) (hb : Binds K fd ps []) (S : FnScope N ps (defScope st)) (hl : ps.length = 3)
    (body : ∀ (cdv : Value) (A : Around) (outer : List Env) (s : Shared) (H : Hp) (E : XK), Room k (A.deeper (envOfC x (defScope st) s.heap.objs.size f cdv)) → ∀ (G : Hp) (v1 v2 v3 : V) (x1 : α) (x2 : β) (x3 : γ) (D : Ends), Same G H → rep K G v1 x1 → rep K G v2 x2 → rep K G v3 x3 → pre x1 x2 x3 → (∀ G2 H2, Ext G H G2 H2 → E (.ref C) none H2) →
      tSs (cxOf (L2.CX P w) P w K mg base N x (defScope st) f cdv A outer s H E) (defBody st) D (start N [v1, v2, v3]) H) : Cal P w K mg base (k + 1) x (SpR3 K pre C) :=
  cal_of F hm hb S (fun vs H Q E h => by obtain ⟨_, _, _, _, _, _, _, rfl, _⟩ := h; exact hl.symm) fun cdv A outer s H vs Q E hr h => by
    obtain ⟨G, v1, v2, v3, x1, x2, x3, rfl, s0, r1, r2, r3, hp, q⟩ := h
    exact body cdv A outer s H E hr G v1 v2 v3 x1 x2 x3 _ s0 r1 r2 r3 hp q
theorem fnR4 {pre : α → β → γ → δ → Prop} (F : Fun K x x st f fd) (hm : mg x = some (.ref f)) (hb : Binds K fd ps []) (S : FnScope N ps (defScope st)) (hl : ps.length = 4)
    (body : ∀ (cdv : Value) (A : Around) (outer : List Env) (s : Shared) (H : Hp) (E : XK), Room k (A.deeper (envOfC x (defScope st) s.heap.objs.size f cdv)) → ∀ (G : Hp) (v1 v2 v3 v4 : V) (x1 : α) (x2 : β) (x3 : γ) (x4 : δ) (D : Ends), Same G H → rep K G v1 x1 → rep K G v2 x2 → rep K G v3 x3 → rep K G v4 x4 → pre x1 x2 x3 x4 → (∀ G2 H2, Ext G H G2 H2 → E (.ref C) none H2) →
      tSs (cxOf (L2.CX P w) P w K mg base N x (defScope st) f cdv A outer s H E) (defBody st) D (start N [v1, v2, v3, v4]) H) : Cal P w K mg base (k + 1) x (SpR4 K pre C) :=
  cal_of F hm hb S (fun vs H Q E h => by obtain ⟨_, _, _, _, _, _, _, _, _, rfl, _⟩ := h; exact hl.symm) fun cdv A outer s H vs Q E hr h => by
    obtain ⟨G, v1, v2, v3, v4, x1, x2, x3, x4, rfl, s0, r1, r2, r3, r4, hp, q⟩ := h
    exact body cdv A outer s H E hr G v1 v2 v3 v4 x1 x2 x3 x4 _ s0 r1 r2 r3 r4 hp q
end
end RL
namespace RL
open PySem PySem.Spec PyProof.Rows L2 Rep
theorem evR_sum {X : Cx} {σ : St} {H : Hp} {e : Expr} {pos p : Pos} (B : Bl X "sum") (hc : X.calm = true) (h : EvR X e σ H) (he : starEach [e] X.env = (false, eval e X.env) :: starEach [] X.env := by rfl) : EvR X (.Call (.Name "sum" p) [e] [] pos) σ H := fun Q => .mk fun pins s I =>
  (pe_callB (cr_sum hc) B.g B.m boot_sum (pa_cons pe_sem pa_nil he) (by decide) (by decide) he rfl).run pins s σ H Q I (h _)
end RL

set_option Elab.async false
set_option linter.all false
set_option maxRecDepth 100000
set_option maxHeartbeats 4000000
/-! RM: a list of ints that defs draw from and change on the way (an own list handed to callees). -/
namespace RL
open PySem PySem.Spec PyProof.Rows L2 Rep
structure SameX (q : Addr) (H H' : Hp) : Prop where
  e : ∀ a o, a ≠ q → H a = some o → H' a = some o
  k : ∃ o, H' q = some o ∧ ∀ xs, o ≠ .tup xs
theorem SameX.free {q p : Addr} {H H' : Hp} (s : SameX q H H') (h : H' p = none) : H p = none := by
  cases e : H p with
  | none => rfl
  | some o =>
    by_cases hp : p = q
    · subst hp
      obtain ⟨u, hu, _⟩ := s.k
      rw [hu] at h
      cases h
    · rw [s.e p o hp e] at h
      cases h
/-- as Ext, but the list at q may be another one -/
structure ExtM (q : Addr) (G H G' H' : Hp) : Prop where
  h : SameX q H H'
  g : Same G G'
  s : Same G' H'
  n : ∀ b o, G' b = some o → G b = some o ∨ H b = none ∨ ∃ xs, o = .tup xs
section
variable {q p : Addr} {G H G1 H1 G2 H2 G0 H0 : Hp} {o : HO}
theorem ExtM.refl (s : Same G H) (k : ∃ o, H q = some o ∧ ∀ xs, o ≠ .tup xs) : ExtM q G H G H := ⟨⟨fun _ _ _ e => e, k⟩, Same.refl _, s, fun _ _ e => .inl e⟩
theorem ExtM.transM (a : ExtM q G H G1 H1) (b : ExtM q G1 H1 G2 H2) : ExtM q G H G2 H2 :=
  ⟨⟨fun x o hx e => b.h.e x o hx (a.h.e x o hx e), b.h.k⟩, a.g.trans b.g, b.s, fun x o e => by
    rcases b.n x o e with z | z | z
    · exact a.n x o z
    · exact .inr (.inl (a.h.free z))
    · exact .inr (.inr z)⟩
theorem Ext.toM (x : Ext G H G1 H1) (k : ∃ o, H q = some o ∧ ∀ xs, o ≠ .tup xs) : ExtM q G H G1 H1 := ⟨⟨fun a o _ e => x.h a o e, let ⟨o, e, t⟩ := k; ⟨o, x.h q o e, t⟩⟩, x.g, x.s, x.n⟩
theorem ExtM.trans (a : ExtM q G H G1 H1) (b : Ext G1 H1 G2 H2) : ExtM q G H G2 H2 := a.transM (b.toM a.h.k)
theorem Ext.transM (a : Ext G0 H0 G H) (n : H0 q = none) (b : ExtM q G H G1 H1) : Ext G0 H0 G1 H1 :=
  ⟨fun x o e => b.h.e x o (fun z => by rw [z, n] at e; cases e) (a.h x o e), a.g.trans b.g, b.s, fun x o e => by
    rcases b.n x o e with z | z | z
    · exact a.n x o z
    · exact .inr (.inl (a.h.free z))
    · exact .inr (.inr z)⟩
/-- a store at q itself -/
theorem ExtM.wrq (a : ExtM q G H G1 H1) (g : G1 q = none) (ho : ∀ xs, o ≠ .tup xs := by intro _ z; cases z) : ExtM q G H G1 (upd H1 q o) :=
  ⟨⟨fun x u hx e => by rw [upd_ne hx]; exact a.h.e x u hx e, o, upd_same, ho⟩, a.g, fun x u e => by
    rw [upd_ne (ne_of_none e g)]
    exact a.s _ _ e, a.n⟩
/-- .. at another own one -/
theorem ExtM.wr (a : ExtM q G H G1 H1) (h0 : H p = none) (g : G1 p = none) (ho : ∀ xs, o ≠ .tup xs := by intro _ z; cases z) : ExtM q G H G1 (upd H1 p o) :=
  ⟨⟨fun x u hx e => by rw [upd_ne (ne_of_none e h0)]; exact a.h.e x u hx e, by
    by_cases hp : q = p
    · subst hp; exact ⟨o, upd_same, ho⟩
    · rw [upd_ne hp]; exact a.h.k⟩, a.g, fun x u e => by
    rw [upd_ne (ne_of_none e g)]
    exact a.s _ _ e, a.n⟩
theorem ExtM.frz (a : ExtM q G H G1 H1) (h0 : H p = none) (e : H1 p = some o) : ExtM q G H (upd G1 p o) H1 := by
  refine ⟨a.h, fun b x q' => ?_, fun b x q' => ?_, fun b x q' => ?_⟩
  · by_cases hb : b = p
    · subst hb
      rw [upd_same, ← e]
      exact a.s _ _ (a.g _ _ q')
    · rw [upd_ne hb]
      exact a.g _ _ q'
  · by_cases hb : b = p
    · subst hb
      rw [upd_same] at q'
      rw [e, q']
    · rw [upd_ne hb] at q'
      exact a.s _ _ q'
  · by_cases hb : b = p
    · subst hb
      exact .inr (.inl h0)
    · rw [upd_ne hb] at q'
      exact a.n _ _ q'
variable {α : Type} [Rep α] {K : PySem.W.Frag} {xs : List α}
theorem Own.ex' (o : Own K G H q xs) : ∃ u, H q = some u ∧ ∀ xs, u ≠ .tup xs := let ⟨_, e, _⟩ := o.at_; ⟨_, e, fun _ z => nomatch z⟩
theorem Own.monoM (o : Own K G H p xs) (x : ExtM q G H G1 H1) (hne : p ≠ q) : Own K G1 H1 p xs := by
  obtain ⟨vs, e, pr⟩ := o.at_
  refine ⟨⟨vs, x.h.e _ _ hne e, pair_up x.g pr⟩, ?_⟩
  cases z : G1 p with
  | none => rfl
  | some u =>
    rcases x.n _ _ z with y | y | ⟨ys, y⟩
    · rw [o.off] at y; cases y
    · rw [e] at y; cases y
    · have y1 := x.h.e _ _ hne e; have y2 := x.s _ _ z; rw [y1, y] at y2; cases y2
theorem Own.frzM {G0 H0 : Hp} (o : Own K G H p xs) (x0 : ExtM q G0 H0 G H) (n : H0 p = none) : ∃ G', ExtM q G0 H0 G' H ∧ Same G G' ∧ rep K G' (.ref p) xs :=
  let ⟨vs, e, pr⟩ := o.at_; ⟨upd G p (.lst vs), x0.frz n e, same_new o.off, p, vs, rfl, upd_same, pair_up (same_new o.off) pr⟩
theorem thawM {α : Type} [Rep α] [Flat α] {K : PySem.W.Frag} {xs : List α} {Ga Ha Gb Hb Gw Hw : Hp} {v : V} (xa : ExtM q G0 H0 Ga Ha) (x : Ext Ga Ha Gb Hb) (n : New Ha v) (xw : ExtM q G0 H0 Gw Hw) (s : Same Hb Hw) (r : rep K Gb v xs) :
    ∃ p, v = .ref p ∧ H0 p = none ∧ Own K Ga Hw p xs ∧ ExtM q G0 H0 Ga Hw := by
  obtain ⟨p, vs, rfl, e, pr⟩ := r
  have hq : Ha p = none := n p rfl
  refine ⟨p, rfl, xa.h.free hq, ⟨⟨vs, s _ _ (x.s _ _ e), ?_⟩, xa.s.free hq⟩, ⟨xw.h, xa.g, fun b o h => s _ _ (x.h _ _ (xa.s _ _ h)), xa.n⟩⟩
  clear e
  induction pr with
  | nil => exact .nil
  | cons h t ih => exact .cons (Flat.flat h) ih
end
section
variable {X : Cx} {σ : St} {G H : Hp} {D : Ends} {q : Addr} {P : PV} {e a b c tg : Expr} {es : List Expr} {pos p : Pos} {α β γ δ ζ : Type} [Rep α] [Rep β] [Rep γ] [Rep δ] [Rep ζ] {xs xs1 xs2 xs' : List Int}
/-- e draws from the list at q: xs ahead, xs' behind; its value is x -/
def EvM (X : Cx) (e : Expr) (σ : St) (q : Addr) (G H : Hp) (xs : List Int) (x : α) (xs' : List Int) : Prop :=
  ∀ G1 H1, ExtM q G H G1 H1 → Own X.K G1 H1 q xs → ∀ Q : VK, (∀ G2 H2 v, ExtM q G1 H1 G2 H2 → HLen H2 → Own X.K G2 H2 q xs' → rep X.K G2 v x → Q v H2) → tE X e σ H1 Q
theorem evM_of {x : α} {t : TE} (hp : PE X e t) (k : ∀ G1 H1, ExtM q G H G1 H1 → Own X.K G1 H1 q xs → ∀ Q : VK, (∀ G2 H2 v, ExtM q G1 H1 G2 H2 → Own X.K G2 H2 q xs' → rep X.K G2 v x → Q v H2) → t σ H1 Q) : EvM X e σ q G H xs x xs' :=
  fun G1 H1 x1 o _ kk => tE_lenF fun pins s I => hp.run pins s σ H1 _ I (k G1 H1 x1 o _ fun G2 H2 v x2 o2 r hl => kk G2 H2 v x2 hl o2 r)
theorem evM_pure {x : α} (h : ∀ G1 H1, ExtM q G H G1 H1 → Own X.K G1 H1 q xs → Ev X e σ G1 H1 x) : EvM X e σ q G H xs x xs :=
  fun G1 H1 x1 o Q k => h G1 H1 x1 o G1 H1 (Ext.refl x1.s) Q fun G2 H2 v y l r => k G2 H2 v (y.toM o.ex') l (o.mono y) r
theorem EvM.to {x y : α} (h : EvM X e σ q G H xs x xs') (z : x = y) : EvM X e σ q G H xs y xs' := z ▸ h
def bot : Hp := fun _ => none
theorem bot_ext {G H : Hp} (s : Same G H) : Ext bot bot G H := ⟨fun _ _ e => (by cases e), fun _ _ e => (by cases e), s, fun _ _ _ => Or.inr (Or.inl rfl)⟩
theorem binM {rr : R2} {i : α} {j : β} {r : γ} (k : ∀ G1 H1 v u, Ext bot bot G1 H1 → HLen H1 → Is X.K i G1 H1 v → Is X.K j G1 H1 u → ∀ Q : VK, (∀ G2 H2 w, Ext G1 H1 G2 H2 → Is X.K r G2 H2 w → Q w H2) → rr v u H1 Q)
    (ha : EvM X a σ q G H xs i xs1) (hb : EvM X b σ q G H xs1 j xs2) : ∀ G1 H1, ExtM q G H G1 H1 → Own X.K G1 H1 q xs → ∀ Q : VK, (∀ G2 H2 v, ExtM q G1 H1 G2 H2 → Own X.K G2 H2 q xs2 → rep X.K G2 v r → Q v H2) → tOp rr (tE X a) (tE X b) σ H1 Q := fun G1 H1 x1 o Q kk =>
  ha G1 H1 x1 o _ fun G2 H2 v x2 _ o2 rv => hb G2 H2 (x1.transM x2) o2 _ fun G3 H3 u x3 l3 o3 ru => k G3 H3 v u (bot_ext x3.s) l3 (up x3.g rv) ru Q fun G4 H4 w x4 rw' => kk G4 H4 w ((x2.transM x3).trans x4) (o3.mono x4) rw'
theorem evM_bin {op : Operator} {i : α} {j : β} {r : γ} (k : Bin X (binaryOp op) (Is X.K i) (Is X.K j) (Is X.K r) bot bot) (ha : EvM X a σ q G H xs i xs1) (hb : EvM X b σ q G H xs1 j xs2) : EvM X (.BinOp a op b pos) σ q G H xs r xs2 :=
  let ⟨_, ho, k⟩ := k; evM_of (pe_op ho pe_sem pe_sem) (binM k ha hb)
theorem evM_cmp {op : CmpOp} {i : α} {j : β} {r : Bool} (k : Bin X (compareOp op) (Is X.K i) (Is X.K j) (Is X.K r) bot bot) (ha : EvM X a σ q G H xs i xs1) (hb : EvM X b σ q G H xs1 j xs2) (hm : behindInMarks op b = false := by first | exact nomark _ | rfl) : EvM X (.Compare a [op] [b] pos) σ q G H xs r xs2 :=
  let ⟨_, ho, k⟩ := k; evM_of (pe_cmpR ho pe_sem pe_sem hm) (binM k ha hb)
/-- items -/
def EsM (X : Cx) (es : List Expr) (σ : St) (q : Addr) (G H : Hp) (xs : List Int) (ys : List α) (xs' : List Int) : Prop :=
  ∀ G1 H1, ExtM q G H G1 H1 → Own X.K G1 H1 q xs → ∀ Q : List V → Hp → Prop, (∀ G2 H2 vs, ExtM q G1 H1 G2 H2 → HLen H2 → Own X.K G2 H2 q xs' → Paired (rep X.K G2) vs ys → Q vs H2) → tA X es σ H1 Q
theorem esM_nil : EsM X [] σ q G H xs ([] : List α) xs := fun G1 H1 x1 o Q k => tA_lenF fun pos pins s I => (pa_nil (X := X)).run pos pins s σ H1 _ I fun hl => k G1 H1 [] (ExtM.refl x1.s x1.h.k) hl o .nil
theorem esM_cons {y : α} {ys : List α} (h : EvM X e σ q G H xs y xs1) (hr : EsM X es σ q G H xs1 ys xs2) (hs : starEach (e :: es) X.env = (false, eval e X.env) :: starEach es X.env := by rfl) : EsM X (e :: es) σ q G H xs (y :: ys) xs2 :=
  fun G1 H1 x1 o Q k => tA_lenF fun pos pins s I => (pa_cons pe_sem pa_sem hs).run pos pins s σ H1 _ I (h G1 H1 x1 o _ fun G2 H2 v x2 _ o2 rv => hr G2 H2 (x1.transM x2) o2 _ fun G3 H3 vs x3 l3 o3 pr => fun hl => k G3 H3 _ (x2.transM x3) hl o3 (.cons (up x3.g rv) pr))
theorem evM_list {ys : List α} (h : EsM X es σ q G H xs ys xs') (hl : ys.length ≤ 1000 := by exact Nat.le_of_ble_eq_true rfl) : EvM X (.List es pos) σ q G H xs ys xs' :=
  evM_of (pe_lst pa_sem) fun G1 H1 x1 o Q k => h G1 H1 x1 o _ fun G2 H2 vs x2 _ o2 pa => ⟨by rw [paired_len pa]; exact Nat.le_of_lt (small1000 hl), fun p hp =>
    have xn : Ext G2 H2 _ _ := (Ext.refl x2.s).new hp
    k (upd G2 p (.lst vs)) _ _ (x2.trans xn) (o2.mono xn) ⟨p, vs, rfl, upd_same, pair_up (same_new (x2.s.free hp)) pa⟩⟩
theorem evM_ix {ys : List α} {i : Int} (d : α) (ha : EvM X a σ q G H xs ys xs1) (hb : EvM X b σ q G H xs1 i xs2) (h0 : 0 ≤ i) (h1 : i < (ys.length : Int)) (hs : PlainIx b := by intro _ _; rfl) : EvM X (.Subscript a b pos) σ q G H xs (ys.getD i.toNat d) xs2 :=
  evM_of (pe_ix ix_list pe_sem pe_sem hs) (binM (fun G1 H1 v u x _ e1 e2 Q k => by
    obtain ⟨a, us, e, g, pr⟩ := e1
    have hj := ixN_of h0 h1
    have hlt := ixN_lt hj
    have hg : ys[i.toNat]? = some (ys.getD i.toNat d) := by
      rw [List.getD_eq_getElem?_getD, List.getElem?_eq_getElem hlt]
      rfl
    obtain ⟨w, hw, rw'⟩ := paired_get pr hg
    refine ⟨a, us, i, w, e, e2, .of (x.s _ _ g), ?_, k G1 H1 w (Ext.refl x.s) rw'⟩
    unfold atI
    rw [paired_len pr, hj]
    exact hw) ha hb)
/-- arguments -/
def EaM (X : Cx) (es : List Expr) (σ : St) (q : Addr) (G H : Hp) (xs : List Int) (A : Hp → Hp → List V → Prop) (xs' : List Int) : Prop :=
  ∀ G1 H1, ExtM q G H G1 H1 → Own X.K G1 H1 q xs → ∀ Q : List V → Hp → Prop, (∀ G2 H2 vs, ExtM q G1 H1 G2 H2 → HLen H2 → Own X.K G2 H2 q xs' → A G2 H2 vs → Q vs H2) → tA X es σ H1 Q
theorem eaM_nil : EaM X [] σ q G H xs (fun _ _ vs => vs = []) xs := fun G1 H1 x1 o Q k => tA_lenF fun pos pins s I => (pa_nil (X := X)).run pos pins s σ H1 _ I fun hl => k G1 H1 [] (ExtM.refl x1.s x1.h.k) hl o rfl
theorem eaM_cons {y : α} {A : Hp → Hp → List V → Prop} (h : EvM X e σ q G H xs y xs1) (hr : EaM X es σ q G H xs1 A xs2) (hs : starEach (e :: es) X.env = (false, eval e X.env) :: starEach es X.env := by rfl) : EaM X (e :: es) σ q G H xs (ACons (Is X.K y) A) xs2 :=
  fun G1 H1 x1 o Q k => tA_lenF fun pos pins s I => (pa_cons pe_sem pa_sem hs).run pos pins s σ H1 _ I (h G1 H1 x1 o _ fun G2 H2 v x2 _ o2 rv => hr G2 H2 (x1.transM x2) o2 _ fun G3 H3 vs x3 l3 o3 pr => fun hl => k G3 H3 _ (x2.transM x3) hl o3 ⟨v, vs, rfl, up x3.g rv, pr⟩)
/-- a call of a def that draws from its first argument -/
theorem evM_call {y : α} {k i : Nat} {n : Str} {rn : Str} {rp p : Pos} {sp : Sp} {A : Hp → Hp → List V → Prop} (C : Cal X.prog X.w X.K X.mg X.base k n sp) (hr : Room k X.A) (hg : Gl X n) (sl : Sl X i rn) (hq : σ[i]? = some (some (.ref q))) (ha : EaM X es σ q G H xs A xs1)
    (h : ∀ G1 H1 vs, Same G1 H1 → HLen H1 → Own X.K G1 H1 q xs1 → A G1 H1 vs → ∀ Q : VK, (∀ G2 H2 v, ExtM q G1 H1 G2 H2 → Own X.K G2 H2 q xs2 → rep X.K G2 v y → Q v H2) → sp (.ref q :: vs) H1 Q E0) (hdb : (n == ("__debug__" : Str)) = false := by decide)
    (he : starEach (.Name rn rp :: es) X.env = (false, eval (.Name rn rp) X.env) :: starEach es X.env := by rfl) (hpl : (backTo pos (starEach es X.env)).any (·.1) = false := by rfl) : EvM X (.Call (.Name n p) (.Name rn rp :: es) [] pos) σ q G H xs y xs2 := by
  obtain ⟨f, fd, ps, F, hm, hk, hb⟩ := C.ex
  exact evM_of (pe_call F hr hg hm hk hb .nil passL (pa_cons (pe_var sl.hN sl.hv sl.nm.hd sl.nm.hcd) pa_sem he) hdb he hpl) fun G1 H1 x1 o Q kk => ⟨_, hq, ha G1 H1 x1 o _ fun G2 H2 vs x2 l2 o2 pa => by
    show sp ((V.ref q :: vs) ++ []) H2 Q E0
    rw [List.append_nil]
    exact h G2 H2 vs x2.s l2 o2 pa Q fun G3 H3 v x3 o3 r => kk G3 H3 v (x2.transM x3) o3 r⟩
/-- a call of a def that takes data, some drawn -/
theorem evM_callP {y : α} {k : Nat} {n : Str} {p : Pos} {sp : Sp} {A : Hp → Hp → List V → Prop} (C : Cal X.prog X.w X.K X.mg X.base k n sp) (hr : Room k X.A) (hg : Gl X n) (ha : EaM X (e :: es) σ q G H xs A xs1)
    (h : ∀ G1 H1 vs, Same G1 H1 → HLen H1 → A G1 H1 vs → ∀ Q : VK, (∀ G2 H2 v, Ext G1 H1 G2 H2 → rep X.K G2 v y → Q v H2) → sp vs H1 Q E0) (hdb : (n == ("__debug__" : Str)) = false := by decide)
    (he : starEach (e :: es) X.env = (false, eval e X.env) :: starEach es X.env := by rfl) (hpl : (backTo pos (starEach es X.env)).any (·.1) = false := by rfl) : EvM X (.Call (.Name n p) (e :: es) [] pos) σ q G H xs y xs1 := by
  obtain ⟨f, fd, ps, F, hm, hk, hb⟩ := C.ex
  exact evM_of (pe_call F hr hg hm hk hb .nil passL pa_sem hdb he hpl) fun G1 H1 x1 o Q kk => ha G1 H1 x1 o _ fun G2 H2 vs x2 l2 o2 pa => by
    show sp (vs ++ []) H2 Q E0
    rw [List.append_nil]
    exact h G2 H2 vs x2.s l2 pa Q fun G3 H3 v x3 r => kk G3 H3 v (x2.trans x3) (o2.mono x3) r
theorem evM_callB {y : α} {id : String} {r : List V → Hp → VK → Prop} {n : Str} {p : Pos} {A : Hp → Hp → List V → Prop} (hc : CallR X (.builtin id) r) (hg : Gl X n) (hm : X.mg n = none) (hv : bootBuiltins n = some (.builtin id)) (ha : EaM X (e :: es) σ q G H xs A xs1)
    (h : ∀ G1 H1 vs, Same G1 H1 → HLen H1 → A G1 H1 vs → ∀ Q : VK, (∀ G2 H2 v, Ext G1 H1 G2 H2 → rep X.K G2 v y → Q v H2) → r vs H1 Q)
    (hn : n ≠ "__name__" := by decide) (hdb : (n == ("__debug__" : Str)) = false := by decide) (he : starEach (e :: es) X.env = (false, eval e X.env) :: starEach es X.env := by rfl) (hpl : (backTo pos (starEach es X.env)).any (·.1) = false := by rfl) : EvM X (.Call (.Name n p) (e :: es) [] pos) σ q G H xs y xs1 :=
  evM_of (pe_callB hc hg hm hv pa_sem hn hdb he hpl) fun G1 H1 x1 o Q kk => ha G1 H1 x1 o _ fun G2 H2 vs x2 l2 o2 pa => h G2 H2 vs x2.s l2 pa Q fun G3 H3 w x3 r => kk G3 H3 w (x2.trans x3) (o2.mono x3) r
theorem evM_max {i j : Int} (B : Bl X "max") (hc : X.calm = true) (h1 : EvM X a σ q G H xs i xs1) (h2 : EvM X b σ q G H xs1 j xs2) (he : starEach [a, b] X.env = (false, eval a X.env) :: starEach [b] X.env := by rfl) (he2 : starEach [b] X.env = (false, eval b X.env) :: starEach [] X.env := by rfl)
    (hpl : (backTo pos (starEach [b] X.env)).any (·.1) = false := by rfl) : EvM X (.Call (.Name "max" p) [a, b] [] pos) σ q G H xs (if j > i then j else i) xs2 :=
  evM_callB (call_max2 hc) B.g B.m boot_max (eaM_cons h1 (eaM_cons h2 eaM_nil he2) he) (fun G1 H1 vs s l ⟨v, r, e1, pv, v2, r2, e2, pv2, e3⟩ Q k =>
    ⟨i, j, by rw [e1, e2, e3, show v = _ from pv, show v2 = _ from pv2], k G1 H1 _ (Ext.refl s) rfl⟩) (by decide) (by decide) he hpl
theorem evM_min {i j : Int} (B : Bl X "min") (hc : X.calm = true) (h1 : EvM X a σ q G H xs i xs1) (h2 : EvM X b σ q G H xs1 j xs2) (he : starEach [a, b] X.env = (false, eval a X.env) :: starEach [b] X.env := by rfl) (he2 : starEach [b] X.env = (false, eval b X.env) :: starEach [] X.env := by rfl)
    (hpl : (backTo pos (starEach [b] X.env)).any (·.1) = false := by rfl) : EvM X (.Call (.Name "min" p) [a, b] [] pos) σ q G H xs (if j < i then j else i) xs2 :=
  evM_callB (call_min2 hc) B.g B.m boot_min (eaM_cons h1 (eaM_cons h2 eaM_nil he2) he) (fun G1 H1 vs s l ⟨v, r, e1, pv, v2, r2, e2, pv2, e3⟩ Q k =>
    ⟨i, j, by rw [e1, e2, e3, show v = _ from pv, show v2 = _ from pv2], k G1 H1 _ (Ext.refl s) rfl⟩) (by decide) (by decide) he hpl
end
section
variable {α β γ δ ζ : Type} [Rep α] [Rep β] [Rep γ] [Rep δ] [Rep ζ]
/-- promises of defs that draw from their first argument: the answer, and the list behind -/
def SpM1 (K : PySem.W.Frag) (fr : Bool) (pre : List Int → Prop) (f : List Int → ζ × List Int) : Sp := fun vs H Q _ => ∃ (G : Hp) (q : Addr) (xs : List Int), vs = [.ref q] ∧ Same G H ∧ Own K G H q xs ∧ pre xs ∧
  ∀ G2 H2 w, ExtM q G H G2 H2 → Own K G2 H2 q (f xs).2 → rep K G2 w (f xs).1 → (fr = true → New H w) → Q w H2
def SpM2 (K : PySem.W.Frag) (fr : Bool) (pre : List Int → β → Prop) (f : List Int → β → ζ × List Int) : Sp := fun vs H Q _ => ∃ (G : Hp) (q : Addr) (v2 : V) (xs : List Int) (x2 : β), vs = [.ref q, v2] ∧ Same G H ∧ Own K G H q xs ∧ rep K G v2 x2 ∧ pre xs x2 ∧
  ∀ G2 H2 w, ExtM q G H G2 H2 → Own K G2 H2 q (f xs x2).2 → rep K G2 w (f xs x2).1 → (fr = true → New H w) → Q w H2
def SpM3 (K : PySem.W.Frag) (fr : Bool) (pre : List Int → β → γ → Prop) (f : List Int → β → γ → ζ × List Int) : Sp := fun vs H Q _ => ∃ (G : Hp) (q : Addr) (v2 v3 : V) (xs : List Int) (x2 : β) (x3 : γ), vs = [.ref q, v2, v3] ∧ Same G H ∧ Own K G H q xs ∧ rep K G v2 x2 ∧ rep K G v3 x3 ∧ pre xs x2 x3 ∧
  ∀ G2 H2 w, ExtM q G H G2 H2 → Own K G2 H2 q (f xs x2 x3).2 → rep K G2 w (f xs x2 x3).1 → (fr = true → New H w) → Q w H2
def SpM4 (K : PySem.W.Frag) (fr : Bool) (pre : List Int → β → γ → δ → Prop) (f : List Int → β → γ → δ → ζ × List Int) : Sp := fun vs H Q _ => ∃ (G : Hp) (q : Addr) (v2 v3 v4 : V) (xs : List Int) (x2 : β) (x3 : γ) (x4 : δ), vs = [.ref q, v2, v3, v4] ∧ Same G H ∧ Own K G H q xs ∧ rep K G v2 x2 ∧ rep K G v3 x3 ∧ rep K G v4 x4 ∧ pre xs x2 x3 x4 ∧
  ∀ G2 H2 w, ExtM q G H G2 H2 → Own K G2 H2 q (f xs x2 x3 x4).2 → rep K G2 w (f xs x2 x3 x4).1 → (fr = true → New H w) → Q w H2
structure EndM (K : PySem.W.Frag) (fr : Bool) (q : Addr) (G H : Hp) (y : ζ × List Int) (D : Ends) : Prop where
  rt : ∀ G2 H2 w, ExtM q G H G2 H2 → Own K G2 H2 q y.2 → rep K G2 w y.1 → (fr = true → New H w) → D.rt w H2
  nx : ∀ G2 H2 σ, ExtM q G H G2 H2 → Own K G2 H2 q y.2 → rep K G2 .non y.1 → D.nx σ H2
theorem endM_of {K : PySem.W.Frag} {fr : Bool} {q : Addr} {G H : Hp} {y : ζ × List Int} {Q : VK} (k : ∀ G2 H2 w, ExtM q G H G2 H2 → Own K G2 H2 q y.2 → rep K G2 w y.1 → (fr = true → New H w) → Q w H2) : EndM K fr q G H y { nx := fun _ H' => Q .non H', rt := Q } :=
  ⟨k, fun G2 H2 _ x o r => k G2 H2 _ x o r fun _ p e => nomatch e⟩
section
variable {X : Cx} {σ : St} {G H : Hp} {D : Ends} {q : Addr} {P : PV} {e a b c tg e2 e3 e4 : Expr} {es : List Expr} {pos p : Pos} {xs xs1 xs2 xs3 xs' : List Int} {k i : Nat} {n rn : Str} {rp : Pos} {fr : Bool} {x1 : α} {x2 : β} {x3 : γ} {x4 : δ}
theorem evM_m1 {pre : List Int → Prop} {f : List Int → ζ × List Int} (C : Cal X.prog X.w X.K X.mg X.base k n (SpM1 X.K fr pre f)) (hr : Room k X.A) (hg : Gl X n) (sl : Sl X i rn) (hp : pre xs) (hq : σ[i]? = some (some (.ref q)) := by rfl) (hdb : (n == ("__debug__" : Str)) = false := by decide)
    (he : starEach [.Name rn rp] X.env = (false, eval (.Name rn rp) X.env) :: starEach [] X.env := by rfl) : EvM X (.Call (.Name n p) [.Name rn rp] [] pos) σ q G H xs (f xs).1 (f xs).2 :=
  evM_call C hr hg sl hq eaM_nil (fun G1 H1 vs s l o e Q kk => ⟨G1, q, xs, by rw [e], s, o, hp, fun G2 H2 w x o r _ => kk G2 H2 w x o r⟩) hdb he rfl
theorem evM_m2 {pre : List Int → β → Prop} {f : List Int → β → ζ × List Int} (C : Cal X.prog X.w X.K X.mg X.base k n (SpM2 X.K fr pre f)) (hr : Room k X.A) (hg : Gl X n) (sl : Sl X i rn) (h2 : EvM X e2 σ q G H xs x2 xs1) (hp : pre xs1 x2) (hq : σ[i]? = some (some (.ref q)) := by rfl) (hdb : (n == ("__debug__" : Str)) = false := by decide)
    (he : starEach [.Name rn rp, e2] X.env = (false, eval (.Name rn rp) X.env) :: starEach [e2] X.env := by rfl) (he2 : starEach [e2] X.env = (false, eval e2 X.env) :: starEach [] X.env := by rfl) (hpl : (backTo pos (starEach [e2] X.env)).any (·.1) = false := by rfl) : EvM X (.Call (.Name n p) [.Name rn rp, e2] [] pos) σ q G H xs (f xs1 x2).1 (f xs1 x2).2 :=
  evM_call C hr hg sl hq (eaM_cons h2 eaM_nil he2) (fun G1 H1 vs s l o ⟨v, r, e, rv, e'⟩ Q kk => ⟨G1, q, v, xs1, x2, by rw [e, e'], s, o, rv, hp, fun G2 H2 w x o r _ => kk G2 H2 w x o r⟩) hdb he hpl
theorem evM_m3 {pre : List Int → β → γ → Prop} {f : List Int → β → γ → ζ × List Int} (C : Cal X.prog X.w X.K X.mg X.base k n (SpM3 X.K fr pre f)) (hr : Room k X.A) (hg : Gl X n) (sl : Sl X i rn) (h2 : EvM X e2 σ q G H xs x2 xs1) (h3 : EvM X e3 σ q G H xs1 x3 xs2) (hp : pre xs2 x2 x3) (hq : σ[i]? = some (some (.ref q)) := by rfl) (hdb : (n == ("__debug__" : Str)) = false := by decide)
    (he : starEach [.Name rn rp, e2, e3] X.env = (false, eval (.Name rn rp) X.env) :: starEach [e2, e3] X.env := by rfl) (he2 : starEach [e2, e3] X.env = (false, eval e2 X.env) :: starEach [e3] X.env := by rfl) (he3 : starEach [e3] X.env = (false, eval e3 X.env) :: starEach [] X.env := by rfl) (hpl : (backTo pos (starEach [e2, e3] X.env)).any (·.1) = false := by rfl) : EvM X (.Call (.Name n p) [.Name rn rp, e2, e3] [] pos) σ q G H xs (f xs2 x2 x3).1 (f xs2 x2 x3).2 :=
  evM_call C hr hg sl hq (eaM_cons h2 (eaM_cons h3 eaM_nil he3) he2) (fun G1 H1 vs s l o ⟨v, r, e, rv, v3, r3, e', rv3, e''⟩ Q kk => ⟨G1, q, v, v3, xs2, x2, x3, by rw [e, e', e''], s, o, rv, rv3, hp, fun G2 H2 w x o r _ => kk G2 H2 w x o r⟩) hdb he hpl
theorem evM_m4 {pre : List Int → β → γ → δ → Prop} {f : List Int → β → γ → δ → ζ × List Int} (C : Cal X.prog X.w X.K X.mg X.base k n (SpM4 X.K fr pre f)) (hr : Room k X.A) (hg : Gl X n) (sl : Sl X i rn) (h2 : EvM X e2 σ q G H xs x2 xs1) (h3 : EvM X e3 σ q G H xs1 x3 xs2) (h4 : EvM X e4 σ q G H xs2 x4 xs3) (hp : pre xs3 x2 x3 x4) (hq : σ[i]? = some (some (.ref q)) := by rfl) (hdb : (n == ("__debug__" : Str)) = false := by decide)
    (he : starEach [.Name rn rp, e2, e3, e4] X.env = (false, eval (.Name rn rp) X.env) :: starEach [e2, e3, e4] X.env := by rfl) (he2 : starEach [e2, e3, e4] X.env = (false, eval e2 X.env) :: starEach [e3, e4] X.env := by rfl) (he3 : starEach [e3, e4] X.env = (false, eval e3 X.env) :: starEach [e4] X.env := by rfl) (he4 : starEach [e4] X.env = (false, eval e4 X.env) :: starEach [] X.env := by rfl) (hpl : (backTo pos (starEach [e2, e3, e4] X.env)).any (·.1) = false := by rfl) : EvM X (.Call (.Name n p) [.Name rn rp, e2, e3, e4] [] pos) σ q G H xs (f xs3 x2 x3 x4).1 (f xs3 x2 x3 x4).2 :=
  evM_call C hr hg sl hq (eaM_cons h2 (eaM_cons h3 (eaM_cons h4 eaM_nil he4) he3) he2) (fun G1 H1 vs s l o ⟨v, r, e, rv, v3, r3, e', rv3, v4, r4, e'', rv4, e3'⟩ Q kk => ⟨G1, q, v, v3, v4, xs3, x2, x3, x4, by rw [e, e', e'', e3'], s, o, rv, rv3, rv4, hp, fun G2 H2 w x o r _ => kk G2 H2 w x o r⟩) hdb he hpl
theorem evM_c1 {pre : α → Prop} {f : α → ζ} (C : Cal X.prog X.w X.K X.mg X.base k n (Sp1 X.K fr pre f)) (hr : Room k X.A) (hg : Gl X n) (h1 : EvM X a σ q G H xs x1 xs1) (hp : pre x1) (hdb : (n == ("__debug__" : Str)) = false := by decide)
    (he : starEach [a] X.env = (false, eval a X.env) :: starEach [] X.env := by rfl) : EvM X (.Call (.Name n p) [a] [] pos) σ q G H xs (f x1) xs1 :=
  evM_callP C hr hg (eaM_cons h1 eaM_nil he) (fun G1 H1 vs s l ⟨v, r, e, rv, e'⟩ Q kk => ⟨G1, v, x1, by rw [e, e'], s, rv, hp, fun G2 H2 w x r _ => kk G2 H2 w x r⟩) hdb he rfl
theorem evM_c2 {pre : α → β → Prop} {f : α → β → ζ} (C : Cal X.prog X.w X.K X.mg X.base k n (Sp2 X.K fr pre f)) (hr : Room k X.A) (hg : Gl X n) (h1 : EvM X a σ q G H xs x1 xs1) (h2 : EvM X e2 σ q G H xs1 x2 xs2) (hp : pre x1 x2) (hdb : (n == ("__debug__" : Str)) = false := by decide)
    (he : starEach [a, e2] X.env = (false, eval a X.env) :: starEach [e2] X.env := by rfl) (he2 : starEach [e2] X.env = (false, eval e2 X.env) :: starEach [] X.env := by rfl) (hpl : (backTo pos (starEach [e2] X.env)).any (·.1) = false := by rfl) : EvM X (.Call (.Name n p) [a, e2] [] pos) σ q G H xs (f x1 x2) xs2 :=
  evM_callP C hr hg (eaM_cons h1 (eaM_cons h2 eaM_nil he2) he) (fun G1 H1 vs s l ⟨v, r, e, rv, v2, r2, e', rv2, e''⟩ Q kk => ⟨G1, v, v2, x1, x2, by rw [e, e', e''], s, rv, rv2, hp, fun G2 H2 w x r _ => kk G2 H2 w x r⟩) hdb he hpl
/-! statements -/
theorem s_setM {y : α} {i : Nat} {n : Str} (hN : X.N.Nodup) (sl : Ss X i n) (s0 : Same G H) (o : Own X.K G H q xs) (h : EvM X e σ q G H xs y xs') (k : ∀ G1 H1 v, ExtM q G H G1 H1 → HLen H1 → Own X.K G1 H1 q xs' → rep X.K G1 v y → D.nx (σ.set i (some v)) H1)
    (hs : swapsWith e (some (.Name n p)) pos.line X.env = pure false := by rfl) : tS X (.Assign [.Name n p] e pos) D σ H :=
  s_of (ps_set hN sl.hN sl.hx pe_sem hs sl.hf) (h G H (ExtM.refl s0 o.ex') o _ fun G1 H1 v x l o r => k G1 H1 v x l o r)
theorem s_retM {y : α} (s0 : Same G H) (o : Own X.K G H q xs) (h : EvM X e σ q G H xs y xs') (k : ∀ G1 H1 v, ExtM q G H G1 H1 → HLen H1 → Own X.K G1 H1 q xs' → rep X.K G1 v y → D.rt v H1) : tS X (.Return (some e) pos) D σ H :=
  s_of (ps_ret pe_sem) (h G H (ExtM.refl s0 o.ex') o _ fun G1 H1 v x l o r => k G1 H1 v x l o r)
theorem s_exprM {y : α} (s0 : Same G H) (o : Own X.K G H q xs) (h : EvM X e σ q G H xs y xs') (k : ∀ G1 H1 v, ExtM q G H G1 H1 → HLen H1 → Own X.K G1 H1 q xs' → rep X.K G1 v y → D.nx σ H1) (hs : swapsWith e none pos.line X.env = pure false := by rfl) : tS X (.Expr e pos) D σ H :=
  s_of (ps_expr pe_sem hs) (h G H (ExtM.refl s0 o.ex') o _ fun G1 H1 v x l o r => k G1 H1 v x l o r)
theorem s_ifM {y : Bool} {sts sts' : List Stmt} (s0 : Same G H) (o : Own X.K G H q xs) (h : EvM X c σ q G H xs y xs') (h1 : y = true → ∀ G1 H1, ExtM q G H G1 H1 → HLen H1 → Own X.K G1 H1 q xs' → tSs X sts D σ H1) (h2 : y = false → ∀ G1 H1, ExtM q G H G1 H1 → HLen H1 → Own X.K G1 H1 q xs' → tSs X sts' D σ H1)
    (ht : ∀ whole, isTrue c X.env whole = (do let v ← whole; standAt c.pos; holding [v] (truthy v)) := by intro _; rfl) : tS X (.If c sts sts' pos) D σ H :=
  s_of (ps_if (pt_val pe_sem ht) pss_sem pss_sem) (h G H (ExtM.refl s0 o.ex') o _ fun G1 H1 v x1 l o1 r => ⟨y, r, by
    cases y with
    | true =>
      show tSs X sts D σ H1
      exact h1 rfl G1 H1 x1 l o1
    | false =>
      show tSs X sts' D σ H1
      exact h2 rfl G1 H1 x1 l o1⟩)
/-- what a for walks, drawn -/
def EvIM (X : Cx) (tg iter : Expr) (σ : St) (q : Addr) (G H : Hp) (xs : List Int) (ys : List α) (xs' : List Int) : Prop :=
  ∃ wi : TI, PI X tg iter wi ∧ ∀ G1 H1, ExtM q G H G1 H1 → Own X.K G1 H1 q xs → ∀ R : It → Hp → Prop, (∀ J G2 H2, ExtM q G1 H1 G2 H2 → ys.length ≤ sizeLine → Own X.K G2 H2 q xs' → WalkOf X.K J G2 ys → R J H2) → wi σ H1 R
theorem eiM_list {ys : List α} (h : EvM X e σ q G H xs ys xs') : EvIM X tg e σ q G H xs ys xs' :=
  ⟨_, pi_list pe_sem, fun G1 H1 x1 o R r => h G1 H1 x1 o _ fun G2 H2 v x2 l2 o2 pv => by
    obtain ⟨a, us, e, g, pr⟩ := pv
    have g : SqL X.K G2 a us := .of g
    refine ⟨a, e, ⟨us, x2.s.seq g⟩, r _ G2 H2 x2 (by rw [← paired_len pr]; exact sql_len l2 (x2.s.seq g)) o2 fun G' H' s1 s2 => ?_⟩
    have hq : SqL X.K H' a us := s2.seq (s1.seq g)
    refine ⟨fun i hi => ?_, ⟨us, hq, by rw [paired_len pr]; exact Nat.le_refl _⟩, fun i x v H'' hx y => ?_⟩
    · rw [← paired_len pr] at hi
      exact ⟨us, us[i], hq, List.getElem?_eq_getElem hi⟩
    · obtain ⟨rfl, y⟩ := y
      obtain ⟨w, hw, rw'⟩ := paired_get pr hx
      have e : w = v := Option.some.inj (hw.symm.trans (y us hq))
      subst e
      exact ⟨G', Ext.refl s2, up s1 rw'⟩⟩
theorem s_forM {ys : List α} {T : TgT α} {g : TG} {iter : Expr} {body : List Stmt} (hp : PassesOwn (model X.prog X.w) X.A X.env X.xe) (hc : X.calm = true) (hg : PG X tg g) (ha : Acts X.K g T) (s0 : Same G H) (o : Own X.K G H q xs) (hi : EvIM X tg iter σ q G H xs ys xs')
    (I : List α → St → Hp → Hp → Prop) (h0 : ∀ G1 H1, ExtM q G H G1 H1 → Own X.K G1 H1 q xs' → I ys σ G1 H1)
    (hs : ∀ x rest σ1 G1 H1 G2 H2 σ2, (∃ l, l ++ x :: rest = ys) ∧ ys.length ≤ sizeLine → Same G G1 → Same G1 H1 → I (x :: rest) σ1 G1 H1 → Ext G1 H1 G2 H2 → HLen H2 → T G2 x σ1 σ2 →
      tSs X body { D with nx := fun σ' H' => ∃ G', Same G2 G' ∧ Same G' H' ∧ I rest σ' G' H', ct := fun σ' H' => ∃ G', Same G2 G' ∧ Same G' H' ∧ I rest σ' G' H', bk := D.nx } σ2 H2)
    (hd : ∀ σ1 G1 H1, Same G G1 → Same G1 H1 → I [] σ1 G1 H1 → D.nx σ1 H1) (hsf : ∀ x, foldedSetIterable iter X.env x = pure x := by intro _; rfl) : tS X (.For tg iter body [] pos) D σ H := by
  obtain ⟨wi, pi, hi⟩ := hi
  refine s_of (ps_for hp hc pi hg pss_sem hsf) (hi G H (ExtM.refl s0 o.ex') o _ fun J Gs Hs xs0 hl os hw => ?_)
  refine ⟨fun i m σ' H' => m = ys.length - i ∧ i ≤ ys.length ∧ ∃ G', Same Gs G' ∧ Same G' H' ∧ I (ys.drop i) σ' G' H', ⟨ys.length, rfl, Nat.zero_le _, Gs, Same.refl _, xs0.s, h0 Gs Hs xs0 os⟩, ?_⟩
  rintro i m σ' H' ⟨rfl, hi', G', sg, sh, Iv⟩
  obtain ⟨go, stop, yld⟩ := hw G' H' sg sh
  by_cases hlt : i < ys.length
  · have hx : ys[i]? = some ys[i] := List.getElem?_eq_getElem hlt
    have ed : ys.drop i = ys[i] :: ys.drop (i + 1) := List.drop_eq_getElem_cons hlt
    rw [ed] at Iv
    refine .inr ⟨go i hlt, fun σ2 H2 => ∃ G2, Same Gs G2 ∧ Same G2 H2 ∧ I (ys.drop (i + 1)) σ2 G2 H2, fun σ2 H2 q => ⟨_, by omega, rfl, hlt, q⟩, fun v H'' y => ?_⟩
    obtain ⟨G'', x'', rv⟩ := yld i _ v H'' hx y
    refine ha _ v G'' H'' _ _ x''.s rv fun σ2 hT => tSs_lenI fun l => ?_
    refine .mk fun pins s Iv' => ?_
    refine thn (hs ys[i] (ys.drop (i + 1)) σ' G' H' G'' H'' σ2 ⟨⟨ys.take i, by rw [← ed, List.take_append_drop]⟩, hl⟩ (xs0.g.trans sg) sh Iv x'' l hT |>.run pins s Iv') fun f s' q => ?_
    have fin : ∀ {H3 : Hp} {σ3 : St}, (∃ G3, Same G'' G3 ∧ Same G3 H3 ∧ I (ys.drop (i + 1)) σ3 G3 H3) → ∃ G2, Same Gs G2 ∧ Same G2 H3 ∧ I (ys.drop (i + 1)) σ3 G2 H3 := fun ⟨G3, a, b, c⟩ => ⟨G3, sg.trans (x''.g.trans a), b, c⟩
    cases f with
    | next =>
      obtain ⟨σ3, H3, I3, q⟩ := q
      exact ⟨σ3, H3, I3, fin q⟩
    | cont =>
      obtain ⟨σ3, H3, I3, q⟩ := q
      exact ⟨σ3, H3, I3, fin q⟩
    | brk => exact q
    | ret u => exact q
  · have e : i = ys.length := by omega
    subst e
    rw [List.drop_length] at Iv
    exact .inl ⟨stop, hd σ' G' H' (xs0.g.trans sg) sh Iv⟩
end
section
variable {P : Program} {w : World} {K : PySem.W.Frag} {mg : Str → Option Value} {base : Heap} {x : Str} {st : Stmt} {f : Addr} {fd : FuncData} {N ps : List Str} {k : Nat} {fr : Bool}
theorem fnM1 {pre : List Int → Prop} {m : List Int → ζ × List Int} (F : Fun K x x st f fd) (hm : mg x = some (.ref f)) (hb : Binds K fd ps []) (S : FnScope N ps (defScope st)) (hl : ps.length = 1)
    (body : ∀ (cdv : Value) (A : Around) (outer : List Env) (s : Shared) (H : Hp) (E : XK), Room k (A.deeper (envOfC x (defScope st) s.heap.objs.size f cdv)) → ∀ (G : Hp) (q : Addr) (xs : List Int) (D : Ends), Same G H → Own K G H q xs → pre xs → EndM K fr q G H (m xs) D →
      tSs (cxOf (L2.CX P w) P w K mg base N x (defScope st) f cdv A outer s H E) (defBody st) D (start N [.ref q]) H) : Cal P w K mg base (k + 1) x (SpM1 K fr pre m) :=
  cal_of F hm hb S (fun vs H Q E h => by obtain ⟨_, _, _, rfl, _⟩ := h; exact hl.symm) fun cdv A outer s H vs Q E hr h => by
    obtain ⟨G, q, xs, rfl, s0, o, hp, kk⟩ := h
    exact body cdv A outer s H E hr G q xs _ s0 o hp (endM_of kk)
theorem fnM2 {pre : List Int → β → Prop} {m : List Int → β → ζ × List Int} (F : Fun K x x st f fd) (hm : mg x = some (.ref f)) (hb : Binds K fd ps []) (S : FnScope N ps (defScope st)) (hl : ps.length = 2)
    (body : ∀ (cdv : Value) (A : Around) (outer : List Env) (s : Shared) (H : Hp) (E : XK), Room k (A.deeper (envOfC x (defScope st) s.heap.objs.size f cdv)) → ∀ (G : Hp) (q : Addr) (v2 : V) (xs : List Int) (x2 : β) (D : Ends), Same G H → Own K G H q xs → rep K G v2 x2 → pre xs x2 → EndM K fr q G H (m xs x2) D →
      tSs (cxOf (L2.CX P w) P w K mg base N x (defScope st) f cdv A outer s H E) (defBody st) D (start N [.ref q, v2]) H) : Cal P w K mg base (k + 1) x (SpM2 K fr pre m) :=
  cal_of F hm hb S (fun vs H Q E h => by obtain ⟨_, _, _, _, _, rfl, _⟩ := h; exact hl.symm) fun cdv A outer s H vs Q E hr h => by
    obtain ⟨G, q, v2, xs, x2, rfl, s0, o, r2, hp, kk⟩ := h
    exact body cdv A outer s H E hr G q v2 xs x2 _ s0 o r2 hp (endM_of kk)
theorem fnM3 {pre : List Int → β → γ → Prop} {m : List Int → β → γ → ζ × List Int} (F : Fun K x x st f fd) (hm : mg x = some (.ref f)) (hb : Binds K fd ps []) (S : FnScope N ps (defScope st)) (hl : ps.length = 3)
    (body : ∀ (cdv : Value) (A : Around) (outer : List Env) (s : Shared) (H : Hp) (E : XK), Room k (A.deeper (envOfC x (defScope st) s.heap.objs.size f cdv)) → ∀ (G : Hp) (q : Addr) (v2 v3 : V) (xs : List Int) (x2 : β) (x3 : γ) (D : Ends), Same G H → Own K G H q xs → rep K G v2 x2 → rep K G v3 x3 → pre xs x2 x3 → EndM K fr q G H (m xs x2 x3) D →
      tSs (cxOf (L2.CX P w) P w K mg base N x (defScope st) f cdv A outer s H E) (defBody st) D (start N [.ref q, v2, v3]) H) : Cal P w K mg base (k + 1) x (SpM3 K fr pre m) :=
  cal_of F hm hb S (fun vs H Q E h => by obtain ⟨_, _, _, _, _, _, _, rfl, _⟩ := h; exact hl.symm) fun cdv A outer s H vs Q E hr h => by
    obtain ⟨G, q, v2, v3, xs, x2, x3, rfl, s0, o, r2, r3, hp, kk⟩ := h
    exact body cdv A outer s H E hr G q v2 v3 xs x2 x3 _ s0 o r2 r3 hp (endM_of kk)
theorem fnM4 {pre : List Int → β → γ → δ → Prop} {m : List Int → β → γ → δ → ζ × List Int} (F : Fun K x x st f fd) (hm : mg x = some (.ref f)) (hb : Binds K fd ps []) (S : FnScope N ps (defScope st)) (hl : ps.length = 4)
    (body : ∀ (cdv : Value) (A : Around) (outer : List Env) (s : Shared) (H : Hp) (E : XK), Room k (A.deeper (envOfC x (defScope st) s.heap.objs.size f cdv)) → ∀ (G : Hp) (q : Addr) (v2 v3 v4 : V) (xs : List Int) (x2 : β) (x3 : γ) (x4 : δ) (D : Ends), Same G H → Own K G H q xs → rep K G v2 x2 → rep K G v3 x3 → rep K G v4 x4 → pre xs x2 x3 x4 → EndM K fr q G H (m xs x2 x3 x4) D →
      tSs (cxOf (L2.CX P w) P w K mg base N x (defScope st) f cdv A outer s H E) (defBody st) D (start N [.ref q, v2, v3, v4]) H) : Cal P w K mg base (k + 1) x (SpM4 K fr pre m) :=
  cal_of F hm hb S (fun vs H Q E h => by obtain ⟨_, _, _, _, _, _, _, _, _, rfl, _⟩ := h; exact hl.symm) fun cdv A outer s H vs Q E hr h => by
    obtain ⟨G, q, v2, v3, v4, xs, x2, x3, x4, rfl, s0, o, r2, r3, r4, hp, kk⟩ := h
    exact body cdv A outer s H E hr G q v2 v3 v4 xs x2 x3 x4 _ s0 o r2 r3 r4 hp (endM_of kk)
end
end
end RL
namespace RL
open PySem PySem.Spec PyProof.Rows L2 Rep
theorem offM {α : Type} [Rep α] {K : PySem.W.Frag} {q : Addr} {G0 H0 G H : Hp} {xs : List α} (x : ExtM q G0 H0 G H) (o : Own K G0 H0 q xs) : G q = none := by
  cases z : G q with
  | none => rfl
  | some u =>
    obtain ⟨v, e, _⟩ := o.ex'
    rcases x.n _ _ z with y | y | ⟨ys, y⟩
    · rw [o.off] at y; cases y
    · rw [e] at y; cases y
    · obtain ⟨w, y1, y2⟩ := x.h.k
      have y3 := x.s _ _ z
      rw [y1] at y3
      exact absurd ((Option.some.inj y3).trans y) (y2 ys)
theorem Own.re {α : Type} [Rep α] {K : PySem.W.Frag} {q : Addr} {G G' H : Hp} {xs : List α} (o : Own K G H q xs) (s : Same G G') (h : G' q = none) : Own K G' H q xs :=
  let ⟨vs, e, p⟩ := o.at_; ⟨⟨vs, e, pair_up s p⟩, h⟩
end RL
namespace RL
open PySem PySem.Spec PyProof.Rows L2 Rep
section
variable {X : Cx} {σ : St} {G H : Hp} {D : Ends} {q : Addr} {e a b c : Expr} {es : List Expr} {pos p : Pos} {α : Type} [Rep α] {xs xs1 xs2 xs' : List Int}
/-- a and b, b drawn only where a holds -/
theorem evM_and {x y : Bool} (ha : EvM X a σ q G H xs x xs1) (hb : x = true → EvM X b σ q G H xs1 y xs2) : EvM X (.BoolOp .And [a, b] pos) σ q G H xs (x && y) (if x = true then xs2 else xs1) :=
  evM_of (pe_and pe_sem (pe_one pe_sem)) fun G1 H1 x1 o Q k => ha G1 H1 x1 o _ fun G2 H2 v x2 _ o2 r => ⟨x, r, by
    cases x with
    | true =>
      show tE X b σ H2 Q
      exact hb rfl G2 H2 (x1.transM x2) o2 Q fun G3 H3 w x3 _ o3 rw' => k G3 H3 w (x2.transM x3) o3 rw'
    | false =>
      show Q (.bl false) H2
      exact k G2 H2 _ x2 o2 rfl⟩
theorem evM_intB {x : Bool} (B : Bl X "int") (h : EvM X e σ q G H xs x xs1) (he : starEach [e] X.env = (false, eval e X.env) :: starEach [] X.env := by rfl) : EvM X (.Call (.Name "int" p) [e] [] pos) σ q G H xs (if x = true then 1 else 0 : Int) xs1 :=
  evM_of (pe_callTy call_int1 B.g B.m PyProof.Rows.boot_int (pa_cons pe_sem pa_nil he) (by decide) (by decide) he rfl) fun G1 H1 x1 o Q k => h G1 H1 x1 o _ fun G2 H2 v x2 _ o2 r => .inr ⟨x, by rw [show v = _ from r], k G2 H2 _ x2 o2 rfl⟩
/-- a drawn test -/
def EvTM (X : Cx) (e : Expr) (σ : St) (q : Addr) (G H : Hp) (xs : List Int) (b : Bool) (xs' : List Int) : Prop :=
  ∀ G1 H1, ExtM q G H G1 H1 → Own X.K G1 H1 q xs → ∀ Q : Bool → Hp → Prop, (∀ G2 H2, ExtM q G1 H1 G2 H2 → HLen H2 → Own X.K G2 H2 q xs' → Q b H2) → tT X e σ H1 Q
theorem evTM_of {b : Bool} {t : TT} (hp : PT X e t) (k : ∀ G1 H1, ExtM q G H G1 H1 → Own X.K G1 H1 q xs → ∀ Q : Bool → Hp → Prop, (∀ G2 H2, ExtM q G1 H1 G2 H2 → Own X.K G2 H2 q xs' → Q b H2) → t σ H1 Q) : EvTM X e σ q G H xs b xs' :=
  fun G1 H1 x1 o _ kk => tT_lenF fun pins s I => hp.run pins s σ H1 _ I (k G1 H1 x1 o _ fun G2 H2 x2 o2 hl => kk G2 H2 x2 hl o2)
theorem etM_val {x : Bool} (h : EvM X e σ q G H xs x xs') (he : ∀ whole, isTrue e X.env whole = (do let v ← whole; standAt e.pos; holding [v] (truthy v)) := by intro _; rfl) : EvTM X e σ q G H xs x xs' :=
  evTM_of (pt_val pe_sem he) fun G1 H1 x1 o Q k => h G1 H1 x1 o _ fun G2 H2 _ x2 _ o2 r => ⟨x, r, k G2 H2 x2 o2⟩
theorem etM_pure {x : Bool} (h : ∀ G1 H1, ExtM q G H G1 H1 → Own X.K G1 H1 q xs → EvT X e σ G1 H1 x) : EvTM X e σ q G H xs x xs :=
  fun G1 H1 x1 o Q k => h G1 H1 x1 o G1 H1 (Ext.refl x1.s) Q fun G2 H2 y l => k G2 H2 (y.toM o.ex') l (o.mono y)
theorem etM_and {x y : Bool} (ha : EvTM X a σ q G H xs x xs1) (hb : x = true → EvTM X b σ q G H xs1 y xs2) : EvTM X (.BoolOp .And [a, b] pos) σ q G H xs (x && y) (if x = true then xs2 else xs1) :=
  evTM_of (pw_and (pos := pos) pt_sem (pw_and1 pt_sem)).pt fun G1 H1 x1 o Q k => ha G1 H1 x1 o _ fun G2 H2 x2 _ o2 => by
    cases x with
    | true =>
      show tT X b σ H2 Q
      exact hb rfl G2 H2 (x1.transM x2) o2 Q fun G3 H3 x3 _ o3 => k G3 H3 (x2.transM x3) o3
    | false =>
      show Q false H2
      exact k G2 H2 x2 o2
theorem s_ifT {y : Bool} {sts sts' : List Stmt} (s0 : Same G H) (o : Own X.K G H q xs) (h : EvTM X c σ q G H xs y xs') (h1 : y = true → ∀ G1 H1, ExtM q G H G1 H1 → HLen H1 → Own X.K G1 H1 q xs' → tSs X sts D σ H1) (h2 : y = false → ∀ G1 H1, ExtM q G H G1 H1 → HLen H1 → Own X.K G1 H1 q xs' → tSs X sts' D σ H1) : tS X (.If c sts sts' pos) D σ H :=
  s_of (ps_if pt_sem pss_sem pss_sem) (h G H (ExtM.refl s0 o.ex') o _ fun G1 H1 x1 l o1 => by
    cases y with
    | true =>
      show tSs X sts D σ H1
      exact h1 rfl G1 H1 x1 l o1
    | false =>
      show tSs X sts' D σ H1
      exact h2 rfl G1 H1 x1 l o1)
end
end RL

set_option Elab.async false
set_option linter.all false
set_option maxRecDepth 100000
set_option maxHeartbeats 4000000
/-! RA: sorted(xs) of data that are alike: lists, tuples, to any depth. -/
namespace RL
open PySem PySem.Spec PyProof.Rows L2 Rep
open PySem.W (alike alikeAll dataLe EachIs Sortable AllAlike)
/-- data of one kind, such as sorting compares -/
class DatS (α : Type) [Rep α] [DecidableEq α] [Dat α] : Prop where
  al : ∀ x y : α, alike (Dat.toD x) (Dat.toD y) = true
  srt : (∀ x : α, ∃ y r, Dat.toD x = .tuple (y :: r)) ∨ ∀ x : α, Dat.toD x ≠ .none ∧ ∀ xs, Dat.toD x ≠ .tuple xs
instance : DatS Int := ⟨fun x y => by show alike (.int x) (.int y) = true; simp [alike], .inr fun x => ⟨(fun z => by cases z), (fun xs z => by cases z)⟩⟩
theorem al_all {α : Type} [Rep α] [DecidableEq α] [Dat α] [d : DatS α] : ∀ xs ys : List α, alikeAll (xs.map Dat.toD) (ys.map Dat.toD) = true
  | [], _ => by simp [alikeAll]
  | _ :: _, [] => by simp [alikeAll]
  | x :: xs, y :: ys => by
    show alikeAll (Dat.toD x :: xs.map Dat.toD) (Dat.toD y :: ys.map Dat.toD) = true
    rw [alikeAll, al_all xs ys, d.al x y]
    rfl
instance {α : Type} [Rep α] [DecidableEq α] [Dat α] [d : DatS α] : DatS (List α) := ⟨fun x y => by
  show alike (.list (x.map Dat.toD)) (.list (y.map Dat.toD)) = true
  rw [alike]
  exact al_all x y, .inr fun x => ⟨(fun z => by cases z), (fun xs z => by cases z)⟩⟩
instance {α β : Type} [Rep α] [Rep β] [DecidableEq α] [DecidableEq β] [Dat α] [Dat β] [d : DatS α] [e : DatS β] : DatS (α × β) := ⟨fun x y => by
  show alike (.tuple [Dat.toD x.1, Dat.toD x.2]) (.tuple [Dat.toD y.1, Dat.toD y.2]) = true
  rw [alike, alikeAll, alikeAll, alikeAll, d.al, e.al]
  rfl, .inl fun x => ⟨_, _, rfl⟩⟩
/-- sorted, of any such data -/
def dsort {α : Type} [Rep α] [DecidableEq α] [Dat α] (xs : List α) : List α := xs.mergeSort (dataLe false Dat.toD)
theorem dsort_perm {α : Type} [Rep α] [DecidableEq α] [Dat α] (xs : List α) : (dsort xs).Perm xs := List.mergeSort_perm _ _
theorem dsort_len {α : Type} [Rep α] [DecidableEq α] [Dat α] (xs : List α) : (dsort xs).length = xs.length := (dsort_perm xs).length_eq
theorem mem_dsort {α : Type} [Rep α] [DecidableEq α] [Dat α] {x : α} {xs : List α} : x ∈ dsort xs ↔ x ∈ xs := (dsort_perm xs).mem_iff
section
variable {α : Type} [Rep α] [DecidableEq α] [Dat α] {X : Cx} {σ : St} {G H : Hp} {P : PV} {e : Expr} {pos p : Pos}
theorem zip_each {R : Value → V × α → Prop} {K : PySem.W.Frag} : ∀ {us : List V} {xs : List α} {its : List Value}, Vals us its → Paired (rep K G) us xs → (∀ u x v, rep K G u x → RelV u v → R v (u, x)) → EachIs R its (us.zip xs)
  | _, _, _, .nil, .nil, _ => .nil
  | _, _, _, .cons r t, .cons pr pt, h => .cons (h _ _ _ pr r) (zip_each t pt h)
theorem each_vals {its : List Value} {bs : List (V × α)} (h : EachIs (fun (u : Value) (b : V × α) => RelV b.1 u) its bs) : Vals (bs.map (·.1)) its := by
  induction h with
  | nil => exact .nil
  | cons r t ih => exact .cons r ih
theorem zip_fst {K : PySem.W.Frag} : ∀ {us : List V} {xs : List α}, Paired (rep K G) us xs → (us.zip xs).map (·.1) = us ∧ (us.zip xs).map (·.2) = xs ∧ ∀ b ∈ us.zip xs, rep K G b.1 b.2
  | _, _, .nil => ⟨rfl, rfl, fun b hb => by cases hb⟩
  | _, _, .cons r t => by
    obtain ⟨a, b, c⟩ := zip_fst t
    refine ⟨by rw [List.zip_cons_cons, List.map_cons, a], by rw [List.zip_cons_cons, List.map_cons, b], fun z hz => ?_⟩
    rw [List.zip_cons_cons] at hz
    rcases List.mem_cons.mp hz with rfl | hz
    · exact r
    · exact c z hz
theorem pair_of {K : PySem.W.Frag} : ∀ {bs : List (V × α)}, (∀ b ∈ bs, rep K G b.1 b.2) → Paired (rep K G) (bs.map (·.1)) (bs.map (·.2))
  | [], _ => .nil
  | b :: bs, h => .cons (h b List.mem_cons_self) (pair_of fun c hc => h c (List.mem_cons_of_mem _ hc))
theorem cr_sortedA [ds : DatS α] (hu : X.A.units + 64 < cLine) (hd : Dat.deep α ≤ 60) : CallR X (.builtin "sorted") (fun vs H Q => ∃ (a : Addr) (us : List V) (xs : List α) (G : Hp), vs = [.ref a] ∧ SqL X.K H a us ∧ Same G H ∧ Paired (rep X.K G) us xs ∧
    ∀ ys p, Paired (rep X.K G) ys (dsort xs) → H p = none → Q (.ref p) (upd H p (.lst ys))) := by
  intro pins s σ H vs us Q I r h
  obtain ⟨a, us', xs, G, rfl, hs, sg, pr, q⟩ := h
  obtain ⟨its, rv, hl, hz⟩ := I.list hs
  obtain ⟨u, rfl, ru⟩ := vals1 r
  obtain rfl : u = Value.ref a := ru
  obtain ⟨z1, z2, z3⟩ := zip_fst pr
  have hlen : (us'.zip xs).length = us'.length := by rw [← List.length_map (f := fun b : V × α => b.1), z1]
  refine PySem.W.sorted_data (R := fun (u : Value) (b : V × α) => RelV b.1 u) (enc := fun b => Dat.toD b.2) (bs := us'.zip xs) hl.isList (zip_each rv pr fun _ _ _ _ r => r) (zip_each rv pr fun u x v r1 r2 => Dp.reads I _ _ _ (Dat.dp sg r1) r2)
    (AllAlike.of fun b b' => ds.al b.2 b'.2) ?_ (by rw [hlen]; exact hz) (fun b _ => ?_) fun out ho he => ?_
  · rcases ds.srt with h | h
    · exact Sortable.tuples fun b => h b.2
    · exact Sortable.others fun b => h b.2
  · have := Dat.dep b.2
    show X.A.units + 2 + (Dat.toD b.2).depth < cLine
    omega
  · obtain ⟨n, hn⟩ := sortedAll_at s.heap its out.toArray
    have hm : ((us'.zip xs).mergeSort (dataLe false fun b => Dat.toD b.2)).map (·.2) = dsort xs := by
      have := List.map_mergeSort (r := dataLe false fun b : V × α => Dat.toD b.2) (s := dataLe false (Dat.toD (α := α))) (f := fun b : V × α => b.2) (l := us'.zip xs) fun a _ b _ => rfl
      rw [this, z2]
      rfl
    have hp : Paired (rep X.K G) (((us'.zip xs).mergeSort (dataLe false fun b => Dat.toD b.2)).map (·.1)) (dsort xs) := by
      rw [← hm]
      exact pair_of fun b hb => z3 b ((List.mergeSort_perm _ _).mem_iff.mp hb)
    have hd := I.laid (a := s.heap.objs.size + 1) (t' := s.toks) (fun b o e => sortedAll_old e) (Nat.le_succ _) (o := .lst (((us'.zip xs).mergeSort (dataLe false fun b => Dat.toD b.2)).map (·.1))) ⟨?_, out, n, each_vals he, hn⟩
    · exact ⟨.ref (s.heap.objs.size + 1), _, hd, rfl, q _ _ hp (I.hok.fresh (Nat.le_succ _))⟩
    · rw [List.length_map, List.length_mergeSort, hlen]
      have := rv.length
      omega
theorem ev_sortedA {xs : List α} [DatS α] (hu : X.A.units + 64 < cLine) (B : Bl X "sorted") (h : Ev X e σ G H xs) (hd : Dat.deep α ≤ 60 := by decide) (he : starEach [e] X.env = (false, eval e X.env) :: starEach [] X.env := by rfl) : Ev X (.Call (.Name "sorted" p) [e] [] pos) σ G H (dsort xs) :=
  ev_callB (cr_sortedA (α := α) hu hd) B.g B.m PyProof.Rows.boot_sorted (ea_cons h ea_nil he) (fun G1 H1 vs y l ⟨v, r, e1, pv, e2⟩ Q q => by
    obtain ⟨a, us, e, g, pr⟩ := pv
    exact ⟨a, us, xs, G1, by rw [e1, e2, e], .of (y.s _ _ g), y.s, pr, fun ys p py hp => q (upd G1 p (.lst ys)) _ _ ((Ext.refl y.s).new hp) ⟨p, _, rfl, upd_same, pair_up (same_new (y.s.free hp)) py⟩⟩) (by decide) (by decide) he rfl
end
section
variable {α : Type} [Rep α] [DecidableEq α] [Dat α]
theorem dle_trans (a b c : α) (h1 : dataLe false Dat.toD a b = true) (h2 : dataLe false Dat.toD b c = true) : dataLe false Dat.toD a c = true := by
  rw [PySem.W.dataLe_eq] at *
  simp only [cond_false, Bool.not_eq_true'] at *
  cases h : PySem.W.dataLt (Dat.toD c) (Dat.toD a) with
  | false => rfl
  | true =>
    rcases (PyProof.Rows.listOrd PyProof.Rows.itemOrd).negTrans (PySem.W.keyToks (Dat.toD c)) (PySem.W.keyToks (Dat.toD b)) (PySem.W.keyToks (Dat.toD a)) h with z | z
    · have z : PySem.W.dataLt (Dat.toD c) (Dat.toD b) = true := z
      rw [h2] at z; cases z
    · have z : PySem.W.dataLt (Dat.toD b) (Dat.toD a) = true := z
      rw [h1] at z; cases z
theorem dle_total (a b : α) : (dataLe false Dat.toD a b || dataLe false Dat.toD b a) = true := by
  rw [PySem.W.dataLe_eq]
  simp only [cond_false]
  cases h1 : PySem.W.dataLt (Dat.toD b) (Dat.toD a) with
  | false => rfl
  | true =>
    cases h2 : PySem.W.dataLt (Dat.toD a) (Dat.toD b) with
    | false => rfl
    | true =>
      have := (PyProof.Rows.listOrd PyProof.Rows.itemOrd).trans _ _ _ h1 h2
      rw [(PyProof.Rows.listOrd PyProof.Rows.itemOrd).irrefl] at this
      cases this
def insB (le : α → α → Bool) (x : α) : List α → List α
  | [] => [x]
  | y :: ys => if le x y = true then x :: y :: ys else y :: insB le x ys
def isortB (le : α → α → Bool) : List α → List α
  | [] => []
  | x :: xs => insB le x (isortB le xs)
theorem insB_go {le : α → α → Bool} {x : α} : ∀ {l1 l2 : List α}, (∀ b ∈ l1, le x b = false) → (∀ b ∈ l2, le x b = true) → insB le x (l1 ++ l2) = l1 ++ x :: l2
  | [], [], _, _ => rfl
  | [], y :: ys, _, h => by
    show insB le x (y :: ys) = x :: y :: ys
    unfold insB
    rw [if_pos (h y List.mem_cons_self)]
  | y :: l1, l2, h, h2 => by
    show insB le x (y :: (l1 ++ l2)) = y :: (l1 ++ x :: l2)
    unfold insB
    rw [if_neg (by rw [h y List.mem_cons_self]; decide), insB_go (fun b hb => h b (List.mem_cons_of_mem _ hb)) h2]
theorem dsort_eq {le : α → α → Bool} (h : ∀ x y, dataLe false Dat.toD x y = le x y) : ∀ xs : List α, dsort xs = isortB le xs
  | [] => by
    unfold dsort isortB
    exact List.mergeSort_nil
  | x :: xs => by
    have ih := dsort_eq h xs
    obtain ⟨l1, l2, e1, e2, e3⟩ := List.mergeSort_cons (le := dataLe false (Dat.toD (α := α))) dle_trans dle_total x xs
    have hs := List.pairwise_mergeSort (le := dataLe false (Dat.toD (α := α))) dle_trans dle_total (x :: xs)
    rw [e1] at hs
    show (x :: xs).mergeSort (dataLe false Dat.toD) = insB le x (isortB le xs)
    rw [← ih, e1]
    show _ = insB le x (xs.mergeSort (dataLe false Dat.toD))
    rw [e2, insB_go]
    · intro b hb
      have := e3 b hb
      rw [h] at this
      simpa using this
    · intro b hb
      rw [← h]
      exact (List.pairwise_cons.mp (List.pairwise_append.mp hs).2.1).1 b hb
end
def leLI (p q : List Int × Int) : Bool := !(if q.1 = p.1 then decide (q.2 < p.2) else decide (q.1 < p.1))
theorem leLI_eq (p q : List Int × Int) : dataLe false Dat.toD p q = leLI p q := by
  rw [PySem.W.dataLe_eq]
  show (!PySem.W.dataLt (.tuple [.list (q.1.map .int), .int q.2]) (.tuple [.list (p.1.map .int), .int p.2])) = _
  rw [PySem.W.dataLt_pair (by rw [alike]; exact PySem.W.alike_ints _ _) (by simp [alike])]
  unfold leLI
  have e : PyData.eqv (.list (q.1.map .int)) (.list (p.1.map .int)) = decide (q.1 = p.1) := Dat.eqv (α := List Int) q.1 p.1
  have e2 : PyData.eqv (.int q.2) (.int p.2) = decide (q.2 = p.2) := Dat.eqv (α := Int) q.2 p.2
  have e3 : PySem.W.dataLt (.list (q.1.map .int)) (.list (p.1.map .int)) = decide (q.1 < p.1) := PySem.W.dataLt_ints q.1 p.1
  rw [e, e2, e3, PySem.W.dataLt_int]
  by_cases h : q.1 = p.1
  · rw [if_pos (by simpa using h), if_pos h]
    by_cases h2 : q.2 = p.2
    · simp [h2]
    · simp [h2]
  · rw [if_neg (by simpa using h), if_neg h]
end RL

set_option Elab.async false
set_option linter.all false
set_option maxRecDepth 100000
set_option maxHeartbeats 4000000
/-! RD: dicts of ints or of pairs of ints as data: copied, displayed, walked by their keys. -/
namespace L2
open PySem PySem.Spec PyProof.Rows
abbrev edict : Obj := { cls := .type "dict", data := .dict #[] }
theorem upd_twice {H : Hp} {a : Addr} {u v : HO} : upd (upd H a u) a v = upd H a v := by
  funext b
  by_cases h : b = a
  · subst h; rw [upd_same, upd_same]
  · rw [upd_ne h, upd_ne h, upd_ne h]
theorem dt_new {P : Program} {w : World} {H : Hp} {h : Heap} {a : Addr} {kvs : List (List Key × V)} {xs : List (List Key × Addr × Value)} (z : kvs.length ≤ sizeLine) (hd : (a == sysModules) = false) (r : KT H kvs xs) (d : h.DictOfH (tupleKind (mixKind P w)) a xs) : ObjOk P w H h a (.dT kvs) :=
  let ⟨o, es, ep, e1, e2, e3, e4, _, e6⟩ := d; ⟨z, hd, xs, r, o, es, ep, e1, e2, e3, e4, e6⟩
/-- dict(d), d's keys tuples whose hashes differ -/
def rDictT (P : Program) (w : World) : List V → Hp → VK → Prop := fun xs H Q => ∃ (a : Addr) (kvs : List (List Key × V)), xs = [.ref a] ∧ Rd H a (.dT kvs) ∧ (kvs.map fun kv => tupleKeyHash (mixKind P w) kv.1).Nodup ∧ ∀ p, H p = none → Q (.ref p) (upd H p (.dT kvs))
theorem kt_keys {H : Hp} : ∀ {kvs : List (List Key × V)} {xs : List (List Key × Addr × Value)}, KT H kvs xs → xs.map (·.1) = kvs.map (·.1)
  | _, _, .nil => rfl
  | _, _, .cons h t => by rw [List.map_cons, List.map_cons, kt_keys t, h.1]
theorem kt_at {H : Hp} : ∀ {kvs : List (List Key × V)} {xs : List (List Key × Addr × Value)}, KT H kvs xs → ∀ x ∈ xs, H x.2.1 = some (.tup (x.1.map kV))
  | _, _, .nil, _, hx => by cases hx
  | _, _, .cons h t, x, hx => by
    rcases List.mem_cons.mp hx with rfl | hx
    · rw [← h.1]; exact h.2.1
    · exact kt_at t x hx
theorem cr_dictT {X : Cx} (hu : X.A.units + 64 < cLine) : CallR X (.type "dict") (rDictT X.prog X.w) := by
  rintro pins s σ H xs us Q I r ⟨a, kvs, rfl, hd, hh, q⟩
  rw [Vals.ref1 r]
  have nn : H s.heap.objs.size = none := I.hok.fresh (Nat.le_refl _)
  have na : a ≠ s.heap.objs.size := fun z => by rcases hd with h | ⟨o, h⟩ <;> rw [z, nn] at h <;> cases h
  have I1 := I.laid (a := s.heap.objs.size) (o := .dT []) (h' := s.heap.push edict) (t' := s.toks) (fun _ _ q => Heap.get?_push_of_some _ q) (Nat.le_refl _) (dt_empty s.heap I.big)
  have hd1 : Rd (upd H s.heap.objs.size (.dT [])) a (.dT kvs) := hd.imp (fun h => by rw [upd_ne na]; exact h) fun ⟨o, h⟩ => ⟨o, by rw [upd_ne na]; exact h⟩
  obtain ⟨z, lo, vs, rel, dd⟩ := dt_rd I1.hok hd1
  have hm : (s.heap.objs.size == sysModules) = false := beq_eq_false_iff_ne.mpr (Nat.ne_of_gt I.big)
  have n0 := Heap.DictOfH.new (knd := tupleKind (mixKind X.prog X.w)) s.heap
  have hl : vs.length = kvs.length := by have := congrArg List.length (kt_keys rel); simpa using this
  refine callType_codes (Q₁ := fun v t => v = .ref s.heap.objs.size ∧ t = { s with heap := s.heap.push edict }) F.kt_called_dict (F.kt_typeCall_dict_1 _) F.entry_dict_init (kt_code_dict_new _ ⟨rfl, rfl⟩) ?_
  rintro _ _ ⟨rfl, rfl⟩
  refine ⟨n0.typeIs, F.args_dict_init_2 _ _, ?_⟩
  unfold Builtin.«dict.__init__»; refine wpAny_bind ?_; unfold Builtin.Dict.selfAndRest
  refine wpAny_bind (wpAny_notOrdered_dict n0.typeIs ?_)
  show wpAny _ _ (pure (s.heap.objs.size, [Value.ref a])) _ _ _
  refine wpAny_pure ?_
  show wpAny _ X.A.in1.in1 (Builtin.Dict.updateFrom "dict.__init__" s.heap.objs.size (.ref a) [] .none) _ _ _
  refine updateFrom_dictH (A := X.A.in1) (knd := tupleKind (mixKind X.prog X.w)) .none ?_ (Ne.symm na) lo n0 dd (.inr ⟨fun x hx => ?_, ?_⟩) (by rw [hl]; simpa using z) fun h' d' _ sb => ?_
  · show X.A.in1.in1.units < cLine
    simp only [units_in1]
    omega
  · exact (key_of I1.hok (kt_at rel x hx)).typeIs
  · have e : (vs.map fun x => (tupleKind (mixKind X.prog X.w)).hash x.1) = (vs.map (·.1)).map (tupleKeyHash (mixKind X.prog X.w)) := by rw [List.map_map]; rfl
    rw [e, kt_keys rel, List.map_map]
    exact hh
  · rw [storedAllH_nil_of_nodup vs dd.nodup] at d'
    have he : ∃ u, h'.get? s.heap.objs.size = some u := let ⟨u, _, _, g, _⟩ := d'; ⟨u, g⟩
    have rel2 : KT (upd (upd H s.heap.objs.size (.dT [])) s.heap.objs.size (.dT kvs)) kvs vs := KT.keeps rel fun b ys e => by
      rw [upd_ne fun c => by rw [c, upd_same] at e; cases e]; exact e
    have J := d_write (t' := s.toks) I1 (by rw [upd_same]; exact True.intro) sb he (dt_new z hm rel2 d')
    rw [upd_twice] at J
    exact ⟨rfl, .ref s.heap.objs.size, _, J, rfl, q _ nn⟩
/-- {k: v}, k a tuple -/
theorem pe_disp1T {X : Cx} {k v : Expr} {tk tv : TE} {pos : Pos} (hu : X.A.units + 64 < cLine) (hk : PE X k tk) (hv : PE X v tv) : PE X (.Dict [some k] [v] pos) (fun σ H Q => ∀ p, H p = none → tk σ (upd H p (.dT [])) fun x H1 => tv σ H1 fun y H2 =>
    H2 p = some (.dT []) ∧ ∃ (b : Addr) (ks : List Key), x = .ref b ∧ H2 b = some (.tup (ks.map kV)) ∧ Q (.ref p) (upd H2 p (.dT [(ks, y)]))) := by
  refine ⟨fun pins s σ H Q I q => ?_⟩
  have I1 := I.laid (a := s.heap.objs.size) (o := .dT []) (h' := s.heap.push edict) (t' := s.toks) (fun _ _ q => Heap.get?_push_of_some _ q) (Nat.le_refl _) (dt_empty s.heap I.big)
  have hm : (s.heap.objs.size == sysModules) = false := beq_eq_false_iff_ne.mpr (Nat.ne_of_gt I.big)
  rw [arm_eval_Dict, zip_pairTrees [some k] [v] X.env pos rfl rfl, dictDisplay_pairs _ (by simp [pairTrees]) (by simp [pairTrees])]
  refine wpAny_bind (wpAny_standAt (wpAny_bind (wpAny_subDictH (knd := tupleKind (mixKind X.prog X.w)) (Q := fun d s' => wpAny (model X.prog X.w) X.A (pure (Value.ref d)) (EP X pins σ Q) X.xe s') (by show X.A.units < cLine; omega) (by simp [pairTrees]) ?_)))
  refine pairTrees_cons_walk (thn (hk.run pins _ σ _ _ I1 (q _ (I.hok.fresh (Nat.le_refl _)))) fun u s1 ⟨x, H1, I2, rx, q1⟩ => thn (hv.run pins s1 σ H1 _ I2 q1) fun u2 s2 ⟨y, H2, I3, ry, e, b, ks, ex, eb, q2⟩ => pairTrees_nil_walk ?_)
  subst ex
  obtain rfl : u = Value.ref b := rx
  obtain ⟨_, _, vs, rel, dd⟩ := dt_of I3.hok e
  cases rel
  refine ⟨[(ks, b, u2)], ⟨rfl, rfl, key_of I3.hok eb, trivial⟩, dd, fun h' tk d' sb => wpAny_pure ⟨.ref s.heap.objs.size, _, ?_, rfl, q2⟩⟩
  have nb : b ≠ s.heap.objs.size := fun z => by rw [z, e] at eb; cases eb
  have he : ∃ u, h'.get? s.heap.objs.size = some u := let ⟨u, _, _, g, _⟩ := d'; ⟨u, g⟩
  exact d_write I3 (by rw [e]; exact True.intro) sb he (dt_new (by show 1 ≤ sizeLine; rw [sizeLine_eq]; decide) hm (.cons ⟨rfl, by rw [upd_ne nb]; exact eb, ry⟩ .nil) d')
end L2
namespace RL
open PySem PySem.Spec PyProof.Rows L2 Rep
theorem tE_imp {X : Cx} {e : Expr} {σ : St} {H : Hp} {Q Q' : VK} (h : tE X e σ H Q) (k : ∀ v H', Q v H' → Q' v H') : tE X e σ H Q' := ⟨fun pins s I => thn (h.run pins s I) fun _ _ ⟨v, H', I', r, q⟩ => ⟨v, H', I', r, k _ _ q⟩⟩
/-- kinds of keys: how such a dict is copied, displayed, walked -/
class DKeyC (κ : Type) [Rep κ] [DecidableEq κ] [DKey κ] where
  hok : Program → World → List κ → Prop
  copy : ∀ {X : Cx}, X.A.units + 64 < cLine → CallR X (.type "dict") (fun xs H Q => ∃ (a : Addr) (ps : List (κ × V)), xs = [.ref a] ∧ Rd H a (DKey.obj ps) ∧ hok X.prog X.w (ps.map (·.1)) ∧ ∀ p, H p = none → Q (.ref p) (upd H p (DKey.obj ps)))
  disp : ∀ {X : Cx} {k v : Expr} {pos : Pos}, X.A.units + 64 < cLine → PE X (.Dict [some k] [v] pos) (fun σ H Q => ∀ p, H p = none → tE X k σ (upd H p (DKey.obj ([] : List (κ × V)))) fun x H1 => tE X v σ H1 fun y H2 =>
    H2 p = some (DKey.obj ([] : List (κ × V))) ∧ ∃ (G : Hp) (key : κ), Same G H2 ∧ rep X.K G x key ∧ Q (.ref p) (upd H2 p (DKey.obj [(key, y)])))
  it : Addr → Obj → List (κ × V) → It
  lift : ∀ {H : Hp} {a : Addr} {o : Obj} {ps : List (κ × V)} {R : It → Hp → Prop}, H a = some (.frz o (DKey.obj ps)) → R (it a o ps) H → ((∃ kvs, H a = some (.frz o (.dK kvs)) ∧ R (Itk a o kvs) H) ∨ ∃ kvs, H a = some (.frz o (.dT kvs)) ∧ R (Itkt a o kvs) H)
  walk : ∀ {K : PySem.W.Frag} {G : Hp} {a : Addr} {o : Obj} {ps : List (κ × V)}, G a = some (.frz o (DKey.obj ps)) → WalkOf K (it a o ps) G (ps.map (·.1))
instance : DKeyC Int where
  hok _ _ _ := True
  copy _ := by
    rintro pins s σ H xs us Q I r ⟨a, ps, rfl, hd, _, q⟩
    exact call_dictD pins s σ H _ us Q I r ⟨a, _, rfl, hd, q⟩
  disp {X k v pos} hu := ⟨fun pins s σ H Q I q => (pe_disp (keys := [some k]) (values := [v]) (pps_cons pe_sem pe_sem pps_nil) rfl rfl (fun z => by cases z) (by show 1 ≤ 15; decide)).run pins s σ H Q I fun p hp =>
    tE_imp (q p hp) fun x H1 h => tE_imp h fun y H2 ⟨e, G, key, s2, r, q⟩ => ⟨e, [(Sum.inl key, y)], by rw [show x = V.int key from r]; rfl, by show 1 ≤ 15; decide, q⟩⟩
  it a o ps := Itk a o (ps.map fun p => (Sum.inl p.1, p.2))
  lift h r := .inl ⟨_, h, r⟩
  walk {K G a o ps} g := fun G' H' s1 s2 => by
    have e : H' a = some (.frz o (.dK (ps.map fun p => (Sum.inl p.1, p.2)))) := s2 _ _ (s1 _ _ g)
    refine ⟨fun i hi => ⟨e, by simpa using hi⟩, ⟨e, by simp⟩, fun i x v H'' hx y => ?_⟩
    obtain ⟨rfl, k, w, hk, rfl⟩ := y
    refine ⟨G', Ext.refl s2, ?_⟩
    rw [List.getElem?_map] at hx hk
    cases q : ps[i]? with
    | none => rw [q] at hx; cases hx
    | some p =>
      rw [q] at hx hk
      cases hx
      cases hk
      rfl
instance : DKeyC (Int × Int) where
  hok P w ks := (ks.map fun k => tupleKeyHash (mixKind P w) [Sum.inl k.1, Sum.inl k.2]).Nodup
  copy hu := by
    rintro pins s σ H xs us Q I r ⟨a, ps, rfl, hd, hh, q⟩
    refine cr_dictT hu pins s σ H _ us Q I r ⟨a, _, rfl, hd, ?_, q⟩
    rw [List.map_map] at hh ⊢
    exact hh
  disp {X k v pos} hu := ⟨fun pins s σ H Q I q => (pe_disp1T hu pe_sem pe_sem).run pins s σ H Q I fun p hp =>
    tE_imp (q p hp) fun x H1 h => tE_imp h fun y H2 ⟨e, G, key, s2, r, q⟩ => by
      obtain ⟨b, u, w, rfl, g, p1, p2⟩ := r
      have p1 : u = V.int key.1 := p1
      have p2 : w = V.int key.2 := p2
      subst p1 p2
      exact ⟨e, b, [Sum.inl key.1, Sum.inl key.2], rfl, s2 _ _ g, q⟩⟩
  it a o ps := Itkt a o (ps.map fun p => ([Sum.inl p.1.1, Sum.inl p.1.2], p.2))
  lift h r := .inr ⟨_, h, r⟩
  walk {K G a o ps} g := fun G' H' s1 s2 => by
    have e : H' a = some (.frz o (.dT (ps.map fun p => ([Sum.inl p.1.1, Sum.inl p.1.2], p.2)))) := s2 _ _ (s1 _ _ g)
    refine ⟨fun i hi => ⟨e, by simpa using hi⟩, ⟨e, by simp⟩, fun i x v H'' hx y => ?_⟩
    obtain ⟨rfl, k, w, q, hk, rfl, hq⟩ := y
    obtain ⟨G'', x2, _, g2⟩ := (Ext.refl s2).tup hq
    refine ⟨G'', x2, ?_⟩
    rw [List.getElem?_map] at hx hk
    cases z : ps[i]? with
    | none => rw [z] at hx; cases hx
    | some p =>
      rw [z] at hx hk
      cases hx
      cases hk
      exact ⟨q, _, _, rfl, g2, rfl, rfl⟩
section
variable {X : Cx} {σ : St} {G H : Hp} {P : PV} {e a b tg : Expr} {pos p p2 : Pos} {D : Ends} {κ α : Type} {r1 : Rep κ} {dk : DecidableEq κ} {k1 : DKey κ} {r2 : Rep α}
/-- a new thing is locked at once -/
theorem tE_lock {Q : VK} (h : tE X e σ H fun v H' => ∃ d u, v = .ref d ∧ H' d = some u ∧ Mut (some u) ∧ ∀ od, Q v (upd H' d (.frz od u))) : tE X e σ H Q := .mk fun pins s I => thn (h.run pins s I) fun _ _ ⟨v, H', I', r, d, u, _, hd, mu, q⟩ =>
  let ⟨od, I2⟩ := I'.lock hd mu; ⟨v, _, I2, r, q od⟩
/-- {k: v} -/
theorem ev_disp1 [kc : DKeyC κ] {x : κ} {y : α} (hu : X.A.units + 64 < cLine) (ha : Ev X a σ G H x) (hb : Ev X b σ G H y) : Ev X (.Dict [some a] [b] pos) σ G H (⟨[(x, y)]⟩ : Dct κ α) := fun G1 H1 x1 Q q =>
  tE_len (tE_lock <| .mk fun pins s I => (kc.disp hu).run pins s σ H1 _ I fun p hp => by
    have x2 : Ext G1 H1 G1 (upd H1 p (DKey.obj ([] : List (κ × V)))) := (Ext.refl x1.s).newH hp
    refine ha G1 _ (x1.trans x2) _ fun G3 H3 u x3 _ ru => hb G3 H3 ((x1.trans x2).trans x3) _ fun G4 H4 w x4 l4 rw' => ⟨x4.h _ _ (x3.h _ _ upd_same), G4, x, x4.s, up x4.g ru, p, DKey.obj [(x, w)], rfl, upd_same, DKey.isM _, fun od hl => ?_⟩
    have x5 := (x2.trans x3).trans x4
    have g4 : G4 p = none := (x3.trans x4).off (x1.s.free hp) (upd_same (H := H1) (a := p) (o := DKey.obj ([] : List (κ × V)))) fun xs z => by have := DKey.isM (κ := κ) []; rw [z] at this; exact this
    refine q (upd G4 p (.frz od (DKey.obj [(x, w)]))) _ _ (((x5.wr hp g4).wr hp g4).frz hp upd_same) hl ⟨p, od, [(x, w)], rfl, upd_same, .cons ⟨rfl, up (same_new g4) rw'⟩ .nil⟩)
/-- a dict that stands still -/
class AsLkd (K : PySem.W.Frag) (P : PV) (κ α : outParam Type) (r1 : outParam (Rep κ)) (dk : outParam (DecidableEq κ)) (k1 : outParam (DKey κ)) (r2 : outParam (Rep α)) (d : outParam (Dct κ α)) : Prop where
  lkd : ∀ G H v, P G H v → rep K G v d
instance {K : PySem.W.Frag} {d : Dct κ α} : AsLkd K (Is K d) κ α r1 dk k1 r2 d := ⟨fun _ _ _ h => h⟩
theorem pairD_keys {K : PySem.W.Frag} : ∀ {ps : List (κ × V)} {es : List (κ × α)}, PairD K G ps es → ps.map (·.1) = es.map (·.1)
  | _, _, .nil => rfl
  | _, _, .cons h t => by rw [List.map_cons, List.map_cons, pairD_keys t, h.1]
/-- for k in d -/
theorem ei_keys {d : Dct κ α} [kc : DKeyC κ] [A : AsLkd X.K P κ α r1 dk k1 r2 d] (h : EvP X e σ G H P) : EvI X tg e σ G H (d.kvs.map (·.1)) :=
  ⟨_, pi_keys pe_sem, fun G1 H1 x1 R r => h G1 H1 x1 _ fun G2 H2 v x2 l2 pv => by
    obtain ⟨a, o, ps, e, g, pr⟩ := A.lkd _ _ _ pv
    have hl : d.kvs.length ≤ sizeLine := by
      have z := l2 _ _ (x2.s _ _ g)
      rw [← paired_len pr, ← DKey.len ps]
      exact z
    exact ⟨a, o, e, kc.lift (x2.s _ _ g) (r _ G2 H2 x2 (by rw [List.length_map]; exact hl) (by rw [← pairD_keys pr]; exact kc.walk g))⟩⟩
/-- n = dict(e): a copy, the def's own -/
theorem s_dcopy {d : Dct κ α} [kc : DKeyC κ] [mc : MonoC P] [A : AsDct X.K P κ α r1 dk k1 r2 d] {i : Nat} {n : Str} {cp dp np : Pos} (hN : X.N.Nodup) (sl : Ss X i n) (B : Bl X "dict") (s0 : Same G H) (hu : X.A.units + 64 < cLine) (hok : kc.hok X.prog X.w (d.kvs.map (·.1))) (h : EvP X e σ G H P)
    (k : ∀ G1 H1 q, Ext G H G1 H1 → HLen H1 → H q = none → OwnD X.K G1 H1 q d → D.nx (σ.set i (some (.ref q))) H1) (he : starEach [e] X.env = (false, eval e X.env) :: starEach [] X.env := by rfl)
    (hs : swapsWith (.Call (.Name "dict" dp) [e] [] cp) (some (.Name n np)) pos.line X.env = pure false := by rfl) : tS X (.Assign [.Name n np] (.Call (.Name "dict" dp) [e] [] cp) pos) D σ H :=
  s_of (ps_set hN sl.hN sl.hx pe_sem hs sl.hf) (tE_lenF fun pins s I => (pe_callTy (kc.copy hu) B.g B.m PyProof.Rows.boot_dict (pa_cons pe_sem pa_nil he) (by decide) (by decide) he rfl).run pins s σ H _ I (h G H (Ext.refl s0) _ fun G1 H1 v x _ pv => by
    obtain ⟨a, ps, e, g, pr⟩ := A.dct _ _ _ x.s pv
    refine ⟨a, ps, by rw [e], g, by rw [pairD_keys pr]; exact hok, fun q hq l => ?_⟩
    exact k G1 _ q (x.newH hq) l (x.h.free hq) ⟨⟨ps, upd_same, pr⟩, x.s.free hq⟩))
end
/-- what such a dict's keys hash to -/
def hP (k : Int × Int) : Int := reduceHash (Builtin.Tuple.tupleHashOf [PySem.hashInt k.1, PySem.hashInt k.2])
def boxI (n m : Nat) : List (Int × Int) := (List.range n).flatMap fun (i : Nat) => (List.range m).map fun (j : Nat) => (Int.ofNat i, Int.ofNat j)
def nodupB : List Int → Bool
  | [] => true
  | x :: r => !r.contains x && nodupB r
theorem nodupB_nd : ∀ {l : List Int}, nodupB l = true → l.Nodup
  | [], _ => List.nodup_nil
  | x :: r, h => by
    simp only [nodupB, Bool.and_eq_true, Bool.not_eq_true'] at h
    exact List.nodup_cons.mpr ⟨fun z => (by have := List.contains_iff_mem.mpr z; rw [h.1] at this; cases this), nodupB_nd h.2⟩
theorem box_hash : ((boxI 16 8).map hP).Nodup := nodupB_nd (by decide +kernel)
theorem mem_boxI {n m : Nat} {k : Int × Int} (h1 : 0 ≤ k.1) (h2 : k.1 < n) (h3 : 0 ≤ k.2) (h4 : k.2 < m) : k ∈ boxI n m := by
  refine List.mem_flatMap.mpr ⟨k.1.toNat, List.mem_range.mpr (by omega), List.mem_map.mpr ⟨k.2.toNat, List.mem_range.mpr (by omega), ?_⟩⟩
  obtain ⟨a, b⟩ := k
  simp only at h1 h3 ⊢
  show (((a.toNat : Nat) : Int), ((b.toNat : Nat) : Int)) = (a, b)
  rw [Int.toNat_of_nonneg h1, Int.toNat_of_nonneg h3]
theorem nodup_inj {α β : Type} {f : α → β} : ∀ {l : List α}, (l.map f).Nodup → ∀ x ∈ l, ∀ y ∈ l, f x = f y → x = y
  | [], _, x, hx, _, _, _ => by cases hx
  | a :: r, h, x, hx, y, hy, e => by
    rw [List.map_cons, List.nodup_cons] at h
    rcases List.mem_cons.mp hx with e1 | hx
    · rcases List.mem_cons.mp hy with e2 | hy
      · rw [e1, e2]
      · rw [e1] at e
        exact absurd (e ▸ List.mem_map_of_mem hy) h.1
    · rcases List.mem_cons.mp hy with e2 | hy
      · rw [e2] at e
        exact absurd (e ▸ List.mem_map_of_mem hx) h.1
      · exact nodup_inj h.2 x hx y hy e
theorem nodup_map_on {α β : Type} {f : α → β} : ∀ {l : List α}, l.Nodup → (∀ x ∈ l, ∀ y ∈ l, f x = f y → x = y) → (l.map f).Nodup
  | [], _, _ => List.nodup_nil
  | a :: r, h, k => by
    rw [List.map_cons, List.nodup_cons]
    rw [List.nodup_cons] at h
    refine ⟨fun z => ?_, nodup_map_on h.2 fun x hx y hy => k x (List.mem_cons_of_mem _ hx) y (List.mem_cons_of_mem _ hy)⟩
    obtain ⟨y, hy, e⟩ := List.mem_map.mp z
    exact h.1 (k y (List.mem_cons_of_mem _ hy) a List.mem_cons_self e ▸ hy)
/-- keys of a small box, each once -/
structure Box (ks : List (Int × Int)) : Prop where
  nd : ks.Nodup
  bd : ∀ k ∈ ks, (0 ≤ k.1 ∧ k.1 < 16) ∧ 0 ≤ k.2 ∧ k.2 < 8
theorem Box.hok {P : Program} {w : World} {ks : List (Int × Int)} (h : Box ks) : DKeyC.hok (κ := Int × Int) P w ks :=
  nodup_map_on (f := hP) h.nd fun x hx y hy e =>
    have bx := h.bd x hx
    have by_ := h.bd y hy
    nodup_inj box_hash x (mem_boxI bx.1.1 bx.1.2 bx.2.1 bx.2.2) y (mem_boxI by_.1.1 by_.1.2 by_.2.1 by_.2.2) e
theorem nodup_sub_len {α : Type} [DecidableEq α] : ∀ {l m : List α}, l.Nodup → (∀ x ∈ l, x ∈ m) → l.length ≤ m.length
  | [], _, _, _ => Nat.zero_le _
  | a :: r, m, h, k => by
    rw [List.nodup_cons] at h
    have hm := k a List.mem_cons_self
    have := nodup_sub_len (l := r) (m := m.erase a) h.2 fun x hx => (List.mem_erase_of_ne (show x ≠ a from fun z => h.1 (by rw [← z]; exact hx))).mpr (k x (List.mem_cons_of_mem _ hx))
    rw [List.length_erase_of_mem hm] at this
    have : 0 < m.length := List.length_pos_of_mem hm
    rw [List.length_cons]
    omega
theorem Box.len {ks : List (Int × Int)} (h : Box ks) : ks.length ≤ 128 := nodup_sub_len (m := boxI 16 8) h.nd fun k hk => have b := h.bd k hk; mem_boxI b.1.1 b.1.2 b.2.1 b.2.2
theorem box_one : Box [((0 : Int), (0 : Int))] := ⟨by simp, fun k hk => by rw [List.mem_singleton.mp hk]; decide⟩
theorem dput_keys {κ α : Type} [DecidableEq κ] (kvs : List (κ × α)) (k : κ) (v : α) : (dput kvs k v).map (·.1) = if k ∈ kvs.map (·.1) then kvs.map (·.1) else kvs.map (·.1) ++ [k] := by
  unfold dput
  by_cases h : (kvs.any fun kv => decide (kv.1 = k)) = true
  · have hm : k ∈ kvs.map (·.1) := by
      obtain ⟨p, hp, e⟩ := List.any_eq_true.mp h
      exact List.mem_map.mpr ⟨p, hp, of_decide_eq_true e⟩
    rw [if_pos h, if_pos hm, List.map_map]
    refine List.map_congr_left fun p _ => ?_
    show (if p.1 = k then (p.1, v) else p).1 = p.1
    split <;> rfl
  · have hm : k ∉ kvs.map (·.1) := fun z => by
      obtain ⟨p, hp, e⟩ := List.mem_map.mp z
      exact h (List.any_eq_true.mpr ⟨p, hp, decide_eq_true e⟩)
    rw [if_neg h, if_neg hm, List.map_append]
    rfl
theorem Box.put {α : Type} {kvs : List ((Int × Int) × α)} {k : Int × Int} {v : α} (h : Box (kvs.map (·.1))) (hk : (0 ≤ k.1 ∧ k.1 < 16) ∧ 0 ≤ k.2 ∧ k.2 < 8) : Box ((dput kvs k v).map (·.1)) := by
  rw [dput_keys]
  split
  · exact h
  · rename_i hn
    refine ⟨?_, fun x hx => ?_⟩
    · rw [List.nodup_append]
      refine ⟨h.nd, List.nodup_cons.mpr ⟨by simp, List.nodup_nil⟩, fun a ha b hb z => ?_⟩
      rw [List.mem_singleton.mp hb] at z
      exact hn (z ▸ ha)
    · rcases List.mem_append.mp hx with hx | hx
      · exact h.bd x hx
      · rw [List.mem_singleton.mp hx]; exact hk
end RL

set_option Elab.async false
set_option linter.all false
set_option maxRecDepth 100000
set_option maxHeartbeats 4000000
/-! RG: an own list of own dicts; walks of d.items(); insert. -/
namespace RL
open PySem PySem.Spec PyProof.Rows L2 Rep
theorem gp_imp {α β : Type} {F F' : α → β → Prop} : ∀ {xs : List α} {ys : List β}, (∀ x ∈ xs, ∀ y, F x y → F' x y) → Paired F xs ys → Paired F' xs ys
  | _, _, _, .nil => .nil
  | _, _, h, .cons r t => .cons (h _ List.mem_cons_self _ r) (gp_imp (fun x hx => h x (List.mem_cons_of_mem _ hx)) t)
theorem gp_mem {α β : Type} {F : α → β → Prop} : ∀ {xs : List α} {ys : List β} {x : α}, Paired F xs ys → x ∈ xs → ∃ y, F x y
  | _, _, _, .nil, h => by cases h
  | _, _, _, .cons r t, h => by
    rcases List.mem_cons.mp h with rfl | h
    · exact ⟨_, r⟩
    · exact gp_mem t h
section
variable {κ α : Type} [Rep κ] [DecidableEq κ] [DKey κ] [Rep α] {K : PySem.W.Frag}
theorem OwnD.nl {d : Dct κ α} {G H : Hp} {q : Addr} (o : OwnD K G H q d) : ∀ xs, H q ≠ some (.lst xs) := fun xs z => by
  obtain ⟨ps, e, _⟩ := o.at_
  have l : IsD H q := DKey.isD (κ := κ) (ps := ps) (.inl e)
  rcases l with ⟨kvs, l | ⟨o, l⟩⟩ | ⟨kvs, l | ⟨o, l⟩⟩ <;> rw [z] at l <;> cases l
theorem OwnD.re2 {d : Dct κ α} {G H G' H' : Hp} {q : Addr} (o : OwnD K G H q d) (s : Same G G') (h : H' q = H q) (g : G' q = none) : OwnD K G' H' q d := let ⟨vs, e, p⟩ := o.at_; ⟨⟨vs, h.trans e, pairD_up s p⟩, g⟩
/-- a list of the def's own dicts, the def's own itself -/
structure OwnLD (K : PySem.W.Frag) (H0 G H : Hp) (p : Addr) (ds : List (Dct κ α)) : Prop where
  at_ : ∃ qs : List Addr, H p = some (.lst (qs.map V.ref)) ∧ Paired (fun q d => OwnD K G H q d) qs ds ∧ qs.Nodup ∧ ∀ q ∈ qs, H0 q = none
  off : G p = none
  nw : H0 p = none
variable {ds : List (Dct κ α)} {H0 G H G1 H1 Ha : Hp} {p : Addr}
theorem OwnLD.mono (o : OwnLD K H0 G H p ds) (x : Ext G H G1 H1) : OwnLD K H0 G1 H1 p ds := let ⟨qs, e, pr, nd, nw⟩ := o.at_; ⟨⟨qs, x.h _ _ e, gp_imp (fun _ _ _ r => r.mono x) pr, nd, nw⟩, x.off o.off e, o.nw⟩
theorem OwnLD.back (o : OwnLD K Ha G H p ds) (h : Same H0 Ha) : OwnLD K H0 G H p ds := let ⟨qs, e, pr, nd, nw⟩ := o.at_; ⟨⟨qs, e, pr, nd, fun q hq => h.free (nw q hq)⟩, o.off, h.free o.nw⟩
theorem OwnLD.ex (o : OwnLD K H0 G H p ds) : ∃ u, H p = some u := let ⟨_, e, _⟩ := o.at_; ⟨_, e⟩
/-- .. as it may be read -/
def LDAt (K : PySem.W.Frag) (ds : List (Dct κ α)) : PV := fun G H v => ∃ p qs, v = .ref p ∧ H p = some (.lst (qs.map V.ref)) ∧ Paired (fun q d => OwnD K G H q d) qs ds
instance : MonoC (LDAt K ds) := ⟨fun _ _ _ _ _ x ⟨p, qs, e, g, pr⟩ => ⟨p, qs, e, x.h _ _ g, gp_imp (fun _ _ _ r => r.mono x) pr⟩⟩
theorem OwnLD.pv (o : OwnLD K H0 G H p ds) : LDAt K ds G H (.ref p) := let ⟨qs, e, pr, _⟩ := o.at_; ⟨p, qs, rfl, e, pr⟩
theorem ld_set {G H : Hp} {o' : HO} {d' : Dct κ α} {q : Addr} {qs : List Addr} {ds : List (Dct κ α)} (pr : Paired (fun q d => OwnD K G H q d) qs ds) : ∀ {j : Nat}, qs.Nodup → qs[j]? = some q → OwnD K G (upd H q o') q d' → Paired (fun z d => OwnD K G (upd H q o') z d) qs (ds.set j d') := by
  induction pr with
  | nil => intro j _ h; simp at h
  | cons r t ih =>
    intro j nd h o
    have nd' := List.nodup_cons.mp nd
    cases j with
    | zero =>
      simp only [List.getElem?_cons_zero, Option.some.injEq] at h
      subst h
      exact .cons o (gp_imp (fun z hz d r => r.wr fun e => nd'.1 (by rw [← e]; exact hz)) t)
    | succ j =>
      have h' := List.mem_of_getElem? (show _ = some q by simpa using h)
      exact .cons (r.wr fun e => nd'.1 (by rw [e]; exact h')) (ih nd'.2 (by simpa using h) o)
/-! new dicts, new lists of new dicts -/
def EvND (X : Cx) (e : Expr) (σ : St) (G H : Hp) (d : Dct κ α) : Prop :=
  ∀ G1 H1, Ext G H G1 H1 → ∀ Q : VK, (∀ G2 H2 q, Ext G1 H1 G2 H2 → HLen H2 → H1 q = none → OwnD X.K G2 H2 q d → Q (.ref q) H2) → tE X e σ H1 Q
def EvLD (X : Cx) (e : Expr) (σ : St) (G H : Hp) (ds : List (Dct κ α)) : Prop :=
  ∀ G1 H1, Ext G H G1 H1 → ∀ Q : VK, (∀ G2 H2 p, Ext G1 H1 G2 H2 → HLen H2 → OwnLD X.K H1 G2 H2 p ds → Q (.ref p) H2) → tE X e σ H1 Q
end
section
variable {X : Cx} {σ : St} {G H H0 G0 : Hp} {P : PV} {e a b c tg : Expr} {es : List Expr} {pos : Pos} {D : Ends} {sts : List Stmt} {κ α : Type} {r1 : Rep κ} {dk : DecidableEq κ} {k1 : DKey κ} {r2 : Rep α} {d : Dct κ α} {ds ds2 : List (Dct κ α)} {p : Addr}
theorem ev_vLD {i : Nat} {n : Str} {np : Pos} (s : Sl X i n) (o : OwnLD X.K H0 G H p ds) (h : σ[i]? = some (some (.ref p)) := by rfl) : EvP X (.Name n np) σ G H (LDAt X.K ds) := ev_vP s o.pv h
/-- x[i], a dict of such a list -/
theorem ev_ixLD {i : Int} (h : EvP X a σ G H (LDAt X.K ds)) (hi : Ev X b σ G H i) (h0 : 0 ≤ i) (h1 : i < (ds.length : Int)) (hs : PlainIx b := by intro _ _; rfl) : EvP X (.Subscript a b pos) σ G H (DctAt X.K (ds.getD i.toNat ⟨[]⟩)) :=
  evP_of (pe_ix ix_list pe_sem pe_sem hs) (bin_go h hi fun G1 H1 v u x _ e1 e2 Q q => by
    obtain ⟨p, qs, e, g, pr⟩ := e1
    have hg : ds[i.toNat]? = some (ds.getD i.toNat ⟨[]⟩) := by
      rw [List.getD_eq_getElem?_getD, List.getElem?_eq_getElem (show i.toNat < ds.length by omega)]
      rfl
    obtain ⟨w, hw, o⟩ := paired_get pr hg
    refine ⟨p, _, i, .ref w, e, e2, .of g, ?_, q G1 H1 _ (Ext.refl x.s) o.pv⟩
    unfold atI
    rw [List.length_map, paired_len pr, ixN_of h0 h1]
    show (qs.map V.ref)[i.toNat]? = _
    rw [List.getElem?_map, hw]
    rfl)
/-- x[i][k] = v -/
theorem s_putLD {k : κ} {v : α} {i : Nat} {n : Str} {ix : Int} {sp sp2 np : Pos} (sl : Sl X i n) (hu : X.A.units + 1 < cLine) (s0 : Same G H) (o : OwnLD X.K H0 G H p ds) (hv : Ev X c σ G H v) (hi : Ev X a σ G H ix) (hk : Ev X b σ G H k) (h0 : 0 ≤ ix) (h1 : ix < (ds.length : Int))
    (hz : (ds.getD ix.toNat ⟨[]⟩).kvs.length < sizeLine)
    (kk : ∀ G1 H1 q o', Ext G H G1 H1 → HLen H1 → H0 q = none → G1 q = none → (∀ xs, H1 q ≠ some (.lst xs)) → OwnLD X.K H0 G1 (upd H1 q o') p (ds.set ix.toNat (⟨dput (ds.getD ix.toNat ⟨[]⟩).kvs k v⟩ : Dct κ α)) → D.nx σ (upd H1 q o')) (hq : σ[i]? = some (some (.ref p)) := by rfl) (hps : PlainIx a := by intro _ _; rfl)
    (hs : swapsWith c (some (.Subscript (.Subscript (.Name n np) a sp2) b sp)) pos.line X.env = pure false := by rfl) : tS X (.Assign [.Subscript (.Subscript (.Name n np) a sp2) b sp] c pos) D σ H := by
  refine s_of (ps_dput hu (pe_ix ix_list (pe_var sl.hN sl.hv sl.nm.hd sl.nm.hcd) pe_sem hps) pe_sem pe_sem hs) ?_
  refine hv G H (Ext.refl s0) _ fun G1 H1 w x1 _ rw' => ⟨_, hq, hi G1 H1 x1 _ fun G2 H2 u x2 _ ru => ?_⟩
  obtain ⟨qs, e, pr, nd, nw⟩ := (o.mono (x1.trans x2)).at_
  have hg : ds[ix.toNat]? = some (ds.getD ix.toNat ⟨[]⟩) := by
    rw [List.getD_eq_getElem?_getD, List.getElem?_eq_getElem (show ix.toNat < ds.length by omega)]
    rfl
  obtain ⟨q, hqq, oq⟩ := paired_get pr hg
  refine ⟨p, _, ix, .ref q, rfl, ru, .of e, ?_, ?_⟩
  · unfold atI
    rw [List.length_map, paired_len pr, ixN_of h0 h1]
    show (qs.map V.ref)[ix.toNat]? = _
    rw [List.getElem?_map, hqq]
    rfl
  · refine hk G2 H2 (x1.trans x2) _ fun G3 H3 y x3 l3 ry => ?_
    have oq3 := oq.mono x3
    obtain ⟨ps, eq, prq⟩ := oq3.at_
    have hpq : p ≠ q := fun z => oq3.nl _ (by rw [← z]; exact x3.h _ _ e)
    refine ⟨q, _, rfl, DKey.put (k := k) x3.s ry eq (by rw [paired_len prq]; exact hz), kk G3 H3 q _ ((x1.trans x2).trans x3) l3 (nw q (List.mem_of_getElem? hqq)) oq3.off oq3.nl ?_⟩
    refine ⟨⟨qs, by rw [upd_ne hpq]; exact x3.h _ _ e, ld_set (gp_imp (fun _ _ _ r => r.mono x3) pr) nd hqq ⟨⟨_, upd_same, pairD_put (k := k) prq (up (x2.trans x3).g rw')⟩, oq3.off⟩, nd, nw⟩, (o.mono ((x1.trans x2).trans x3)).off, o.nw⟩
theorem evND_of {t : TE} (hp : PE X e t) (k : ∀ G1 H1, Ext G H G1 H1 → ∀ Q : VK, (∀ G2 H2 q, Ext G1 H1 G2 H2 → H1 q = none → OwnD X.K G2 H2 q d → Q (.ref q) H2) → t σ H1 Q) : EvND X e σ G H d :=
  fun G1 H1 x1 _ q => tE_lenF fun pins s I => hp.run pins s σ H1 _ I (k G1 H1 x1 _ fun G2 H2 a x n o hl => q G2 H2 a x hl n o)
theorem evLD_of {t : TE} (hp : PE X e t) (k : ∀ G1 H1, Ext G H G1 H1 → ∀ Q : VK, (∀ G2 H2 p, Ext G1 H1 G2 H2 → OwnLD X.K H1 G2 H2 p ds → Q (.ref p) H2) → t σ H1 Q) : EvLD X e σ G H ds :=
  fun G1 H1 x1 _ q => tE_lenF fun pins s I => hp.run pins s σ H1 _ I (k G1 H1 x1 _ fun G2 H2 a x o hl => q G2 H2 a x hl o)
/-- dict(d) -/
theorem evND_copy [kc : DKeyC κ] [mc : MonoC P] [A : AsDct X.K P κ α r1 dk k1 r2 d] {dp : Pos} (B : Bl X "dict") (hu : X.A.units + 64 < cLine) (hok : kc.hok X.prog X.w (d.kvs.map (·.1))) (h : EvP X e σ G H P)
    (he : starEach [e] X.env = (false, eval e X.env) :: starEach [] X.env := by rfl) : EvND X (.Call (.Name "dict" dp) [e] [] pos) σ G H d :=
  evND_of (pe_callTy (kc.copy hu) B.g B.m PyProof.Rows.boot_dict (pa_cons pe_sem pa_nil he) (by decide) (by decide) he rfl) fun G1 H1 x1 Q q => h G1 H1 x1 _ fun G2 H2 v x _ pv => by
    obtain ⟨a, ps, e, g, pr⟩ := A.dct _ _ _ x.s pv
    exact ⟨a, ps, by rw [e], g, by rw [pairD_keys pr]; exact hok, fun p hp => q G2 _ p (x.newH hp) (x.h.free hp) ⟨⟨ps, upd_same, pr⟩, x.s.free hp⟩⟩
/-- {} -/
theorem evND_nil : EvND X (.Dict [] [] pos) σ G H (⟨[]⟩ : Dct κ α) :=
  evND_of (DKey.new (κ := κ)) fun G1 H1 x1 Q q p hp => q G1 _ p ((Ext.refl x1.s).newH hp) hp ⟨⟨[], upd_same, .nil⟩, x1.s.free hp⟩
/-- [d] -/
theorem evLD_one (h : EvND X e σ G H d) (he : starEach [e] X.env = (false, eval e X.env) :: starEach [] X.env := by rfl) : EvLD X (.List [e] pos) σ G H [d] :=
  evLD_of (pe_lst (pa_cons pe_sem pa_nil he)) fun G1 H1 x1 Q k => h G1 H1 x1 _ fun G2 H2 q x2 _ hq ow => by
    refine ⟨by show 1 ≤ sizeLine; rw [sizeLine_eq]; decide, fun a ha => ?_⟩
    have hne : q ≠ a := fun z => by obtain ⟨u, hu⟩ := ow.ex; rw [z, ha] at hu; cases hu
    refine k _ _ a (x2.newH ha) ⟨⟨[q], upd_same, .cons (ow.wr hne) .nil, List.nodup_cons.mpr ⟨by simp, List.nodup_nil⟩, fun z hz => by rw [List.mem_singleton.mp hz]; exact hq⟩, x2.s.free ha, x2.h.free ha⟩
/-- a + b -/
theorem evLD_cat (ha : EvLD X a σ G H ds) (hb : EvLD X b σ G H ds2) (hl : ds.length + ds2.length ≤ sizeLine) : EvLD X (.BinOp a .Add b pos) σ G H (ds ++ ds2) :=
  evLD_of (pe_op op_cat pe_sem pe_sem) fun G1 H1 x1 Q k => ha G1 H1 x1 _ fun G2 H2 p1 x2 _ o1 => hb G2 H2 (x1.trans x2) _ fun G3 H3 p2 x3 _ o2 => by
    obtain ⟨qs1, e1, pr1, nd1, nw1⟩ := o1.at_
    obtain ⟨qs2, e2, pr2, nd2, nw2⟩ := o2.at_
    refine ⟨p1, p2, _, _, rfl, rfl, x3.h _ _ e1, e2, by rw [List.length_map, List.length_map, paired_len pr1, paired_len pr2]; exact hl, fun p hp => ?_⟩
    have x4 := x2.trans x3
    have w1 : Paired (fun q d => OwnD X.K G3 (upd H3 p (.lst (qs1.map V.ref ++ qs2.map V.ref))) q d) qs1 ds := gp_imp (fun q hq d r => (r.mono x3).wr fun z => by
      obtain ⟨u, hu⟩ := (r.mono x3).ex
      rw [z, hp] at hu; cases hu) pr1
    have w2 : Paired (fun q d => OwnD X.K G3 (upd H3 p (.lst (qs1.map V.ref ++ qs2.map V.ref))) q d) qs2 ds2 := gp_imp (fun q hq d r => r.wr fun z => by
      obtain ⟨u, hu⟩ := r.ex
      rw [z, hp] at hu; cases hu) pr2
    refine k G3 _ p (x4.newH hp) ⟨⟨qs1 ++ qs2, by rw [List.map_append]; exact upd_same, paired_app w1 w2, ?_, fun q hq => ?_⟩, x4.s.free hp, x4.h.free hp⟩
    · rw [List.nodup_append]
      refine ⟨nd1, nd2, fun a ha b hb z => ?_⟩
      obtain ⟨d1, r1⟩ := gp_mem pr1 ha
      obtain ⟨u, hu⟩ := r1.ex
      rw [z, nw2 b hb] at hu
      cases hu
    · rcases List.mem_append.mp hq with hq | hq
      · exact nw1 q hq
      · exact x2.h.free (nw2 q hq)
theorem ld_goP {β : Type} [Rep β] {elt : Expr} {scope : Scope} {xs : List β} {f : β → Dct κ α} {vs : List Nat} {i : Nat} {wi : TI}
    (hi : ∀ G1 H1, Ext G H G1 H1 → ∀ R : It → Hp → Prop, (∀ J G2 H2, Ext G1 H1 G2 H2 → xs.length ≤ sizeLine → WalkOf X.K J G2 xs → R J H2) → wi σ H1 R) (hw : ∀ v, wipe ((wipe σ vs).set i (some v)) vs = wipe σ vs)
    (he : ∀ x v G1 H1, x ∈ xs → Ext G H G1 H1 → rep X.K G1 v x → ∀ s H0 C cl fp, EvND (InB X scope s H0 C cl fp) elt ((wipe σ vs).set i (some v)) G1 H1 (f x)) :
    ∀ G1 H1, Ext G H G1 H1 → ∀ Q : VK, (∀ G2 H2 p, Ext G1 H1 G2 H2 → OwnLD X.K H1 G2 H2 p (xs.map f) → Q (.ref p) H2) → tLc wi (gName i) (lcT X scope []) (lcE X scope elt) vs σ H1 Q := by
  intro G1 H1 x1 Q k
  refine hi G1 H1 x1 _ fun J G2 H2 x2 hl hwk Dd hD => ?_
  have hD1 : H1 Dd = none := x2.h.free hD
  let Pv : Nat → Hp → Prop := fun n H' => ∃ G' qs, Ext G1 H1 G' H' ∧ Same G2 G' ∧ G' Dd = none ∧ H' Dd = some (.lst (qs.map V.ref)) ∧ qs.length = n ∧ Paired (fun q d => OwnD X.K G' H' q d) qs ((xs.take n).map f) ∧ qs.Nodup ∧ ∀ q ∈ qs, H1 q = none
  refine ⟨fun n m H' => m = xs.length - n ∧ n ≤ xs.length ∧ Pv n H', ⟨xs.length, rfl, Nat.zero_le _, G2, [], x2.newH hD, Same.refl _, x2.s.free hD, upd_same, rfl, .nil, List.nodup_nil, fun z hz => by cases hz⟩, ?_⟩
  rintro n m H' ⟨rfl, hn, G', qs, x', sg, gD, eD, hq, pr, nd, nw⟩
  obtain ⟨go, stop, yld⟩ := hwk G' H' sg x'.s
  by_cases hlt : n < xs.length
  · have hx : xs[n]? = some xs[n] := List.getElem?_eq_getElem hlt
    refine .inr ⟨go n hlt, Pv (n + 1), fun H'' z => ⟨_, by omega, rfl, hlt, z⟩, fun v H'' y => ?_⟩
    obtain ⟨G'', x'', rv⟩ := yld n _ v H'' hx y
    have gD2 : G'' Dd = none := x''.off gD eD
    have eD2 := x''.h _ _ eD
    refine ⟨hw v, fun s H0 C cl fp pins s' I => pts_nil.run pins s' _ H'' _ I fun s1 H01 C1 cl1 fp1 => ?_⟩
    refine he _ v G'' H'' (List.getElem_mem hlt) (x1.trans (x'.trans x'')) rv s1 H01 C1 cl1 fp1 G'' H'' (Ext.refl x''.s) _ fun G3 H3 q x3 _ hq0 oq => ?_
    have x03 := x''.trans x3
    have eD3 := x3.h _ _ eD2
    have gD3 : G3 Dd = none := x3.off gD2 eD2
    have hqD : q ≠ Dd := fun z => by rw [z, eD2] at hq0; cases hq0
    have hqn : q ∉ qs := fun z => by
      obtain ⟨d0, r0⟩ := gp_mem pr z
      obtain ⟨u, hu⟩ := (r0.mono x'').ex
      rw [hq0] at hu; cases hu
    have xx : Ext G1 H1 G3 H3 := (x'.trans x'').trans x3
    have ek : (xs.take (n + 1)).map f = (xs.take n).map f ++ [f xs[n]] := by rw [List.take_add_one, hx, List.map_append]; rfl
    have w1 : Paired (fun z d => OwnD X.K G3 (upd H3 Dd (.lst (qs.map V.ref ++ [V.ref q]))) z d) qs ((xs.take n).map f) := gp_imp (fun q' hq' d r => (r.mono x03).wr fun z => (r.mono x03).nl _ (by rw [z]; exact eD3)) pr
    refine ⟨qs.map V.ref, eD3, by rw [List.length_map, hq]; exact Nat.lt_of_lt_of_le hlt hl, G3, qs ++ [q], xx.wr hD1 gD3, sg.trans x03.g, gD3, by rw [List.map_append]; exact upd_same, by rw [List.length_append, hq]; rfl, ?_, ?_, fun z hz => ?_⟩
    · rw [ek]
      exact paired_app w1 (.cons (oq.wr hqD) .nil)
    · rw [List.nodup_append]
      refine ⟨nd, List.nodup_cons.mpr ⟨by simp, List.nodup_nil⟩, fun a ha b hb z => ?_⟩
      rw [List.mem_singleton.mp hb] at z
      exact hqn (z ▸ ha)
    · rcases List.mem_append.mp hz with hz | hz
      · exact nw z hz
      · rw [List.mem_singleton.mp hz]; exact (x'.trans x'').h.free hq0
  · have e : n = xs.length := by omega
    subst e
    rw [List.take_length] at pr
    exact .inl ⟨stop, k G' H' Dd x' ⟨⟨qs, eD, pr, nd, nw⟩, gD, hD1⟩⟩
/-- [dict(..) for n in iter] -/
theorem evLD_lc {β : Type} [Rep β] {elt iter : Expr} {scope : Scope} {xs : List β} {n : Str} {np : Pos} {i : Nat} (f : β → Dct κ α) (hc : X.calm = true) (hN : X.N.Nodup) (hi : EvI X (.Name n np) iter σ G H xs) (own : List (Str × Nat)) (ok : BlkOk X.N X.env.scope scope own)
    (hg : ∀ (s : Shared) (H : Hp) (C : Addr) (cl : List (Str × Addr)) (fp : List Addr), PG (X.blk s H scope (compEnvC scope cl C X.env) fp) (.Name n np) (gName i))
    (he : ∀ x v G1 H1, x ∈ xs → Ext G H G1 H1 → rep X.K G1 v x → ∀ s H0 C cl fp, EvND (InB X scope s H0 C cl fp) elt ((wipe σ (own.map (·.2))).set i (some v)) G1 H1 (f x))
    (hw : ∀ v, wipe ((wipe σ (own.map (·.2))).set i (some v)) (own.map (·.2)) = wipe σ (own.map (·.2)) := by intro _; rfl) (hs : ∀ x, foldedSetIterable iter X.env x = pure x := by intro _; rfl) :
    EvLD X (.ListComp elt [⟨.Name n np, iter, [], 0⟩] scope pos) σ G H (xs.map f) := by
  obtain ⟨wi, pi, hi⟩ := hi
  exact evLD_of (pe_lc hc hN pi ok hg pts_lc pe_lcE hs) (ld_goP hi hw he)
/-- n = such a list -/
theorem s_setLD {i : Nat} {n : Str} {np : Pos} (hN : X.N.Nodup) (sl : Ss X i n) (s0 : Same G H) (h : EvLD X e σ G H ds) (k : ∀ G1 H1 p, Ext G H G1 H1 → HLen H1 → OwnLD X.K H G1 H1 p ds → D.nx (σ.set i (some (.ref p))) H1)
    (hs : swapsWith e (some (.Name n np)) pos.line X.env = pure false := by rfl) : tS X (.Assign [.Name n np] e pos) D σ H :=
  s_of (ps_set hN sl.hN sl.hx pe_sem hs sl.hf) (h G H (Ext.refl s0) _ fun G1 H1 p x l o => k G1 H1 p x l o)
theorem ld_lockL : ∀ {qs : List Addr} {ds : List (Dct κ α)} {G H : Hp}, Paired (fun q d => OwnD X.K G H q d) qs ds → qs.Nodup → (∀ q ∈ qs, H0 q = none) → Ext G0 H0 G H →
    (∀ G' H', Ext G0 H0 G' H' → Same G G' → (∀ b, b ∉ qs → H' b = H b ∧ G' b = G b) → Paired (fun q d => rep X.K G' (.ref q) d) qs ds → tSs X sts D σ H') → tSs X sts D σ H
  | _, _, G, H, .nil, _, _, x0, k => k G H x0 (Same.refl _) (fun _ _ => ⟨rfl, rfl⟩) .nil
  | _, _, G, H, .cons r t, nd, nw, x0, k => by
    rename_i q d qs ds
    have nd' := List.nodup_cons.mp nd
    refine OwnD.lock r x0 (nw q List.mem_cons_self) fun u x1 r1 => ?_
    refine ld_lockL (gp_imp (fun z hz d' rz => ?_) t) nd'.2 (fun z hz => nw z (List.mem_cons_of_mem _ hz)) x1 fun G' H' x2 sg keep pr => ?_
    · have hne : z ≠ q := fun c => nd'.1 (c ▸ hz)
      exact rz.re2 (same_new r.off) (upd_ne hne) ((upd_ne hne).trans rz.off)
    · refine k G' H' x2 ((same_new r.off).trans sg) (fun b hb => ?_) (.cons (up sg r1) pr)
      have hb1 : b ≠ q := fun c => hb (c ▸ List.mem_cons_self)
      obtain ⟨e1, e2⟩ := keep b fun c => hb (List.mem_cons_of_mem _ c)
      exact ⟨e1.trans (upd_ne hb1), e2.trans (upd_ne hb1)⟩
theorem refs_up {K : PySem.W.Frag} {G' G'' : Hp} (ss : Same G' G'') : ∀ {qs : List Addr} {ds : List (Dct κ α)}, Paired (fun q d => rep K G' (.ref q) d) qs ds → Paired (rep K G'') (qs.map V.ref) ds
  | _, _, .nil => .nil
  | _, _, .cons r t => .cons (up ss r) (refs_up ss t)
/-- .. from now on as it is -/
theorem OwnLD.lock (o : OwnLD X.K H0 G H p ds) (x0 : Ext G0 H0 G H)
    (k : ∀ G' H', Ext G0 H0 G' H' → Same G G' → (∀ {β : Type} [Rep β] {q : Addr} {xs : List β}, q ≠ p → Own X.K G H q xs → Own X.K G' H' q xs) → rep X.K G' (.ref p) ds → tSs X sts D σ H') : tSs X sts D σ H := by
  obtain ⟨qs, e, pr, nd, nw⟩ := o.at_
  refine ld_lockL pr nd nw x0 fun G' H' x1 sg keep pr' => ?_
  have np : p ∉ qs := fun z => by
    obtain ⟨d, r⟩ := gp_mem pr z
    exact r.nl _ e
  obtain ⟨e1, e2⟩ := keep p np
  have hp : G' p = none := e2.trans o.off
  have ss : Same G' (upd G' p (.lst (qs.map V.ref))) := same_new hp
  refine k (upd G' p (.lst (qs.map V.ref))) H' (x1.frz o.nw (e1.trans e)) (sg.trans ss) (fun {β _ q xs} hne oq => ?_) ⟨p, qs.map V.ref, rfl, upd_same, ?_⟩
  · obtain ⟨vs, eq, prq⟩ := oq.at_
    have nq : q ∉ qs := fun z => by
      obtain ⟨d, r⟩ := gp_mem pr z
      exact r.nl _ eq
    obtain ⟨f1, f2⟩ := keep q nq
    exact ⟨⟨vs, f1.trans eq, pair_up (sg.trans ss) prq⟩, by rw [upd_ne hne]; exact f2.trans oq.off⟩
  · exact refs_up ss pr'
/-- for k, v in d.items() -/
theorem ei_items {d : Dct Int α} {elts : List Expr} {kk : Nat} {tpos ap cp : Pos} [A : AsLkd X.K P Int α instRepInt inferInstance inferInstance r2 d] (h : EvP X e σ G H P) (hbase : attributeBase e "items" X.env (eval e X.env) = eval e X.env := by rfl) (hline : (ap.endLine == cp.line) = true := by rfl) : EvI X (.Tuple elts kk tpos) (.Call (.Attribute e "items" ap) [] [] cp) σ G H d.kvs :=
  ⟨_, pi_items pe_sem hbase hline, fun G1 H1 x1 R r => h G1 H1 x1 _ fun G2 H2 v x2 l2 pv => by
    obtain ⟨a, o, ps, e, g, pr⟩ := A.lkd _ _ _ pv
    have hl : d.kvs.length ≤ sizeLine := by
      have z := l2 _ _ (x2.s _ _ g)
      rw [← paired_len pr, ← DKey.len ps]
      exact z
    refine ⟨a, o, _, e, x2.s _ _ g, r _ G2 H2 x2 hl fun G' H' s1 s2 => ?_⟩
    have eq : H' a = some (.frz o (.dK (ps.map fun p => (Sum.inl p.1, p.2)))) := s2 _ _ (s1 _ _ g)
    refine ⟨fun i hi => ⟨eq, by rw [List.length_map, paired_len pr]; exact hi⟩, ⟨eq, by rw [List.length_map, paired_len pr]; exact Nat.le_refl _⟩, fun i x v H'' hx y => ?_⟩
    obtain ⟨z, hz, e1, rz⟩ := paired_get pr hx
    obtain ⟨T, kv, w, hk, rfl, hT, rfl⟩ := y
    rw [List.getElem?_map, hz] at hk
    cases hk
    obtain ⟨x1, x2⟩ := x
    have e1 : z.1 = x1 := e1
    exact pair_new (x := x1) (y := x2) (K := X.K) s2 hT (by rw [← e1]; rfl) (up s1 rz)⟩
/-- x.insert(0, y) -/
theorem s_insert0 {β : Type} [Rep β] {xs : List β} {y : β} {i : Nat} {n : Str} {q : Addr} {kk : Nat} {ap cp np p0 : Pos} (sl : Sl X i n) (s0 : Same G H) (o : Own X.K G H q xs) (h : Ev X e σ G H y) (hz : xs.length < sizeLine)
    (k : ∀ G1 H1 vs', Ext G H G1 H1 → HLen H1 → Own X.K G1 (upd H1 q (.lst vs')) q (y :: xs) → D.nx σ (upd H1 q (.lst vs'))) (h0 : σ[i]? = some (some (.ref q)) := by rfl)
    (hbase : attributeBase (.Name n np) "insert" X.env (eval (.Name n np) X.env) = eval (.Name n np) X.env := by rfl)
    (hfew : ((backTo cp (starEach [.Constant (.int 0) kk p0, e] X.env)).all (fun x => !x.1) && (backToKw cp (keywordEach [] X.env)).all (fun x => x.1.isSome)
      && decide ([.Constant (.int 0) kk p0, e].length + ([] : List Keyword).length + (if ([] : List Keyword).isEmpty then 0 else 1) < 30)) = true := by rfl)
    (hline : (ap.endLine == cp.line) = true := by rfl) (he : starEach [.Constant (.int 0) kk p0, e] X.env = (false, eval (.Constant (.int 0) kk p0) X.env) :: starEach [e] X.env := by rfl) (he2 : starEach [e] X.env = (false, eval e X.env) :: starEach [] X.env := by rfl)
    (hplain : (backTo cp (starEach [e] X.env)).any (·.1) = false := by rfl)
    (hsw : swapsWith (.Call (.Attribute (.Name n np) "insert" ap) [.Constant (.int 0) kk p0, e] [] cp) none pos.line X.env = pure false := by rfl) :
    tS X (.Expr (.Call (.Attribute (.Name n np) "insert" ap) [.Constant (.int 0) kk p0, e] [] cp) pos) D σ H := by
  obtain ⟨vs, eq, pr⟩ := o.at_
  refine s_of (ps_expr (pe_bm PySem.F.plainAttrs_list PySem.F.slot_list_insert PySem.F.type_list_insert mt_insert (pe_var sl.hN sl.hv sl.nm.hd sl.nm.hcd) (pa_cons pe_sem (pa_cons pe_sem pa_nil he2) he) hbase hfew hline he hplain) hsw) ?_
  refine ⟨_, h0, .inl ⟨rfl, _, SqL.of eq⟩, (ev_int (σ := σ) (G := G) (H := H) : Ev X (.Constant (.int 0) kk p0) σ G H (0 : Int)) G H (Ext.refl s0) _ fun G1 H1 w0 x1 _ r0 => h G1 H1 x1 _ fun G2 H2 w x2 l2 rw' => ?_⟩
  obtain ⟨vs, eq, pr⟩ := (o.mono (x1.trans x2)).at_
  have r0 : w0 = V.int 0 := r0
  subst r0
  refine ⟨q, vs, 0, w, rfl, rfl, eq, by rw [paired_len pr]; exact hz, by decide, by decide, ?_⟩
  show D.nx σ (upd H2 q (.lst ([] ++ [w] ++ vs)))
  exact k G2 H2 _ (x1.trans x2) l2 ⟨⟨_, upd_same, .cons rw' pr⟩, (o.mono (x1.trans x2)).off⟩
/-! sorted(d), dict(pairs): int keys -/
theorem rd_dk {ps : List (Int × V)} {a : Addr} (g : Rd H a (DKey.obj ps)) : Rd H a (.dK (ps.map fun p => (Sum.inl p.1, p.2))) := g
theorem evN_sortedDI {p : Pos} {d : Dct Int α} [mc : MonoC P] [A : AsDct X.K P Int α instRepInt inferInstance inferInstance r2 d] (hc : X.calm = true) (B : Bl X "sorted") (h64 : d.kvs.length < 64) (h : EvP X e σ G H P) (he : starEach [e] X.env = (false, eval e X.env) :: starEach [] X.env := by rfl) :
    EvN X (.Call (.Name "sorted" p) [e] [] pos) σ G H (Is X.K (isort (d.kvs.map (·.1)))) :=
  evN_of (pe_callB (call_sortedDI hc) B.g B.m PyProof.Rows.boot_sorted (pa_cons pe_sem pa_nil he) (by decide) (by decide) he rfl) fun G1 H1 x1 Q q => h G1 H1 x1 _ fun G2 H2 v x2 _ pv => by
    obtain ⟨a, ps, e, g, pr⟩ := A.dct _ _ _ x2.s pv
    refine ⟨a, _, d.kvs.map (·.1), by rw [e], rd_dk g, ?_, by rw [List.length_map]; exact h64, fun ns' p perm srt hp => ?_⟩
    · rw [← pairD_keys pr, List.map_map, List.map_map]
      rfl
    have e : ns' = isort (d.kvs.map (·.1)) := sorted_one (perm.trans (isort_perm _).symm) srt (isort_sorted _)
    subst e
    exact q (upd G2 p (.lst _)) _ _ (x2.new hp) ⟨p, _, rfl, upd_same, ints_paired _⟩ fun p' e => by cases e; exact x2.h.free hp
theorem ev_sortedDI {p : Pos} {d : Dct Int α} [mc : MonoC P] [A : AsDct X.K P Int α instRepInt inferInstance inferInstance r2 d] (hc : X.calm = true) (B : Bl X "sorted") (h64 : d.kvs.length < 64) (h : EvP X e σ G H P) (he : starEach [e] X.env = (false, eval e X.env) :: starEach [] X.env := by rfl) :
    Ev X (.Call (.Name "sorted" p) [e] [] pos) σ G H (isort (d.kvs.map (·.1))) := (evN_sortedDI hc B h64 h he).ev
theorem Own.ne_nl {β : Type} [Rep β] {K : PySem.W.Frag} {q q' : Addr} {xs : List β} (o : Own K G H q' xs) (h : ∀ xs, H q ≠ some (.lst xs)) : q' ≠ q := fun z => let ⟨vs, e, _⟩ := o.at_; h vs (by rw [← z]; exact e)
def dmerge {κ α : Type} [DecidableEq κ] (xs : List (κ × α)) : List (κ × α) := xs.foldl (fun acc kv => dput acc kv.1 kv.2) []
theorem merge_pair {K : PySem.W.Frag} : ∀ {ps : List (Int × V)} {xs : List (Int × α)} {qs : List (Int × V)} {ys : List (Int × α)}, PairD K G ps xs → PairD K G qs ys →
    ∃ rs : List (Int × V), mergeK (qs.map fun p => ((Sum.inl p.1 : Key), p.2)) (ps.map fun p => (Sum.inl p.1, p.2)) = rs.map (fun p => (Sum.inl p.1, p.2)) ∧ PairD K G rs (xs.foldl (fun acc kv => dput acc kv.1 kv.2) ys)
  | [], [], qs, ys, .nil, h => ⟨qs, rfl, h⟩
  | p :: ps, x :: xs, qs, ys, .cons r t, h => by
    have e1 : p.1 = x.1 := r.1
    obtain ⟨rs, e, pr⟩ := merge_pair (qs := putK qs p.1 p.2) (ys := dput ys x.1 x.2) t (by rw [e1]; exact pairD_put h r.2)
    refine ⟨rs, ?_, pr⟩
    rw [← e]
    show mergeK (putK (qs.map fun p => ((Sum.inl p.1 : Key), p.2)) (Sum.inl p.1) p.2) _ = _
    rw [map_put (f := (Sum.inl : Int → Key)) (fun _ _ => Sum.inl.inj) qs p.1 p.2]
theorem unpairs {K : PySem.W.Frag} {H : Hp} (s : Same G H) : ∀ {us : List V} {xs : List (Int × α)}, Paired (rep K G) us xs → ∃ (qs : List Addr) (ps : List (Int × V)), us = qs.map V.ref ∧ PairD K G ps xs ∧ Paired (fun p (kv : Key × V) => SqT K H p [kV kv.1, kv.2]) qs (ps.map fun p => (Sum.inl p.1, p.2))
  | _, _, .nil => ⟨[], [], rfl, .nil, .nil⟩
  | _, _, .cons r t => by
    obtain ⟨qs, ps, e1, e2, e3⟩ := unpairs s t
    obtain ⟨q, u, w, e, g, p1, p2⟩ := r
    have p1 : u = V.int _ := p1
    refine ⟨q :: qs, (_, w) :: ps, by rw [e, e1]; rfl, .cons ⟨rfl, p2⟩ e2, .cons (.of ?_) e3⟩
    rw [s _ _ g, p1]
    rfl
/-- dict(e), e a list of pairs (int, ..) -/
theorem evND_pairs {p : Pos} {xs : List (Int × α)} [mc : MonoC P] [S : AsSeq X.K P (Int × α) instRepProd xs] (hc : X.calm = true) (B : Bl X "dict") (h : EvP X e σ G H P) (he : starEach [e] X.env = (false, eval e X.env) :: starEach [] X.env := by rfl) :
    EvND X (.Call (.Name "dict" p) [e] [] pos) σ G H (⟨dmerge xs⟩ : Dct Int α) :=
  evND_of (pe_callTy (call_dictP hc) B.g B.m PyProof.Rows.boot_dict (pa_cons pe_sem pa_nil he) (by decide) (by decide) he rfl) fun G1 H1 x1 Q q => h G1 H1 x1 _ fun G2 H2 v x _ pv => by
    obtain ⟨a, us, e, g, pr⟩ := S.seq _ _ _ x.s pv
    obtain ⟨qs, ps, e1, e2, e3⟩ := unpairs x.s pr
    obtain ⟨rs, e4, e5⟩ := merge_pair (G := G2) (qs := []) (ys := []) e2 .nil
    refine ⟨a, qs, _, by rw [e], by rw [← e1]; exact g, e3, fun p hp => ?_⟩
    rw [show mergeK [] (ps.map fun p => ((Sum.inl p.1 : Key), p.2)) = _ from e4]
    exact q G2 _ p (x.newH hp) (x.h.free hp) ⟨⟨rs, upd_same, e5⟩, x.s.free hp⟩
/-- n = a new dict, the def's own -/
theorem s_setND {i : Nat} {n : Str} {np : Pos} (hN : X.N.Nodup) (sl : Ss X i n) (s0 : Same G H) (h : EvND X e σ G H d) (k : ∀ G1 H1 q, Ext G H G1 H1 → HLen H1 → H q = none → OwnD X.K G1 H1 q d → D.nx (σ.set i (some (.ref q))) H1)
    (hs : swapsWith e (some (.Name n np)) pos.line X.env = pure false := by rfl) : tS X (.Assign [.Name n np] e pos) D σ H :=
  s_of (ps_set hN sl.hN sl.hx pe_sem hs sl.hf) (h G H (Ext.refl s0) _ fun G1 H1 q x l n o => k G1 H1 q x l n o)
end
end RL

set_option Elab.async false
set_option linter.all false
set_option maxRecDepth 100000
set_option maxHeartbeats 4000000
namespace RL
open PySem PySem.Spec PyProof.Rows L2 Rep
section
variable {X : Cx} {σ : St} {G H : Hp} {P Pa Pb : PV} {e a b c : Expr} {es : List Expr} {pos p : Pos}
theorem ev_lcount {xs : List Int} {i : Int} {ap cp : Pos} [m : MonoC P] [s : AsSeq X.K P Int instRepInt xs] (h : EvP X a σ G H P) (hi : Ev X b σ G H i)
    (hbase : attributeBase a "count" X.env (eval a X.env) = eval a X.env := by rfl)
    (hfew : ((backTo cp (starEach [b] X.env)).all (fun x => !x.1) && (backToKw cp (keywordEach [] X.env)).all (fun x => x.1.isSome)
      && decide ([b].length + ([] : List Keyword).length + (if ([] : List Keyword).isEmpty then 0 else 1) < 30)) = true := by rfl)
    (hline : (ap.endLine == cp.line) = true := by rfl) (he : starEach [b] X.env = (false, eval b X.env) :: starEach [] X.env := by rfl) (hplain : (backTo cp (starEach [] X.env)).any (·.1) = false := by rfl) :
    Ev X (.Call (.Attribute a "count" ap) [b] [] cp) σ G H ((xs.count i : Nat) : Int) :=
  evP_of (pe_bm PySem.F.plainAttrs_list PySem.F.slot_list_count PySem.F.type_list_count mt_lcount pe_sem (pa_cons pe_sem pa_nil he) hbase hfew hline he hplain) fun G1 H1 x1 Q q => h G1 H1 x1 _ fun G2 H2 v x2 _ pv => by
    obtain ⟨t, us, rfl, g, pr⟩ := s.seq _ _ _ x2.s pv
    refine ⟨.inl ⟨rfl, us, g⟩, hi G2 H2 (x1.trans x2) _ fun G3 H3 w x3 _ rw' => ?_⟩
    have rw' : w = V.int i := rw'
    rw [paired_ints pr] at g
    exact ⟨t, xs, i, rfl, by rw [rw'], x3.h.seq g, q G3 H3 _ (x2.trans x3) rfl⟩
end
end RL

set_option Elab.async false
set_option linter.all false
set_option maxRecDepth 100000
set_option maxHeartbeats 4000000
/-! RP: lists of ints inside a list, each the def's own: walked one by one. -/
namespace RL
open PySem PySem.Spec PyProof.Rows L2 Rep
structure OwnL (K : PySem.W.Frag) (H0 G H : Hp) (qs : List Addr) (xss : List (List Int)) : Prop where
  own : Paired (fun q xs => Own K G H q xs) qs xss
  nd : qs.Nodup
  nw : ∀ q ∈ qs, H0 q = none
theorem paired_imp {α β : Type} {F F' : α → β → Prop} : ∀ {xs : List α} {ys : List β}, (∀ x ∈ xs, ∀ y, F x y → F' x y) → Paired F xs ys → Paired F' xs ys
  | _, _, _, .nil => .nil
  | _, _, h, .cons r t => .cons (h _ List.mem_cons_self _ r) (paired_imp (fun x hx => h x (List.mem_cons_of_mem _ hx)) t)
theorem paired_mem {α β : Type} {F : α → β → Prop} : ∀ {xs : List α} {ys : List β} {x : α}, Paired F xs ys → x ∈ xs → ∃ y, F x y
  | _, _, _, .nil, h => by cases h
  | _, _, _, .cons r t, h => by
    rcases List.mem_cons.mp h with rfl | h
    · exact ⟨_, r⟩
    · exact paired_mem t h
section
variable {K : PySem.W.Frag} {H0 G H G1 H1 G0 Ha : Hp} {qs : List Addr} {xss : List (List Int)} {p q : Addr} {o' : HO}
theorem OwnL.ex (o : OwnL K H0 G H qs xss) (h : q ∈ qs) : ∃ u, H q = some u := let ⟨_, e⟩ := paired_mem o.own h; e.ex
theorem OwnL.mono (o : OwnL K H0 G H qs xss) (x : Ext G H G1 H1) : OwnL K H0 G1 H1 qs xss := ⟨paired_imp (fun _ _ _ r => r.mono x) o.own, o.nd, o.nw⟩
theorem OwnL.wr (o : OwnL K H0 G H qs xss) (h : p ∉ qs) : OwnL K H0 G (upd H p o') qs xss := ⟨paired_imp (fun q hq _ r => r.wr fun e => h (e ▸ hq)) o.own, o.nd, o.nw⟩
theorem OwnL.monoM (o : OwnL K H0 G H qs xss) (x : ExtM p G H G1 H1) (h : p ∉ qs) : OwnL K H0 G1 H1 qs xss := ⟨paired_imp (fun q hq _ r => r.monoM x fun e => h (e ▸ hq)) o.own, o.nd, o.nw⟩
theorem OwnL.back (o : OwnL K Ha G H qs xss) (h : Same H0 Ha) : OwnL K H0 G H qs xss := ⟨o.own, o.nd, fun q hq => h.free (o.nw q hq)⟩
theorem OwnL.re (o : OwnL K H0 G H qs xss) (s : Same G G1) (h : ∀ q ∈ qs, G1 q = none) : OwnL K H0 G1 H qs xss := ⟨paired_imp (fun q hq _ r => r.re s (h q hq)) o.own, o.nd, o.nw⟩
theorem OwnL.hd {xs : List Int} (o : OwnL K H0 G H (q :: qs) (xs :: xss)) : Own K G H q xs ∧ H0 q = none ∧ q ∉ qs ∧ OwnL K H0 G H qs xss := by
  obtain ⟨h, nd, nw⟩ := o
  cases h with
  | cons r t => exact ⟨r, nw q List.mem_cons_self, (List.nodup_cons.mp nd).1, t, (List.nodup_cons.mp nd).2, fun z hz => nw z (List.mem_cons_of_mem _ hz)⟩
end
/-- a place in the heap, as it is -/
structure RefD where
  a : Addr
instance : Rep RefD := ⟨fun _ _ v x => v = .ref x.a, fun _ h => h⟩
theorem refs_paired {K : PySem.W.Frag} {G : Hp} : ∀ (qs : List Addr), Paired (rep K G) (qs.map V.ref) (qs.map RefD.mk)
  | [] => .nil
  | _ :: r => .cons rfl (refs_paired r)
section
variable {X : Cx} {σ : St} {G H : Hp} {D : Ends} {e tg elt iter : Expr} {es : List Expr} {body : List Stmt} {pos p : Pos} {α : Type} [Rep α] {xss : List (List Int)} {scope : Scope}
/-- e gives a new list of new lists -/
def EvPots (X : Cx) (e : Expr) (σ : St) (G H : Hp) (xss : List (List Int)) : Prop :=
  ∀ G1 H1, Ext G H G1 H1 → ∀ Q : VK, (∀ G2 H2 a qs, Ext G1 H1 G2 H2 → HLen H2 → G2 a = some (.lst (qs.map V.ref)) → OwnL X.K H1 G2 H2 qs xss → Q (.ref a) H2) → tE X e σ H1 Q
theorem evPots_of {t : TE} (hp : PE X e t) (k : ∀ G1 H1, Ext G H G1 H1 → ∀ Q : VK, (∀ G2 H2 a qs, Ext G1 H1 G2 H2 → G2 a = some (.lst (qs.map V.ref)) → OwnL X.K H1 G2 H2 qs xss → Q (.ref a) H2) → t σ H1 Q) : EvPots X e σ G H xss :=
  fun G1 H1 x1 _ q => tE_lenF fun pins s I => hp.run pins s σ H1 _ I (k G1 H1 x1 _ fun G2 H2 a qs x g o hl => q G2 H2 a qs x hl g o)
/-- [[..]] of one new list -/
theorem evPots_one {xs : List Int} {p1 p2 : Pos} (h : EvN X (.List es p1) σ G H (Is X.K xs)) (he : starEach [.List es p1] X.env = (false, eval (.List es p1) X.env) :: starEach [] X.env := by rfl) : EvPots X (.List [.List es p1] p2) σ G H [xs] :=
  evPots_of (pe_lst (pa_cons pe_sem pa_nil he)) fun G1 H1 x1 Q k => h G1 H1 x1 _ fun G2 H2 v x2 _ r n => by
    obtain ⟨q, rfl, hq, ow, x3⟩ := own_new x1.s x2 n r
    refine ⟨by show 1 ≤ sizeLine; rw [sizeLine_eq]; decide, fun a ha => ?_⟩
    have hne : q ≠ a := fun z => by obtain ⟨u, hu⟩ := ow.ex; rw [z, ha] at hu; cases hu
    have x4 : Ext G1 H2 (upd G1 a (.lst [V.ref q])) (upd H2 a (.lst [V.ref q])) := (Ext.refl x3.s).new ha
    exact k _ _ a [q] (x3.trans x4) upd_same ⟨.cons (ow.mono x4) .nil, List.nodup_cons.mpr ⟨by simp, List.nodup_nil⟩, fun z hz => by rw [List.mem_singleton.mp hz]; exact hq⟩
theorem lc_goP {xs : List α} {f : α → List Int} {vs : List Nat} {i : Nat} {wi : TI}
    (hi : ∀ G1 H1, Ext G H G1 H1 → ∀ R : It → Hp → Prop, (∀ J G2 H2, Ext G1 H1 G2 H2 → xs.length ≤ sizeLine → WalkOf X.K J G2 xs → R J H2) → wi σ H1 R) (hw : ∀ v, wipe ((wipe σ vs).set i (some v)) vs = wipe σ vs)
    (he : ∀ x v G1 H1, x ∈ xs → Ext G H G1 H1 → rep X.K G1 v x → ∀ s H0 C cl fp, EvN (InB X scope s H0 C cl fp) elt ((wipe σ vs).set i (some v)) G1 H1 (Is X.K (f x))) :
    ∀ G1 H1, Ext G H G1 H1 → ∀ Q : VK, (∀ G2 H2 a qs, Ext G1 H1 G2 H2 → G2 a = some (.lst (qs.map V.ref)) → OwnL X.K H1 G2 H2 qs (xs.map f) → Q (.ref a) H2) → tLc wi (gName i) (lcT X scope []) (lcE X scope elt) vs σ H1 Q := by
  intro G1 H1 x1 Q k
  refine hi G1 H1 x1 _ fun J G2 H2 x2 hl hwk Dd hD => ?_
  have hD1 : H1 Dd = none := x2.h.free hD
  let Pv : Nat → Hp → Prop := fun n H' => ∃ G' qs, Ext G1 H1 G' H' ∧ Same G2 G' ∧ G' Dd = none ∧ H' Dd = some (.lst (qs.map V.ref)) ∧ qs.length = n ∧ Dd ∉ qs ∧ OwnL X.K H1 G' H' qs ((xs.take n).map f)
  refine ⟨fun n m H' => m = xs.length - n ∧ n ≤ xs.length ∧ Pv n H', ⟨xs.length, rfl, Nat.zero_le _, G2, [], x2.newH hD, Same.refl _, x2.s.free hD, upd_same, rfl, (by simp), .nil, List.nodup_nil, fun z hz => by cases hz⟩, ?_⟩
  rintro n m H' ⟨rfl, hn, G', qs, x', sg, gD, eD, hq, nD, ow⟩
  obtain ⟨go, stop, yld⟩ := hwk G' H' sg x'.s
  by_cases hlt : n < xs.length
  · have hx : xs[n]? = some xs[n] := List.getElem?_eq_getElem hlt
    refine .inr ⟨go n hlt, Pv (n + 1), fun H'' z => ⟨_, by omega, rfl, hlt, z⟩, fun v H'' y => ?_⟩
    obtain ⟨G'', x'', rv⟩ := yld n _ v H'' hx y
    have gD2 : G'' Dd = none := x''.off gD eD
    have eD2 := x''.h _ _ eD
    refine ⟨hw v, fun s H0 C cl fp pins s' I => pts_nil.run pins s' _ H'' _ I fun s1 H01 C1 cl1 fp1 => ?_⟩
    refine he _ v G'' H'' (List.getElem_mem hlt) (x1.trans (x'.trans x'')) rv s1 H01 C1 cl1 fp1 G'' H'' (Ext.refl x''.s) _ fun G3 H3 w x3 _ r nw => ?_
    obtain ⟨q, rfl, hq0, oq, x4⟩ := own_new x''.s x3 nw r
    have eD3 := x4.h _ _ eD2
    have hqD : q ≠ Dd := fun z => by rw [z, eD2] at hq0; cases hq0
    have o3 := (ow.mono x'').mono x4
    have hqn : q ∉ qs := fun z => by obtain ⟨u, hu⟩ := (ow.mono x'').ex z; rw [hq0] at hu; cases hu
    have xx : Ext G1 H1 G'' H3 := (x'.trans x'').trans x4
    have ek : (xs.take (n + 1)).map f = (xs.take n).map f ++ [f xs[n]] := by rw [List.take_add_one, hx, List.map_append]; rfl
    refine ⟨qs.map V.ref, eD3, by rw [List.length_map, hq]; exact Nat.lt_of_lt_of_le hlt hl, G'', qs ++ [q], xx.wr hD1 gD2, sg.trans x''.g, gD2, by rw [List.map_append]; exact upd_same, by rw [List.length_append, hq]; rfl, by
      intro z
      rcases List.mem_append.mp z with z | z
      · exact nD z
      · exact hqD (List.mem_singleton.mp z).symm, ?_⟩
    rw [ek]
    refine ⟨paired_app (o3.wr nD).own (.cons (oq.wr hqD) .nil), ?_, fun z hz => ?_⟩
    · rw [List.nodup_append]
      refine ⟨o3.nd, List.nodup_cons.mpr ⟨by simp, List.nodup_nil⟩, fun a ha b hb z => ?_⟩
      rw [List.mem_singleton.mp hb] at z
      exact hqn (z ▸ ha)
    · rcases List.mem_append.mp hz with hz | hz
      · exact o3.nw z hz
      · rw [List.mem_singleton.mp hz]; exact (x'.trans x'').h.free hq0
  · have e : n = xs.length := by omega
    subst e
    rw [List.take_length] at ow
    have x5 : Ext G1 H1 (upd G' Dd (.lst (qs.map V.ref))) H' := x'.frz hD1 eD
    refine .inl ⟨stop, k _ H' Dd qs x5 upd_same (ow.re (same_new gD) fun z hz => ?_)⟩
    rw [upd_ne (show z ≠ Dd from fun c => nD (c ▸ hz))]
    obtain ⟨ys, oz⟩ := paired_mem ow.own hz
    exact oz.off
/-- [[..] for n in iter] -/
theorem evPots_lc {xs : List α} {n : Str} {np : Pos} {i : Nat} (f : α → List Int) (hc : X.calm = true) (hN : X.N.Nodup) (hi : EvI X (.Name n np) iter σ G H xs) (own : List (Str × Nat)) (ok : BlkOk X.N X.env.scope scope own)
    (hg : ∀ (s : Shared) (H : Hp) (C : Addr) (cl : List (Str × Addr)) (fp : List Addr), PG (X.blk s H scope (compEnvC scope cl C X.env) fp) (.Name n np) (gName i))
    (he : ∀ x v G1 H1, x ∈ xs → Ext G H G1 H1 → rep X.K G1 v x → ∀ s H0 C cl fp, EvN (InB X scope s H0 C cl fp) elt ((wipe σ (own.map (·.2))).set i (some v)) G1 H1 (Is X.K (f x)))
    (hw : ∀ v, wipe ((wipe σ (own.map (·.2))).set i (some v)) (own.map (·.2)) = wipe σ (own.map (·.2)) := by intro _; rfl) (hs : ∀ x, foldedSetIterable iter X.env x = pure x := by intro _; rfl) :
    EvPots X (.ListComp elt [⟨.Name n np, iter, [], 0⟩] scope pos) σ G H (xs.map f) := by
  obtain ⟨wi, pi, hi⟩ := hi
  exact evPots_of (pe_lc hc hN pi ok hg pts_lc pe_lcE hs) (lc_goP hi hw he)
/-- a def that hands such a list back -/
def SpPots (K : PySem.W.Frag) (pre : List Int → Prop) (f : List Int → List (List Int)) : Sp := fun vs H Q _ => ∃ (G : Hp) (v1 : V) (x1 : List Int), vs = [v1] ∧ Same G H ∧ rep K G v1 x1 ∧ pre x1 ∧
  ∀ G2 H2 a qs, Ext G H G2 H2 → G2 a = some (.lst (qs.map V.ref)) → OwnL K H G2 H2 qs (f x1) → Q (.ref a) H2
theorem s_retPots (s0 : Same G H) (h : EvPots X e σ G H xss) (k : ∀ G2 H2 a qs, Ext G H G2 H2 → G2 a = some (.lst (qs.map V.ref)) → OwnL X.K H G2 H2 qs xss → D.rt (.ref a) H2) : tS X (.Return (some e) pos) D σ H :=
  s_of (ps_ret pe_sem) (h G H (Ext.refl s0) _ fun G2 H2 a qs x _ g o => k G2 H2 a qs x g o)
theorem evPots_c1 {k : Nat} {n : Str} {e1 : Expr} {x1 : List Int} {pre : List Int → Prop} {f : List Int → List (List Int)} (C : Cal X.prog X.w X.K X.mg X.base k n (SpPots X.K pre f)) (hr : Room k X.A) (hg : Gl X n) (h1 : Ev X e1 σ G H x1) (hp : pre x1) (hdb : (n == ("__debug__" : Str)) = false := by decide)
    (he : starEach [e1] X.env = (false, eval e1 X.env) :: starEach [] X.env := by rfl) : EvPots X (.Call (.Name n p) [e1] [] pos) σ G H (f x1) := by
  obtain ⟨g, fd, ps, F, hm, hk, hb⟩ := C.ex
  exact evPots_of (pe_call F hr hg hm hk hb .nil passL (pa_cons pe_sem pa_nil he) hdb he rfl) fun G1 H1 x2 Q q => h1 G1 H1 x2 _ fun G2 H2 v x3 _ rv => ⟨G2, v, x1, rfl, x3.s, rv, hp, fun G3 H3 a qs x4 ga ow => q G3 H3 a qs (x3.trans x4) ga (ow.back x3.h)⟩
/-- for q in e: the lists one by one -/
theorem s_forP {i : Nat} {n : Str} {np : Pos} (hp : PassesOwn (model X.prog X.w) X.A X.env X.xe) (hc : X.calm = true) (hg : PG X (.Name n np) (gName i)) (s0 : Same G H) (hi : EvPots X e σ G H xss)
    (I : List (List Int) → List Addr → St → Hp → Hp → Prop) (h0 : ∀ G1 H1 qs, Ext G H G1 H1 → OwnL X.K H G1 H1 qs xss → I xss qs σ G1 H1)
    (hs : ∀ x rest q qs σ1 G1 H1 G2 H2, (∃ l, l ++ x :: rest = xss) ∧ xss.length ≤ sizeLine → Same G G1 → Same G1 H1 → I (x :: rest) (q :: qs) σ1 G1 H1 → Ext G1 H1 G2 H2 → HLen H2 →
      tSs X body { D with nx := fun σ' H' => ∃ G', Same G2 G' ∧ Same G' H' ∧ I rest qs σ' G' H', ct := fun σ' H' => ∃ G', Same G2 G' ∧ Same G' H' ∧ I rest qs σ' G' H', bk := D.nx } (σ1.set i (some (.ref q))) H2)
    (hd : ∀ σ1 G1 H1 qs, Same G G1 → Same G1 H1 → I [] qs σ1 G1 H1 → D.nx σ1 H1) (hsf : ∀ x, foldedSetIterable e X.env x = pure x := by intro _; rfl) : tS X (.For (.Name n np) e body [] pos) D σ H := by
  refine s_of (ps_for hp hc (pi_list pe_sem) hg pss_sem hsf) (hi G H (Ext.refl s0) _ fun Gs Hs a qs xs0 l2 ga ow => ?_)
  have gs : SqL X.K Hs a (qs.map V.ref) := .of (xs0.s _ _ ga)
  have hll : qs.length = xss.length := paired_len ow.own
  have hl : xss.length ≤ sizeLine := by rw [← hll]; simpa using sql_len l2 gs
  refine ⟨a, rfl, ⟨_, gs⟩, fun j m σ' H' => m = xss.length - j ∧ j ≤ xss.length ∧ ∃ G', Same Gs G' ∧ Same G' H' ∧ I (xss.drop j) (qs.drop j) σ' G' H', ⟨xss.length, rfl, Nat.zero_le _, Gs, Same.refl _, xs0.s, h0 Gs Hs qs xs0 ow⟩, ?_⟩
  rintro j m σ' H' ⟨rfl, hj, G', sg, sh, Iv⟩
  have gj : SqL X.K H' a (qs.map V.ref) := .of (sh _ _ (sg _ _ ga))
  by_cases hlt : j < xss.length
  · have hq : j < qs.length := by omega
    have hx : (qs.map V.ref)[j]? = some (V.ref qs[j]) := by rw [List.getElem?_map, List.getElem?_eq_getElem hq]; rfl
    rw [List.drop_eq_getElem_cons hlt, List.drop_eq_getElem_cons hq] at Iv
    refine .inr ⟨⟨_, _, gj, hx⟩, fun σ2 H2 => ∃ G2, Same Gs G2 ∧ Same G2 H2 ∧ I (xss.drop (j + 1)) (qs.drop (j + 1)) σ2 G2 H2, fun σ2 H2 z => ⟨_, by omega, rfl, hlt, z⟩, fun v H'' y => ?_⟩
    obtain ⟨rfl, y⟩ := y
    have ev : V.ref qs[j] = v := Option.some.inj (hx.symm.trans (y _ gj))
    subst ev
    refine tSs_lenI fun l => ?_
    refine .mk fun pins s Iv' => ?_
    refine thn (hs xss[j] (xss.drop (j + 1)) qs[j] (qs.drop (j + 1)) σ' G' _ G' _ ⟨⟨xss.take j, by rw [← List.drop_eq_getElem_cons hlt, List.take_append_drop]⟩, hl⟩ (xs0.g.trans sg) sh Iv (Ext.refl sh) l |>.run pins s Iv') fun f s' z => ?_
    have fin : ∀ {H3 : Hp} {σ3 : St}, (∃ G3, Same G' G3 ∧ Same G3 H3 ∧ I (xss.drop (j + 1)) (qs.drop (j + 1)) σ3 G3 H3) → ∃ G2, Same Gs G2 ∧ Same G2 H3 ∧ I (xss.drop (j + 1)) (qs.drop (j + 1)) σ3 G2 H3 := fun ⟨G3, a, b, c⟩ => ⟨G3, sg.trans a, b, c⟩
    cases f with
    | next => obtain ⟨σ3, H3, I3, z⟩ := z; exact ⟨σ3, H3, I3, fin z⟩
    | cont => obtain ⟨σ3, H3, I3, z⟩ := z; exact ⟨σ3, H3, I3, fin z⟩
    | brk => exact z
    | ret u => exact z
  · have e : j = xss.length := by omega
    subst e
    rw [List.drop_length] at Iv
    exact .inl ⟨⟨_, gj, by rw [List.length_map]; omega⟩, hd σ' G' H' _ (xs0.g.trans sg) sh Iv⟩
end
section
variable {P : Program} {w : World} {K : PySem.W.Frag} {mg : Str → Option Value} {base : Heap} {x : Str} {st : Stmt} {f : Addr} {fd : FuncData} {N ps : List Str} {k : Nat}
theorem fnPots {pre : List Int → Prop} {m : List Int → List (List Int)} (F : Fun K x x st f fd) (hm : mg x = some (.ref f)) (hb : Binds K fd ps []) (S : FnScope N ps (defScope st)) (hl : ps.length = 1)
    (body : ∀ (cdv : Value) (A : Around) (outer : List Env) (s : Shared) (H : Hp) (E : XK), Room k (A.deeper (envOfC x (defScope st) s.heap.objs.size f cdv)) → ∀ (G : Hp) (v1 : V) (x1 : List Int) (D : Ends), Same G H → rep K G v1 x1 → pre x1 →
      (∀ G2 H2 a qs, Ext G H G2 H2 → G2 a = some (.lst (qs.map V.ref)) → OwnL K H G2 H2 qs (m x1) → D.rt (.ref a) H2) →
      tSs (cxOf (L2.CX P w) P w K mg base N x (defScope st) f cdv A outer s H E) (defBody st) D (start N [v1]) H) : Cal P w K mg base (k + 1) x (SpPots K pre m) :=
  cal_of F hm hb S (fun vs H Q E h => by obtain ⟨_, _, _, rfl, _⟩ := h; exact hl.symm) fun cdv A outer s H vs Q E hr h => by
    obtain ⟨G, v1, x1, rfl, s0, r1, hp, q⟩ := h
    exact body cdv A outer s H E hr G v1 x1 { nx := fun _ H' => Q .non H', rt := Q } s0 r1 hp q
end
end RL

set_option Elab.async false
set_option linter.all false
set_option maxRecDepth 100000
set_option maxHeartbeats 4000000
/-! RU: range downwards; a list of lists, each the def's own, read and changed by two places; an own dict frozen beside own lists. -/
namespace RL
open PySem PySem.Spec PyProof.Rows L2 Rep
/-- i, i - 1, .. above j -/
def rngD (i j : Int) : List Int := (List.range (i - j).toNat).map fun (k : Nat) => i + (k : Int) * (-1)
theorem rngD_len {i j : Int} : (rngD i j).length = (i - j).toNat := by simp [rngD]
theorem rngD_at {i j x : Int} {l rest : List Int} (h : l ++ x :: rest = rngD i j) : x = j + 1 + rest.length ∧ j < x ∧ x ≤ i := by
  have h1 := congrArg List.length h
  rw [rngD_len, List.length_append, List.length_cons] at h1
  have h2 : (rngD i j)[l.length]? = some x := by rw [← h]; simp
  unfold rngD at h2
  rw [List.getElem?_map, List.getElem?_range (by omega)] at h2
  have h3 : i + (l.length : Int) * (-1) = x := Option.some.inj h2
  omega
theorem rngD_cons {i j : Int} (h : j < i) : rngD i j = i :: rngD (i - 1) j := by
  unfold rngD
  rw [show (i - j).toNat = (i - 1 - j).toNat + 1 by omega, List.range_succ_eq_map, List.map_cons, List.map_map]
  congr 1
  · omega
  · refine List.map_congr_left fun k _ => ?_
    show i + ((k + 1 : Nat) : Int) * (-1) = i - 1 + (k : Int) * (-1)
    omega
theorem rngD_nil {i j : Int} (h : i ≤ j) : rngD i j = [] := by
  unfold rngD
  rw [show (i - j).toNat = 0 by omega]
  rfl
theorem mem_rngD {i j x : Int} (h : x ∈ rngD i j) : j < x ∧ x ≤ i := by
  obtain ⟨l, r, e⟩ := List.append_of_mem h
  exact (rngD_at e.symm).2
theorem small_neg {a b : Int} (ha : -(2 ^ 62) ≤ a) (ha' : a < 2 ^ 62) (hb : -(2 ^ 62) ≤ b) (hb' : b < 2 ^ 62) : Builtin.Range.small a b (-1) = true := by
  unfold Builtin.Range.small
  have h0 : Builtin.Range.rangeSize a b (-1) = if b < a then a - b else 0 := by
    unfold Builtin.Range.rangeSize
    rw [if_neg (by omega)]
    by_cases h : b < a
    · simp [h]
    · simp [h]
  rw [h0]
  simp only [Builtin.Range.rangeFitsLong, Bool.and_eq_true, Bool.or_eq_true, decide_eq_true_eq, beq_iff_eq]
  split <;> simp <;> omega
theorem walk_rngD {K : PySem.W.Frag} {G : Hp} {lo hi : Int} {n : Nat} (e : n = (lo - hi).toNat) : WalkOf K (Itc lo (-1) n) G (rngD lo hi) := fun G' H' s1 s2 => by
  subst e
  refine ⟨fun i h => by rw [rngD_len] at h; exact h, by rw [rngD_len]; exact Nat.le_refl _, fun i x v H'' hx y => ?_⟩
  obtain ⟨rfl, y⟩ := y
  unfold rngD at hx
  rw [List.getElem?_map] at hx
  cases hq : (List.range (lo - hi).toNat)[i]? with
  | none => rw [hq] at hx; cases hx
  | some t =>
    rw [hq] at hx
    obtain ⟨ht, he⟩ := List.getElem?_eq_some_iff.mp hq
    simp at he
    subst he
    cases hx
    exact ⟨G', Ext.refl s2, y⟩
section
variable {X : Cx} {σ : St} {G H : Hp} {D : Ends} {P : PV} {a b c tg : Expr} {pos p : Pos} {i j : Int}
theorem ei_rangeD (B : Bl X "range") (h : Ev X a σ G H i) (h' : Ev X b σ G H j) (h'' : Ev X c σ G H (-1 : Int)) (hb : (-(2 ^ 62) ≤ i ∧ i < 2 ^ 62) ∧ -(2 ^ 62) ≤ j ∧ j < 2 ^ 62 ∧ i - j ≤ 16777216)
    (he : starEach [a, b, c] X.env = (false, eval a X.env) :: starEach [b, c] X.env := by rfl) (he2 : starEach [b, c] X.env = (false, eval b X.env) :: starEach [c] X.env := by rfl) (he3 : starEach [c] X.env = (false, eval c X.env) :: starEach [] X.env := by rfl) (hpl : (backTo pos (starEach [b, c] X.env)).any (·.1) = false := by rfl) :
    EvI X tg (.Call (.Name "range" p) [a, b, c] [] pos) σ G H (rngD i j) :=
  ⟨_, pi_range3 B.g B.m (pa_cons pe_sem (pa_cons pe_sem (pa_cons pe_sem pa_nil he3) he2) he) he hpl, fun G1 H1 x1 R r => h G1 H1 x1 _ fun G2 H2 v x2 _ pv => h' G2 H2 (x1.trans x2) _ fun G3 H3 u x3 _ pu => h'' G3 H3 ((x1.trans x2).trans x3) _ fun G4 H4 w x4 _ pw => by
    have h0 : Builtin.Range.rangeSize i j (-1) = if j < i then i - j else 0 := by
      unfold Builtin.Range.rangeSize
      rw [if_neg (by omega)]
      by_cases h : j < i
      · simp [h]
      · simp [h]
    refine ⟨i, j, -1, (i - j).toNat, by rw [show v = _ from pv, show u = _ from pu, show w = _ from pw], ⟨by omega, by omega, small_neg hb.1.1 hb.1.2 hb.2.1 hb.2.2.1, ?_⟩, r _ G4 H4 ((x2.trans x3).trans x4) ?_ (walk_rngD rfl)⟩
    · rw [h0]; split <;> omega
    · rw [rngD_len, sizeLine_eq]; omega⟩
end
section
variable {X : Cx} {σ : St} {G H : Hp} {P Pa Pb : PV} {a b : Expr} {pos : Pos} {α : Type}
theorem evN_rep {ia : Rep α} {xs : List α} {k : Int} [m : MonoC Pa] [sa : AsOwn X.K Pa α ia xs] (h1 : -(2 ^ 63) ≤ k) (h2 : k < 2 ^ 63) (hl : xs.length * k.toNat ≤ sizeLine) (ha : EvP X a σ G H Pa) (hb : Ev X b σ G H k) : EvN X (.BinOp a .Mult b pos) σ G H (Is X.K (List.replicate k.toNat xs).flatten) :=
  evN_bin (ha' := m) ⟨_, op_rep, fun G1 H1 v u x _ e1 e2 Q q => by
    obtain ⟨a, us, e, g, pr⟩ := sa.own _ _ _ x.s e1
    refine ⟨a, k, us, e, e2, g, h1, h2, by rw [paired_len pr]; exact hl, fun p hp => q (upd G1 p (.lst _)) _ _ ((Ext.refl x.s).new hp) ⟨p, _, rfl, upd_same, pair_up (same_new (x.s.free hp)) ?_⟩ fun p' e => by cases e; exact hp⟩
    have z : ∀ n : Nat, Paired (rep X.K G1) (List.replicate n us).flatten (List.replicate n xs).flatten := fun n => by
      induction n with
      | zero => exact .nil
      | succ n ih =>
        rw [List.replicate_succ, List.replicate_succ, List.flatten_cons, List.flatten_cons]
        exact paired_app pr ih
    exact z _⟩ ha hb
end
/-! a list of own lists -/
structure OwnT (K : PySem.W.Frag) (H0 G H : Hp) (a : Addr) (xss : List (List Int)) : Prop where
  at_ : ∃ qs : List Addr, G a = some (.lst (qs.map V.ref)) ∧ H a = some (.lst (qs.map V.ref)) ∧ OwnL K H0 G H qs xss
def TAt (K : PySem.W.Frag) (xss : List (List Int)) : PV := fun G H v => ∃ a qs, v = .ref a ∧ H a = some (.lst (qs.map V.ref)) ∧ Paired (fun q xs => Own K G H q xs) qs xss
section
variable {K : PySem.W.Frag} {H0 G H G1 H1 G0 : Hp} {qs : List Addr} {xss : List (List Int)} {p q a : Addr} {o' : HO}
theorem OwnT.mono (o : OwnT K H0 G H a xss) (x : Ext G H G1 H1) : OwnT K H0 G1 H1 a xss := let ⟨qs, e, f, r⟩ := o.at_; ⟨⟨qs, x.g _ _ e, x.h _ _ f, r.mono x⟩⟩
theorem OwnT.ex (o : OwnT K H0 G H a xss) : ∃ u, H a = some u := let ⟨_, _, e, _⟩ := o.at_; ⟨_, e⟩
instance : MonoC (TAt K xss) := ⟨fun _ _ _ _ _ x ⟨p, qs, e, g, pr⟩ => ⟨p, qs, e, x.h _ _ g, gp_imp (fun _ _ _ r => r.mono x) pr⟩⟩
theorem OwnT.pv (o : OwnT K H0 G H a xss) : TAt K xss G H (.ref a) := let ⟨qs, _, e, r⟩ := o.at_; ⟨a, qs, rfl, e, r.own⟩
theorem ol_frz : ∀ {qs : List Addr} {xss : List (List Int)} {G : Hp}, Paired (fun q xs => Own K G H q xs) qs xss → qs.Nodup → (∀ q ∈ qs, H0 q = none) → Ext G0 H0 G H → ∃ G', Ext G0 H0 G' H ∧ Same G G' ∧ Paired (fun q xs => rep K G' (.ref q) xs) qs xss
  | _, _, G, .nil, _, _, x0 => ⟨G, x0, Same.refl _, .nil⟩
  | _, _, G, .cons r t, nd, nw, x0 => by
    have nd' := List.nodup_cons.mp nd
    obtain ⟨G1, x1, s1, r1, k1⟩ := r.frzK x0 (nw _ List.mem_cons_self)
    obtain ⟨G2, x2, s2, t2⟩ := ol_frz (gp_imp (fun z hz d rz => rz.reK s1 k1 fun c => nd'.1 (c ▸ hz)) t) nd'.2 (fun z hz => nw z (List.mem_cons_of_mem _ hz)) x1
    exact ⟨G2, x2, s1.trans s2, .cons (up s2 r1) t2⟩
theorem refsL_up : ∀ {qs : List Addr} {xss : List (List Int)}, Paired (fun q xs => rep K G (.ref q) xs) qs xss → Paired (rep K G) (qs.map V.ref) xss
  | _, _, .nil => .nil
  | _, _, .cons r t => .cons r (refsL_up t)
theorem OwnT.frz (o : OwnT K H0 G H a xss) (x0 : Ext G0 H0 G H) : ∃ G', Ext G0 H0 G' H ∧ Same G G' ∧ rep K G' (.ref a) xss := by
  obtain ⟨qs, e, _, r⟩ := o.at_
  obtain ⟨G', x1, s1, t⟩ := ol_frz r.own r.nd r.nw x0
  exact ⟨G', x1, s1, a, _, rfl, s1 _ _ e, refsL_up t⟩
theorem ol_set {y : List Int} (pr : Paired (fun q xs => Own K G H q xs) qs xss) : ∀ {j : Nat}, qs.Nodup → qs[j]? = some q → Own K G (upd H q o') q y → Paired (fun z xs => Own K G (upd H q o') z xs) qs (xss.set j y) := by
  induction pr with
  | nil => intro j _ h; simp at h
  | cons r t ih =>
    intro j nd h o
    have nd' := List.nodup_cons.mp nd
    cases j with
    | zero =>
      simp only [List.getElem?_cons_zero, Option.some.injEq] at h
      subst h
      exact .cons o (gp_imp (fun z hz d r => r.wr fun e => nd'.1 (by rw [← e]; exact hz)) t)
    | succ j =>
      have h' := List.mem_of_getElem? (show _ = some q by simpa using h)
      exact .cons (r.wr fun e => nd'.1 (by rw [e]; exact h')) (ih nd'.2 (by simpa using h) o)
/-- an own list behind an own dict's locking -/
theorem Own.lockD {β : Type} [Rep β] {ys : List β} {u : HO} (o : Own K G H p ys) (g : G q = none) (h : p ≠ q) : Own K (upd G q u) (upd H q u) p ys :=
  let ⟨vs, e, r⟩ := o.at_; ⟨⟨vs, by rw [upd_ne h]; exact e, pair_up (same_new g) r⟩, by rw [upd_ne h]; exact o.off⟩
end
section
variable {X : Cx} {σ : St} {G H H0 : Hp} {D : Ends} {P : PV} {e a b c : Expr} {pos p : Pos} {xss : List (List Int)} {q : Addr}
theorem ev_vT {i : Nat} {n : Str} {np : Pos} (s : Sl X i n) (o : OwnT X.K H0 G H q xss) (h : σ[i]? = some (some (.ref q)) := by rfl) : EvP X (.Name n np) σ G H (TAt X.K xss) := ev_vP s o.pv h
/-- x[i], a list of such a list -/
theorem ev_ixT {i : Int} (h : EvP X a σ G H (TAt X.K xss)) (hi : Ev X b σ G H i) (h0 : 0 ≤ i) (h1 : i < (xss.length : Int)) (hs : PlainIx b := by intro _ _; rfl) : EvP X (.Subscript a b pos) σ G H (OwnAt X.K (xss.getD i.toNat [])) :=
  evP_of (pe_ix ix_list pe_sem pe_sem hs) (bin_go h hi fun G1 H1 v u x _ e1 e2 Q q => by
    obtain ⟨p, qs, e, g, pr⟩ := e1
    have hg : xss[i.toNat]? = some (xss.getD i.toNat []) := by
      rw [List.getD_eq_getElem?_getD, List.getElem?_eq_getElem (show i.toNat < xss.length by omega)]
      rfl
    obtain ⟨w, hw, o⟩ := paired_get pr hg
    refine ⟨p, _, i, .ref w, e, e2, .of g, ?_, q G1 H1 _ (Ext.refl x.s) o.pv⟩
    unfold atI
    rw [List.length_map, paired_len pr, ixN_of h0 h1]
    show (qs.map V.ref)[i.toNat]? = _
    rw [List.getElem?_map, hw]
    rfl)
/-- n = [[..] for ..] -/
theorem s_setT {α : Type} [Rep α] {xs : List α} {elt iter : Expr} {scope : Scope} {pos' : Pos} {i j : Nat} {n m : Str} {np mp : Pos} (sl : Ss X i n) (s0 : Same G H) (f : α → List Int) (hc : X.calm = true) (hN : X.N.Nodup) (hi : EvI X (.Name m mp) iter σ G H xs) (own : List (Str × Nat)) (ok : BlkOk X.N X.env.scope scope own)
    (hg : ∀ (s : Shared) (H : Hp) (C : Addr) (cl : List (Str × Addr)) (fp : List Addr), PG (X.blk s H scope (compEnvC scope cl C X.env) fp) (.Name m mp) (gName j))
    (he : ∀ x v G1 H1, x ∈ xs → Ext G H G1 H1 → rep X.K G1 v x → ∀ s H0 C cl fp, EvN (InB X scope s H0 C cl fp) elt ((wipe σ (own.map (·.2))).set j (some v)) G1 H1 (Is X.K (f x)))
    (k : ∀ G1 H1 q, Ext G H G1 H1 → HLen H1 → OwnT X.K H G1 H1 q (xs.map f) → D.nx (σ.set i (some (.ref q))) H1)
    (hw : ∀ v, wipe ((wipe σ (own.map (·.2))).set j (some v)) (own.map (·.2)) = wipe σ (own.map (·.2)) := by intro _; rfl) (hs : ∀ x, foldedSetIterable iter X.env x = pure x := by intro _; rfl)
    (hl : X.env.scope.names.lookup n = some .local := by rfl) (hsw : swapsWith (.ListComp elt [⟨.Name m mp, iter, [], 0⟩] scope pos) (some (.Name n np)) pos'.line X.env = pure true := by exact sw_true rfl rfl rfl (by decide +kernel)) :
    tS X (.Assign [.Name n np] (.ListComp elt [⟨.Name m mp, iter, [], 0⟩] scope pos) pos') D σ H := by
  obtain ⟨wi, pi, hi⟩ := hi
  exact tS_len (s_of (ps_setLc hc hN sl.hN hl hsw pi ok hg pts_lc pe_lcE hs) (lc_goP hi hw he G H (Ext.refl s0) _ fun G1 H1 q qs x g o l => k G1 H1 q x l ⟨⟨qs, g, x.s _ _ g, o⟩⟩))
theorem OwnT.back {Ha : Hp} {K : PySem.W.Frag} (o : OwnT K Ha G H q xss) (h : Same H0 Ha) : OwnT K H0 G H q xss := let ⟨qs, e, f, r⟩ := o.at_; ⟨⟨qs, e, f, r.back h⟩⟩
/-- x[i][j] = v -/
theorem s_putT {v : Int} {i : Nat} {n : Str} {ix k : Int} {sp sp2 np : Pos} (sl : Sl X i n) (s0 : Same G H) (o : OwnT X.K H0 G H q xss) (hv : Ev X c σ G H v) (hi : Ev X a σ G H ix) (hk : Ev X b σ G H k) (h0 : 0 ≤ ix) (h1 : ix < (xss.length : Int)) (h2 : 0 ≤ k) (h3 : k < ((xss.getD ix.toNat []).length : Int))
    (kk : ∀ G1 H1 p o', Ext G H G1 H1 → HLen H1 → H0 p = none → G1 p = none → OwnT X.K H0 G1 (upd H1 p o') q (xss.set ix.toNat ((xss.getD ix.toNat []).set k.toNat v)) → D.nx σ (upd H1 p o')) (hq : σ[i]? = some (some (.ref q)) := by rfl) (hps : PlainIx a := by intro _ _; rfl)
    (hs : swapsWithSole [.Subscript (.Subscript (.Name n np) a sp2) b sp] c pos.line X.env = pure false := by rfl) (hw : swappedStores [.Subscript (.Subscript (.Name n np) a sp2) b sp] c X.env = pure none := by rfl)
    (hh : (assignEach [.Subscript (.Subscript (.Name n np) a sp2) b sp] X.env).map (·.2) = [assign (.Subscript (.Subscript (.Name n np) a sp2) b sp) X.env] := by rfl)
    (ha : ∀ v, assign (.Subscript (.Subscript (.Name n np) a sp2) b sp) X.env v = (do
      let ov ← holding [v] (eval (.Subscript (.Name n np) a sp2) X.env)
      let iv ← holding [v, ov] (eval b X.env)
      standAt sp
      holding [v, ov, iv] (setItem ov iv v)
      release [v, ov, iv] []) := by intro _; rfl) : tS X (.Assign [.Subscript (.Subscript (.Name n np) a sp2) b sp] c pos) D σ H := by
  refine s_of (ps_asg pe_sem (pg_sub (pe_ix ix_list (pe_var sl.hN sl.hv sl.nm.hd sl.nm.hcd) pe_sem hps) pe_sem set_list ha) hs hw hh) ?_
  refine hv G H (Ext.refl s0) _ fun G1 H1 w x1 _ rw' => ⟨_, hq, hi G1 H1 x1 _ fun G2 H2 u x2 _ ru => ?_⟩
  obtain ⟨qs, eg, e, ol⟩ := (o.mono (x1.trans x2)).at_
  have hg : xss[ix.toNat]? = some (xss.getD ix.toNat []) := by
    rw [List.getD_eq_getElem?_getD, List.getElem?_eq_getElem (show ix.toNat < xss.length by omega)]
    rfl
  obtain ⟨p, hqq, oq⟩ := paired_get ol.own hg
  refine ⟨q, _, ix, .ref p, rfl, ru, .of e, ?_, ?_⟩
  · unfold atI
    rw [List.length_map, paired_len ol.own, ixN_of h0 h1]
    show (qs.map V.ref)[ix.toNat]? = _
    rw [List.getElem?_map, hqq]
    rfl
  · refine hk G2 H2 (x1.trans x2) _ fun G3 H3 y x3 l3 ry => ?_
    have oq3 := oq.mono x3
    obtain ⟨ps, eq, prq⟩ := oq3.at_
    have ry : y = V.int k := ry
    have hpq : q ≠ p := fun z => by have := x3.g _ _ eg; rw [z, oq3.off] at this; cases this
    have hpm := List.mem_of_getElem? hqq
    refine ⟨p, ps, k, k.toNat, rfl, ry, eq, by rw [paired_len prq]; exact ixN_of h2 h3, kk G3 H3 p _ ((x1.trans x2).trans x3) l3 (ol.nw p hpm) oq3.off ?_⟩
    have ol3 := ol.mono x3
    refine ⟨⟨qs, x3.g _ _ eg, by rw [upd_ne hpq]; exact x3.h _ _ e, ol_set ol3.own ol3.nd hqq ⟨⟨_, upd_same, paired_set (up (x2.trans x3).g rw') _ prq⟩, oq3.off⟩, ol3.nd, ol3.nw⟩⟩
end
/-! xs != [], whatever the items are -/
section
variable {X : Cx} {G H : Hp} {Pa Pb : PV} {α : Type}
theorem op_neNil (hu : X.A.units < cLine) : OpR X (compareOp .NotEq) (fun x y H Q => ∃ p xs q, x = .ref p ∧ y = .ref q ∧ SqL X.K H p xs ∧ SqL X.K H q [] ∧ Q (.bl (!xs.isEmpty)) H) := by
  rintro pins s σ H x y v u Q I rx ry ⟨p, xs, q, rfl, rfl, hp, hq, k⟩
  obtain rfl : v = Value.ref p := rx
  obtain rfl : u = Value.ref q := ry
  obtain ⟨its, rv, hl, _⟩ := I.list hp
  obtain ⟨its2, rv2, hl2, _⟩ := I.list hq
  have l1 : xs.length = its.length := rv.length
  have l2 : ([] : List V).length = its2.length := rv2.length
  have e2 : its2 = [] := List.eq_nil_of_length_eq_zero l2.symm
  subst e2
  cases xs with
  | nil =>
    have e1 : its = [] := List.eq_nil_of_length_eq_zero l1.symm
    subst e1
    exact SeqAt.RcNeAt.lists (e := fun _ => true) hl.isList hl2.isList rfl hu (fun j h1 h2 => absurd h1 (by simp)) _ _ _ _ ⟨.bl false, H, I, rfl, k⟩
  | cons a r =>
    have hne : (its.toArray.size != ([] : List Value).toArray.size) = true := by
      have : its.length ≠ 0 := by rw [← l1]; simp
      simpa using this
    exact SeqAt.RcNeAt.lists_lengths hl.isList hl2.isList hne hu _ _ _ _ ⟨.bl true, H, I, rfl, k⟩
theorem c_neNil {β : Type} {ia : Rep α} {ib : Rep β} {xs : List α} [A1 : AsSeq X.K Pa α ia xs] [A2 : AsSeq X.K Pb β ib ([] : List β)] (hu : X.A.units + 64 < cLine) : Bin X (compareOp .NotEq) Pa Pb (Is X.K (!xs.isEmpty)) G H :=
  ⟨_, op_neNil (by omega), fun G1 H1 v u z _ e1 e2 Q q => by
    obtain ⟨a, us, rfl, g, pr⟩ := A1.seq _ _ _ z.s e1
    obtain ⟨b, us2, rfl, g2, pr2⟩ := A2.seq _ _ _ z.s e2
    cases pr2
    refine ⟨a, us, b, rfl, rfl, g, g2, q G1 H1 _ (Ext.refl z.s) ?_⟩
    have l := paired_len pr
    show _ = V.bl _
    cases us <;> cases xs <;> first | rfl | (simp at l)⟩
end
end RL

set_option Elab.async false
set_option linter.all false
set_option maxRecDepth 100000
set_option maxHeartbeats 4000000
/-! RI: min(xs) of data that are alike. -/
namespace L2
open PySem PySem.Spec PyProof.Rows
section
variable {prog : Program} {w : World} {A : Around} {R : Result → Shared → Prop} {I : Addr} {fp wr : List Addr} {n : Nat} {P : Nat → Value → Prop} {St : Nat → Heap → Prop}
theorem min_loopH (W : Walks prog w A.in1 I fp wr n P St) (bt : Nat → Nat → Bool) (s0 : Shared) (S : Addr) (hw : ∀ b o, s0.heap.get? b = some o → b ∉ wr ∧ b ≠ S)
    (hcmp : ∀ i j vi vj h' tk, P i vi → P j vj → (∀ b o, s0.heap.get? b = some o → h'.get? b = some o) → SeqAt.RcLt A.in1 { heap := h', gens := s0.gens, drawn := s0.drawn, toks := tk, os := s0.os } vi vj (bt i j))
    (hSf : S ∉ fp) : ∀ (k j : Nat) (h : Heap) (t : Nat) (vb : Value) (c : Nat), k = n - (j + 1) → j < n → St (j + 1) h → P (argBest bt j) vb → h.get? S = some { cls := .type "list", data := .seq #[vb, vb] c } → (∀ b o, s0.heap.get? b = some o → h.get? b = some o) →
    (∀ v h' tk, P (argBest bt (n - 1)) v → (∀ b o, b ∉ wr → b ≠ S → h.get? b = some o → h'.get? b = some o) → R (.ok (.ret v)) { heap := h', gens := s0.gens, drawn := s0.drawn, toks := tk, os := s0.os }) →
    codeAny (model prog w) A (.builtin "min.loop" { pos := [.ref I, .none, .ref S] }) R { heap := h, gens := s0.gens, drawn := s0.drawn, toks := t, os := s0.os } := by
  have hSw : S ∉ wr := fun h => hSf (W.sub S h)
  intro k
  induction k with
  | zero =>
    intro j h t vb c hk hj hst hPb hS hkp hR
    have hin : n = j + 1 := by omega
    refine codeAny_builtin F.entry_min_loop ?_
    rw [Around.under_plainId F.plain_min_loop]
    refine wpAny_bind (wpAny_seqItems hS rfl ?_)
    show wpAny _ _ _ _ _ _
    refine wpAny_bind (wpAny_tryCatch (W.done _ _ _ (hin ▸ hst) fun h' tk hk' => ?_))
    have hS' := hk' S _ hSw hS
    refine wpAny_bind (wpAny_updateSeq hS' rfl (wpAny_bind (wpAny_letGo (wpAny_pure (hR vb _ tk (by rw [hin]; exact hPb) fun b o hbw hbS e => (Heap.get?_update_other _ _ (Ne.symm hbS)).trans (hk' b o hbw e))))) ?_ ?_)
    all_goals (simp [sizeLine_eq])
  | succ k ih =>
    intro j h t vb c hk hj hst hPb hS hkp hR
    have hlt : j + 1 < n := by omega
    refine codeAny_builtin F.entry_min_loop ?_
    rw [Around.under_plainId F.plain_min_loop]
    refine wpAny_bind (wpAny_seqItems hS rfl ?_)
    show wpAny _ _ _ _ _ _
    refine wpAny_bind (wpAny_tryCatch (W.item (j + 1) _ _ _ hlt hst fun v h' tk hP hst' hk' => ?_))
    have hS' := hk' S _ hSw hS
    have hkp' : ∀ b o, s0.heap.get? b = some o → h'.get? b = some o := fun b o e => hk' b o (hw b o e).1 (hkp b o e)
    refine wpAny_bind (wpAny_pure ?_)
    show wpAny _ _ _ _ _ _
    refine wpAny_bind (wpAny_tryCatch (wpAny_holding (wpAny_bind (hcmp (j + 1) (argBest bt j) v vb h' tk hP hPb hkp' _ _ _ _ ?_))))
    refine wpAny_bind (wpAny_holding (wpAny_truthy_bool (wpAny_bind (wpAny_letGo (wpAny_pure ?_)))))
    cases hb : bt (j + 1) (argBest bt j) with
    | false =>
      refine wpAny_bind (wpAny_letGo (wpAny_pure ⟨plainId_quiet F.plain_min_loop _, ih (j + 1) h' tk vb c (by omega) hlt hst' ?_ hS' hkp' fun v' h'' tk'' hP' hk'' => hR v' h'' tk'' hP' fun b o hbw hbS e => hk'' b o hbw hbS (hk' b o hbw e)⟩))
      show P (if bt (j + 1) (argBest bt j) = true then j + 1 else argBest bt j) vb
      rw [hb]
      exact hPb
    | true =>
      refine wpAny_bind (wpAny_updateSeq hS' rfl (wpAny_bind (wpAny_letGo (wpAny_pure ⟨plainId_quiet F.plain_min_loop _, ih (j + 1) _ tk v _ (by omega) hlt (W.frame (j + 1 + 1) h' _ hst' fun b hbf o e => (Heap.get?_update_other h' _ fun z => hSf (by first | (rw [z]; exact hbf) | (rw [← z]; exact hbf))).trans e) ?_ (Heap.get?_update_self _ hS' rfl) (fun b o e => (Heap.get?_update_other h' _ (Ne.symm (hw b o e).2)).trans (hkp' b o e))
        fun v' h'' tk'' hP' hk'' => hR v' h'' tk'' hP' fun b o hbw hbS e => hk'' b o hbw hbS ((Heap.get?_update_other h' _ (Ne.symm hbS)).trans (hk' b o hbw e))⟩))) ?_ ?_)
      · show P (if bt (j + 1) (argBest bt j) = true then j + 1 else argBest bt j) v
        rw [hb]
        exact hP
      all_goals (simp [sizeLine_eq])
theorem min_firstH (W : Walks prog w A.in1 I fp wr n P St) (bt : Nat → Nat → Bool) (s0 : Shared) (S : Addr) (hw : ∀ b o, s0.heap.get? b = some o → b ∉ wr ∧ b ≠ S)
    (hcmp : ∀ i j vi vj h' tk, P i vi → P j vj → (∀ b o, s0.heap.get? b = some o → h'.get? b = some o) → SeqAt.RcLt A.in1 { heap := h', gens := s0.gens, drawn := s0.drawn, toks := tk, os := s0.os } vi vj (bt i j))
    (hSf : S ∉ fp) (hn : 0 < n) {h : Heap} {t c : Nat} (hst : St 0 h) (hS : h.get? S = some { cls := .type "list", data := .seq #[] c }) (hkp : ∀ b o, s0.heap.get? b = some o → h.get? b = some o)
    (hR : ∀ v h' tk, P (argBest bt (n - 1)) v → (∀ b o, b ∉ wr → b ≠ S → h.get? b = some o → h'.get? b = some o) → R (.ok (.ret v)) { heap := h', gens := s0.gens, drawn := s0.drawn, toks := tk, os := s0.os }) :
    codeAny (model prog w) A (.builtin "min.loop" { pos := [.ref I, .none, .ref S] }) R { heap := h, gens := s0.gens, drawn := s0.drawn, toks := t, os := s0.os } := by
  have hSw : S ∉ wr := fun h => hSf (W.sub S h)
  refine codeAny_builtin F.entry_min_loop ?_
  rw [Around.under_plainId F.plain_min_loop]
  refine wpAny_bind (wpAny_seqItems hS rfl ?_)
  show wpAny _ _ _ _ _ _
  refine wpAny_bind (wpAny_tryCatch (W.item 0 _ _ _ hn hst fun v h' tk hP hst' hk' => ?_))
  have hS' := hk' S _ hSw hS
  have hkp' : ∀ b o, s0.heap.get? b = some o → h'.get? b = some o := fun b o e => hk' b o (hw b o e).1 (hkp b o e)
  refine wpAny_bind (wpAny_pure ?_)
  show wpAny _ _ _ _ _ _
  refine wpAny_bind (wpAny_updateSeq hS' rfl (wpAny_pure ⟨plainId_quiet F.plain_min_loop _, min_loopH W bt s0 S hw hcmp hSf (n - (0 + 1)) 0 _ tk v _ rfl hn (W.frame (0 + 1) h' _ hst' fun b hbf o e => (Heap.get?_update_other h' _ fun z => hSf (by first | (rw [z]; exact hbf) | (rw [← z]; exact hbf))).trans e) hP (Heap.get?_update_self _ hS' rfl) (fun b o e => (Heap.get?_update_other h' _ (Ne.symm (hw b o e).2)).trans (hkp' b o e))
    fun v' h'' tk'' hP' hk'' => hR v' h'' tk'' hP' fun b o hbw hbS e => hk'' b o hbw hbS ((Heap.get?_update_other h' _ (Ne.symm hbS)).trans (hk' b o hbw e))⟩) ?_ ?_)
  all_goals (simp [sizeLine_eq])
end
/-- min(l), the items told by their places -/
theorem min_listH {prog : Program} {w : World} {A : Around} {E : Value → Shared → Prop} {s : Shared} {l : Addr} {items : Array Value} {Q : Value → Shared → Prop} (hh : A.handled = none) (hl : s.heap.IsList l items) (hne : 0 < items.size) (bt : Nat → Nat → Bool)
    (hcmp : ∀ i j vi vj h' tk, items[i]? = some vi → items[j]? = some vj → (∀ b o, s.heap.get? b = some o → h'.get? b = some o) → SeqAt.RcLt A.in1 { heap := h', gens := s.gens, drawn := s.drawn, toks := tk, os := s.os } vi vj (bt i j))
    (hQ : ∀ v h' tk, items[argBest bt (items.size - 1)]? = some v → (∀ b o, s.heap.get? b = some o → h'.get? b = some o) → Q v { heap := h', gens := s.gens, drawn := s.drawn, toks := tk, os := s.os }) :
    wpAny (model prog w) A (call (.builtin "min") [.ref l]) Q E s := by
  have lt : l < s.heap.objs.size := let ⟨_, gl, _⟩ := hl; Heap.lt_size gl
  have nI : l ≠ s.heap.objs.size := Nat.ne_of_lt lt
  refine call_function_tree F.kind_min F.plain_min F.entry_min (F.args_min1 _) ?_
  show wpAny _ _ _ _ _ _
  refine wpAny_bind (wpAny_of_eq rfl (wpAny_bind (wpAny_pure (wpAny_bind (wpAny_pyIter_list hl (wpAny_bind (wpAny_newObj_type (wpAny_pure ⟨plainId_quiet F.plain_min_loop _, ?_⟩) ?_)))))))
  · refine min_firstH (Walks.list (A := A.in1) (by simp [hh]) s.heap.objs.size l nI items) bt s (s.heap.push { cls := .type "list_iterator", data := .fields #[.ref l, .int 0 0] }).objs.size (fun b o e => ?_) hcmp ?_ hne ⟨⟨_, Heap.get?_push_of_some _ (Heap.get?_push_size _ rfl), rfl, rfl⟩, (hl.push _).push _⟩ (Heap.get?_push_size _ rfl) (fun b o e => Heap.get?_push_of_some _ (Heap.get?_push_of_some _ e)) fun v h' tk hP hk => hQ v h' tk hP fun b o e => ?_
    · have hb := Heap.lt_size e
      refine ⟨fun z => Nat.ne_of_lt hb (List.mem_singleton.mp z), ?_⟩
      rw [Heap.size_push]
      exact Nat.ne_of_lt (Nat.lt_succ_of_lt hb)
    · intro z
      rw [Heap.size_push] at z
      rcases List.mem_cons.mp z with z | z
      · exact Nat.succ_ne_self _ z
      · exact Nat.ne_of_gt (Nat.lt_succ_of_lt lt) (List.mem_singleton.mp z)
    · have hb := Heap.lt_size e
      refine hk b o (fun z => Nat.ne_of_lt hb (List.mem_singleton.mp z)) ?_ (Heap.get?_push_of_some _ (Heap.get?_push_of_some _ e))
      rw [Heap.size_push]
      exact Nat.ne_of_lt (Nat.lt_succ_of_lt hb)
  · show (#[] : Array Value).size ≤ _
    simp
end L2
namespace RL
open PySem PySem.Spec PyProof.Rows L2 Rep
open PySem.W (alike alikeAll dataLe dataLt)
/-- the least, the first of such -/
def dmin {α : Type} [Rep α] [DecidableEq α] [Dat α] (d : α) : List α → α
  | [] => d
  | x :: xs => xs.foldl (fun b y => if dataLt (Dat.toD y) (Dat.toD b) = true then y else b) x
section
variable {α : Type} [Rep α] [DecidableEq α] [Dat α] {X : Cx} {σ : St} {G H : Hp} {P : PV} {e : Expr} {pos p : Pos}
theorem dmin_snoc (d : α) (xs : List α) (y : α) (h : xs ≠ []) : dmin d (xs ++ [y]) = if dataLt (Dat.toD y) (Dat.toD (dmin d xs)) = true then y else dmin d xs := by
  cases xs with
  | nil => exact absurd rfl h
  | cons x xs => show (xs ++ [y]).foldl _ x = _; rw [List.foldl_append]; rfl
def btD (xs : List α) (i j : Nat) : Bool := match xs[i]?, xs[j]? with
  | some a, some b => dataLt (Dat.toD a) (Dat.toD b)
  | _, _ => false
theorem btD_at {xs : List α} {i j : Nat} {a b : α} (h1 : xs[i]? = some a) (h2 : xs[j]? = some b) : btD xs i j = dataLt (Dat.toD a) (Dat.toD b) := by
  unfold btD
  rw [h1, h2]
theorem vals_at : ∀ {us : List V} {its : List Value} {i : Nat} {u : V} {v : Value}, Vals us its → us[i]? = some u → its[i]? = some v → RelV u v
  | _, _, 0, _, _, .cons r _, h1, h2 => by
    simp at h1 h2
    subst h1 h2
    exact r
  | _, _, i + 1, _, _, .cons _ t, h1, h2 => vals_at t (by simpa using h1) (by simpa using h2)
theorem best_dmin (d : α) (xs : List α) : ∀ k, k < xs.length → xs[argBest (btD xs) k]? = some (dmin d (xs.take (k + 1)))
  | 0, h => by
    cases xs with
    | nil => cases h
    | cons x xs => rfl
  | k + 1, h => by
    have ih := best_dmin d xs k (by omega)
    have hx : xs[k + 1]? = some xs[k + 1] := List.getElem?_eq_getElem h
    rw [List.take_add_one (i := k + 1), hx]
    show xs[if btD xs (k + 1) (argBest (btD xs) k) = true then k + 1 else argBest (btD xs) k]? = some (dmin d (xs.take (k + 1) ++ [xs[k + 1]]))
    rw [dmin_snoc d _ _ (fun z => by have z := congrArg List.length z; rw [List.length_take] at z; have : ([] : List α).length = 0 := rfl; omega)]
    rw [btD_at hx ih]
    by_cases hc : dataLt (Dat.toD xs[k + 1]) (Dat.toD (dmin d (xs.take (k + 1)))) = true
    · rw [if_pos hc, if_pos hc, hx]
    · rw [if_neg hc, if_neg hc, ih]
theorem cr_minA [ds : DatS α] (d : α) (hc : X.calm = true) (hu : X.A.units + 64 < cLine) (hd : Dat.deep α ≤ 60) (hn : ∀ x : α, Dat.toD x ≠ .none) : CallR X (.builtin "min") (fun vs H Q => ∃ (a : Addr) (us : List V) (xs : List α) (G : Hp), vs = [.ref a] ∧ SqL X.K H a us ∧ Same G H ∧ Paired (rep X.K G) us xs ∧ 0 < xs.length ∧
    ∀ u, u ∈ us → rep X.K G u (dmin d xs) → Q u H) := by
  intro pins s σ H vs us Q I r h
  obtain ⟨a, us', xs, G, rfl, hs, sg, pr, hl0, q⟩ := h
  obtain ⟨its, rv, hl, hz⟩ := I.list hs
  obtain ⟨u, rfl, ru⟩ := vals1 r
  obtain rfl : u = Value.ref a := ru
  have l1 : us'.length = xs.length := paired_len pr
  have l2 : us'.length = its.length := rv.length
  have at_ : ∀ (i : Nat) (v : Value), its.toArray[i]? = some v → ∃ u x, us'[i]? = some u ∧ xs[i]? = some x ∧ RelV u v ∧ rep X.K G u x := fun i v hv => by
    have hv : its[i]? = some v := by simpa using hv
    have hi : i < its.length := (List.getElem?_eq_some_iff.mp hv).1
    have hx : xs[i]? = some (xs[i]'(by omega)) := List.getElem?_eq_getElem (by omega)
    obtain ⟨u, hu, r⟩ := paired_get pr hx
    refine ⟨u, _, hu, hx, ?_, r⟩
    exact vals_at rv hu hv
  refine min_listH (I.ok.hd hc) hl.isList (by simp; omega) (btD xs) (fun i j vi vj h' tk hi hj kp => ?_) fun v h' tk hv kp => ?_
  · obtain ⟨u1, x1, _, e1, r1, p1⟩ := at_ i vi hi
    obtain ⟨u2, x2, _, e2, r2, p2⟩ := at_ j vj hj
    have I2 := I.kept (t' := tk) kp
    obtain ⟨as, ra⟩ := Dp.reads I2 _ _ _ (Dat.dp sg p1) r1
    obtain ⟨bs, rb⟩ := Dp.reads I2 _ _ _ (Dat.dp sg p2) r2
    rw [btD_at e1 e2]
    have h1 := Dat.dep x1
    have h2 := Dat.dep x2
    refine PySem.W.rcLt_alike _ _ _ _ _ _ as bs ra rb (ds.al x1 x2) (hn x1) ?_
    show X.A.units + 1 + min (Dat.toD x1).depth (Dat.toD x2).depth < cLine
    omega
  · have hb := best_dmin d xs (its.toArray.size - 1) (by simp; omega)
    rw [show its.toArray.size - 1 + 1 = xs.length by simp; omega, List.take_length] at hb
    obtain ⟨u, x, hu, hx, r1, p1⟩ := at_ _ _ hv
    rw [hb] at hx
    cases hx
    exact ⟨u, H, I.kept kp, r1, q u (List.mem_of_getElem? hu) p1⟩
theorem ev_minA {xs : List α} {inst : Rep α} {de : DecidableEq α} {da : Dat α} [m : MonoC P] [s : AsSeq X.K P α inst xs] [DatS α] (hc : X.calm = true) (hu : X.A.units + 64 < cLine) (B : Bl X "min") (d : α) (h0 : 0 < xs.length) (h : EvP X e σ G H P) (hd : Dat.deep α ≤ 60 := by decide) (hn : ∀ x : α, Dat.toD x ≠ .none := by intro x z; cases z)
    (he : starEach [e] X.env = (false, eval e X.env) :: starEach [] X.env := by rfl) : Ev X (.Call (.Name "min" p) [e] [] pos) σ G H (dmin d xs) :=
  evP_of (pe_callB (cr_minA d hc hu hd hn) B.g B.m boot_min (pa_cons pe_sem pa_nil he) (by decide) (by decide) he rfl) fun G1 H1 x1 Q q => h G1 H1 x1 _ fun G2 H2 v x2 _ pv => by
    obtain ⟨a, us, e, g, pr⟩ := s.seq _ _ _ x2.s pv
    exact ⟨a, us, xs, G2, by rw [e], g, x2.s, pr, h0, fun u _ r => q G2 H2 u x2 r⟩
end
section
variable {α : Type} [Rep α] [DecidableEq α] [Dat α]
theorem dmin_spec (d : α) : ∀ (xs : List α) (x : α), dmin d (x :: xs) ∈ x :: xs ∧ ∀ y ∈ x :: xs, dataLt (Dat.toD y) (Dat.toD (dmin d (x :: xs))) = false := by
  have ir : ∀ a : α, dataLt (Dat.toD a) (Dat.toD a) = false := fun a => (PyProof.Rows.listOrd PyProof.Rows.itemOrd).irrefl _
  have nt : ∀ a b c : α, dataLt (Dat.toD a) (Dat.toD c) = true → dataLt (Dat.toD a) (Dat.toD b) = true ∨ dataLt (Dat.toD b) (Dat.toD c) = true := fun a b c h => (PyProof.Rows.listOrd PyProof.Rows.itemOrd).negTrans _ (PySem.W.keyToks (Dat.toD b)) _ h
  have tr : ∀ a b c : α, dataLt (Dat.toD a) (Dat.toD b) = true → dataLt (Dat.toD b) (Dat.toD c) = true → dataLt (Dat.toD a) (Dat.toD c) = true := fun a b c h1 h2 => (PyProof.Rows.listOrd PyProof.Rows.itemOrd).trans _ _ _ h1 h2
  intro xs
  induction xs with
  | nil => exact fun x => ⟨List.mem_singleton.mpr rfl, fun y hy => by rw [List.mem_singleton.mp hy]; exact ir x⟩
  | cons z xs ih =>
    intro x
    have e : dmin d (x :: z :: xs) = dmin d ((if dataLt (Dat.toD z) (Dat.toD x) = true then z else x) :: xs) := rfl
    rw [e]
    obtain ⟨h1, h2⟩ := ih (if dataLt (Dat.toD z) (Dat.toD x) = true then z else x)
    have h3 := h2 _ List.mem_cons_self
    generalize dmin d _ = b at h1 h2 h3
    by_cases hc : dataLt (Dat.toD z) (Dat.toD x) = true
    · rw [if_pos hc] at h1 h2 h3
      refine ⟨List.mem_cons_of_mem _ h1, fun y hy => ?_⟩
      rcases List.mem_cons.mp hy with rfl | hy
      · cases hb : dataLt (Dat.toD y) (Dat.toD b) with
        | false => rfl
        | true => exact absurd (tr _ _ _ hc hb) (by rw [h3]; decide)
      · exact h2 y hy
    · rw [if_neg hc] at h1 h2 h3
      refine ⟨?_, fun y hy => ?_⟩
      · rcases List.mem_cons.mp h1 with h | h
        · rw [h]; exact List.mem_cons_self
        · exact List.mem_cons_of_mem _ (List.mem_cons_of_mem _ h)
      · rcases List.mem_cons.mp hy with rfl | hy
        · exact h3
        · rcases List.mem_cons.mp hy with rfl | hy
          · cases hb : dataLt (Dat.toD y) (Dat.toD b) with
            | false => rfl
            | true =>
              rcases nt _ x _ hb with g | g
              · exact absurd g hc
              · rw [h3] at g; cases g
          · exact h2 y (List.mem_cons_of_mem _ hy)
theorem dmin_mem (d : α) {xs : List α} (h : xs ≠ []) : dmin d xs ∈ xs := by
  cases xs with
  | nil => exact absurd rfl h
  | cons x xs => exact (dmin_spec d xs x).1
theorem dmin_le (d : α) {xs : List α} {y : α} (h : y ∈ xs) : dataLt (Dat.toD y) (Dat.toD (dmin d xs)) = false := by
  cases xs with
  | nil => cases h
  | cons x xs => exact (dmin_spec d xs x).2 y h
end
/-- the order of pairs of ints -/
theorem dlt_pair (p q : Int × Int) : dataLt (Dat.toD p) (Dat.toD q) = (if p.1 = q.1 then decide (p.2 < q.2) else decide (p.1 < q.1)) := by
  show dataLt (.tuple [.int p.1, .int p.2]) (.tuple [.int q.1, .int q.2]) = _
  rw [PySem.W.dataLt_pair (by simp [alike]) (by simp [alike])]
  have e : PyData.eqv (.int p.1) (.int q.1) = decide (p.1 = q.1) := Dat.eqv (α := Int) p.1 q.1
  have e2 : PyData.eqv (.int p.2) (.int q.2) = decide (p.2 = q.2) := Dat.eqv (α := Int) p.2 q.2
  rw [e, e2, PySem.W.dataLt_int, PySem.W.dataLt_int]
  by_cases h : p.1 = q.1
  · rw [if_pos (by simpa using h), if_pos h]
    by_cases h2 : p.2 = q.2
    · simp [h2]
    · simp [h2]
  · rw [if_neg (by simpa using h), if_neg h]
end RL

set_option maxHeartbeats 4000000
namespace Q
open PySem PySem.Spec PyProof.Rows L2 RL Rep
/-! need_modulus -/
def m_need_modulus (modulus : Int) : Unit :=
  (if (decide (modulus < (1 : Int))) = true then () else ())
/-! are_places -/
def m_are_places_1s (row : (List Int)) (place : Int) : Int → (LR Bool Int) := fun last => (if (!(decide (last < place) && decide (place < ((row).length : Int)))) = true then (.ret false) else (.nxt place))
def m_are_places_2  : Int → Bool := fun last => true
def m_are_places (row : (List Int)) (places : (List Int)) : Bool :=
  ((lrun (m_are_places_1s row) places (-1 : Int)).out m_are_places_2)

theorem all_lt {ps : List Int} {n p : Int} (hx : p ∈ ps) (h : ∀ p ∈ ps, 0 ≤ p ∧ p < n) : p < n := (h p hx).2
theorem all_ge {ps : List Int} {n p : Int} (hx : p ∈ ps) (h : ∀ p ∈ ps, 0 ≤ p ∧ p < n) : 0 ≤ p := (h p hx).1

/-- rising, above last, below n -/
def asc (n : Nat) : Int → List Int → Bool
  | _, [] => true
  | last, p :: ps => decide (last < p) && decide (p < (n : Int)) && asc n p ps
theorem asc_iff {n : Nat} : ∀ {ps : List Int} {last : Int}, asc n last ps = true ↔ ps.Pairwise (· < ·) ∧ ∀ p ∈ ps, last < p ∧ p < (n : Int)
  | [], last => by simp [asc]
  | q :: qs, last => by
    rw [asc, Bool.and_eq_true, Bool.and_eq_true, decide_eq_true_eq, decide_eq_true_eq, asc_iff, List.pairwise_cons]
    constructor
    · rintro ⟨⟨h1, h2⟩, h3, h4⟩
      refine ⟨⟨fun z hz => (h4 z hz).1, h3⟩, fun p hp => ?_⟩
      rcases List.mem_cons.mp hp with rfl | hp
      · exact ⟨h1, h2⟩
      · have := h4 p hp; omega
    · rintro ⟨⟨h1, h2⟩, h3⟩
      have := h3 q List.mem_cons_self
      exact ⟨this, h2, fun p hp => ⟨h1 p hp, (h3 p (List.mem_cons_of_mem _ hp)).2⟩⟩
theorem are_go (row : List Int) : ∀ (ps : List Int) (last : Int), (lrun (m_are_places_1s row) ps last).out m_are_places_2 = asc row.length last ps
  | [], last => rfl
  | p :: ps, last => by
    rw [lrun_cons, asc]
    have e : m_are_places_1s row p last = if (decide (last < p) && decide (p < (row.length : Int))) = true then .nxt p else .ret false := by
      unfold m_are_places_1s
      by_cases h1 : last < p <;> by_cases h2 : p < (row.length : Int) <;> simp [h1, h2]
    rw [e]
    by_cases h : (decide (last < p) && decide (p < (row.length : Int))) = true
    · rw [if_pos h, h, Bool.true_and]
      exact are_go row ps p
    · rw [if_neg h]
      have : (decide (last < p) && decide (p < (row.length : Int))) = false := by simpa only [Bool.not_eq_true] using h
      rw [this]; rfl
theorem are_eq (row places : List Int) : m_are_places row places = asc row.length (-1) places := are_go row places (-1)
theorem are_all {row places : List Int} (h : m_are_places row places = true) : ∀ p ∈ places, 0 ≤ p ∧ p < (row.length : Int) := fun p hp => by
  rw [are_eq] at h
  have := (asc_iff.mp h).2 p hp
  omega

/-! rests -/
def m_rests (row : (List Int)) (modulus : Int) : (List Int) :=
  (row.map (fun (number : Int) => (number % modulus)))

theorem post_rests (row : List Int) (modulus : Int) (h : 1 ≤ modulus) : (m_rests row modulus).length = row.length := by
  unfold m_rests
  exact List.length_map _

/-- a dict's keys are rests, each once -/
structure KIn (m : Int) (d : Dct Int Int) : Prop where
  nd : (d.kvs.map (·.1)).Nodup
  bd : ∀ k ∈ d.kvs.map (·.1), 0 ≤ k ∧ k < m
theorem KIn.len {m : Int} {d : Dct Int Int} (h : KIn m d) : (d.kvs.length : Int) ≤ m ∨ d.kvs = [] := by
  by_cases hm : 0 ≤ m
  · left
    have := nodup_sub_len (m := rng 0 m) h.nd fun k hk => mem_rng.mpr (h.bd k hk)
    rw [List.length_map, rng_len] at this
    omega
  · right
    cases e : d.kvs with
    | nil => rfl
    | cons p r =>
      have := h.bd p.1 (by rw [e]; exact List.mem_cons_self)
      omega
theorem KIn.nil {m : Int} : KIn m ⟨[]⟩ := ⟨List.nodup_nil, fun _ h => by cases h⟩
theorem KIn.one {m : Int} (h : 1 ≤ m) (v : Int) : KIn m ⟨[(0, v)]⟩ := ⟨by simp, fun k hk => by simp at hk; omega⟩
theorem KIn.put {m k v : Int} {d : Dct Int Int} (h : KIn m d) (hk : 0 ≤ k ∧ k < m) : KIn m ⟨dput d.kvs k v⟩ := by
  have e := dput_keys d.kvs k v
  by_cases hn : k ∈ d.kvs.map (·.1)
  · rw [if_pos hn] at e
    exact ⟨by show (List.map _ (dput d.kvs k v)).Nodup; rw [e]; exact h.nd, fun j hj => h.bd j (by rw [← e]; exact hj)⟩
  · rw [if_neg hn] at e
    refine ⟨?_, fun j hj => ?_⟩
    · show (List.map _ (dput d.kvs k v)).Nodup
      rw [e, List.nodup_append]
      refine ⟨h.nd, by simp, fun a ha b hb z => ?_⟩
      rw [List.mem_singleton.mp hb] at z
      exact hn (z ▸ ha)
    · have hj : j ∈ List.map (·.1) (dput d.kvs k v) := hj
      rw [e] at hj
      rcases List.mem_append.mp hj with hj | hj
      · exact h.bd j hj
      · rw [List.mem_singleton.mp hj]; exact hk
def KInL (m : Int) (ds : List (Dct Int Int)) : Prop := ∀ d ∈ ds, KIn m d
theorem KInL.set {m : Int} {ds : List (Dct Int Int)} {d : Dct Int Int} {i : Nat} (h : KInL m ds) (hd : KIn m d) : KInL m (ds.set i d) := fun x hx => by
  rcases List.mem_or_eq_of_mem_set hx with hx | hx
  · exact h x hx
  · exact hx ▸ hd
theorem KInL.at_ {m : Int} {ds : List (Dct Int Int)} {i : Nat} (h : KInL m ds) : KIn m (ds.getD i ⟨[]⟩) := by
  rw [List.getD_eq_getElem?_getD]
  cases e : ds[i]? with
  | none => exact KIn.nil
  | some y => exact h y (List.mem_of_getElem? e)
def KInT (m : Int) (t : List (List (Dct Int Int))) : Prop := ∀ ds ∈ t, KInL m ds
theorem KInT.at_ {m : Int} {t : List (List (Dct Int Int))} {i : Nat} (h : KInT m t) : KInL m (t.getD i []) := by
  rw [List.getD_eq_getElem?_getD]
  cases e : t[i]? with
  | none => exact fun _ h => by cases h
  | some y => exact h y (List.mem_of_getElem? e)
theorem kin_mod {a m : Int} (h : 1 ≤ m) : 0 ≤ a % m ∧ a % m < m := ⟨Int.emod_nonneg _ (by omega), Int.emod_lt_of_pos _ (by omega)⟩
theorem kin_szd {m : Int} {d : Dct Int Int} (h : KIn m d) (hm : m ≤ 1000) : d.kvs.length < sizeLine := by
  rw [sizeLine_eq]
  rcases h.len with h | h
  · omega
  · rw [h]; decide
theorem kin_d64 {m : Int} {d : Dct Int Int} (h : KIn m d) (hm : m ≤ 63) : d.kvs.length < 64 := by
  rcases h.len with h | h
  · omega
  · rw [h]; decide
theorem kin_start {m : Int} {t : List (List (Dct Int Int))} {i : Nat} (h : KInT m t) : KInL m (List.map (fun (w : Dct Int Int) => w) (t.getD i []) ++ [⟨[]⟩]) := fun d hd => by
  rcases List.mem_append.mp hd with hd | hd
  · obtain ⟨x, hx, rfl⟩ := List.mem_map.mp hd
    exact h.at_ x hx
  · rw [List.mem_singleton.mp hd]; exact KIn.nil
theorem kin_cons {m : Int} {t : List (List (Dct Int Int))} {ds : List (Dct Int Int)} (h : KInT m t) (hd : KInL m ds) : KInT m (ds :: t) := fun x hx => by
  rcases List.mem_cons.mp hx with rfl | hx
  · exact hd
  · exact h x hx
theorem kin_one {m : Int} (h : 1 ≤ m) : KInT m [[⟨[((0 : Int), (1 : Int))]⟩]] := fun ds hd d h2 => by
  rw [List.mem_singleton.mp hd] at h2
  rw [List.mem_singleton.mp h2]
  exact KIn.one h 1

/-! is_hit -/
def m_is_hit (row : (List Int)) (modulus : Int) (places : (List Int)) : Bool :=
  (if ((decide (places = ([] : List Int))) || (!(m_are_places row places))) = true then false else (decide ((((places.map (fun (place : Int) => ((row).getD (place).toNat (0 : Int))))).sum % modulus) = (0 : Int))))
/-! need_count -/
def m_need_count (many : Int) (least : Int) : Unit :=
  (if (decide (many < least)) = true then () else ())
/-! ways_on -/
def m_ways_on_10 (here : (List (Dct Int Int))) (z2 : (Int × (Dct Int Int))) (z3 : (Int × Int)) (both : Int) : (List (Dct Int Int)) :=
  (here.set ((z2.1 + (1 : Int))).toNat (⟨dput (here.getD ((z2.1 + (1 : Int))).toNat ⟨[]⟩).kvs both (((dlook (here.getD ((z2.1 + (1 : Int))).toNat ⟨[]⟩).kvs both).getD (0 : Int)) + z3.2)⟩ : (Dct Int Int)))
def m_ways_on_8s (modulus : Int) (rest_ : Int) (z2 : (Int × (Dct Int Int))) (z3 : (Int × Int)) : (List (Dct Int Int)) → (List (Dct Int Int)) := fun here => m_ways_on_10 here z2 z3 ((rest_ + z3.1) % modulus)
def m_ways_on_9  : (List (Dct Int Int)) → (List (Dct Int Int)) := fun here => here
def m_ways_on_6s (modulus : Int) (rest_ : Int) (z2 : (Int × (Dct Int Int))) : (List (Dct Int Int)) → (List (Dct Int Int)) := fun here_1 => (m_ways_on_9 (lfold (m_ways_on_8s modulus rest_ z2) z2.2.kvs here_1))
def m_ways_on_7 (found_0 : (List (List (Dct Int Int)))) : (List (Dct Int Int)) → (List (List (Dct Int Int))) := fun here_1 => (here_1 :: found_0)
def m_ways_on_5 (modulus : Int) (found_0 : (List (List (Dct Int Int)))) (rest_ : Int) (behind : (List (Dct Int Int))) (here : (List (Dct Int Int))) : (List (List (Dct Int Int))) :=
  ((m_ways_on_7 found_0) (lfold (m_ways_on_6s modulus rest_) (enum behind) here))
def m_ways_on_4 (modulus : Int) (found_0 : (List (List (Dct Int Int)))) (rest_ : Int) (behind : (List (Dct Int Int))) : (List (List (Dct Int Int))) :=
  m_ways_on_5 modulus found_0 rest_ behind ((behind.map (fun (ways : (Dct Int Int)) => ways)) ++ [(⟨[]⟩ : (Dct Int Int))])
def m_ways_on_2s (modulus : Int) (rest_ : Int) : (List (List (Dct Int Int))) → (List (List (Dct Int Int))) := fun found_0 => m_ways_on_4 modulus found_0 rest_ ((found_0).getD ((0 : Int)).toNat [])
def m_ways_on_3  : (List (List (Dct Int Int))) → (List (List (Dct Int Int))) := fun found_0 => found_0
def m_ways_on_1 (some_ : (List Int)) (modulus : Int) (found : (List (List (Dct Int Int)))) : (List (List (Dct Int Int))) :=
  (m_ways_on_3 (lfold (m_ways_on_2s modulus) ((some_).reverse) found))
def m_ways_on (some_ : (List Int)) (modulus : Int) : (List (List (Dct Int Int))) :=
  m_ways_on_1 some_ modulus ([([(⟨[((0 : Int), (1 : Int))]⟩ : (Dct Int Int))] : List (Dct Int Int))] : List (List (Dct Int Int)))

theorem lfold_app {α S : Type} (f : α → S → S) : ∀ (xs ys : List α) (s : S), lfold f (xs ++ ys) s = lfold f ys (lfold f xs s)
  | [], _, _ => rfl
  | x :: xs, ys, s => by rw [List.cons_append, lfold_cons, lfold_cons, lfold_app f xs]
/-- all of a table's dict put to another, a rest further on -/
def addd (m rest : Int) (kvs : List (Int × Int)) (d : Dct Int Int) : Dct Int Int := lfold (fun (z : Int × Int) (d : Dct Int Int) => (⟨dput d.kvs ((rest + z.1) % m) (((dlook d.kvs ((rest + z.1) % m)).getD 0) + z.2)⟩ : Dct Int Int)) kvs d
def wstep (m rest : Int) (behind : List (Dct Int Int)) : List (Dct Int Int) := lfold (m_ways_on_6s m rest) (enum behind) (behind.map (fun (w : Dct Int Int) => w) ++ [(⟨[]⟩ : Dct Int Int)])
def wtab (m : Int) : List Int → List (List (Dct Int Int))
  | [] => [[⟨[((0 : Int), (1 : Int))]⟩]]
  | x :: xs => wstep m x ((wtab m xs).getD 0 []) :: wtab m xs
theorem ways_fold (m : Int) : ∀ xs : List Int, lfold (m_ways_on_2s m) xs.reverse [[⟨[((0 : Int), (1 : Int))]⟩]] = wtab m xs
  | [] => rfl
  | x :: xs => by
    rw [List.reverse_cons, lfold_app, ways_fold m xs]
    rfl
theorem ways_eq (some_ : List Int) (m : Int) : m_ways_on some_ m = wtab m some_ := by
  unfold m_ways_on m_ways_on_1 m_ways_on_3
  exact ways_fold m some_
theorem wtab_len (m : Int) : ∀ xs : List Int, (wtab m xs).length = xs.length + 1
  | [] => rfl
  | x :: xs => by rw [wtab, List.length_cons, wtab_len m xs, List.length_cons]
theorem wtab_drop (m : Int) : ∀ (xs : List Int) (i : Nat), i ≤ xs.length → (wtab m xs).getD i [] = (wtab m (xs.drop i)).getD 0 []
  | xs, 0, _ => by rw [List.drop_zero]
  | [], i + 1, h => by simp at h
  | x :: xs, i + 1, h => by
    rw [wtab, List.getD_cons_succ, List.drop_succ_cons]
    exact wtab_drop m xs i (by simpa using h)
theorem getD_setD {ds : List (Dct Int Int)} {i j : Nat} {d : Dct Int Int} (h : i < ds.length) : (ds.set i d).getD j ⟨[]⟩ = if j = i then d else ds.getD j ⟨[]⟩ := by
  rw [List.getD_eq_getElem?_getD, List.getD_eq_getElem?_getD]
  by_cases hj : j = i
  · subst hj
    rw [if_pos rfl, List.getElem?_set_self h]
    rfl
  · rw [if_neg hj, List.getElem?_set_ne (Ne.symm hj)]
/-- a dict put to that of the next place -/
theorem in_fold (m rest : Int) (i : Int) (hi : 0 ≤ i) (w : Dct Int Int) : ∀ (kvs : List (Int × Int)) (here : List (Dct Int Int)), (i + 1).toNat < here.length →
    (lfold (m_ways_on_8s m rest (i, w)) kvs here).length = here.length ∧ ∀ j, (lfold (m_ways_on_8s m rest (i, w)) kvs here).getD j ⟨[]⟩ = if j = (i + 1).toNat then addd m rest kvs (here.getD j ⟨[]⟩) else here.getD j ⟨[]⟩
  | [], here, h => ⟨rfl, fun j => by unfold addd; rw [lfold_nil, lfold_nil]; split <;> rfl⟩
  | z :: kvs, here, h => by
    rw [lfold_cons]
    unfold m_ways_on_8s m_ways_on_10
    have ih := in_fold m rest i hi w kvs (here.set (i + 1).toNat (⟨dput (here.getD (i + 1).toNat ⟨[]⟩).kvs ((rest + z.1) % m) (((dlook (here.getD (i + 1).toNat ⟨[]⟩).kvs ((rest + z.1) % m)).getD (0 : Int)) + z.2)⟩ : Dct Int Int)) (by rw [List.length_set]; exact h)
    unfold m_ways_on_8s m_ways_on_10 at ih
    refine ⟨ih.1.trans List.length_set, fun j => (ih.2 j).trans ?_⟩
    rw [getD_setD h]
    by_cases hj : j = (i + 1).toNat
    · subst hj
      rw [if_pos rfl, if_pos rfl, if_pos rfl]
      unfold addd
      rw [lfold_cons]
    · rw [if_neg hj, if_neg hj, if_neg hj]
theorem out_fold (m rest : Int) : ∀ (ws : List (Dct Int Int)) (k : Nat) (here : List (Dct Int Int)), k + ws.length < here.length →
    (lfold (m_ways_on_6s m rest) ((ws.zipIdx k).map fun p => ((p.2 : Int), p.1)) here).length = here.length ∧
    ∀ j, (lfold (m_ways_on_6s m rest) ((ws.zipIdx k).map fun p => ((p.2 : Int), p.1)) here).getD j ⟨[]⟩ = if k < j ∧ j ≤ k + ws.length then addd m rest (ws.getD (j - 1 - k) ⟨[]⟩).kvs (here.getD j ⟨[]⟩) else here.getD j ⟨[]⟩
  | [], k, here, h => ⟨rfl, fun j => by rw [if_neg (by simp only [List.length_nil]; omega)]; rfl⟩
  | w :: ws, k, here, h => by
    rw [List.zipIdx_cons, List.map_cons, lfold_cons]
    have e : m_ways_on_6s m rest ((k : Int), w) here = lfold (m_ways_on_8s m rest ((k : Int), w)) w.kvs here := rfl
    simp only [List.length_cons] at h
    obtain ⟨l1, g1⟩ := in_fold m rest (k : Int) (by omega) w w.kvs here (by omega)
    have ih := out_fold m rest ws (k + 1) (m_ways_on_6s m rest ((k : Int), w) here) (by rw [e, l1]; omega)
    refine ⟨by rw [ih.1, e, l1], fun j => ?_⟩
    rw [ih.2 j, e, g1 j]
    have hk : ((k : Int) + 1).toNat = k + 1 := by omega
    rw [hk]
    by_cases h1 : j = k + 1
    · subst h1
      rw [if_neg (by omega), if_pos rfl, if_pos (by simp only [List.length_cons]; omega)]
      have e0 : k + 1 - 1 - k = 0 := by omega
      rw [e0]
      rfl
    · rw [if_neg h1]
      by_cases h2 : k + 1 < j ∧ j ≤ k + 1 + ws.length
      · rw [if_pos h2, if_pos (by simp only [List.length_cons]; omega)]
        have e1 : j - 1 - k = (j - 1 - (k + 1)) + 1 := by omega
        rw [e1, List.getD_cons_succ]
      · rw [if_neg h2, if_neg (by simp only [List.length_cons]; omega)]
theorem wstep_at (m rest : Int) (ws : List (Dct Int Int)) : (wstep m rest ws).length = ws.length + 1 ∧ ∀ j, (wstep m rest ws).getD j ⟨[]⟩ = if j = 0 then ws.getD 0 ⟨[]⟩ else addd m rest (ws.getD (j - 1) ⟨[]⟩).kvs (ws.getD j ⟨[]⟩) := by
  have e0 : (ws.map (fun (w : Dct Int Int) => w) ++ [(⟨[]⟩ : Dct Int Int)]) = ws ++ [⟨[]⟩] := by rw [List.map_id']
  have g0 : ∀ j, (ws ++ [(⟨[]⟩ : Dct Int Int)]).getD j ⟨[]⟩ = ws.getD j ⟨[]⟩ := fun j => by
    rw [List.getD_eq_getElem?_getD, List.getD_eq_getElem?_getD]
    by_cases h : j < ws.length
    · rw [List.getElem?_append_left h]
    · rw [List.getElem?_append_right (by omega), List.getElem?_eq_none (l := ws) (by omega)]
      cases j - ws.length with
      | zero => rfl
      | succ n => rfl
  have o := out_fold m rest ws 0 (ws ++ [⟨[]⟩]) (by rw [List.length_append]; show 0 + ws.length < ws.length + 1; omega)
  unfold wstep enum
  rw [e0]
  refine ⟨o.1.trans (by rw [List.length_append]; rfl), fun j => ?_⟩
  rw [o.2 j, g0]
  by_cases hj : j = 0
  · rw [if_neg (by omega), if_pos hj, hj]
  · rw [if_neg hj]
    by_cases h : j ≤ ws.length
    · rw [if_pos (by omega)]
      have : j - 1 - 0 = j - 1 := by omega
      rw [this]
    · rw [if_neg (by omega)]
      have e1 : ws.getD (j - 1) ⟨[]⟩ = ⟨[]⟩ := by rw [List.getD_eq_getElem?_getD, List.getElem?_eq_none (by omega)]; rfl
      rw [e1]
      rfl
/-! what the tables tell -/
def get0 (d : Dct Int Int) (k : Int) : Int := (dlook d.kvs k).getD 0
theorem dlook_none_of {kvs : List (Int × Int)} {k : Int} (h : k ∉ kvs.map (·.1)) : dlook kvs k = none := by
  induction kvs with
  | nil => rfl
  | cons p r ih =>
    rw [List.map_cons, List.mem_cons, not_or] at h
    rw [dlook_cons, if_neg (fun z => h.1 z.symm), ih h.2]
theorem dlook_mem {kvs : List (Int × Int)} {k : Int} : (dlook kvs k).isSome = true ↔ k ∈ kvs.map (·.1) := by
  induction kvs with
  | nil => simp [dlook_nil]
  | cons p r ih =>
    rw [dlook_cons, List.map_cons, List.mem_cons]
    by_cases h : p.1 = k
    · rw [if_pos h]; exact ⟨fun _ => .inl h.symm, fun _ => rfl⟩
    · rw [if_neg h, ih]
      exact ⟨.inr, fun z => z.elim (fun e => absurd e.symm h) id⟩
theorem mod_sub_iff {m r s k : Int} (hm : 1 ≤ m) (hs : 0 ≤ s ∧ s < m) (hk : 0 ≤ k ∧ k < m) : (r + s) % m = k ↔ s = (k - r) % m := by
  constructor
  · intro h
    have e1 : (k - r) % m = ((r + s) % m - r) % m := by rw [h]
    have e2 : ((r + s) % m - r) % m = (r + s - r) % m := Int.emod_sub_emod _ _ _
    rw [e1, e2, show r + s - r = s by omega, Int.emod_eq_of_lt hs.1 hs.2]
  · intro h
    have e1 : (r + s) % m = (r + (k - r) % m) % m := by rw [h]
    rw [e1, Int.add_emod_emod, show r + (k - r) = k by omega, Int.emod_eq_of_lt hk.1 hk.2]
theorem addd_get {m r : Int} (hm : 1 ≤ m) {k : Int} (hk : 0 ≤ k ∧ k < m) : ∀ (kvs : List (Int × Int)) (d : Dct Int Int), (kvs.map (·.1)).Nodup → (∀ s ∈ kvs.map (·.1), 0 ≤ s ∧ s < m) →
    get0 (addd m r kvs d) k = get0 d k + get0 ⟨kvs⟩ ((k - r) % m) ∧ ((dlook (addd m r kvs d).kvs k).isSome = ((dlook d.kvs k).isSome || (dlook kvs ((k - r) % m)).isSome))
  | [], d, _, _ => by
    unfold addd
    rw [lfold_nil]
    exact ⟨by show _ = _ + (0 : Int); omega, by rw [dlook_nil]; simp⟩
  | z :: kvs, d, nd, bd => by
    rw [List.map_cons, List.nodup_cons] at nd
    have bz := bd z.1 List.mem_cons_self
    have ih := addd_get (r := r) hm hk kvs (⟨dput d.kvs ((r + z.1) % m) (((dlook d.kvs ((r + z.1) % m)).getD 0) + z.2)⟩ : Dct Int Int) nd.2 fun s hs => bd s (List.mem_cons_of_mem _ hs)
    have e : addd m r (z :: kvs) d = addd m r kvs (⟨dput d.kvs ((r + z.1) % m) (((dlook d.kvs ((r + z.1) % m)).getD 0) + z.2)⟩ : Dct Int Int) := by unfold addd; rw [lfold_cons]
    rw [e, ih.1, ih.2]
    have g : get0 (⟨dput d.kvs ((r + z.1) % m) (((dlook d.kvs ((r + z.1) % m)).getD 0) + z.2)⟩ : Dct Int Int) k = if k = (r + z.1) % m then get0 d k + z.2 else get0 d k := by
      unfold get0
      rw [dlook_dput]
      split
      · rename_i h; rw [h]; rfl
      · rfl
    have g2 : (dlook (dput d.kvs ((r + z.1) % m) (((dlook d.kvs ((r + z.1) % m)).getD 0) + z.2)) k).isSome = (decide (k = (r + z.1) % m) || (dlook d.kvs k).isSome) := by
      rw [dlook_dput]
      by_cases h : k = (r + z.1) % m
      · rw [if_pos h, decide_eq_true h]; rfl
      · rw [if_neg h, decide_eq_false h]; rfl
    have iff := mod_sub_iff (r := r) hm bz hk
    have gg : get0 (⟨z :: kvs⟩ : Dct Int Int) ((k - r) % m) = if z.1 = (k - r) % m then z.2 else get0 ⟨kvs⟩ ((k - r) % m) := by
      unfold get0
      rw [dlook_cons]
      split <;> rfl
    have gs : (dlook (z :: kvs) ((k - r) % m)).isSome = (decide (z.1 = (k - r) % m) || (dlook kvs ((k - r) % m)).isSome) := by
      rw [dlook_cons]
      by_cases h : z.1 = (k - r) % m
      · rw [if_pos h, decide_eq_true h]; rfl
      · rw [if_neg h, decide_eq_false h]; rfl
    rw [g, gg, g2, gs]
    by_cases h : z.1 = (k - r) % m
    · have h2 : k = (r + z.1) % m := (iff.mpr h).symm
      have h3 : dlook kvs ((k - r) % m) = none := dlook_none_of (by rw [← h]; exact nd.1)
      rw [if_pos h, if_pos h2, decide_eq_true h, decide_eq_true h2, h3]
      have : get0 (⟨kvs⟩ : Dct Int Int) ((k - r) % m) = 0 := by unfold get0; rw [h3]; rfl
      rw [this]
      exact ⟨by omega, by simp⟩
    · have h2 : ¬ k = (r + z.1) % m := fun z' => h (iff.mp z'.symm)
      rw [if_neg h, if_neg h2, decide_eq_false h, decide_eq_false h2]
      exact ⟨rfl, by simp⟩
theorem addd_kin {m r : Int} (hm : 1 ≤ m) : ∀ (kvs : List (Int × Int)) (d : Dct Int Int), KIn m d → KIn m (addd m r kvs d)
  | [], d, h => by unfold addd; rw [lfold_nil]; exact h
  | z :: kvs, d, h => by
    have e : addd m r (z :: kvs) d = addd m r kvs (⟨dput d.kvs ((r + z.1) % m) (((dlook d.kvs ((r + z.1) % m)).getD 0) + z.2)⟩ : Dct Int Int) := by unfold addd; rw [lfold_cons]
    rw [e]
    exact addd_kin hm kvs _ (h.put (kin_mod hm))
/-- in how many ways so many of some rests come to a rest -/
def cntw (m : Int) : List Int → Nat → Int → Int
  | [], j, k => if j = 0 ∧ k = 0 then 1 else 0
  | x :: xs, 0, k => cntw m xs 0 k
  | x :: xs, j + 1, k => cntw m xs (j + 1) k + cntw m xs j ((k - x) % m)
def reach (m : Int) : List Int → Nat → Int → Bool
  | [], j, k => decide (j = 0 ∧ k = 0)
  | x :: xs, 0, k => reach m xs 0 k
  | x :: xs, j + 1, k => reach m xs (j + 1) k || reach m xs j ((k - x) % m)
theorem wtab_kin (m : Int) (hm : 1 ≤ m) : ∀ xs : List Int, KInL m ((wtab m xs).getD 0 [])
  | [] => fun d hd => by rw [List.mem_singleton.mp hd]; exact KIn.one hm 1
  | x :: xs => fun d hd => by
    have hd : d ∈ wstep m x ((wtab m xs).getD 0 []) := hd
    obtain ⟨j, hj, e⟩ := List.getElem_of_mem hd
    have w := (wstep_at m x ((wtab m xs).getD 0 [])).2 j
    rw [List.getD_eq_getElem?_getD, List.getElem?_eq_getElem hj] at w
    have w : (wstep m x ((wtab m xs).getD 0 []))[j] = _ := w
    rw [← e, w]
    split
    · exact (wtab_kin m hm xs).at_
    · exact addd_kin hm _ _ (wtab_kin m hm xs).at_
theorem wtab_kinT (m : Int) (hm : 1 ≤ m) : ∀ xs : List Int, KInT m (wtab m xs)
  | [] => kin_one hm
  | x :: xs => kin_cons (wtab_kinT m hm xs) (wtab_kin m hm (x :: xs))
theorem wtab_len0 (m : Int) : ∀ xs : List Int, ((wtab m xs).getD 0 []).length = xs.length + 1
  | [] => rfl
  | x :: xs => by
    show (wstep m x ((wtab m xs).getD 0 [])).length = _
    rw [(wstep_at m x _).1, wtab_len0 m xs, List.length_cons]
theorem wtab_cnt (m : Int) (hm : 1 ≤ m) : ∀ (xs : List Int) (j : Nat) (k : Int), 0 ≤ k ∧ k < m → get0 (((wtab m xs).getD 0 []).getD j ⟨[]⟩) k = cntw m xs j k ∧ (dlook (((wtab m xs).getD 0 []).getD j ⟨[]⟩).kvs k).isSome = reach m xs j k
  | [], 0, k, h => by
    show get0 ⟨[((0 : Int), (1 : Int))]⟩ k = _ ∧ (dlook [((0 : Int), (1 : Int))] k).isSome = _
    unfold get0 cntw reach
    rw [dlook_cons, dlook_nil]
    by_cases hk : (0 : Int) = k
    · subst hk; exact ⟨rfl, rfl⟩
    · have hk' : ¬ k = 0 := fun z => hk z.symm
      simp [hk, hk']
  | [], j + 1, k, h => by
    show get0 ⟨[]⟩ k = _ ∧ (dlook ([] : List (Int × Int)) k).isSome = _
    unfold get0 cntw reach
    rw [dlook_nil]
    simp
  | x :: xs, 0, k, h => by
    have ih := wtab_cnt m hm xs 0 k h
    show get0 ((wstep m x ((wtab m xs).getD 0 [])).getD 0 ⟨[]⟩) k = _ ∧ (dlook ((wstep m x ((wtab m xs).getD 0 [])).getD 0 ⟨[]⟩).kvs k).isSome = _
    rw [(wstep_at m x _).2 0, if_pos rfl]
    exact ih
  | x :: xs, j + 1, k, h => by
    have ih1 := wtab_cnt m hm xs (j + 1) k h
    have ih2 := wtab_cnt m hm xs j ((k - x) % m) (kin_mod hm)
    show get0 ((wstep m x ((wtab m xs).getD 0 [])).getD (j + 1) ⟨[]⟩) k = _ ∧ (dlook ((wstep m x ((wtab m xs).getD 0 [])).getD (j + 1) ⟨[]⟩).kvs k).isSome = _
    rw [(wstep_at m x _).2 (j + 1), if_neg (by omega), show j + 1 - 1 = j from rfl]
    have kk := (wtab_kin m hm xs).at_ (i := j)
    have a := addd_get (r := x) hm h (((wtab m xs).getD 0 []).getD j ⟨[]⟩).kvs (((wtab m xs).getD 0 []).getD (j + 1) ⟨[]⟩) kk.nd kk.bd
    rw [a.1, a.2, ih1.1, ih1.2, ih2.2]
    exact ⟨by show _ + get0 (((wtab m xs).getD 0 []).getD j ⟨[]⟩) _ = _; rw [ih2.1]; rfl, rfl⟩
theorem post_ways_on (some_ : List Int) (modulus : Int) (h : some_.length ≤ 1000 ∧ 1 ≤ modulus ∧ modulus ≤ 1000) : (m_ways_on some_ modulus).length = some_.length + 1 := by rw [ways_eq, wtab_len]

/-! first_of -/
def m_first_of_4 (places : (List Int)) (wanted : Int) (z1 : (Int × Int)) : ((List Int) × Int) :=
  ((places ++ [z1.1]), wanted)
def m_first_of_3 (modulus : Int) (found : (List (List (Dct Int Int)))) (places : (List Int)) (wanted : Int) (z1 : (Int × Int)) (left : Int) : ((List Int) × Int) :=
  (if ((decide (left > (0 : Int))) && (dlook ((((found).getD ((z1.1 + (1 : Int))).toNat [])).getD ((left - (1 : Int))).toNat (⟨[]⟩ : (Dct Int Int))).kvs ((wanted - z1.2) % modulus)).isSome) = true then m_first_of_4 places ((wanted - z1.2) % modulus) z1 else (places, wanted))
def m_first_of_1s (modulus : Int) (many : Int) (found : (List (List (Dct Int Int)))) (z1 : (Int × Int)) : ((List Int) × Int) → ((List Int) × Int) := fun (places, wanted) => m_first_of_3 modulus found places wanted z1 (many - ((places).length : Int))
def m_first_of_2  : ((List Int) × Int) → (Option (List Int)) := fun (places, wanted) => (some places)
def m_first_of (some_ : (List Int)) (modulus : Int) (many : Int) (found : (List (List (Dct Int Int)))) : (Option (List Int)) :=
  (if ((decide (many ≥ ((((found).getD ((0 : Int)).toNat [])).length : Int))) || (!(dlook ((((found).getD ((0 : Int)).toNat [])).getD (many).toNat (⟨[]⟩ : (Dct Int Int))).kvs (0 : Int)).isSome)) = true then (none : (Option (List Int))) else (m_first_of_2 (lfold (m_first_of_1s modulus many found) (enum some_) (([] : (List Int)), (0 : Int)))))

/-- what is left to be found is to be had of the rests behind -/
structure GInv (m : Int) (xs : List Int) (left w : Int) : Prop where
  r : reach m xs left.toNat w = true
  l : 0 ≤ left
  w : 0 ≤ w ∧ w < m
theorem GInv.cast {m left left' w w' : Int} {xs : List Int} (g : GInv m xs left w) (e : left' = left) (e2 : w' = w) : GInv m xs left' w' := by subst e e2; exact g
theorem reach_le {m : Int} {xs : List Int} {j : Nat} {k : Int} (h : reach m xs j k = true) : j ≤ xs.length := by
  by_cases hj : xs.length < j
  · have : ∀ (xs : List Int) (j : Nat) (k : Int), xs.length < j → reach m xs j k = false := by
      intro xs
      induction xs with
      | nil => intro j k h; unfold reach; have : ¬ j = 0 := by simp at h; omega
               simp [this]
      | cons x xs ih =>
        intro j k h
        cases j with
        | zero => simp at h
        | succ j =>
          simp only [List.length_cons] at h
          show (reach m xs (j + 1) k || reach m xs j ((k - x) % m)) = false
          rw [ih (j + 1) k (by omega), ih j _ (by omega)]
          rfl
    rw [this xs j k hj] at h
    cases h
  · omega
theorem enum_split {α : Type} {xs : List α} {l : List (Int × α)} {z : Int × α} {rest : List (Int × α)} (h : l ++ z :: rest = enum xs) : z.1 = (l.length : Int) ∧ rest.length + l.length + 1 = xs.length ∧ xs.drop l.length = z.2 :: rest.map (·.2) ∧ xs.drop (l.length + 1) = rest.map (·.2) := by
  have hl : rest.length + l.length + 1 = xs.length := by
    have := congrArg List.length h
    rw [List.length_append, List.length_cons, enum_len] at this
    omega
  have e2 : (enum xs).map (·.2) = xs := by
    unfold enum
    rw [List.map_map]
    have : ∀ (k : Nat) (ys : List α), (ys.zipIdx k).map ((fun x : Int × α => x.2) ∘ fun p : α × Nat => ((p.2 : Int), p.1)) = ys := by
      intro k ys
      induction ys generalizing k with
      | nil => rfl
      | cons y ys ih => rw [List.zipIdx_cons, List.map_cons, ih]; rfl
    exact this 0 xs
  have e3 : xs = l.map (·.2) ++ z.2 :: rest.map (·.2) := by rw [← e2, ← h, List.map_append, List.map_cons]
  have hz : (enum xs)[l.length]? = some z := by rw [← h, List.getElem?_append_right (Nat.le_refl _), Nat.sub_self]; rfl
  have d1 : xs.drop l.length = z.2 :: rest.map (·.2) := by
    rw [e3, List.drop_append_of_le_length (by rw [List.length_map]; exact Nat.le_refl _), List.drop_of_length_le (by rw [List.length_map]; exact Nat.le_refl _)]
    rfl
  refine ⟨(enum_get hz).1, hl, d1, ?_⟩
  rw [← List.drop_drop, d1]
  rfl
theorem GInv.take {m left w x : Int} {xs : List Int} (hm : 1 ≤ m) (h0 : left > 0) (h : reach m xs (left - 1).toNat ((w - x) % m) = true) : GInv m xs (left - 1) ((w - x) % m) := ⟨h, by omega, kin_mod hm⟩
theorem GInv.skip {m left w x : Int} {xs : List Int} (g : GInv m (x :: xs) left w) (h : ¬ left > 0 ∨ reach m xs (left - 1).toNat ((w - x) % m) = false) : GInv m xs left w := by
  obtain ⟨r, l, b⟩ := g
  refine ⟨?_, l, b⟩
  by_cases h0 : left > 0
  · have h := h.resolve_left fun z => z h0
    rw [show left.toNat = (left - 1).toNat + 1 by omega] at r ⊢
    have r : (reach m xs ((left - 1).toNat + 1) w || reach m xs (left - 1).toNat ((w - x) % m)) = true := r
    rw [h, Bool.or_false] at r
    exact r
  · rw [show left.toNat = 0 by omega] at r ⊢
    exact r
theorem way_at {m : Int} (hm : 1 ≤ m) {xs : List Int} {found : List (List (Dct Int Int))} (hf : found = m_ways_on xs m) {l : List (Int × Int)} {z : Int × Int} {rest : List (Int × Int)} (hs : l ++ z :: rest = enum xs) (j : Nat) (k : Int) (hk : 0 ≤ k ∧ k < m) :
    (dlook ((found.getD (z.1 + 1).toNat []).getD j ⟨[]⟩).kvs k).isSome = reach m (rest.map (·.2)) j k ∧ (found.getD (z.1 + 1).toNat []).length = rest.length + 1 := by
  obtain ⟨e1, e2, _, e4⟩ := enum_split hs
  have ei : (z.1 + 1).toNat = l.length + 1 := by omega
  rw [hf, ways_eq, ei, wtab_drop m xs (l.length + 1) (by omega), e4, (wtab_cnt m hm _ j k hk).2, wtab_len0, List.length_map]
  exact ⟨rfl, rfl⟩
theorem f_ix {m left w : Int} {xs : List Int} {found : List (List (Dct Int Int))} {l : List (Int × Int)} {z : Int × Int} {rest : List (Int × Int)} (hf : found = m_ways_on xs m) (hs : l ++ z :: rest = enum xs) (g : GInv m ((z :: rest).map (·.2)) left w) (hm : 1 ≤ m) : left - 1 < ((found.getD (z.1 + 1).toNat []).length : Int) := by
  rw [(way_at hm hf hs 0 0 ⟨Int.le_refl _, by omega⟩).2]
  have := reach_le g.r
  rw [List.length_map, List.length_cons] at this
  omega
theorem f_take {m left w : Int} {xs : List Int} {found : List (List (Dct Int Int))} {l : List (Int × Int)} {z : Int × Int} {rest : List (Int × Int)} (hf : found = m_ways_on xs m) (hs : l ++ z :: rest = enum xs) (hm : 1 ≤ m)
    (h : left > 0 ∧ (dlook ((found.getD (z.1 + 1).toNat []).getD (left - 1).toNat ⟨[]⟩).kvs ((w - z.2) % m)).isSome = true) : GInv m (rest.map (·.2)) (left - 1) ((w - z.2) % m) := by
  rw [(way_at hm hf hs _ _ (kin_mod hm)).1] at h
  exact .take hm h.1 h.2
theorem f_skip {m left w : Int} {xs : List Int} {found : List (List (Dct Int Int))} {l : List (Int × Int)} {z : Int × Int} {rest : List (Int × Int)} (hf : found = m_ways_on xs m) (hs : l ++ z :: rest = enum xs) (hm : 1 ≤ m) (g : GInv m ((z :: rest).map (·.2)) left w)
    (h : ¬ left > 0 ∨ (dlook ((found.getD (z.1 + 1).toNat []).getD (left - 1).toNat ⟨[]⟩).kvs ((w - z.2) % m)).isSome = false) : GInv m (rest.map (·.2)) left w := by
  rw [(way_at hm hf hs _ _ (kin_mod hm)).1] at h
  exact GInv.skip g h
theorem f_start {m many : Int} {xs : List Int} {found : List (List (Dct Int Int))} (hf : found = m_ways_on xs m) (hm : 1 ≤ m) (h0 : 0 ≤ many) (h : (dlook ((found.getD (0 : Int).toNat []).getD many.toNat ⟨[]⟩).kvs 0).isSome = true) : GInv m ((enum xs).map (·.2)) (many - (([] : List Int).length : Int)) 0 := by
  have e2 : (enum xs).map (·.2) = xs := by
    unfold enum
    rw [List.map_map]
    have : ∀ (k : Nat) (ys : List Int), (ys.zipIdx k).map ((fun x : Int × Int => x.2) ∘ fun p : Int × Nat => ((p.2 : Int), p.1)) = ys := by
      intro k ys
      induction ys generalizing k with
      | nil => rfl
      | cons y ys ih => rw [List.zipIdx_cons, List.map_cons, ih]; rfl
    exact this 0 xs
  rw [e2]
  rw [hf, ways_eq] at h
  have h := ((wtab_cnt m hm xs many.toNat 0 ⟨Int.le_refl _, by omega⟩).2).symm.trans h
  exact ⟨by simpa using h, by simpa using h0, Int.le_refl _, by omega⟩
theorem f_ix0 {m : Int} {xs : List Int} {found : List (List (Dct Int Int))} (hf : found = m_ways_on xs m) : (found.length : Int) = xs.length + 1 := by rw [hf, ways_eq, wtab_len]; rfl

theorem first_fold (modulus many : Int) (found : List (List (Dct Int Int))) : ∀ (zs : List (Int × Int)) (p : List Int) (w : Int), (lfold (m_first_of_1s modulus many found) zs (p, w)).1.length ≤ p.length + zs.length
  | [], p, w => Nat.le_refl _
  | z :: zs, p, w => by
    rw [lfold_cons]
    have h : (m_first_of_1s modulus many found z (p, w)).1.length ≤ p.length + 1 := by
      show (m_first_of_3 modulus found p w z _).1.length ≤ _
      unfold m_first_of_3 m_first_of_4
      split
      · rw [List.length_append]; exact Nat.le_refl _
      · exact Nat.le_succ _
    have := first_fold modulus many found zs (m_first_of_1s modulus many found z (p, w)).1 (m_first_of_1s modulus many found z (p, w)).2
    rw [List.length_cons]
    have this : (lfold (m_first_of_1s modulus many found) zs (m_first_of_1s modulus many found z (p, w))).1.length ≤ _ := this
    omega
theorem post_first_of (some_ : List Int) (modulus many : Int) (found : List (List (Dct Int Int))) (h : some_.length ≤ 1000 ∧ 1 ≤ modulus ∧ modulus ≤ 1000 ∧ 0 ≤ many ∧ found = m_ways_on some_ modulus) : ((m_first_of some_ modulus many found).getD []).length ≤ some_.length := by
  unfold m_first_of
  split
  · exact Nat.zero_le _
  · have := first_fold modulus many found (enum some_) [] 0
    rw [enum_len] at this
    have e : (m_first_of_2 (lfold (m_first_of_1s modulus many found) (enum some_) ([], 0))) = some (lfold (m_first_of_1s modulus many found) (enum some_) ([], 0)).1 := rfl
    rw [e]
    simpa using this

theorem w_ix {some_ : List Int} {m many : Int} (h0 : 0 ≤ many) (h : many < some_.length + 1) : many < (((m_ways_on some_ m).getD ((0 : Int)).toNat []).length : Int) := by
  rw [ways_eq]
  show many < (((wtab m some_).getD 0 []).length : Int)
  rw [wtab_len0]
  omega

/-! fewest_hit -/
def m_fewest_hit_3s (modulus : Int) (some_ : (List Int)) (found : (List (List (Dct Int Int)))) (many : Int) : Unit → (LR (Option (List Int)) Unit) := fun _ => (if (dlook ((((found).getD ((0 : Int)).toNat [])).getD (many).toNat (⟨[]⟩ : (Dct Int Int))).kvs (0 : Int)).isSome = true then (.ret (m_first_of some_ modulus many found)) else (.nxt ()))
def m_fewest_hit_4  : Unit → (Option (List Int)) := fun _ => (none : (Option (List Int)))
def m_fewest_hit_2 (modulus : Int) (some_ : (List Int)) (found : (List (List (Dct Int Int)))) : (Option (List Int)) :=
  ((lrun (m_fewest_hit_3s modulus some_ found) (rng (1 : Int) (((some_).length : Int) + (1 : Int))) ()).out m_fewest_hit_4)
def m_fewest_hit_1 (modulus : Int) (some_ : (List Int)) : (Option (List Int)) :=
  m_fewest_hit_2 modulus some_ (m_ways_on some_ modulus)
def m_fewest_hit (row : (List Int)) (modulus : Int) : (Option (List Int)) :=
  m_fewest_hit_1 modulus (m_rests row modulus)

theorem lrun_find {α R : Type} (c : α → Bool) (r : α → R) : ∀ xs : List α, lrun (fun x (_ : Unit) => if c x = true then (.ret (r x) : LR R Unit) else .nxt ()) xs () = match xs.find? c with | some x => .ret (r x) | none => .nxt ()
  | [] => rfl
  | x :: xs => by
    rw [lrun_cons, List.find?_cons]
    by_cases h : c x = true
    · simp only [h]
      rfl
    · rw [Bool.not_eq_true] at h
      simp only [h]
      exact lrun_find c r xs
theorem few_ret {m : Int} {some_ : List Int} (h1 : some_.length ≤ 1000) (h2 : 1 ≤ m) (h3 : m ≤ 1000) (ks : List Int) (h : ∀ k ∈ ks, 0 ≤ k) : (((lrun (m_fewest_hit_3s m some_ (m_ways_on some_ m)) ks ()).out m_fewest_hit_4).getD []).length ≤ some_.length := by
  have e := lrun_find (fun many => (dlook ((((m_ways_on some_ m)).getD ((0 : Int)).toNat []).getD (many).toNat (⟨[]⟩ : (Dct Int Int))).kvs (0 : Int)).isSome) (fun many => m_first_of some_ m many (m_ways_on some_ m)) ks
  have e : lrun (m_fewest_hit_3s m some_ (m_ways_on some_ m)) ks () = _ := e
  rw [e]
  cases hf : ks.find? (fun many => (dlook ((((m_ways_on some_ m)).getD ((0 : Int)).toNat []).getD (many).toNat (⟨[]⟩ : (Dct Int Int))).kvs (0 : Int)).isSome) with
  | none => exact Nat.zero_le _
  | some k => exact post_first_of some_ m k _ ⟨h1, h2, h3, h k (List.mem_of_find?_eq_some hf), rfl⟩
theorem post_fewest_hit (row : List Int) (modulus : Int) (h : row.length ≤ 1000 ∧ 1 ≤ modulus ∧ modulus ≤ 1000) : ((m_fewest_hit row modulus).getD []).length ≤ row.length := by
  have e : (m_rests row modulus).length = row.length := List.length_map _
  have := few_ret (m := modulus) (some_ := m_rests row modulus) (by omega) h.2.1 h.2.2 (rng 1 (((m_rests row modulus).length : Int) + 1)) fun k hk => by have := mem_rng.mp hk; omega
  rw [e] at this
  unfold m_fewest_hit m_fewest_hit_1 m_fewest_hit_2
  rw [e]
  exact this

/-! hits_by_places -/
def m_hits_by_places_1 (modulus : Int) (some_ : (List Int)) : (List Int) :=
  ((cut (((m_ways_on some_ modulus)).getD ((0 : Int)).toNat []) (some (1 : Int)) none).map (fun (ways : (Dct Int Int)) => ((dlook ways.kvs (0 : Int)).getD (0 : Int))))
def m_hits_by_places (row : (List Int)) (modulus : Int) : (List Int) :=
  m_hits_by_places_1 modulus (m_rests row modulus)

theorem post_hits_by_places (row : List Int) (modulus : Int) (h : row.length ≤ 1000 ∧ 1 ≤ modulus ∧ modulus ≤ 1000) : (m_hits_by_places row modulus).length ≤ row.length + 1 := by
  unfold m_hits_by_places m_hits_by_places_1
  rw [List.length_map, ways_eq]
  refine Nat.le_trans (cut_le _ _ _) ?_
  show ((wtab modulus (m_rests row modulus)).getD 0 []).length ≤ _
  rw [wtab_len0]
  show (List.map _ row).length + 1 ≤ _
  rw [List.length_map]
  exact Nat.le_refl _

/-! how_many_hits -/
def m_how_many_hits (row : (List Int)) (modulus : Int) : Int :=
  ((m_hits_by_places row modulus)).sum
/-! hit_of -/
def m_hit_of_1 (modulus : Int) (many : Int) (some_ : (List Int)) : (Option (List Int)) :=
  (m_first_of some_ modulus many (m_ways_on some_ modulus))
def m_hit_of (row : (List Int)) (modulus : Int) (many : Int) : (Option (List Int)) :=
  m_hit_of_1 modulus many (m_rests row modulus)
/-! come_to -/
def m_come_to_1 (modulus : Int) (many : Int) (some_ : (List Int)) : (List Int) :=
  (if (decide (many > ((some_).length : Int))) = true then ([] : List Int) else (isort ((((((m_ways_on some_ modulus)).getD ((0 : Int)).toNat [])).getD (many).toNat (⟨[]⟩ : (Dct Int Int))).kvs.map (·.1))))
def m_come_to (row : (List Int)) (modulus : Int) (many : Int) : (List Int) :=
  m_come_to_1 modulus many (m_rests row modulus)

theorem ways_d64 {some_ : List Int} {m : Int} (j : Nat) (hm : 1 ≤ m) (h : m ≤ 63) : (((m_ways_on some_ m).getD ((0 : Int)).toNat []).getD j ⟨[]⟩).kvs.length < 64 := by
  rw [ways_eq]
  exact kin_d64 (wtab_kin m hm some_).at_ h
theorem ways_ix {some_ : List Int} {m many : Int} (h : many ≤ some_.length) : many < (((m_ways_on some_ m).getD ((0 : Int)).toNat []).length : Int) := by
  rw [ways_eq]
  show many < (((wtab m some_).getD 0 []).length : Int)
  rw [wtab_len0]
  omega
theorem post_come_to (row : List Int) (modulus many : Int) (h : row.length ≤ 1000 ∧ 1 ≤ modulus ∧ modulus ≤ 63 ∧ 0 ≤ many) : (m_come_to row modulus many).length ≤ 63 := by
  unfold m_come_to m_come_to_1
  split
  · exact Nat.zero_le _
  · rw [isort_len, List.length_map]
    exact Nat.le_of_lt_succ (ways_d64 _ h.2.1 h.2.2.1)

/-! sums_ahead -/
def m_sums_ahead_1s (modulus : Int) (rest_ : Int) : (List Int) → (List Int) := fun found => (found ++ [((((found).getD ((found).length - 1) (0 : Int)) + rest_) % modulus)])
def m_sums_ahead_2  : (List Int) → (List Int) := fun found => found
def m_sums_ahead (row : (List Int)) (modulus : Int) : (List Int) :=
  (m_sums_ahead_2 (lfold (m_sums_ahead_1s modulus) (m_rests row modulus) ([(0 : Int)] : List Int)))

def psums (m : Int) : List Int → Int → List Int
  | [], _ => []
  | x :: xs, a => (a + x) % m :: psums m xs ((a + x) % m)
theorem sums_fold (m : Int) : ∀ (ys acc : List Int) (a : Int), lfold (m_sums_ahead_1s m) ys (acc ++ [a]) = acc ++ [a] ++ psums m ys a
  | [], acc, a => by simp [lfold, psums]
  | y :: ys, acc, a => by
    have e : m_sums_ahead_1s m y (acc ++ [a]) = (acc ++ [a]) ++ [(a + y) % m] := by
      unfold m_sums_ahead_1s
      rw [List.getD_eq_getElem?_getD, List.length_append, List.length_singleton, Nat.add_sub_cancel, List.getElem?_append_right (Nat.le_refl _), Nat.sub_self]
      rfl
    rw [lfold, e, sums_fold m ys (acc ++ [a]) ((a + y) % m), psums, List.append_assoc]
    rfl
theorem psums_eq (m : Int) : ∀ (row : List Int) (a b : Int), b = a % m → psums m (row.map (· % m)) b = (List.range row.length).map fun (k : Nat) => (a + (row.take (k + 1)).sum) % m
  | [], _, _, _ => rfl
  | x :: xs, a, b, h => by
    have e : (b + x % m) % m = (a + x) % m := by rw [h, ← Int.add_emod]
    rw [List.map_cons, psums, e, psums_eq m xs (a + x) _ rfl, List.length_cons, List.range_succ_eq_map, List.map_cons, List.map_map]
    congr 1
    · simp
    · refine List.map_congr_left fun k _ => ?_
      show (a + x + (xs.take (k + 1)).sum) % m = (a + ((x :: xs).take (k + 1 + 1)).sum) % m
      rw [List.take_succ_cons, List.sum_cons, Int.add_assoc]
theorem sums_eq (row : List Int) (modulus : Int) (h : 1 ≤ modulus) : m_sums_ahead row modulus = (List.range (row.length + 1)).map fun (k : Nat) => (row.take k).sum % modulus := by
  have e := sums_fold modulus (m_rests row modulus) [] 0
  rw [List.nil_append] at e
  have e2 : m_sums_ahead row modulus = [0] ++ psums modulus (m_rests row modulus) 0 := e
  rw [e2]
  have e3 := psums_eq modulus row 0 0 (by simp)
  unfold m_rests
  rw [e3, List.range_succ_eq_map, List.map_cons, List.map_map]
  simp
theorem post_sums_ahead (row : List Int) (modulus : Int) (h : 1 ≤ modulus ∧ row.length ≤ 1000) : (m_sums_ahead row modulus).length = row.length + 1 := by
  rw [sums_eq _ _ h.1, List.length_map, List.length_range]

/-! first_stretch -/
def m_first_stretch_1s  (z1 : (Int × Int)) : (Dct Int Int) → (LR (Option (Int × Int)) (Dct Int Int)) := fun last => (if (dlook last.kvs z1.2).isSome = true then (.ret (some (((dlook last.kvs z1.2).getD (0 : Int)), z1.1))) else (.nxt (⟨dput last.kvs z1.2 z1.1⟩ : (Dct Int Int))))
def m_first_stretch_2  : (Dct Int Int) → (Option (Int × Int)) := fun last => (none : (Option (Int × Int)))
def m_first_stretch (row : (List Int)) (modulus : Int) : (Option (Int × Int)) :=
  ((lrun (m_first_stretch_1s) (enum (m_sums_ahead row modulus)) (⟨[]⟩ : (Dct Int Int))).out m_first_stretch_2)

def pre (row : List Int) (k : Nat) : Int := (row.take k).sum
theorem pre_succ {row : List Int} {k : Nat} (h : k < row.length) : pre row (k + 1) = pre row k + row.getD k 0 := getD_take_sum row k h
def ahd (row : List Int) (m : Int) (k : Nat) : Int := pre row k % m
theorem ahd_iff (row : List Int) (m : Int) (i j : Nat) : (pre row j - pre row i) % m = 0 ↔ ahd row m j = ahd row m i := by
  unfold ahd
  constructor
  · intro h; exact Int.emod_eq_emod_iff_emod_sub_eq_zero.mpr h
  · intro h; exact Int.emod_eq_emod_iff_emod_sub_eq_zero.mp h

theorem sums_ahd (row : List Int) (m : Int) (h : 1 ≤ m) : m_sums_ahead row m = (List.range (row.length + 1)).map (ahd row m) := sums_eq row m h

def Far (A : Nat → Int) (k : Nat) : Prop := ∀ i j, i < j → j < k → A i ≠ A j
def DI (A : Nat → Int) (l : List (Int × Int)) (k : Nat) : Prop := (∀ v i, dlook l v = some i → ∃ i' : Nat, i = (i' : Int) ∧ i' < k ∧ A i' = v ∧ ∀ i'', i' < i'' → i'' < k → A i'' ≠ v) ∧ (∀ v, dlook l v = none → ∀ i', i' < k → A i' ≠ v)
def FsAt (A : Nat → Int) (n : Nat) : Option (Int × Int) → Prop
  | none => Far A (n + 1)
  | some p => ∃ i j : Nat, p = ((i : Int), (j : Int)) ∧ i < j ∧ j ≤ n ∧ A i = A j ∧ Far A j ∧ ∀ i', i < i' → i' < j → A i' ≠ A j
theorem fs_run (A : Nat → Int) (n : Nat) : ∀ (d k : Nat) (l : List (Int × Int)), k + d = n + 1 → DI A l k → Far A k → FsAt A n ((lrun (fun (k : Nat) => m_first_stretch_1s ((k : Int), A k)) (List.range' k d) ⟨l⟩).out m_first_stretch_2)
  | 0, k, l, h, _, f => by
    have : k = n + 1 := by omega
    subst this
    exact f
  | d + 1, k, l, h, di, f => by
    rw [List.range'_succ, lrun_cons]
    cases e : dlook l (A k) with
    | some i =>
      obtain ⟨i', e1, e2, e3, e4⟩ := di.1 _ _ e
      have es : m_first_stretch_1s ((k : Int), A k) ⟨l⟩ = .ret (some (i, (k : Int))) := by unfold m_first_stretch_1s; simp [e]
      rw [es]
      exact ⟨i', k, by simp [e1], e2, by omega, e3, f, e4⟩
    | none =>
      have no := di.2 _ e
      have es : m_first_stretch_1s ((k : Int), A k) ⟨l⟩ = .nxt ⟨dput l (A k) (k : Int)⟩ := by unfold m_first_stretch_1s; simp [e]
      rw [es]
      refine fs_run A n d (k + 1) _ (by omega) ⟨fun v i hv => ?_, fun v hv i' hi => ?_⟩ fun i j hij hj => ?_
      · rw [dlook_dput] at hv
        by_cases hk : v = A k
        · rw [if_pos hk] at hv
          cases hv
          exact ⟨k, rfl, by omega, hk.symm, fun i'' h1 h2 => by omega⟩
        · rw [if_neg hk] at hv
          obtain ⟨i', e1, e2, e3, e4⟩ := di.1 _ _ hv
          refine ⟨i', e1, by omega, e3, fun i'' h1 h2 => ?_⟩
          by_cases hq : i'' = k
          · subst hq; exact fun z => hk z.symm
          · exact e4 i'' h1 (by omega)
      · rw [dlook_dput] at hv
        by_cases hk : v = A k
        · rw [if_pos hk] at hv; cases hv
        · rw [if_neg hk] at hv
          by_cases hq : i' = k
          · subst hq; exact fun z => hk z.symm
          · exact di.2 _ hv i' (by omega)
      · by_cases hq : j = k
        · subst hq; exact no i hij
        · exact f i j hij (by omega)
theorem fs_at (row : List Int) (m : Int) (h : 1 ≤ m) : FsAt (ahd row m) row.length (m_first_stretch row m) := by
  unfold m_first_stretch
  rw [sums_ahd row m h, enum_range, lrun_mapL, List.range_eq_range']
  exact fs_run (ahd row m) row.length (row.length + 1) 0 [] (by omega) ⟨fun v i hv => (by cases hv), fun v hv i' hi => by omega⟩ fun i j _ hj => by omega

theorem post_first_stretch (row : List Int) (m : Int) (h : 1 ≤ m ∧ row.length ≤ 1000) : 0 ≤ ((m_first_stretch row m).getD (0, 0)).1 ∧ ((m_first_stretch row m).getD (0, 0)).1 ≤ ((m_first_stretch row m).getD (0, 0)).2 ∧ ((m_first_stretch row m).getD (0, 0)).2 ≤ (row.length : Int) := by
  have f := fs_at row m h.1
  cases e : m_first_stretch row m with
  | none => exact ⟨Int.le_refl _, Int.le_refl _, by show (0 : Int) ≤ _; omega⟩
  | some p =>
    rw [e] at f
    obtain ⟨i, j, rfl, h1, h2, _⟩ := f
    refine ⟨?_, ?_, ?_⟩
    · show (0 : Int) ≤ (i : Int); omega
    · show (i : Int) ≤ (j : Int); omega
    · show (j : Int) ≤ _; omega

/-! how_many_stretches -/
def m_how_many_stretches_3 (often : (Dct Int Int)) (found : Int) (ahead : Int) : ((Dct Int Int) × Int) :=
  ((⟨dput often.kvs ahead (((dlook often.kvs ahead).getD (0 : Int)) + (1 : Int))⟩ : (Dct Int Int)), found)
def m_how_many_stretches_1s  (ahead : Int) : ((Dct Int Int) × Int) → ((Dct Int Int) × Int) := fun (often, found) => m_how_many_stretches_3 often (found + ((dlook often.kvs ahead).getD (0 : Int))) ahead
def m_how_many_stretches_2  : ((Dct Int Int) × Int) → Int := fun (often, found) => found
def m_how_many_stretches (row : (List Int)) (modulus : Int) : Int :=
  (m_how_many_stretches_2 (lfold (m_how_many_stretches_1s) (m_sums_ahead row modulus) ((⟨[]⟩ : (Dct Int Int)), (0 : Int))))
/-! q_cell_at -/
def m_q_cell_at (script : Scr) (k : Int) : Int :=
  (if (decide (k < ((script.ns).length : Int))) = true then ((script.ns).getD (k).toNat (0 : Int)) else (0 : Int))
/-! numbers -/
def m_numbers_5 (found : (List Int)) (rest__0 : Int) (one : Int) : ((List Int) × Int) :=
  ((found ++ [(((one * (48271 : Int)) % (2147483647 : Int)) / (16 : Int))]), rest__0)
def m_numbers_4 (found : (List Int)) (rest__0 : Int) (one : Int) : ((List Int) × Int) :=
  m_numbers_5 found rest__0 (((one * one) % (2147483587 : Int)) + (one / (7 : Int)))
def m_numbers_2s (cell : Int) (k : Int) : ((List Int) × Int) → ((List Int) × Int) := fun (found, rest__0) => (if (decide ((if cell < 0 then -cell else cell) ≥ (1000000000000000000 : Int))) = true then ((found ++ [(rest__0 % (1009 : Int))]), (rest__0 / (1009 : Int))) else m_numbers_4 found rest__0 (((rest__0 % (2147483629 : Int)) + (((7919 : Int) * (k + (1 : Int))) * (k + (3 : Int)))) % (2147483629 : Int)))
def m_numbers_3  : ((List Int) × Int) → (List Int) := fun (found, rest__0) => found
def m_numbers_1 (cell : Int) (many : Int) (rest_ : Int) : (List Int) :=
  (m_numbers_3 (lfold (m_numbers_2s cell) (rng 0 many) (([] : (List Int)), rest_)))
def m_numbers (cell : Int) (many : Int) : (List Int) :=
  m_numbers_1 cell many (if cell < 0 then -cell else cell)

theorem nums_len (cell : Int) : ∀ (ks : List Int) (s : List Int × Int), (lfold (m_numbers_2s cell) ks s).1.length = s.1.length + ks.length
  | [], s => rfl
  | k :: ks, s => by
    show (lfold (m_numbers_2s cell) ks (m_numbers_2s cell k s)).1.length = _
    rw [nums_len cell ks]
    have e : (m_numbers_2s cell k s).1.length = s.1.length + 1 := by
      unfold m_numbers_2s m_numbers_4 m_numbers_5
      repeat' split
      all_goals (rw [List.length_append]; rfl)
    rw [e, List.length_cons]
    omega
theorem post_numbers (cell many : Int) (h : 1 ≤ many ∧ many ≤ 5) : ((m_numbers cell many).length : Int) = many := by
  unfold m_numbers m_numbers_1 m_numbers_3
  show ((lfold (m_numbers_2s cell) (rng 0 many) (([] : List Int), _)).1.length : Int) = many
  rw [nums_len, rng_len]
  show ((0 + (many - 0).toNat : Nat) : Int) = many
  omega

/-! lrow -/
def m_lrow_10 (head : (List Int)) (row : (List Int)) (number : Int) : (List Int) :=
  (row ++ [(number - ((([(0 : Int), (3 : Int)] : List Int)).getD ((((head).getD ((4 : Int)).toNat (0 : Int)) % (2 : Int))).toNat (0 : Int)))])
def m_lrow_9 (head : (List Int)) (modulus : Int) (row : (List Int)) (numbers : (List Int)) (number : Int) (far : Int) : (List Int) :=
  m_lrow_10 head row (number + ((modulus * ((((numbers).getD ((1 : Int)).toNat (0 : Int)) % (1009 : Int)) - (500 : Int))) * far))
def m_lrow_8 (head : (List Int)) (modulus : Int) (row : (List Int)) (numbers : (List Int)) (number : Int) : (List Int) :=
  (if (decide ((((head).getD ((3 : Int)).toNat (0 : Int)) % (4 : Int)) > (1 : Int))) = true then m_lrow_9 head modulus row numbers number ((([(1 : Int), (100000 : Int), (1000000000 : Int), (100000000000000 : Int), (1000000000000000000 : Int), (100000000000000000000000 : Int)] : List Int)).getD (((((numbers).getD ((2 : Int)).toNat (0 : Int)) / (5 : Int)) % (6 : Int))).toNat (0 : Int)) else (row ++ [(number - ((([(0 : Int), (3 : Int)] : List Int)).getD ((((head).getD ((4 : Int)).toNat (0 : Int)) % (2 : Int))).toNat (0 : Int)))]))
def m_lrow_12 (head : (List Int)) (row : (List Int)) (number : Int) : (List Int) :=
  (row ++ [(number - ((([(0 : Int), (3 : Int)] : List Int)).getD ((((head).getD ((4 : Int)).toNat (0 : Int)) % (2 : Int))).toNat (0 : Int)))])
def m_lrow_11 (head : (List Int)) (modulus : Int) (row : (List Int)) (numbers : (List Int)) (number : Int) (far : Int) : (List Int) :=
  m_lrow_12 head row (number + ((modulus * ((((numbers).getD ((1 : Int)).toNat (0 : Int)) % (1009 : Int)) - (500 : Int))) * far))
def m_lrow_7 (head : (List Int)) (modulus : Int) (row : (List Int)) (numbers : (List Int)) (number : Int) : (List Int) :=
  (if (decide ((((numbers).getD ((2 : Int)).toNat (0 : Int)) % (5 : Int)) = (0 : Int))) = true then m_lrow_8 head modulus row numbers (((numbers).getD ((1 : Int)).toNat (0 : Int)) % (7 : Int)) else (if (decide ((((head).getD ((3 : Int)).toNat (0 : Int)) % (4 : Int)) > (1 : Int))) = true then m_lrow_11 head modulus row numbers number ((([(1 : Int), (100000 : Int), (1000000000 : Int), (100000000000000 : Int), (1000000000000000000 : Int), (100000000000000000000000 : Int)] : List Int)).getD (((((numbers).getD ((2 : Int)).toNat (0 : Int)) / (5 : Int)) % (6 : Int))).toNat (0 : Int)) else (row ++ [(number - ((([(0 : Int), (3 : Int)] : List Int)).getD ((((head).getD ((4 : Int)).toNat (0 : Int)) % (2 : Int))).toNat (0 : Int)))])))
def m_lrow_6 (head : (List Int)) (modulus : Int) (row : (List Int)) (numbers : (List Int)) : (List Int) :=
  m_lrow_7 head modulus row numbers ((([(((numbers).getD ((0 : Int)).toNat (0 : Int)) % (2 : Int)), (1 : Int), ((numbers).getD ((0 : Int)).toNat (0 : Int)), ((1 : Int) + ((2 : Int) * (((numbers).getD ((0 : Int)).toNat (0 : Int)) % (2 : Int)))), (modulus - (1 : Int))] : List Int)).getD ((((head).getD ((2 : Int)).toNat (0 : Int)) % (5 : Int))).toNat (0 : Int))
def m_lrow_4s (script : Scr) (head : (List Int)) (modulus : Int) (k : Int) : (List Int) → (List Int) := fun row => m_lrow_6 head modulus row (m_numbers ((m_q_cell_at script ((1 : Int) + (k % (10 : Int)))) + ((41 : Int) * (k / (10 : Int)))) (3 : Int))
def m_lrow_5 (modulus : Int) : (List Int) → ((List Int) × Int) := fun row => (row, modulus)
def m_lrow_3 (script : Scr) (head : (List Int)) (modulus : Int) (many : Int) : ((List Int) × Int) :=
  ((m_lrow_5 modulus) (lfold (m_lrow_4s script head modulus) (rng 0 many) ([] : (List Int))))
def m_lrow_2 (script : Scr) (most : Int) (head : (List Int)) (modulus : Int) : ((List Int) × Int) :=
  m_lrow_3 script head modulus (((head).getD ((1 : Int)).toNat (0 : Int)) % (most + (1 : Int)))
def m_lrow_1 (script : Scr) (most : Int) (greatest : Int) (head : (List Int)) : ((List Int) × Int) :=
  m_lrow_2 script most head ((1 : Int) + (((head).getD ((0 : Int)).toNat (0 : Int)) % greatest))
def m_lrow (script : Scr) (most : Int) (greatest : Int) : ((List Int) × Int) :=
  m_lrow_1 script most greatest (m_numbers (m_q_cell_at script (0 : Int)) (5 : Int))

theorem mu_far {m x : Int} (h : 1 ≤ m ∧ m ≤ 25) : -2 ^ 64 < m * (x % 1009 - 500) ∧ m * (x % 1009 - 500) < 2 ^ 64 := by
  obtain ⟨y, ey⟩ : ∃ y, y = x % 1009 - 500 := ⟨_, rfl⟩
  have h1 : -500 ≤ y ∧ y ≤ 508 := by omega
  rw [← ey]
  clear ey
  have a : m * y ≤ 25 * 600 := by
    by_cases hy : 0 ≤ y
    · exact Int.mul_le_mul h.2 (by omega) hy (by decide)
    · have := Int.mul_nonpos_of_nonneg_of_nonpos (show 0 ≤ m by omega) (show y ≤ 0 by omega)
      omega
  have b : -(25 * 600) ≤ m * y := by
    by_cases hy : 0 ≤ y
    · have := Int.mul_nonneg (show 0 ≤ m by omega) hy
      omega
    · have := Int.mul_le_mul h.2 (show -y ≤ 600 by omega) (show 0 ≤ -y by omega) (by decide : (0 : Int) ≤ 25)
      rw [Int.mul_neg] at this
      omega
  constructor <;> omega
theorem post_lrow (script : Scr) (most greatest : Int) (h : most = 40 ∧ greatest = 25) : (m_lrow script most greatest).1.length ≤ 40 ∧ (1 ≤ (m_lrow script most greatest).2 ∧ (m_lrow script most greatest).2 ≤ 25) := by
  obtain ⟨rfl, rfl⟩ := h
  have st : ∀ (head : List Int) (m x : Int) (s : List Int), (m_lrow_4s script head m x s).length = s.length + 1 := fun head m x s => by
    unfold m_lrow_4s m_lrow_6 m_lrow_7 m_lrow_8 m_lrow_9 m_lrow_10 m_lrow_11 m_lrow_12
    repeat' split
    all_goals (rw [List.length_append]; rfl)
  unfold m_lrow m_lrow_1 m_lrow_2 m_lrow_3
  refine ⟨?_, ?_⟩
  · show (m_lrow_5 _ _).1.length ≤ 40
    unfold m_lrow_5
    dsimp only
    rw [lfold_len (st _ _), rng_len]
    show 0 + 1 * ((_ % ((40 : Int) + 1)) - 0).toNat ≤ 40
    omega
  · show 1 ≤ (1 : Int) + _ % 25 ∧ (1 : Int) + _ % 25 ≤ 25
    omega

/-! lcnt -/
def m_lcnt_10 (table : (List (List Int))) : (List (List Int)) :=
  table
def m_lcnt_9 (many : Int) (table_2 : (List (List Int))) (rest_ : Int) (more : Int) : (List (List Int)) :=
  m_lcnt_10 (table_2.set (many).toNat ((table_2.getD (many).toNat []).set (rest_).toNat ((((table_2.getD (many).toNat [])).getD (rest_).toNat (0 : Int)) + more)))
def m_lcnt_7s (modulus : Int) (number : Int) (many : Int) (rest_ : Int) : (List (List Int)) → (List (List Int)) := fun table_2 => m_lcnt_9 many table_2 rest_ (((table_2.getD ((many - (1 : Int))).toNat [])).getD (((rest_ - number) % modulus)).toNat (0 : Int))
def m_lcnt_8  : (List (List Int)) → (List (List Int)) := fun table_2 => table_2
def m_lcnt_5s (modulus : Int) (number : Int) (many : Int) : (List (List Int)) → (List (List Int)) := fun table => (m_lcnt_8 (lfold (m_lcnt_7s modulus number many) (rng 0 modulus) table))
def m_lcnt_6  : (List (List Int)) → (List (List Int)) := fun table => table
def m_lcnt_3s (row : (List Int)) (modulus : Int) (number : Int) : (List (List Int)) → (List (List Int)) := fun table_0 => (m_lcnt_6 (lfold (m_lcnt_5s modulus number) (rngD ((row).length : Int) (0 : Int)) table_0))
def m_lcnt_4  : (List (List Int)) → (List (List Int)) := fun table_0 => table_0
def m_lcnt_2 (row : (List Int)) (modulus : Int) (table : (List (List Int))) : (List (List Int)) :=
  (m_lcnt_4 (lfold (m_lcnt_3s row modulus) row table))
def m_lcnt_1 (row : (List Int)) (modulus : Int) (table : (List (List Int))) : (List (List Int)) :=
  m_lcnt_2 row modulus (table.set ((0 : Int)).toNat ((table.getD ((0 : Int)).toNat []).set ((0 : Int)).toNat (1 : Int)))
def m_lcnt (row : (List Int)) (modulus : Int) : (List (List Int)) :=
  m_lcnt_1 row modulus ((rng 0 (((row).length : Int) + (1 : Int))).map (fun (k : Int) => (List.replicate (modulus).toNat ([(0 : Int)] : List Int)).flatten))

structure Grid (n : Nat) (m : Int) (T : List (List Int)) : Prop where
  l : T.length = n + 1
  w : ∀ r ∈ T, (r.length : Int) = m
theorem Grid.ix {n : Nat} {m i : Int} {T : List (List Int)} (g : Grid n m T) (h : i < (n : Int) + 1) : i < (T.length : Int) := by rw [g.l]; omega
theorem Grid.row {n : Nat} {m : Int} {T : List (List Int)} (g : Grid n m T) {i : Nat} (h : i < n + 1) : ((T.getD i []).length : Int) = m := by
  have hi : i < T.length := by rw [g.l]; exact h
  rw [List.getD_eq_getElem?_getD, List.getElem?_eq_getElem hi]
  exact g.w _ (List.getElem_mem hi)
theorem Grid.ix2 {n : Nat} {m i j : Int} {T : List (List Int)} (g : Grid n m T) (h : 0 ≤ i ∧ i < (n : Int) + 1) (hj : j < m) : j < ((T.getD i.toNat []).length : Int) := by rw [g.row (by omega)]; exact hj
theorem Grid.set {n : Nat} {m : Int} {T : List (List Int)} (g : Grid n m T) (i j : Nat) (v : Int) : Grid n m (T.set i ((T.getD i []).set j v)) := by
  refine ⟨by rw [List.length_set, g.l], fun r hr => ?_⟩
  by_cases hi : i < T.length
  · rcases List.mem_or_eq_of_mem_set hr with hr | hr
    · exact g.w r hr
    · rw [hr, List.length_set]
      exact g.row (by rw [← g.l]; exact hi)
  · rw [List.set_eq_of_length_le (by omega)] at hr
    exact g.w r hr
theorem grid_new {n : Nat} {m : Int} (h : 1 ≤ m) : Grid n m ((rng 0 ((n : Int) + 1)).map fun (k : Int) => (List.replicate m.toNat [(0 : Int)]).flatten) := by
  refine ⟨by rw [List.length_map, rng_len]; omega, fun r hr => ?_⟩
  obtain ⟨k, _, rfl⟩ := List.mem_map.mp hr
  simp only [List.length_flatten, List.map_replicate, List.sum_replicate_nat, List.length_cons, List.length_nil]
  omega
theorem post_lcnt (row : List Int) (modulus : Int) (h : row.length ≤ 40 ∧ 1 ≤ modulus ∧ modulus ≤ 25) : Grid row.length modulus (m_lcnt row modulus) := by
  unfold m_lcnt m_lcnt_1 m_lcnt_2
  exact lfold_inv (I := Grid row.length modulus) ((grid_new h.2.1).set _ _ _) fun number _ T hT => lfold_inv (I := Grid row.length modulus) hT fun many _ T hT => lfold_inv (I := Grid row.length modulus) hT fun r _ T hT => hT.set _ _ _

/-! lfst -/
def m_lfst_8s (row : (List Int)) (modulus : Int) (k : Int) (rest_ : Int) : (Dct Int Bool) → (Dct Int Bool) := fun some__2 => (⟨dput some__2.kvs ((rest_ + ((row).getD (k).toNat (0 : Int))) % modulus) true⟩ : (Dct Int Bool))
def m_lfst_9 (here : (List (Dct Int Bool))) : (Dct Int Bool) → (List (Dct Int Bool)) := fun some__2 => (here ++ [some__2])
def m_lfst_7 (row : (List Int)) (modulus : Int) (k : Int) (ahead : (List (Dct Int Bool))) (here : (List (Dct Int Bool))) (j : Int) (some_ : (Dct Int Bool)) : (List (Dct Int Bool)) :=
  (if (decide (j > (0 : Int))) = true then ((m_lfst_9 here) (lfold (m_lfst_8s row modulus k) (((ahead).getD ((j - (1 : Int))).toNat (⟨[]⟩ : (Dct Int Bool))).kvs.map (·.1)) some_)) else (here ++ [some_]))
def m_lfst_10s (row : (List Int)) (modulus : Int) (k : Int) (rest_ : Int) : (Dct Int Bool) → (Dct Int Bool) := fun some_ => (⟨dput some_.kvs ((rest_ + ((row).getD (k).toNat (0 : Int))) % modulus) true⟩ : (Dct Int Bool))
def m_lfst_11 (here : (List (Dct Int Bool))) : (Dct Int Bool) → (List (Dct Int Bool)) := fun some_ => (here ++ [some_])
def m_lfst_5s (row : (List Int)) (modulus : Int) (k : Int) (ahead : (List (Dct Int Bool))) (j : Int) : (List (Dct Int Bool)) → (List (Dct Int Bool)) := fun here => (if (decide (j < ((ahead).length : Int))) = true then m_lfst_7 row modulus k ahead here j ((ahead).getD (j).toNat (⟨[]⟩ : (Dct Int Bool))) else (if (decide (j > (0 : Int))) = true then ((m_lfst_11 here) (lfold (m_lfst_10s row modulus k) (((ahead).getD ((j - (1 : Int))).toNat (⟨[]⟩ : (Dct Int Bool))).kvs.map (·.1)) (⟨[]⟩ : (Dct Int Bool)))) else (here ++ [(⟨[]⟩ : (Dct Int Bool))])))
def m_lfst_12 (tails : (List (List (Dct Int Bool)))) : (List (List (Dct Int Bool))) :=
  tails
def m_lfst_6 (tails_0 : (List (List (Dct Int Bool)))) : (List (Dct Int Bool)) → (List (List (Dct Int Bool))) := fun here => m_lfst_12 (([here] : List (List (Dct Int Bool))) ++ tails_0)
def m_lfst_4 (row : (List Int)) (modulus : Int) (many : Int) (tails_0 : (List (List (Dct Int Bool)))) (k : Int) (ahead : (List (Dct Int Bool))) : (List (List (Dct Int Bool))) :=
  ((m_lfst_6 tails_0) (lfold (m_lfst_5s row modulus k ahead) (rng 0 ((if (((row).length : Int) - k) < many then (((row).length : Int) - k) else many) + (1 : Int))) ([] : (List (Dct Int Bool)))))
def m_lfst_2s (row : (List Int)) (modulus : Int) (many : Int) (k : Int) : (List (List (Dct Int Bool))) → (List (List (Dct Int Bool))) := fun tails_0 => m_lfst_4 row modulus many tails_0 k ((tails_0).getD ((0 : Int)).toNat [])
def m_lfst_17 (rest_ : Int) (found : (List Int)) (k : Int) (left : Int) (behind : Int) (some_ : (List (Dct Int Bool))) : (Int × (List Int)) :=
  (if ((decide (left > (0 : Int))) && ((!(some_).isEmpty) && (dlook ((some_).getD ((0 : Int)).toNat (⟨[]⟩ : (Dct Int Bool))).kvs behind).isSome)) = true then (behind, (found ++ [k])) else (rest_, found))
def m_lfst_16 (tails_0 : (List (List (Dct Int Bool)))) (rest_ : Int) (found : (List Int)) (k : Int) (left : Int) (behind : Int) : (Int × (List Int)) :=
  m_lfst_17 rest_ found k left behind (cut ((tails_0).getD ((k + (1 : Int))).toNat []) (some (if (left - (1 : Int)) > (0 : Int) then (left - (1 : Int)) else (0 : Int))) (some left))
def m_lfst_15 (row : (List Int)) (modulus : Int) (tails_0 : (List (List (Dct Int Bool)))) (rest_ : Int) (found : (List Int)) (k : Int) (left : Int) : (Int × (List Int)) :=
  m_lfst_16 tails_0 rest_ found k left ((rest_ - ((row).getD (k).toNat (0 : Int))) % modulus)
def m_lfst_13s (row : (List Int)) (modulus : Int) (many : Int) (tails_0 : (List (List (Dct Int Bool)))) (k : Int) : (Int × (List Int)) → (Int × (List Int)) := fun (rest_, found) => m_lfst_15 row modulus tails_0 rest_ found k (many - ((found).length : Int))
def m_lfst_14  : (Int × (List Int)) → (Option (List Int)) := fun (rest_, found) => (some found)
def m_lfst_3 (row : (List Int)) (modulus : Int) (many : Int) : (List (List (Dct Int Bool))) → (Option (List Int)) := fun tails_0 => (if ((decide (many ≥ ((((tails_0).getD ((0 : Int)).toNat [])).length : Int))) || (!(dlook ((((tails_0).getD ((0 : Int)).toNat [])).getD (many).toNat (⟨[]⟩ : (Dct Int Bool))).kvs (0 : Int)).isSome)) = true then (none : (Option (List Int))) else (m_lfst_14 (lfold (m_lfst_13s row modulus many tails_0) (rng 0 ((row).length : Int)) ((0 : Int), ([] : (List Int))))))
def m_lfst_1 (row : (List Int)) (modulus : Int) (many : Int) (tails : (List (List (Dct Int Bool)))) : (Option (List Int)) :=
  ((m_lfst_3 row modulus many) (lfold (m_lfst_2s row modulus many) (rngD (((row).length : Int) - (1 : Int)) (-1 : Int)) tails))
def m_lfst (row : (List Int)) (modulus : Int) (many : Int) : (Option (List Int)) :=
  m_lfst_1 row modulus many ([([(⟨[((0 : Int), true)]⟩ : (Dct Int Bool))] : List (Dct Int Bool))] : List (List (Dct Int Bool)))

structure KB (m : Int) (ks : List Int) : Prop where
  nd : ks.Nodup
  bd : ∀ k ∈ ks, 0 ≤ k ∧ k < m
theorem KB.nil {m : Int} : KB m [] := ⟨List.nodup_nil, fun k h => by cases h⟩
theorem KB.one {m : Int} (h : 1 ≤ m) : KB m [0] := ⟨by simp, fun k hk => by rw [List.mem_singleton.mp hk]; omega⟩
theorem KB.len {m : Int} {ks : List Int} (h : KB m ks) (hm : 1 ≤ m) : (ks.length : Int) ≤ m := by
  have := nodup_sub_len (m := rng 0 m) h.nd fun k hk => mem_rng.mpr (h.bd k hk)
  rw [rng_len] at this
  omega
theorem KB.put {m : Int} {kvs : List (Int × Bool)} {k : Int} {v : Bool} (h : KB m (kvs.map (·.1))) (hk : 0 ≤ k ∧ k < m) : KB m ((dput kvs k v).map (·.1)) := by
  rw [dput_keys]
  split
  · exact h
  · rename_i hn
    refine ⟨?_, fun j hj => ?_⟩
    · rw [List.nodup_append]
      exact ⟨h.nd, by simp, fun a ha b hb => by rw [List.mem_singleton.mp hb]; intro e; exact hn (e ▸ ha)⟩
    · rcases List.mem_append.mp hj with hj | hj
      · exact h.bd j hj
      · rw [List.mem_singleton.mp hj]; exact hk
theorem KB.sz {m : Int} {kvs : List (Int × Bool)} (h : KB m (kvs.map (·.1))) (h1 : 1 ≤ m) (h2 : m ≤ 25) : kvs.length < sizeLine := by
  have := h.len h1
  rw [List.length_map] at this
  rw [sizeLine_eq]
  omega
def Hrs (m : Int) (ds : List (Dct Int Bool)) : Prop := ∀ d ∈ ds, KB m (d.kvs.map (·.1))
theorem Hrs.at_ {m : Int} {ds : List (Dct Int Bool)} (h : Hrs m ds) (i : Nat) : KB m ((ds.getD i ⟨[]⟩).kvs.map (·.1)) := by
  rw [List.getD_eq_getElem?_getD]
  cases e : ds[i]? with
  | none => exact KB.nil
  | some y => exact h y (List.mem_of_getElem? e)
theorem Hrs.app {m : Int} {ds : List (Dct Int Bool)} {d : Dct Int Bool} (h : Hrs m ds) (hd : KB m (d.kvs.map (·.1))) : Hrs m (ds ++ [d]) := fun x hx => by
  rcases List.mem_append.mp hx with hx | hx
  · exact h x hx
  · rw [List.mem_singleton.mp hx]; exact hd
structure Tls (n : Nat) (m many : Int) (r : Nat) (T : List (List (Dct Int Bool))) : Prop where
  l : T.length + r = n + 1
  p : 0 < T.length
  k : ∀ t ∈ T, Hrs m t
  w : ((T.getD 0 []).length : Int) = (if (T.length : Int) - 1 < many then (T.length : Int) - 1 else many) + 1
theorem Tls.at0 {n r : Nat} {m many : Int} {T : List (List (Dct Int Bool))} (h : Tls n m many r T) : Hrs m (T.getD 0 []) := by
  have hi : 0 < T.length := h.p
  rw [List.getD_eq_getElem?_getD, List.getElem?_eq_getElem hi]
  exact h.k _ (List.getElem_mem hi)
theorem tls_new {n : Nat} {m many : Int} (hm : 1 ≤ m) (h : 0 ≤ many) : Tls n m many n [[⟨[((0 : Int), true)]⟩]] := by
  refine ⟨by simp; omega, by simp, fun t ht d hd => ?_, ?_⟩
  · rw [List.mem_singleton.mp ht] at hd
    rw [List.mem_singleton.mp hd]
    exact KB.one hm
  · show (1 : Int) = (if ((1 : Nat) : Int) - 1 < many then ((1 : Nat) : Int) - 1 else many) + 1
    split <;> omega
theorem tls_new' {n k : Nat} {m many : Int} (e : k = n) (hm : 1 ≤ m) (h : 0 ≤ many) : Tls n m many k [[⟨[((0 : Int), true)]⟩]] := by
  subst e
  exact tls_new hm h
theorem Tls.ix0 {n r : Nat} {m many : Int} {T : List (List (Dct Int Bool))} (h : Tls n m many r T) : (0 : Int) < (T.length : Int) := by have := h.p; omega
theorem Tls.ixk {n r : Nat} {m many k : Int} {T : List (List (Dct Int Bool))} (h : Tls n m many r T) (hr : r = 0) (hk : k < n) : k + 1 < (T.length : Int) := by have := h.l; omega
theorem Tls.ixj {n r : Nat} {m many k j : Int} {T : List (List (Dct Int Bool))} {ahead : List (Dct Int Bool)} (h : Tls n m many (r + 1) T) (ea : ahead = T.getD (0 : Int).toNat []) (hj : 0 ≤ j ∧ j < (if (n : Int) - k < many then (n : Int) - k else many) + 1) (hk : k = (r : Int)) : j - 1 < (ahead.length : Int) := by
  have e : ((ahead.length : Nat) : Int) = _ := (congrArg (fun x : List (Dct Int Bool) => (x.length : Int)) ea).trans h.w
  rw [e]
  have := h.l
  obtain ⟨h0, hj⟩ := hj
  split at hj <;> split <;> omega
theorem Tls.sz {n r : Nat} {m many : Int} {T : List (List (Dct Int Bool))} {d : List (Dct Int Bool)} (h : Tls n m many r T) (hn : n ≤ 40) : [d].length + T.length ≤ sizeLine := by
  have := h.l
  rw [sizeLine_eq, List.length_singleton]
  omega
theorem ne_pos {α : Type} {xs : List α} (h : (!xs.isEmpty) = true) : (0 : Int) < (xs.length : Int) := by
  cases xs with
  | nil => cases h
  | cons x r => rw [List.length_cons]; omega
theorem Tls.cons {n r : Nat} {m many : Int} {T : List (List (Dct Int Bool))} {t : List (Dct Int Bool)} (h : Tls n m many (r + 1) T) (ht : Hrs m t) (hl : (t.length : Int) = (if (T.length : Int) < many then (T.length : Int) else many) + 1) : Tls n m many r ([t] ++ T) := by
  refine ⟨by have := h.l; simp; omega, by simp, fun x hx => ?_, ?_⟩
  · rcases List.mem_append.mp hx with hx | hx
    · rw [List.mem_singleton.mp hx]; exact ht
    · exact h.k x hx
  · show ((t.length : Nat) : Int) = _
    rw [hl]
    have : (([t] ++ T).length : Int) - 1 = (T.length : Int) := by simp
    rw [this]

theorem Tls.cons' {n r jj : Nat} {m many k : Int} {T : List (List (Dct Int Bool))} {t : List (Dct Int Bool)} (h : Tls n m many (r + 1) T) (ht : Hrs m t) (hl : t.length + ([] : List Int).length = jj) (hj : jj = (rng 0 ((if (n : Int) - k < many then (n : Int) - k else many) + 1)).length) (hk : k = (r : Int)) (hm : 0 ≤ many) : Tls n m many r ([t] ++ T) := by
  refine h.cons ht ?_
  have e : (n : Int) - k = (T.length : Int) := by have := h.l; omega
  rw [e, rng_len] at hj
  have hl : t.length = jj := hl
  rw [hl, hj]
  split <;> omega

/-! lside -/
def m_lside_1s (modulus : Int) (number : Int) : (List Int) → (List Int) := fun ahead => (ahead ++ [((((ahead).getD ((ahead).length - 1) (0 : Int)) + number) % modulus)])
def m_lside_6 (pairs : (List (Int × Int))) : (List (Int × Int)) :=
  pairs
def m_lside_5 (pairs : (List (Int × Int))) (beyond : Int) (alike : (List Int)) : (List (Int × Int)) :=
  m_lside_6 (pairs ++ (alike.map (fun (first : Int) => (beyond, (beyond - first)))))
def m_lside_3s (ahead : (List Int)) (beyond : Int) : (List (Int × Int)) → (List (Int × Int)) := fun pairs => m_lside_5 pairs beyond (((rng 0 beyond).filter (fun (first : Int) => (decide (((ahead).getD (first).toNat (0 : Int)) = ((ahead).getD (beyond).toNat (0 : Int)))))).map (fun (first : Int) => first))
def m_lside_10 (row : (List Int)) (modulus : Int) (ahead : (List Int)) (pairs : (List (Int × Int))) (due : (Option (Int × Int))) : Bool :=
  (if ((!decide ((m_sums_ahead row modulus) = ahead)) || (!decide ((m_first_stretch row modulus) = due))) = true then false else (decide ((m_how_many_stretches row modulus) = ((pairs).length : Int))))
def m_lside_9 (row : (List Int)) (modulus : Int) (ahead : (List Int)) (pairs : (List (Int × Int))) (beyond : Int) (many : Int) : Bool :=
  m_lside_10 row modulus ahead pairs (some ((beyond - many), beyond))
def m_lside_8 (row : (List Int)) (modulus : Int) (ahead : (List Int)) (pairs : (List (Int × Int))) (beyond : Int) : Bool :=
  m_lside_9 row modulus ahead pairs beyond ((dmin ((0 : Int), (0 : Int)) pairs).2)
def m_lside_7 (row : (List Int)) (modulus : Int) (ahead : (List Int)) (pairs : (List (Int × Int))) (due : (Option (Int × Int))) : Bool :=
  (if (!decide (pairs = ([] : List (Int × Int)))) = true then m_lside_8 row modulus ahead pairs ((dmin ((0 : Int), (0 : Int)) pairs).1) else (if ((!decide ((m_sums_ahead row modulus) = ahead)) || (!decide ((m_first_stretch row modulus) = due))) = true then false else (decide ((m_how_many_stretches row modulus) = ((pairs).length : Int)))))
def m_lside_4 (row : (List Int)) (modulus : Int) (ahead : (List Int)) : (List (Int × Int)) → Bool := fun pairs => m_lside_7 row modulus ahead pairs (none : (Option (Int × Int)))
def m_lside_2 (row : (List Int)) (modulus : Int) : (List Int) → Bool := fun ahead => ((m_lside_4 row modulus ahead) (lfold (m_lside_3s ahead) (rng (1 : Int) ((ahead).length : Int)) ([] : List (Int × Int))))
def m_lside (row : (List Int)) (modulus : Int) : Bool :=
  ((m_lside_2 row modulus) (lfold (m_lside_1s modulus) row ([(0 : Int)] : List Int)))

theorem few0 (n : Nat) (t : Int → Bool) : 0 ≤ (cut (((rng 1 ((n : Int) + 1)).filter t).map fun (many : Int) => many) none (some (1 : Int))).getD (0 : Int).toNat 0 := by
  rw [cut_take _ (by decide), List.map_id']
  cases e : (rng 1 ((n : Int) + 1)).filter t with
  | nil => exact Int.le_refl _
  | cons x r =>
    have hx : x ∈ (rng 1 ((n : Int) + 1)).filter t := by rw [e]; exact List.mem_cons_self
    have := mem_rng.mp (List.mem_filter.mp hx).1
    show 0 ≤ x
    omega
theorem nn_of {α : Type} {x : Option α} (h : (!x.isNone) = true) : x.isNone = false := by simpa using h
theorem nn_and {α : Type} {x : Option α} {p : Prop} (h : x.isNone = false ∧ p) : x.isNone = false := h.1
theorem many_a (n : Nat) (x : Int) : 1 ≤ 1 + x % ((n : Int) + 2) := by have := Int.emod_nonneg x (show (n : Int) + 2 ≠ 0 by omega); omega
theorem many_b (n : Nat) (x : Int) : 0 ≤ x % ((n : Int) + 2) := Int.emod_nonneg x (by omega)

/-! law -/
def m_law_13 (row : (List Int)) (modulus : Int) (due : (Option (List Int))) (many : Int) : (LR Bool Unit) :=
  (if (!decide ((some (m_come_to row modulus many)) = due)) = true then (.ret false) else (.nxt ()))
def m_law_12 (row : (List Int)) (modulus : Int) (table : (List (List Int))) (many : Int) : (LR Bool Unit) :=
  (if (decide (many ≤ ((row).length : Int))) = true then m_law_13 row modulus (some (((rng 0 modulus).filter (fun (rest_ : Int) => (decide (((((table).getD (many).toNat [])).getD (rest_).toNat (0 : Int)) > (0 : Int))))).map (fun (rest_ : Int) => rest_))) many else (if (!decide ((some (m_come_to row modulus many)) = (some ([] : List Int)))) = true then (.ret false) else (.nxt ())))
def m_law_11 (row : (List Int)) (modulus : Int) (table : (List (List Int))) (numbers : (List Int)) (many : Int) : (LR Bool Unit) :=
  (if (!decide ((m_hit_of row modulus many) = (m_lfst row modulus many))) = true then (.ret false) else m_law_12 row modulus table (((numbers).getD ((1 : Int)).toNat (0 : Int)) % (((row).length : Int) + (2 : Int))))
def m_law_10 (row : (List Int)) (modulus : Int) (table : (List (List Int))) (numbers : (List Int)) : (LR Bool Unit) :=
  m_law_11 row modulus table numbers ((1 : Int) + (((numbers).getD ((0 : Int)).toNat (0 : Int)) % (((row).length : Int) + (2 : Int))))
def m_law_8s (script : Scr) (row : (List Int)) (modulus : Int) (table : (List (List Int))) (k : Int) : Unit → (LR Bool Unit) := fun _ => m_law_10 row modulus table (m_numbers ((m_q_cell_at script ((11 : Int) + k)) + ((3 : Int) * k)) (2 : Int))
def m_law_9 (script : Scr) (row : (List Int)) (modulus : Int) : Unit → Bool := fun _ => (decide ((row, modulus) = (m_lrow script (40 : Int) (25 : Int))))
def m_law_7 (script : Scr) (row : (List Int)) (modulus : Int) (table : (List (List Int))) (due : (Option (List Int))) : Bool :=
  (if (!decide ((m_fewest_hit row modulus) = due)) = true then false else (if ((!(due).isNone) && (!decide ((m_is_hit row modulus (due.getD [])) = true))) = true then false else ((lrun (m_law_8s script row modulus table) (rng 0 (3 : Int)) ()).out (m_law_9 script row modulus))))
def m_law_19 (row : (List Int)) (modulus : Int) (due : (Option (List Int))) (many : Int) : (LR Bool Unit) :=
  (if (!decide ((some (m_come_to row modulus many)) = due)) = true then (.ret false) else (.nxt ()))
def m_law_18 (row : (List Int)) (modulus : Int) (table : (List (List Int))) (many : Int) : (LR Bool Unit) :=
  (if (decide (many ≤ ((row).length : Int))) = true then m_law_19 row modulus (some (((rng 0 modulus).filter (fun (rest_ : Int) => (decide (((((table).getD (many).toNat [])).getD (rest_).toNat (0 : Int)) > (0 : Int))))).map (fun (rest_ : Int) => rest_))) many else (if (!decide ((some (m_come_to row modulus many)) = (some ([] : List Int)))) = true then (.ret false) else (.nxt ())))
def m_law_17 (row : (List Int)) (modulus : Int) (table : (List (List Int))) (numbers : (List Int)) (many : Int) : (LR Bool Unit) :=
  (if (!decide ((m_hit_of row modulus many) = (m_lfst row modulus many))) = true then (.ret false) else m_law_18 row modulus table (((numbers).getD ((1 : Int)).toNat (0 : Int)) % (((row).length : Int) + (2 : Int))))
def m_law_16 (row : (List Int)) (modulus : Int) (table : (List (List Int))) (numbers : (List Int)) : (LR Bool Unit) :=
  m_law_17 row modulus table numbers ((1 : Int) + (((numbers).getD ((0 : Int)).toNat (0 : Int)) % (((row).length : Int) + (2 : Int))))
def m_law_14s (script : Scr) (row : (List Int)) (modulus : Int) (table : (List (List Int))) (k : Int) : Unit → (LR Bool Unit) := fun _ => m_law_16 row modulus table (m_numbers ((m_q_cell_at script ((11 : Int) + k)) + ((3 : Int) * k)) (2 : Int))
def m_law_15 (script : Scr) (row : (List Int)) (modulus : Int) : Unit → Bool := fun _ => (decide ((row, modulus) = (m_lrow script (40 : Int) (25 : Int))))
def m_law_6 (script : Scr) (row : (List Int)) (modulus : Int) (table : (List (List Int))) (fewest : (List Int)) (due : (Option (List Int))) : Bool :=
  (if (!decide (fewest = ([] : List Int))) = true then m_law_7 script row modulus table (m_lfst row modulus ((fewest).getD ((0 : Int)).toNat (0 : Int))) else (if (!decide ((m_fewest_hit row modulus) = due)) = true then false else (if ((!(due).isNone) && (!decide ((m_is_hit row modulus (due.getD [])) = true))) = true then false else ((lrun (m_law_14s script row modulus table) (rng 0 (3 : Int)) ()).out (m_law_15 script row modulus)))))
def m_law_5 (script : Scr) (row : (List Int)) (modulus : Int) (table : (List (List Int))) (fewest : (List Int)) : Bool :=
  m_law_6 script row modulus table fewest (none : (Option (List Int)))
def m_law_4 (script : Scr) (row : (List Int)) (modulus : Int) (table : (List (List Int))) (hits : (List Int)) : Bool :=
  (if ((!decide ((m_hits_by_places row modulus) = hits)) || (!decide ((m_how_many_hits row modulus) = (hits).sum))) = true then false else (if ((!decide ((m_rests row modulus) = (row.map (fun (number : Int) => (number % modulus))))) || (!(m_lside row modulus))) = true then false else m_law_5 script row modulus table (cut (((rng (1 : Int) (((row).length : Int) + (1 : Int))).filter (fun (many : Int) => (decide (((hits).getD ((many - (1 : Int))).toNat (0 : Int)) > (0 : Int))))).map (fun (many : Int) => many)) none (some (1 : Int)))))
def m_law_3 (script : Scr) (row : (List Int)) (modulus : Int) (table : (List (List Int))) : Bool :=
  m_law_4 script row modulus table ((rng (1 : Int) (((row).length : Int) + (1 : Int))).map (fun (many : Int) => ((((table).getD (many).toNat [])).getD ((0 : Int)).toNat (0 : Int))))
def m_law_2 (script : Scr) (row : (List Int)) (modulus : Int) : Bool :=
  m_law_3 script row modulus (m_lcnt row modulus)
def m_law_1 (script : Scr) (row : (List Int)) : Bool :=
  m_law_2 script row ((m_lrow script (40 : Int) (25 : Int)).2)
def m_law (script : Scr) : Bool :=
  m_law_1 script ((m_lrow script (40 : Int) (25 : Int)).1)
/-- the choices of places, bit by bit -/
def subsR : Nat → List (List Int)
  | 0 => [[]]
  | n + 1 => (subsR n).flatMap fun p => [p.map (· + 1), 0 :: p.map (· + 1)]
theorem subs_hd : ∀ n : Nat, ∃ r, subsR n = [] :: r
  | 0 => ⟨[], rfl⟩
  | n + 1 => by
    obtain ⟨r, e⟩ := subs_hd n
    rw [subsR, e, List.flatMap_cons]
    exact ⟨_, rfl⟩
theorem subsR_mem : ∀ {n : Nat} {one : List Int}, one ∈ subsR n → (∀ p ∈ one, 0 ≤ p ∧ p < n) ∧ one.Pairwise (· < ·)
  | 0, one, h => by
    have h : one = [] := List.mem_singleton.mp h
    subst h
    exact ⟨fun p hp => (by cases hp), List.Pairwise.nil⟩
  | n + 1, one, h => by
    rw [subsR] at h
    obtain ⟨q, hq, h⟩ := List.mem_flatMap.mp h
    obtain ⟨b, s⟩ := subsR_mem hq
    have b' : ∀ p ∈ q.map (· + 1), 1 ≤ p ∧ p < ((n + 1 : Nat) : Int) := fun p hp => by
      obtain ⟨y, hy, rfl⟩ := List.mem_map.mp hp
      have := b y hy
      omega
    have s' : (q.map (· + 1)).Pairwise (· < ·) := List.pairwise_map.mpr (s.imp fun {a b} h => by omega)
    rcases List.mem_cons.mp h with rfl | h
    · exact ⟨fun p hp => by have := b' p hp; omega, s'⟩
    · rw [List.mem_singleton.mp h]
      refine ⟨fun p hp => ?_, List.pairwise_cons.mpr ⟨fun p hp => by have := b' p hp; omega, s'⟩⟩
      rcases List.mem_cons.mp hp with rfl | hp
      · omega
      · have := b' p hp; omega
/-- the numbers at places -/
def atP (row one : List Int) : List Int := one.map fun (place : Int) => row.getD place.toNat 0
theorem atP_shift (x : Int) (xs : List Int) {n : Nat} {p : List Int} (h : p ∈ subsR n) : atP (x :: xs) (p.map (· + 1)) = atP xs p := by
  unfold atP
  rw [List.map_map]
  refine List.map_congr_left fun y hy => ?_
  have := ((subsR_mem h).1 y hy).1
  show (x :: xs).getD (y + 1).toNat 0 = _
  rw [show (y + 1).toNat = y.toNat + 1 by omega, List.getD_cons_succ]
theorem countP_two {α β : Type} (f : β → Bool) (g : α → List β) : ∀ xs : List α, (xs.flatMap g).countP f = (xs.map fun x => (g x).countP f).sum
  | [] => rfl
  | x :: xs => by rw [List.flatMap_cons, List.countP_append, countP_two f g xs, List.map_cons, List.sum_cons]
theorem sum_count {α : Type} (f g : α → Bool) : ∀ xs : List α, (xs.map fun x => (if f x then 1 else 0) + (if g x then 1 else 0)).sum = xs.countP f + xs.countP g
  | [] => rfl
  | x :: xs => by
    rw [List.map_cons, List.sum_cons, sum_count f g xs, List.countP_cons, List.countP_cons]
    omega
theorem cntw_subs (m : Int) (hm : 1 ≤ m) : ∀ (row : List Int) (j : Nat) (k : Int), 0 ≤ k ∧ k < m → (((subsR row.length).countP fun one => decide (one.length = j) && decide ((atP row one).sum % m = k) : Nat) : Int) = cntw m row j k
  | [], j, k, h => by
    show ((List.countP _ [[]] : Nat) : Int) = _
    rw [List.countP_cons, List.countP_nil]
    unfold cntw
    show (((0 + if (decide (0 = j) && decide ((0 : Int) % m = k)) = true then 1 else 0) : Nat) : Int) = _
    rw [Int.zero_emod]
    by_cases h1 : j = 0
    · by_cases h2 : k = 0
      · subst h1 h2; rfl
      · have h2' : ¬ (0 : Int) = k := fun z => h2 z.symm
        simp [h1, h2, h2']
    · have h1' : ¬ 0 = j := fun z => h1 z.symm
      simp [h1, h1']
  | x :: xs, j, k, h => by
    rw [List.length_cons, subsR, countP_two]
    have e : ((subsR xs.length).map fun p => List.countP (fun one => decide (one.length = j) && decide ((atP (x :: xs) one).sum % m = k)) [p.map (· + 1), 0 :: p.map (· + 1)]).sum
        = (subsR xs.length).countP (fun one => decide (one.length = j) && decide ((atP xs one).sum % m = k)) + (subsR xs.length).countP (fun one => decide (one.length + 1 = j) && decide ((atP xs one).sum % m = (k - x) % m)) := by
      rw [← sum_count]
      congr 1
      refine List.map_congr_left fun p hp => ?_
      rw [List.countP_cons, List.countP_cons, List.countP_nil]
      have a1 := atP_shift x xs hp
      have a2 : atP (x :: xs) (0 :: p.map (· + 1)) = x :: atP xs p := by
        show (x :: xs).getD 0 0 :: atP (x :: xs) (p.map (· + 1)) = _
        rw [a1]; rfl
      simp only [a1, a2, List.length_map, List.length_cons, List.sum_cons]
      have iff : ((x + (atP xs p).sum) % m = k) ↔ ((atP xs p).sum % m = (k - x) % m) := by
        have i1 := mod_sub_iff (r := x) hm (kin_mod (a := (atP xs p).sum) hm) h
        rw [Int.add_emod_emod] at i1
        exact i1
      rw [decide_eq_decide.mpr iff]
      omega
    rw [e]
    cases j with
    | zero =>
      have z : (subsR xs.length).countP (fun one => decide (one.length + 1 = 0) && decide ((atP xs one).sum % m = (k - x) % m)) = 0 := List.countP_eq_zero.mpr fun p _ => by simp
      rw [z, Nat.add_zero, cntw_subs m hm xs 0 k h]
      rfl
    | succ j =>
      have z : (subsR xs.length).countP (fun one => decide (one.length + 1 = j + 1) && decide ((atP xs one).sum % m = (k - x) % m)) = (subsR xs.length).countP (fun one => decide (one.length = j) && decide ((atP xs one).sum % m = (k - x) % m)) := List.countP_congr fun p _ => by simp
      rw [z, Int.natCast_add, cntw_subs m hm xs (j + 1) k h, cntw_subs m hm xs j _ (kin_mod hm)]
      rfl

theorem cntw_snoc (m : Int) (hm : 1 ≤ m) (x : Int) : ∀ (p : List Int) (j : Nat) (k : Int), 0 ≤ k ∧ k < m → cntw m (p ++ [x]) j k = cntw m p j k + (if j = 0 then 0 else cntw m p (j - 1) ((k - x) % m))
  | [], 0, k, h => by show cntw m [x] 0 k = _; simp [cntw]
  | [], j + 1, k, h => by
    show cntw m [] (j + 1) k + cntw m [] j ((k - x) % m) = _
    rw [if_neg (by omega)]
    rfl
  | y :: p, 0, k, h => by
    show cntw m (p ++ [x]) 0 k = cntw m p 0 k + _
    rw [cntw_snoc m hm x p 0 k h]
    rfl
  | y :: p, j + 1, k, h => by
    show cntw m (p ++ [x]) (j + 1) k + cntw m (p ++ [x]) j ((k - y) % m) = (cntw m p (j + 1) k + cntw m p j ((k - y) % m)) + _
    rw [cntw_snoc m hm x p (j + 1) k h, cntw_snoc m hm x p j _ (kin_mod hm), if_neg (show ¬ j + 1 = 0 by omega), if_neg (show ¬ j + 1 = 0 by omega)]
    show cntw m p (j + 1) k + cntw m p j ((k - x) % m) + (cntw m p j ((k - y) % m) + _) = _ + cntw m (y :: p) j ((k - x) % m)
    cases j with
    | zero =>
      show _ + cntw m p 0 ((k - x) % m) + (_ + 0) = _ + cntw m p 0 ((k - x) % m)
      omega
    | succ j =>
      rw [if_neg (by omega)]
      show _ + cntw m p (j + 1) ((k - x) % m) + (_ + cntw m p j (((k - y) % m - x) % m)) = _ + (cntw m p (j + 1) ((k - x) % m) + cntw m p j (((k - x) % m - y) % m))
      have e : ((k - y) % m - x) % m = ((k - x) % m - y) % m := by
        rw [Int.emod_sub_emod, Int.emod_sub_emod, show k - y - x = k - x - y by omega]
      rw [e]
      omega
theorem cntw_mod (m : Int) (hm : 1 ≤ m) : ∀ (p : List Int) (j : Nat) (k : Int), cntw m (p.map fun x => x % m) j k = cntw m p j k
  | [], _, _ => rfl
  | x :: p, 0, k => cntw_mod m hm p 0 k
  | x :: p, j + 1, k => by
    show cntw m (p.map fun x => x % m) (j + 1) k + cntw m (p.map fun x => x % m) j ((k - x % m) % m) = _
    rw [cntw_mod m hm p (j + 1) k, cntw_mod m hm p j, Int.sub_emod_emod]
    rfl

theorem cntw_nn (m : Int) : ∀ (xs : List Int) (j : Nat) (k : Int), 0 ≤ cntw m xs j k
  | [], j, k => by unfold cntw; split <;> decide
  | x :: xs, 0, k => cntw_nn m xs 0 k
  | x :: xs, j + 1, k => by
    have h1 := cntw_nn m xs (j + 1) k
    have h2 := cntw_nn m xs j ((k - x) % m)
    unfold cntw
    omega
theorem reach_cnt (m : Int) : ∀ (xs : List Int) (j : Nat) (k : Int), reach m xs j k = decide (0 < cntw m xs j k)
  | [], j, k => by
    unfold reach cntw
    by_cases h : j = 0 ∧ k = 0
    · rw [if_pos h, decide_eq_true h]; rfl
    · rw [if_neg h, decide_eq_false h]; rfl
  | x :: xs, 0, k => reach_cnt m xs 0 k
  | x :: xs, j + 1, k => by
    have h1 := cntw_nn m xs (j + 1) k
    have h2 := cntw_nn m xs j ((k - x) % m)
    show (reach m xs (j + 1) k || reach m xs j ((k - x) % m)) = decide (0 < cntw m xs (j + 1) k + cntw m xs j ((k - x) % m))
    rw [reach_cnt m xs (j + 1) k, reach_cnt m xs j, ← Bool.decide_or]
    exact decide_eq_decide.mpr (by omega)
theorem reach_subs (m : Int) (hm : 1 ≤ m) (row : List Int) (j : Nat) (k : Int) (hk : 0 ≤ k ∧ k < m) : reach m row j k = true ↔ ∃ one ∈ subsR row.length, one.length = j ∧ (atP row one).sum % m = k := by
  rw [reach_cnt, ← cntw_subs m hm row j k hk, decide_eq_true_eq]
  have e : (0 < (((subsR row.length).countP fun one => decide (one.length = j) && decide ((atP row one).sum % m = k) : Nat) : Int)) ↔ 0 < (subsR row.length).countP fun one => decide (one.length = j) && decide ((atP row one).sum % m = k) := by omega
  rw [e, List.countP_pos_iff]
  constructor
  · rintro ⟨one, h1, h2⟩
    rw [Bool.and_eq_true, decide_eq_true_eq, decide_eq_true_eq] at h2
    exact ⟨one, h1, h2⟩
  · rintro ⟨one, h1, h2⟩
    exact ⟨one, h1, by rw [Bool.and_eq_true, decide_eq_true_eq, decide_eq_true_eq]; exact h2⟩
theorem reach_snoc (m : Int) (hm : 1 ≤ m) (x : Int) (p : List Int) (j : Nat) (k : Int) (h : 0 ≤ k ∧ k < m) : reach m (p ++ [x]) j k = (reach m p j k || (if j = 0 then false else reach m p (j - 1) ((k - x) % m))) := by
  rw [reach_cnt, cntw_snoc m hm x p j k h, reach_cnt, reach_cnt]
  have h1 := cntw_nn m p j k
  have h2 := cntw_nn m p (j - 1) ((k - x) % m)
  by_cases hj : j = 0
  · rw [if_pos hj, if_pos hj, Int.add_zero, Bool.or_false]
  · rw [if_neg hj, if_neg hj, ← Bool.decide_or]
    exact decide_eq_decide.mpr (by omega)
theorem reach_mod (m : Int) (hm : 1 ≤ m) (p : List Int) (j : Nat) (k : Int) : reach m (p.map fun x => x % m) j k = reach m p j k := by rw [reach_cnt, reach_cnt, cntw_mod m hm]
theorem reach_big (m : Int) : ∀ (xs : List Int) (j : Nat) (k : Int), xs.length < j → reach m xs j k = false
  | [], j, k, h => by
    unfold reach
    have : ¬ j = 0 := by simp at h; omega
    simp [this]
  | x :: xs, 0, k, h => by simp at h
  | x :: xs, j + 1, k, h => by
    simp only [List.length_cons] at h
    show (reach m xs (j + 1) k || reach m xs j ((k - x) % m)) = false
    rw [reach_big m xs (j + 1) k (by omega), reach_big m xs j _ (by omega)]
    rfl
/-- the first so many places that come to w -/
def gr (m : Int) : List Int → Nat → Int → List Int
  | [], _, _ => []
  | _ :: _, 0, _ => []
  | x :: xs, j + 1, w => if reach m xs j ((w - x) % m) = true then 0 :: (gr m xs j ((w - x) % m)).map (· + 1) else (gr m xs (j + 1) w).map (· + 1)
theorem gr_zero (m : Int) (xs : List Int) (w : Int) : gr m xs 0 w = [] := by cases xs <;> rfl
theorem gr_mod (m : Int) (hm : 1 ≤ m) : ∀ (xs : List Int) (j : Nat) (w : Int), gr m (xs.map fun x => x % m) j w = gr m xs j w
  | [], _, _ => rfl
  | x :: xs, 0, _ => rfl
  | x :: xs, j + 1, w => by
    show (if reach m (xs.map fun x => x % m) j ((w - x % m) % m) = true then 0 :: (gr m (xs.map fun x => x % m) j ((w - x % m) % m)).map (· + 1) else (gr m (xs.map fun x => x % m) (j + 1) w).map (· + 1)) = _
    rw [reach_mod m hm, Int.sub_emod_emod, gr_mod m hm xs j, gr_mod m hm xs (j + 1)]
    rfl
theorem gr_mem (m : Int) (hm : 1 ≤ m) : ∀ (xs : List Int) (j : Nat) (w : Int), 0 ≤ w ∧ w < m → reach m xs j w = true → gr m xs j w ∈ subsR xs.length ∧ (gr m xs j w).length = j ∧ (atP xs (gr m xs j w)).sum % m = w
  | [], j, w, hw, h => by
    have h := of_decide_eq_true (show decide (j = 0 ∧ w = 0) = true from h)
    obtain ⟨rfl, rfl⟩ := h
    exact ⟨List.mem_singleton.mpr rfl, rfl, Int.zero_emod m⟩
  | x :: xs, 0, w, hw, h => by
    have h : reach m xs 0 w = true := h
    obtain ⟨a, b, c⟩ := gr_mem m hm xs 0 w hw h
    rw [gr_zero] at a b c ⊢
    refine ⟨?_, rfl, c⟩
    rw [List.length_cons, subsR]
    exact List.mem_flatMap.mpr ⟨[], a, List.mem_cons_self⟩
  | x :: xs, j + 1, w, hw, h => by
    have h : (reach m xs (j + 1) w || reach m xs j ((w - x) % m)) = true := h
    unfold gr
    by_cases hr : reach m xs j ((w - x) % m) = true
    · rw [if_pos hr]
      obtain ⟨a, b, c⟩ := gr_mem m hm xs j _ (kin_mod hm) hr
      refine ⟨?_, by rw [List.length_cons, List.length_map, b], ?_⟩
      · rw [List.length_cons, subsR]
        exact List.mem_flatMap.mpr ⟨_, a, List.mem_cons_of_mem _ List.mem_cons_self⟩
      · have e : atP (x :: xs) (0 :: (gr m xs j ((w - x) % m)).map (· + 1)) = x :: atP xs (gr m xs j ((w - x) % m)) := by
          show (x :: xs).getD 0 0 :: atP (x :: xs) ((gr m xs j ((w - x) % m)).map (· + 1)) = _
          rw [atP_shift x xs a]; rfl
        rw [e, List.sum_cons]
        have := (mod_sub_iff (r := x) hm (kin_mod (a := (atP xs (gr m xs j ((w - x) % m))).sum) hm) hw).mpr c
        rw [Int.add_emod_emod] at this
        exact this
    · rw [if_neg hr]
      have h1 : reach m xs (j + 1) w = true := by simpa [hr] using h
      obtain ⟨a, b, c⟩ := gr_mem m hm xs (j + 1) w hw h1
      refine ⟨?_, by rw [List.length_map, b], by rw [atP_shift x xs a, c]⟩
      rw [List.length_cons, subsR]
      exact List.mem_flatMap.mpr ⟨_, a, List.mem_cons_self⟩
theorem lt_shift : ∀ {a b : List Int}, a < b → a.map (· + 1) < b.map (· + 1)
  | _, [], h => absurd h (List.not_lt_nil _)
  | [], _ :: _, _ => List.nil_lt_cons _ _
  | x :: a, y :: b, h => by
    rw [List.cons_lt_cons_iff] at h
    rw [List.map_cons, List.map_cons, List.cons_lt_cons_iff]
    rcases h with h | ⟨h1, h2⟩
    · exact .inl (by omega)
    · exact .inr ⟨by omega, lt_shift h2⟩
theorem gr_least (m : Int) (hm : 1 ≤ m) : ∀ (xs : List Int) (j : Nat) (w : Int), 0 ≤ w ∧ w < m → ∀ one ∈ subsR xs.length, one.length = j → (atP xs one).sum % m = w → gr m xs j w = one ∨ gr m xs j w < one
  | [], j, w, hw, one, h1, h2, h3 => by
    rw [List.mem_singleton.mp h1]
    exact .inl rfl
  | x :: xs, 0, w, hw, one, h1, h2, h3 => by
    rw [List.eq_nil_of_length_eq_zero h2]
    exact .inl rfl
  | x :: xs, j + 1, w, hw, one, h1, h2, h3 => by
    rw [List.length_cons, subsR] at h1
    obtain ⟨q, hq, h1⟩ := List.mem_flatMap.mp h1
    have a1 := atP_shift x xs hq
    have a2 : atP (x :: xs) (0 :: q.map (· + 1)) = x :: atP xs q := by
      show (x :: xs).getD 0 0 :: atP (x :: xs) (q.map (· + 1)) = _
      rw [a1]; rfl
    unfold gr
    have take : one = 0 :: q.map (· + 1) → q.length = j ∧ (atP xs q).sum % m = (w - x) % m := fun e => by
      rw [e, List.length_cons, List.length_map] at h2
      rw [e, a2, List.sum_cons] at h3
      refine ⟨by omega, ?_⟩
      have i := mod_sub_iff (r := x) hm (kin_mod (a := (atP xs q).sum) hm) hw
      rw [Int.add_emod_emod] at i
      exact i.mp h3
    by_cases hr : reach m xs j ((w - x) % m) = true
    · rw [if_pos hr]
      rcases List.mem_cons.mp h1 with e | e
      · subst e
        cases q with
        | nil => simp at h2
        | cons y q =>
          have := ((subsR_mem hq).1 y List.mem_cons_self).1
          right
          rw [List.map_cons, List.cons_lt_cons_iff]
          exact .inl (by omega)
      · have e := List.mem_singleton.mp e
        obtain ⟨t1, t2⟩ := take e
        subst e
        rcases gr_least m hm xs j _ (kin_mod hm) q hq t1 t2 with g | g
        · exact .inl (by rw [g])
        · right
          rw [List.cons_lt_cons_iff]
          exact .inr ⟨rfl, lt_shift g⟩
    · rw [if_neg hr]
      rcases List.mem_cons.mp h1 with e | e
      · subst e
        rw [List.length_map] at h2
        rw [a1] at h3
        rcases gr_least m hm xs (j + 1) w hw q hq h2 h3 with g | g
        · exact .inl (by rw [g])
        · exact .inr (lt_shift g)
      · have e := List.mem_singleton.mp e
        obtain ⟨t1, t2⟩ := take e
        exact absurd ((reach_subs m hm xs j _ (kin_mod hm)).mpr ⟨q, hq, t1, t2⟩) hr
/-! both loops -/
def cstep (m : Int) (xs : List Int) (many : Int) (z : Int × Int) : List Int × Int → List Int × Int := fun (p, w) =>
  if (p.length : Int) < many ∧ reach m (xs.drop (z.1.toNat + 1)) (many - (p.length : Int) - 1).toNat ((w - z.2) % m) = true then (p ++ [z.1], (w - z.2) % m) else (p, w)
theorem lfold_congr {α S : Type} {f g : α → S → S} : ∀ (xs : List α) (s : S), (∀ x ∈ xs, ∀ s, f x s = g x s) → lfold f xs s = lfold g xs s
  | [], _, _ => rfl
  | x :: xs, s, h => by rw [lfold_cons, lfold_cons, h x List.mem_cons_self, lfold_congr xs _ fun y hy => h y (List.mem_cons_of_mem _ hy)]
theorem f_step (m : Int) (hm : 1 ≤ m) (xs : List Int) (many : Int) (z : Int × Int) (hz : z ∈ enum xs) (s : List Int × Int) : m_first_of_1s m many (wtab m xs) z s = cstep m xs many z s := by
  obtain ⟨p, w⟩ := s
  have b := enum_mem hz
  show m_first_of_3 m (wtab m xs) p w z _ = _
  unfold m_first_of_3 m_first_of_4 cstep
  dsimp only
  have ei : (z.1 + 1).toNat = z.1.toNat + 1 := by omega
  rw [ei, wtab_drop m xs (z.1.toNat + 1) (by omega), (wtab_cnt m hm _ _ _ (kin_mod hm)).2]
  have : ((decide (many - (p.length : Int) > 0) && reach m (xs.drop (z.1.toNat + 1)) (many - (p.length : Int) - 1).toNat ((w - z.2) % m)) = true) ↔ ((p.length : Int) < many ∧ reach m (xs.drop (z.1.toNat + 1)) (many - (p.length : Int) - 1).toNat ((w - z.2) % m) = true) := by
    rw [Bool.and_eq_true, decide_eq_true_eq]
    exact and_congr (by omega) Iff.rfl
  by_cases h : ((p.length : Int) < many ∧ reach m (xs.drop (z.1.toNat + 1)) (many - (p.length : Int) - 1).toNat ((w - z.2) % m) = true)
  · rw [if_pos h, if_pos (this.mpr h)]
  · rw [if_neg h, if_neg fun q => h (this.mp q)]
theorem c_fold (m : Int) (hm : 1 ≤ m) (xs : List Int) (many : Int) : ∀ (ys : List Int) (k : Nat) (p : List Int) (w : Int), xs.drop k = ys → (p.length : Int) ≤ many →
    (lfold (cstep m xs many) ((ys.zipIdx k).map fun q => ((q.2 : Int), q.1)) (p, w)).1 = p ++ (gr m ys (many - (p.length : Int)).toNat w).map (· + (k : Int))
  | [], k, p, w, _, _ => by show p = p ++ []; rw [List.append_nil]
  | y :: ys, k, p, w, h, hp => by
    have hd : xs.drop (k + 1) = ys := by rw [← List.drop_drop, h]; rfl
    have fm : ∀ g : List Int, (g.map (· + 1)).map (· + (k : Int)) = g.map (· + ((k + 1 : Nat) : Int)) := fun g => by
      rw [List.map_map]
      exact List.map_congr_left fun a _ => by show a + 1 + (k : Int) = a + ((k + 1 : Nat) : Int); omega
    rw [List.zipIdx_cons, List.map_cons, lfold_cons]
    unfold cstep
    dsimp only
    rw [Int.toNat_natCast, hd]
    by_cases h1 : (p.length : Int) < many
    · have ej : (many - (p.length : Int)).toNat = (many - (p.length : Int) - 1).toNat + 1 := by omega
      rw [ej]
      unfold gr
      by_cases h2 : reach m ys (many - (p.length : Int) - 1).toNat ((w - y) % m) = true
      · rw [if_pos ⟨h1, h2⟩, if_pos h2]
        have ih := c_fold m hm xs many ys (k + 1) (p ++ [(k : Int)]) ((w - y) % m) hd (by rw [List.length_append]; show ((p.length + 1 : Nat) : Int) ≤ many; omega)
        unfold cstep at ih
        refine ih.trans ?_
        rw [List.length_append, show (many - ((p.length + [(k : Int)].length : Nat) : Int)).toNat = (many - (p.length : Int) - 1).toNat by simp only [List.length_cons, List.length_nil]; omega, List.map_cons, fm, Int.zero_add, List.append_assoc]
        rfl
      · rw [if_neg fun q => h2 q.2, if_neg h2]
        have ih := c_fold m hm xs many ys (k + 1) p w hd hp
        unfold cstep at ih
        refine ih.trans ?_
        rw [ej, fm]
    · have e0 : (many - (p.length : Int)).toNat = 0 := by omega
      rw [if_neg fun q => h1 q.1, e0, gr_zero]
      have ih := c_fold m hm xs many ys (k + 1) p w hd hp
      unfold cstep at ih
      refine ih.trans ?_
      rw [e0, gr_zero]
      rfl
/-- the first hit of so many places, or none -/
def firstH (m : Int) (xs : List Int) (many : Int) : Option (List Int) := if reach m xs many.toNat 0 = true then some (gr m xs many.toNat 0) else none
theorem c_all (m : Int) (hm : 1 ≤ m) (xs : List Int) (many : Int) (h0 : 0 ≤ many) : (lfold (cstep m xs many) (enum xs) (([] : List Int), (0 : Int))).1 = gr m xs many.toNat 0 := by
  have h := c_fold m hm xs many xs 0 [] 0 (List.drop_zero) (by simpa using h0)
  refine (show (lfold (cstep m xs many) (enum xs) (([] : List Int), (0 : Int))).1 = _ from h).trans ?_
  rw [List.nil_append]
  have : ∀ g : List Int, g.map (· + ((0 : Nat) : Int)) = g := fun g => by
    conv => rhs; rw [← List.map_id g]
    exact List.map_congr_left fun a _ => by show a + ((0 : Nat) : Int) = a; omega
  rw [this]
  congr 1
  simp
theorem first_of_eq (m : Int) (hm : 1 ≤ m) (xs : List Int) (many : Int) (h0 : 0 ≤ many) : m_first_of xs m many (m_ways_on xs m) = firstH m xs many := by
  unfold m_first_of firstH
  rw [ways_eq, lfold_congr _ _ fun z hz s => f_step m hm xs many z hz s]
  have e : m_first_of_2 (lfold (cstep m xs many) (enum xs) (([] : List Int), (0 : Int))) = some (lfold (cstep m xs many) (enum xs) (([] : List Int), (0 : Int))).1 := rfl
  rw [e, c_all m hm xs many h0]
  have w := (wtab_cnt m hm xs many.toNat 0 ⟨Int.le_refl _, by omega⟩).2
  show (if (decide (many ≥ (((wtab m xs).getD 0 []).length : Int)) || !(dlook (((wtab m xs).getD 0 []).getD many.toNat ⟨[]⟩).kvs 0).isSome) = true then _ else _) = _
  rw [w, wtab_len0]
  by_cases h : reach m xs many.toNat 0 = true
  · have := reach_le h
    rw [if_pos h, h, decide_eq_false (by omega)]
    rfl
  · rw [if_neg h, Bool.not_eq_true] at *
    rw [h, Bool.not_false, Bool.or_true, if_pos rfl]
theorem firstH_mod (m : Int) (hm : 1 ≤ m) (xs : List Int) (many : Int) : firstH m (xs.map fun x => x % m) many = firstH m xs many := by
  unfold firstH
  rw [reach_mod m hm, gr_mod m hm]
/-- the fewest, the first such -/
def fewH (m : Int) (xs : List Int) : Option (List Int) := match (rng 1 ((xs.length : Int) + 1)).find? (fun many => reach m xs many.toNat 0) with
  | some many => some (gr m xs many.toNat 0)
  | none => none
theorem find_congr {α : Type} {p q : α → Bool} : ∀ {xs : List α}, (∀ x ∈ xs, p x = q x) → xs.find? p = xs.find? q
  | [], _ => rfl
  | x :: xs, h => by
    rw [List.find?_cons, List.find?_cons, h x List.mem_cons_self, find_congr fun y hy => h y (List.mem_cons_of_mem _ hy)]
theorem few_eq (m : Int) (hm : 1 ≤ m) (row : List Int) : m_fewest_hit row m = fewH m row := by
  unfold m_fewest_hit m_fewest_hit_1 m_fewest_hit_2
  have hl : (m_rests row m).length = row.length := List.length_map _
  have e := lrun_find (fun many => (dlook ((((m_ways_on (m_rests row m) m)).getD ((0 : Int)).toNat []).getD (many).toNat (⟨[]⟩ : (Dct Int Int))).kvs (0 : Int)).isSome) (fun many => m_first_of (m_rests row m) m many (m_ways_on (m_rests row m) m)) (rng 1 ((row.length : Int) + 1))
  have e : lrun (m_fewest_hit_3s m (m_rests row m) (m_ways_on (m_rests row m) m)) (rng 1 ((row.length : Int) + 1)) () = _ := e
  rw [hl, e]
  have hc : ∀ x ∈ rng 1 ((row.length : Int) + 1), (dlook ((((m_ways_on (m_rests row m) m)).getD ((0 : Int)).toNat []).getD (x).toNat (⟨[]⟩ : (Dct Int Int))).kvs (0 : Int)).isSome = reach m row x.toNat 0 := fun x _ => by
    rw [ways_eq]
    exact ((wtab_cnt m hm (m_rests row m) x.toNat 0 ⟨Int.le_refl _, by omega⟩).2).trans (reach_mod m hm row _ _)
  unfold fewH
  rw [find_congr hc]
  cases hf : (rng 1 ((row.length : Int) + 1)).find? (fun x => reach m row x.toNat 0) with
  | none => rfl
  | some x =>
    have hx := mem_rng.mp (List.mem_of_find?_eq_some hf)
    have hr : reach m row x.toNat 0 = true := List.find?_some (p := fun many : Int => reach m row many.toNat 0) hf
    show m_first_of (m_rests row m) m x (m_ways_on (m_rests row m) m) = _
    rw [first_of_eq m hm _ x (by omega)]
    refine (firstH_mod m hm row x).trans ?_
    unfold firstH
    rw [if_pos hr]
/-- two rising lists of the same -/
theorem rising_ext : ∀ {xs ys : List Int}, xs.Pairwise (· < ·) → ys.Pairwise (· < ·) → (∀ k, k ∈ xs ↔ k ∈ ys) → xs = ys
  | [], [], _, _, _ => rfl
  | [], y :: ys, _, _, h => absurd ((h y).mpr List.mem_cons_self) (by simp)
  | x :: xs, [], _, _, h => absurd ((h x).mp List.mem_cons_self) (by simp)
  | x :: xs, y :: ys, hx, hy, h => by
    rw [List.pairwise_cons] at hx hy
    have e : x = y := by
      rcases List.mem_cons.mp ((h x).mp List.mem_cons_self) with e | e
      · exact e
      · rcases List.mem_cons.mp ((h y).mpr List.mem_cons_self) with e' | e'
        · exact e'.symm
        · have := hy.1 x e
          have := hx.1 y e'
          omega
    subst e
    congr 1
    refine rising_ext hx.2 hy.2 fun k => ⟨fun hk => ?_, fun hk => ?_⟩
    · rcases List.mem_cons.mp ((h k).mp (List.mem_cons_of_mem _ hk)) with e | e
      · have := hx.1 k hk; omega
      · exact e
    · rcases List.mem_cons.mp ((h k).mpr (List.mem_cons_of_mem _ hk)) with e | e
      · have := hy.1 k hk; omega
      · exact e

def cnt : List Int → Nat
  | [] => 0
  | x :: xs => xs.count x + cnt xs
theorem hms_fold : ∀ (ys : List Int) (o : Dct Int Int) (c : Int → Nat) (a : Int), (∀ k, (dlook o.kvs k).getD 0 = (c k : Int)) → (lfold m_how_many_stretches_1s ys (o, a)).2 = a + ((ys.map c).sum : Nat) + (cnt ys : Nat)
  | [], o, c, a, _ => by simp [lfold, cnt]
  | y :: ys, o, c, a, h => by
    rw [lfold_cons]
    show (lfold _ _ (m_how_many_stretches_3 o (a + (dlook o.kvs y).getD 0) y)).2 = _
    unfold m_how_many_stretches_3
    rw [h y]
    have := hms_fold ys ⟨dput o.kvs y ((dlook o.kvs y).getD 0 + 1)⟩ (fun k => c k + if k = y then 1 else 0) (a + (c y : Int)) (fun k => by
      show (dlook (dput o.kvs y _) k).getD 0 = _
      rw [dlook_dput]
      by_cases hk : k = y
      · rw [if_pos hk, h y, hk, if_pos rfl]; simp
      · rw [if_neg hk, h k, if_neg hk]; simp)
    rw [h y] at this
    have e : ∀ (l : List Int), (l.map fun k => c k + if k = y then 1 else 0).sum = (l.map c).sum + l.count y := fun l => by
      induction l with
      | nil => rfl
      | cons z l ih =>
        rw [List.map_cons, List.sum_cons, ih, List.map_cons, List.sum_cons, List.count_cons]
        by_cases hz : z = y
        · simp [hz]; omega
        · simp [hz]; omega
    refine this.trans ?_
    rw [e, List.map_cons, List.sum_cons, cnt]
    omega
theorem hms_eq (row : List Int) (m : Int) (h : 1 ≤ m) : m_how_many_stretches row m = (cnt ((List.range (row.length + 1)).map (ahd row m)) : Nat) := by
  have e := hms_fold (m_sums_ahead row m) ⟨[]⟩ (fun _ => 0) 0 (fun _ => rfl)
  rw [sums_ahd row m h] at e
  have e2 : m_how_many_stretches row m = (lfold m_how_many_stretches_1s (m_sums_ahead row m) (⟨[]⟩, 0)).2 := rfl
  rw [e2, sums_ahd row m h, e]
  have : ∀ l : List Int, (l.map fun _ => 0).sum = 0 := fun l => by induction l with | nil => rfl | cons _ _ ih => simpa using ih
  rw [this]; omega
theorem isort_rising {xs : List Int} (h : xs.Nodup) : (isort xs).Pairwise (· < ·) := by
  have h1 := isort_sorted xs
  have h2 := (isort_perm xs).nodup_iff.mpr h
  rw [List.nodup_iff_pairwise_ne] at h2
  exact (h1.and h2).imp fun ⟨a, b⟩ => Int.lt_iff_le_and_ne.mpr ⟨a, b⟩
theorem rng_rising (lo hi : Int) : (rng lo hi).Pairwise (· < ·) := by
  unfold rng
  exact List.pairwise_map.mpr (List.pairwise_lt_range.imp fun {a b} h => by omega)
/-- the rests that so many come to -/
def restsOf (m : Int) (row : List Int) (many : Int) : List Int := (rng 0 m).filter fun k => reach m row many.toNat k
theorem mem_restsOf {m many k : Int} {row : List Int} : k ∈ restsOf m row many ↔ (0 ≤ k ∧ k < m) ∧ reach m row many.toNat k = true := by
  unfold restsOf
  rw [List.mem_filter, mem_rng]
theorem restsOf_rising (m : Int) (row : List Int) (many : Int) : (restsOf m row many).Pairwise (· < ·) := (rng_rising 0 m).filter _
theorem come_eq (row : List Int) (m : Int) (hm : 1 ≤ m) (many : Int) (h0 : 0 ≤ many) : m_come_to row m many = restsOf m row many := by
  unfold m_come_to m_come_to_1
  have hl : (m_rests row m).length = row.length := List.length_map _
  rw [hl]
  by_cases h : many > (row.length : Int)
  · rw [if_pos (decide_eq_true h)]
    refine (List.eq_nil_iff_forall_not_mem.mpr fun k hk => ?_).symm
    have := (mem_restsOf.mp hk).2
    rw [reach_big m row _ k (by omega)] at this
    cases this
  · rw [if_neg (by rw [decide_eq_true_eq]; exact h), ways_eq]
    have kk := (wtab_kin m hm (m_rests row m)).at_ (i := many.toNat)
    refine rising_ext (isort_rising kk.nd) (restsOf_rising m row many) fun k => ?_
    rw [(isort_perm _).mem_iff, mem_restsOf]
    show k ∈ (((wtab m (m_rests row m)).getD 0 []).getD many.toNat ⟨[]⟩).kvs.map (·.1) ↔ _
    constructor
    · intro hk
      have b := kk.bd k hk
      refine ⟨b, ?_⟩
      rw [← reach_mod m hm row]
      exact ((wtab_cnt m hm (m_rests row m) many.toNat k b).2).symm.trans (dlook_mem.mpr hk)
    · rintro ⟨b, hr⟩
      rw [← reach_mod m hm row] at hr
      exact dlook_mem.mp (((wtab_cnt m hm (m_rests row m) many.toNat k b).2).trans hr)
/-- what is told of a row -/
def told (m : Int) (row : List Int) : List Int := (rng 1 ((row.length : Int) + 1)).map fun (many : Int) => cntw m row many.toNat 0
theorem hbp_eq (row : List Int) (m : Int) (hm : 1 ≤ m) : m_hits_by_places row m = told m row := by
  unfold m_hits_by_places m_hits_by_places_1 told
  have hl : ((m_ways_on (m_rests row m) m).getD ((0 : Int)).toNat []).length = row.length + 1 := by
    rw [ways_eq]
    show ((wtab m (m_rests row m)).getD 0 []).length = _
    rw [wtab_len0]
    show (row.map _).length + 1 = _
    rw [List.length_map]
  rw [cut_drop _ (by decide), show (rng 1 ((row.length : Int) + 1)) = (List.range' 1 row.length).map fun (k : Nat) => (k : Int) from rng_nat 1 (row.length + 1), List.map_map]
  refine List.ext_getElem (by rw [List.length_map, List.length_drop, hl, List.length_map, List.length_range']; show row.length + 1 - 1 = row.length; omega) fun i h1 h2 => ?_
  simp only [List.getElem_map, List.getElem_drop, List.getElem_range', Function.comp]
  have hi : i < row.length := by simpa using h2
  have c := (wtab_cnt m hm (m_rests row m) (1 + i) 0 ⟨Int.le_refl _, by omega⟩).1
  rw [List.getD_eq_getElem?_getD, List.getElem?_eq_getElem (by rw [wtab_len0]; show _ < (row.map _).length + 1; rw [List.length_map]; omega)] at c
  have e : ((1 : Int).toNat + i) = 1 + i := rfl
  have e2 : ((1 + 1 * i : Nat) : Int).toNat = 1 + i := by omega
  rw [e2]
  simp only [e]
  have e3 : cntw m (m_rests row m) (1 + i) 0 = cntw m row (1 + i) 0 := cntw_mod m hm row _ _
  rw [← e3, ← c]
  congr 2
  simp only [ways_eq]
  rfl
theorem hit_eq (m : Int) (hm : 1 ≤ m) (row : List Int) (many : Int) (h0 : 1 ≤ many) : m_hit_of row m many = firstH m row many := by
  unfold m_hit_of m_hit_of_1
  rw [first_of_eq m hm _ many (by omega)]
  exact firstH_mod m hm row many
theorem gr_hit (m : Int) (hm : 1 ≤ m) (row : List Int) (j : Nat) (h1 : 1 ≤ j) (h : reach m row j 0 = true) : m_is_hit row m (gr m row j 0) = true := by
  obtain ⟨a, b, c⟩ := gr_mem m hm row j 0 ⟨Int.le_refl _, by omega⟩ h
  obtain ⟨bd, pw⟩ := subsR_mem a
  unfold m_is_hit
  have ha : m_are_places row (gr m row j 0) = true := by
    rw [are_eq, asc_iff]
    exact ⟨pw, fun p hp => by have := bd p hp; omega⟩
  have hn : ¬ gr m row j 0 = [] := fun z => by rw [z] at b; simp at b; omega
  rw [if_neg (by simp [ha, hn]), decide_eq_true_eq]
  exact c
/-! the table -/
def cell (T : List (List Int)) (j : Nat) (r : Int) : Int := (T.getD j []).getD r.toNat 0
theorem getD_setL {α : Type} (xs : List α) (i j : Nat) (v d : α) (hi : i < xs.length) : (xs.set i v).getD j d = if j = i then v else xs.getD j d := by
  rw [List.getD_eq_getElem?_getD, List.getD_eq_getElem?_getD, List.getElem?_set]
  by_cases h : i = j
  · subst h
    rw [if_pos rfl, if_pos hi, if_pos rfl]
    rfl
  · rw [if_neg h, if_neg fun z => h z.symm]
theorem cell_set {n : Nat} {m : Int} {T : List (List Int)} (g : Grid n m T) {i : Nat} {k : Int} (hi : i < n + 1) (hk : 0 ≤ k ∧ k < m) (v : Int) (j : Nat) (r : Int) (hr : 0 ≤ r) : cell (T.set i ((T.getD i []).set k.toNat v)) j r = if j = i ∧ r = k then v else cell T j r := by
  unfold cell
  rw [getD_setL _ _ _ _ _ (by rw [g.l]; exact hi)]
  by_cases h : j = i
  · subst h
    have hl := g.row hi
    rw [if_pos rfl, getD_setL _ _ _ _ _ (by omega)]
    by_cases h2 : r = k
    · rw [if_pos (by rw [h2]), if_pos ⟨rfl, h2⟩]
    · rw [if_neg (by omega), if_neg fun z => h2 z.2]
  · rw [if_neg h, if_neg fun z => h z.1]
theorem inn_fold {n : Nat} {m x : Int} (hm : 1 ≤ m) {J : Int} (hJ : 1 ≤ J ∧ J < (n : Int) + 1) : ∀ (ks : List Int) (T : List (List Int)), ks.Nodup → (∀ k ∈ ks, 0 ≤ k ∧ k < m) → Grid n m T →
    Grid n m (lfold (m_lcnt_7s m x J) ks T) ∧ ∀ (j : Nat) (r : Int), 0 ≤ r → cell (lfold (m_lcnt_7s m x J) ks T) j r = if j = J.toNat ∧ r ∈ ks then cell T j r + cell T (J - 1).toNat ((r - x) % m) else cell T j r
  | [], T, _, _, g => ⟨g, fun j r _ => by rw [if_neg (by simp)]; rfl⟩
  | k :: ks, T, nd, bd, g => by
    have nd' := List.nodup_cons.mp nd
    have hk := bd k List.mem_cons_self
    have e : m_lcnt_7s m x J k T = T.set J.toNat ((T.getD J.toNat []).set k.toNat (cell T J.toNat k + cell T (J - 1).toNat ((k - x) % m))) := rfl
    have g1 : Grid n m (m_lcnt_7s m x J k T) := g.set _ _ _
    obtain ⟨g2, c2⟩ := inn_fold (x := x) hm hJ ks _ nd'.2 (fun z hz => bd z (List.mem_cons_of_mem _ hz)) g1
    have c1 := fun (j : Nat) (r : Int) (hr : 0 ≤ r) => (congrArg (fun T => cell T j r) e).trans (cell_set g (i := J.toNat) (by omega) hk (cell T J.toNat k + cell T (J - 1).toNat ((k - x) % m)) j r hr)
    refine ⟨g2, fun j r hr => ?_⟩
    refine (c2 j r hr).trans ?_
    have hb := Int.emod_nonneg (r - x) (show m ≠ 0 by omega)
    have c3 : cell (m_lcnt_7s m x J k T) (J - 1).toNat ((r - x) % m) = cell T (J - 1).toNat ((r - x) % m) := (c1 _ _ hb).trans (if_neg (by omega))
    rw [c3]
    by_cases hj : j = J.toNat
    · subst hj
      by_cases hrk : r = k
      · subst hrk
        rw [if_neg fun z => nd'.1 z.2, if_pos ⟨rfl, List.mem_cons_self⟩]
        exact (c1 _ _ hr).trans (if_pos ⟨rfl, rfl⟩)
      · have e1 : cell (m_lcnt_7s m x J k T) J.toNat r = cell T J.toNat r := (c1 _ _ hr).trans (if_neg fun z => hrk z.2)
        rw [e1]
        by_cases hin : r ∈ ks
        · rw [if_pos ⟨rfl, hin⟩, if_pos ⟨rfl, List.mem_cons_of_mem _ hin⟩]
        · rw [if_neg fun z => hin z.2, if_neg fun z => (List.mem_cons.mp z.2).elim hrk hin]
    · rw [if_neg fun z => hj z.1, if_neg fun z => hj z.1]
      exact (c1 _ _ hr).trans (if_neg fun z => hj z.1)
theorem rng_nodup (lo hi : Int) : (rng lo hi).Nodup := by
  unfold rng
  rw [List.nodup_iff_pairwise_ne]
  exact List.pairwise_map.mpr (List.pairwise_lt_range.imp fun {a b} h => by omega)
theorem mid_fold {n : Nat} {m x : Int} (hm : 1 ≤ m) : ∀ (d : Nat) (T : List (List Int)), d ≤ n → Grid n m T →
    Grid n m (lfold (m_lcnt_5s m x) (rngD (d : Int) 0) T) ∧ ∀ (j : Nat) (r : Int), 0 ≤ r ∧ r < m → cell (lfold (m_lcnt_5s m x) (rngD (d : Int) 0) T) j r = if 1 ≤ j ∧ j ≤ d then cell T j r + cell T (j - 1) ((r - x) % m) else cell T j r
  | 0, T, _, g => by
    rw [rngD_nil (by omega)]
    exact ⟨g, fun j r _ => by rw [if_neg (by omega)]; rfl⟩
  | d + 1, T, hd, g => by
    rw [rngD_cons (by omega), show ((d + 1 : Nat) : Int) - 1 = (d : Int) by omega, lfold_cons]
    have e : m_lcnt_5s m x ((d + 1 : Nat) : Int) T = lfold (m_lcnt_7s m x ((d + 1 : Nat) : Int)) (rng 0 m) T := rfl
    rw [e]
    obtain ⟨g1, c1⟩ := inn_fold (n := n) (m := m) (x := x) hm (J := ((d + 1 : Nat) : Int)) ⟨by omega, by omega⟩ (rng 0 m) T (rng_nodup 0 m) (fun k hk => mem_rng.mp hk) g
    obtain ⟨g2, c2⟩ := mid_fold (x := x) hm d _ (by omega) g1
    refine ⟨g2, fun j r hr => (c2 j r hr).trans ?_⟩
    have hb : 0 ≤ (r - x) % m ∧ (r - x) % m < m := ⟨Int.emod_nonneg _ (by omega), Int.emod_lt_of_pos _ (by omega)⟩
    rw [c1 j r hr.1]
    by_cases h1 : 1 ≤ j ∧ j ≤ d
    · rw [if_pos h1, if_neg (fun z => by have := z.1; omega), c1 _ _ hb.1, if_neg (fun z => by have := z.1; omega), if_pos (by omega)]
    · rw [if_neg h1]
      by_cases h2 : j = d + 1
      · subst h2
        rw [if_pos ⟨by omega, mem_rng.mpr hr⟩, if_pos ⟨by omega, by omega⟩, show (((d + 1 : Nat) : Int) - 1).toNat = d + 1 - 1 by omega]
      · rw [if_neg (fun z => by have := z.1; omega), if_neg (by omega)]
structure Tb (n : Nat) (m : Int) (p : List Int) (T : List (List Int)) : Prop where
  g : Grid n m T
  v : ∀ (j : Nat) (r : Int), j ≤ n → 0 ≤ r ∧ r < m → cell T j r = cntw m p j r
theorem tb_new {n : Nat} {m : Int} (hm : 1 ≤ m) : Tb n m [] ((((rng 0 ((n : Int) + 1)).map fun (k : Int) => (List.replicate m.toNat [(0 : Int)]).flatten)).set (0 : Int).toNat (((((rng 0 ((n : Int) + 1)).map fun (k : Int) => (List.replicate m.toNat [(0 : Int)]).flatten)).getD (0 : Int).toNat []).set (0 : Int).toNat 1)) := by
  have g := grid_new (n := n) hm
  refine ⟨g.set _ _ _, fun j r hj hr => ?_⟩
  refine (cell_set g (i := 0) (k := 0) (by omega) ⟨Int.le_refl _, by omega⟩ 1 j r hr.1).trans ?_
  show _ = if j = 0 ∧ r = 0 then 1 else 0
  by_cases h : j = 0 ∧ r = 0
  · rw [if_pos h, if_pos h]
  · rw [if_neg h, if_neg h]
    unfold cell
    rw [List.getD_eq_getElem?_getD (l := List.map _ _), List.getElem?_map]
    cases (rng 0 ((n : Int) + 1))[j]? with
    | none => simp
    | some k =>
      have e : ∀ n : Nat, (List.replicate n ([(0 : Int)] : List Int)).flatten = List.replicate n 0 := fun n => by
        induction n with
        | zero => rfl
        | succ n ih => rw [List.replicate_succ, List.flatten_cons, ih]; rfl
      show ((List.replicate m.toNat ([(0 : Int)] : List Int)).flatten).getD r.toNat 0 = 0
      rw [e, List.getD_eq_getElem?_getD, List.getElem?_replicate]
      split <;> rfl
theorem tb_all {n : Nat} {row : List Int} {m : Int} (hn : row.length = n) (hm : 1 ≤ m) : ∀ (s p : List Int) (T : List (List Int)), Tb n m p T → Tb n m (p ++ s) (lfold (m_lcnt_3s row m) s T)
  | [], p, T, t => by rw [List.append_nil]; exact t
  | x :: s, p, T, t => by
    have e : m_lcnt_3s row m x T = lfold (m_lcnt_5s m x) (rngD (n : Int) 0) T := by unfold m_lcnt_3s m_lcnt_6; rw [hn]
    obtain ⟨g, c⟩ := mid_fold (m := m) (x := x) hm n T (Nat.le_refl _) t.g
    have t2 : Tb n m (p ++ [x]) (m_lcnt_3s row m x T) := by
      rw [e]
      refine ⟨g, fun j r hj hr => ?_⟩
      rw [c j r hr, cntw_snoc m hm x p j r hr]
      by_cases h : j = 0
      · rw [if_neg (by omega), if_pos h, t.v j r hj hr]; omega
      · rw [if_pos (by omega), if_neg h, t.v j r hj hr, t.v (j - 1) _ (by omega) ⟨Int.emod_nonneg _ (by omega), Int.emod_lt_of_pos _ (by omega)⟩]
    have := tb_all hn hm s (p ++ [x]) _ t2
    rwa [List.append_assoc] at this
theorem lcnt_at (row : List Int) (m : Int) (hm : 1 ≤ m) (j : Nat) (r : Int) (hj : j ≤ row.length) (hr : 0 ≤ r ∧ r < m) : ((m_lcnt row m).getD j []).getD r.toNat 0 = cntw m row j r :=
  (tb_all rfl hm row [] _ (tb_new hm)).v j r hj hr
/-! the first so many -/
theorem dput_fold (m x : Int) : ∀ (ks : List Int) (d : Dct Int Bool) (r : Int), (dlook (lfold (fun (k : Int) (d : Dct Int Bool) => (⟨dput d.kvs ((k + x) % m) true⟩ : Dct Int Bool)) ks d).kvs r).isSome = ((dlook d.kvs r).isSome || decide (∃ k ∈ ks, (k + x) % m = r))
  | [], d, r => by simp [lfold_nil]
  | k :: ks, d, r => by
    rw [lfold_cons, dput_fold m x ks]
    show ((dlook (dput d.kvs ((k + x) % m) true) r).isSome || _) = _
    rw [dlook_dput]
    by_cases h : r = (k + x) % m
    · rw [if_pos h]
      have : ∃ k' ∈ k :: ks, (k' + x) % m = r := ⟨k, List.mem_cons_self, h.symm⟩
      rw [decide_eq_true this]
      simp
    · rw [if_neg h]
      congr 1
      refine decide_eq_decide.mpr ⟨fun ⟨k', h1, h2⟩ => ⟨k', List.mem_cons_of_mem _ h1, h2⟩, fun ⟨k', h1, h2⟩ => ?_⟩
      rcases List.mem_cons.mp h1 with rfl | h1
      · exact absurd h2.symm h
      · exact ⟨k', h1, h2⟩
theorem dput_foldK {m x : Int} (hm : 1 ≤ m) : ∀ (ks : List Int) (d : Dct Int Bool), KB m (d.kvs.map (·.1)) → KB m ((lfold (fun (k : Int) (d : Dct Int Bool) => (⟨dput d.kvs ((k + x) % m) true⟩ : Dct Int Bool)) ks d).kvs.map (·.1))
  | [], d, h => h
  | k :: ks, d, h => by
    rw [lfold_cons]
    exact dput_foldK hm ks _ (h.put (kin_mod hm))
theorem dlookB_mem {kvs : List (Int × Bool)} {k : Int} : (dlook kvs k).isSome = true ↔ k ∈ kvs.map (·.1) := by
  induction kvs with
  | nil => simp [dlook_nil]
  | cons p r ih =>
    rw [dlook_cons, List.map_cons, List.mem_cons]
    by_cases h : p.1 = k
    · rw [if_pos h]; simp [h]
    · rw [if_neg h, ih]
      exact ⟨.inr, fun z => z.resolve_left fun z => h z.symm⟩
/-- so many of xs come to just these rests -/
structure HD (m : Int) (many : Int) (xs : List Int) (ds : List (Dct Int Bool)) : Prop where
  l : (ds.length : Int) = (if (xs.length : Int) < many then (xs.length : Int) else many) + 1
  k : Hrs m ds
  v : ∀ (j : Nat) (r : Int), (j : Int) ≤ many → 0 ≤ r ∧ r < m → (dlook (ds.getD j ⟨[]⟩).kvs r).isSome = reach m xs j r
def gD (m x : Int) (ahead : List (Dct Int Bool)) (j : Int) : Dct Int Bool := if j > 0 then lfold (fun (k : Int) (d : Dct Int Bool) => (⟨dput d.kvs ((k + x) % m) true⟩ : Dct Int Bool)) ((ahead.getD (j - 1).toNat ⟨[]⟩).kvs.map (·.1)) (ahead.getD j.toNat ⟨[]⟩) else ahead.getD j.toNat ⟨[]⟩
theorem st5 (row : List Int) (m k : Int) (ahead : List (Dct Int Bool)) (j : Int) (h0 : 0 ≤ j) (here : List (Dct Int Bool)) : m_lfst_5s row m k ahead j here = here ++ [gD m (row.getD k.toNat 0) ahead j] := by
  unfold m_lfst_5s m_lfst_7 m_lfst_9 m_lfst_11 gD
  by_cases h1 : j < (ahead.length : Int)
  · rw [if_pos (decide_eq_true h1)]
    by_cases h2 : j > 0
    · rw [if_pos (decide_eq_true h2), if_pos h2]; rfl
    · rw [if_neg (by rw [decide_eq_true_eq]; exact h2), if_neg h2]
  · have e : ahead.getD j.toNat (⟨[]⟩ : Dct Int Bool) = ⟨[]⟩ := by rw [List.getD_eq_getElem?_getD, List.getElem?_eq_none (by omega)]; rfl
    rw [if_neg (by rw [decide_eq_true_eq]; exact h1), e]
    by_cases h2 : j > 0
    · rw [if_pos (decide_eq_true h2), if_pos h2]; rfl
    · rw [if_neg (by rw [decide_eq_true_eq]; exact h2), if_neg h2]
theorem lfold_mapM {α β : Type} {step : α → List β → List β} {f : α → β} : ∀ (xs : List α) (s : List β), (∀ x ∈ xs, ∀ s, step x s = s ++ [f x]) → lfold step xs s = s ++ xs.map f
  | [], s, _ => (List.append_nil s).symm
  | x :: xs, s, h => by
    rw [lfold_cons, h x List.mem_cons_self, lfold_mapM xs _ fun y hy => h y (List.mem_cons_of_mem _ hy), List.append_assoc]
    rfl
theorem hd_step {m many x : Int} (hm : 1 ≤ m) (h0 : 0 ≤ many) {xs : List Int} {ahead : List (Dct Int Bool)} (h : HD m many xs ahead) : HD m many (x :: xs) ((rng 0 ((if ((xs.length + 1 : Nat) : Int) < many then ((xs.length + 1 : Nat) : Int) else many) + 1)).map (gD m x ahead)) := by
  have kg : ∀ j, KB m ((gD m x ahead j).kvs.map (·.1)) := fun j => by
    unfold gD
    split
    · exact dput_foldK hm _ _ (h.k.at_ _)
    · exact h.k.at_ _
  refine ⟨?_, fun d hd => ?_, fun j r hj hr => ?_⟩
  · rw [List.length_map, rng_len, List.length_cons]
    split <;> omega
  · obtain ⟨j, _, rfl⟩ := List.mem_map.mp hd
    exact kg j
  · by_cases hl : (j : Int) ≤ (xs.length : Int) + 1
    · have hin : (rng 0 ((if ((xs.length + 1 : Nat) : Int) < many then ((xs.length + 1 : Nat) : Int) else many) + 1))[j]? = some (j : Int) := by
        unfold rng
        rw [List.getElem?_map, List.getElem?_range (by split <;> omega)]
        show some (0 + (j : Int)) = some (j : Int)
        rw [Int.zero_add]
      rw [List.getD_eq_getElem?_getD, List.getElem?_map, hin]
      show (dlook (gD m x ahead (j : Int)).kvs r).isSome = _
      unfold gD
      cases j with
      | zero =>
        rw [if_neg (by omega)]
        exact h.v 0 r hj hr
      | succ j =>
        rw [if_pos (by omega), dput_fold, Int.toNat_natCast, h.v (j + 1) r hj hr, show (((j + 1 : Nat) : Int) - 1).toNat = j by omega]
        show _ = (reach m xs (j + 1) r || reach m xs j ((r - x) % m))
        congr 1
        have hb : 0 ≤ (r - x) % m ∧ (r - x) % m < m := kin_mod hm
        rw [← h.v j _ (by omega) hb]
        have kb := h.k.at_ j
        refine Bool.eq_iff_iff.mpr ?_
        rw [decide_eq_true_eq, dlookB_mem]
        constructor
        · rintro ⟨k, hk, e⟩
          have bk := kb.bd k hk
          rw [← (mod_sub_iff (r := x) hm bk hr).mp (by rw [Int.add_comm]; exact e)]
          exact hk
        · intro hk
          refine ⟨_, hk, ?_⟩
          rw [Int.emod_add_emod, show r - x + x = r by omega]
          exact Int.emod_eq_of_lt hr.1 hr.2
    · have e : (((rng 0 ((if ((xs.length + 1 : Nat) : Int) < many then ((xs.length + 1 : Nat) : Int) else many) + 1)).map (gD m x ahead)).getD j (⟨[]⟩ : Dct Int Bool)) = ⟨[]⟩ := by
        rw [List.getD_eq_getElem?_getD, List.getElem?_eq_none (by rw [List.length_map, rng_len]; split <;> omega)]
        rfl
      rw [e, reach_big m (x :: xs) j r (by rw [List.length_cons]; omega)]
      rfl
structure LT (m many : Int) (row : List Int) (d : Nat) (T : List (List (Dct Int Bool))) : Prop where
  l : T.length + d = row.length + 1
  v : ∀ t, t + d ≤ row.length → HD m many (row.drop (d + t)) (T.getD t [])
theorem lt_step {m many : Int} (hm : 1 ≤ m) (h0 : 0 ≤ many) {row : List Int} {d : Nat} (hd : d < row.length) {T : List (List (Dct Int Bool))} (h : LT m many row (d + 1) T) : LT m many row d (m_lfst_2s row m many (d : Int) T) := by
  have hx : row.drop d = row[d] :: row.drop (d + 1) := List.drop_eq_getElem_cons hd
  have ex : row.getD ((d : Nat) : Int).toNat 0 = row[d] := by rw [Int.toNat_natCast, List.getD_eq_getElem?_getD, List.getElem?_eq_getElem hd]; rfl
  have hl : ((row.drop (d + 1)).length + 1 : Nat) = row.length - d := by rw [List.length_drop]; omega
  have e : m_lfst_2s row m many (d : Int) T = [((rng 0 ((if (((row.drop (d + 1)).length + 1 : Nat) : Int) < many then (((row.drop (d + 1)).length + 1 : Nat) : Int) else many) + 1)).map (gD m row[d] (T.getD 0 [])))] ++ T := by
    unfold m_lfst_2s m_lfst_4 m_lfst_6 m_lfst_12
    rw [lfold_mapM (f := gD m (row.getD ((d : Nat) : Int).toNat 0) (T.getD (0 : Int).toNat [])) _ _ fun j hj s => st5 row m d _ j (mem_rng.mp hj).1 s, List.nil_append, ex, hl, show ((row.length - d : Nat) : Int) = (row.length : Int) - (d : Int) by omega]
    rfl
  rw [e]
  have hv0 := h.v 0 (by omega)
  refine ⟨by have := h.l; rw [List.length_append, List.length_singleton]; omega, fun t ht => ?_⟩
  cases t with
  | zero =>
    show HD m many (row.drop d) _
    rw [hx]
    exact hd_step hm h0 (by simpa using hv0)
  | succ t =>
    show HD m many (row.drop (d + (t + 1))) (T.getD t [])
    rw [show d + (t + 1) = d + 1 + t by omega]
    exact h.v t (by omega)
theorem lt_all {m many : Int} (hm : 1 ≤ m) (h0 : 0 ≤ many) {row : List Int} : ∀ (d : Nat) (T : List (List (Dct Int Bool))), d ≤ row.length → LT m many row d T → LT m many row 0 (lfold (m_lfst_2s row m many) (rngD ((d : Int) - 1) (-1)) T)
  | 0, T, _, h => by rw [rngD_nil (by omega)]; exact h
  | d + 1, T, hd, h => by
    rw [rngD_cons (by omega), lfold_cons, show ((d + 1 : Nat) : Int) - 1 = (d : Int) by omega]
    exact lt_all hm h0 d _ (by omega) (lt_step hm h0 (by omega) h)
theorem lt_new {m many : Int} (hm : 1 ≤ m) (h0 : 0 ≤ many) {row : List Int} : LT m many row row.length [[⟨[((0 : Int), true)]⟩]] := by
  refine ⟨by rw [List.length_singleton]; omega, fun t ht => ?_⟩
  have : t = 0 := by omega
  subst this
  rw [List.drop_eq_nil_of_le (by omega)]
  refine ⟨?_, fun d hd => by rw [List.mem_singleton.mp hd]; exact KB.one hm, fun j r hj hr => ?_⟩
  · show (1 : Int) = (if ((0 : Nat) : Int) < many then ((0 : Nat) : Int) else many) + 1
    split <;> omega
  · show _ = decide (j = 0 ∧ r = 0)
    cases j with
    | zero =>
      show (dlook [((0 : Int), true)] r).isSome = _
      rw [dlook_cons]
      by_cases h : (0 : Int) = r
      · rw [if_pos h]; simp [h.symm]
      · rw [if_neg h]; simp [dlook_nil]; omega
    | succ j => simp [dlook_nil]
theorem enum_at {z : Int × Int} {xs : List Int} (h : z ∈ enum xs) : z.2 = xs.getD z.1.toNat 0 := by
  unfold enum at h
  obtain ⟨p, hp, rfl⟩ := List.mem_map.mp h
  obtain ⟨h1, h2⟩ := List.mem_zipIdx' hp
  show p.1 = xs.getD ((p.2 : Nat) : Int).toNat 0
  rw [Int.toNat_natCast, List.getD_eq_getElem?_getD, List.getElem?_eq_getElem h1, h2]
  rfl
theorem cut_one {d : Dct Int Bool} (ds : List (Dct Int Bool)) (left : Int) (h : left > 0) (b : Int) (hd : d = ⟨[]⟩) : ((!(cut ds (some (if left - 1 > 0 then left - 1 else 0)) (some left)).isEmpty) && (dlook ((cut ds (some (if left - 1 > 0 then left - 1 else 0)) (some left)).getD (0 : Int).toNat d).kvs b).isSome) = (dlook (ds.getD (left - 1).toNat d).kvs b).isSome := by
  subst hd
  have e : (if left - 1 > 0 then left - 1 else 0) = left - 1 := by split <;> omega
  rw [e, cut_mid _ (by omega) (by omega), show left.toNat - (left - 1).toNat = 1 by omega]
  rw [List.getD_eq_getElem?_getD (l := ds)]
  cases hq : ds.drop (left - 1).toNat with
  | nil =>
    have : ds[(left - 1).toNat]? = none := List.getElem?_eq_none (List.drop_eq_nil_iff.mp hq)
    rw [this]
    rfl
  | cons y r =>
    have : ds[(left - 1).toNat]? = some y := by
      have := congrArg (fun l : List (Dct Int Bool) => l[0]?) hq
      simpa using this
    rw [this]
    rfl
theorem swap_fold {α A B : Type} {f : α → A × B → A × B} {g : α → B × A → B × A} (I : B × A → Prop) : ∀ (xs : List α), (∀ x ∈ xs, ∀ p w, I (p, w) → f x (w, p) = ((g x (p, w)).2, (g x (p, w)).1) ∧ I (g x (p, w))) → ∀ p w, I (p, w) → lfold f xs (w, p) = ((lfold g xs (p, w)).2, (lfold g xs (p, w)).1)
  | [], _, _, _, _ => rfl
  | x :: xs, h, p, w, hi => by
    obtain ⟨e, hi2⟩ := h x List.mem_cons_self p w hi
    rw [lfold_cons, lfold_cons, e]
    exact swap_fold I xs (fun y hy => h y (List.mem_cons_of_mem _ hy)) _ _ hi2
theorem lfst_eq (m : Int) (hm : 1 ≤ m) (row : List Int) (many : Int) (h0 : 0 ≤ many) : m_lfst row m many = firstH m row many := by
  have lt := lt_all hm h0 row.length _ (Nat.le_refl _) (lt_new hm h0 (row := row))
  unfold m_lfst m_lfst_1
  generalize lfold (m_lfst_2s row m many) (rngD ((row.length : Int) - 1) (-1)) ([([(⟨[((0 : Int), true)]⟩ : (Dct Int Bool))] : List (Dct Int Bool))] : List (List (Dct Int Bool))) = T at lt ⊢
  unfold m_lfst_3 firstH
  have v0 := lt.v 0 (by omega)
  have hd0 : row.drop (0 + 0) = row := rfl
  rw [hd0] at v0
  have e1 := v0.v many.toNat 0 (by omega) ⟨Int.le_refl _, by omega⟩
  have e1 : (dlook ((T.getD (0 : Int).toNat []).getD many.toNat ⟨[]⟩).kvs 0).isSome = reach m row many.toNat 0 := e1
  rw [e1]
  have hl := v0.l
  have hl : ((T.getD (0 : Int).toNat []).length : Int) = _ := hl
  have hlen : T.length = row.length + 1 := by have := lt.l; omega
  by_cases h : reach m row many.toNat 0 = true
  · have := reach_le h
    rw [if_pos h, h, decide_eq_false (by rw [hl]; split <;> omega)]
    rw [if_neg (by decide)]
    have er : rng 0 (row.length : Int) = (enum row).map (·.1) := by
      unfold enum rng
      rw [List.map_map]
      refine List.ext_getElem (by simp) fun i h1 h2 => ?_
      simp
    rw [er, lfold_mapL]
    have sw := swap_fold (f := fun (z : Int × Int) => m_lfst_13s row m many T z.1) (g := cstep m row many) (fun q => (q.1.length : Int) ≤ many) (enum row) (fun z hz p w hp => by
      have hz1 := enum_mem hz
      have hz2 := enum_at hz
      have hv := lt.v (z.1 + 1).toNat (by omega)
      rw [show 0 + (z.1 + 1).toNat = z.1.toNat + 1 by omega] at hv
      unfold m_lfst_13s m_lfst_15 m_lfst_16 m_lfst_17 cstep
      dsimp only
      rw [← hz2]
      by_cases h1 : (p.length : Int) < many
      · have hb : 0 ≤ (w - z.2) % m ∧ (w - z.2) % m < m := kin_mod hm
        rw [cut_one _ _ (by omega) _ rfl, hv.v (many - (p.length : Int) - 1).toNat _ (by omega) hb, decide_eq_true (show many - (p.length : Int) > 0 by omega), Bool.true_and]
        by_cases h2 : reach m (row.drop (z.1.toNat + 1)) (many - (p.length : Int) - 1).toNat ((w - z.2) % m) = true
        · rw [if_pos h2, if_pos ⟨h1, h2⟩]
          exact ⟨rfl, by show ((p ++ [z.1]).length : Int) ≤ many; rw [List.length_append, List.length_singleton]; omega⟩
        · rw [if_neg h2, if_neg fun q => h2 q.2]
          exact ⟨rfl, hp⟩
      · rw [decide_eq_false (show ¬ many - (p.length : Int) > 0 by omega), Bool.false_and, if_neg (by decide), if_neg fun q => h1 q.1]
        exact ⟨rfl, hp⟩) [] 0 (by simpa using h0)
    rw [sw]
    show some (lfold (cstep m row many) (enum row) ([], 0)).1 = _
    rw [c_all m hm row many h0]
  · have h' : reach m row many.toNat 0 = false := by rwa [Bool.not_eq_true] at h
    rw [if_neg h, h', Bool.not_false, Bool.or_true, if_pos rfl]

/-! the stretches -/
theorem psums_raw (m : Int) : ∀ (row : List Int) (b : Int), psums m (row.map fun x => x % m) b = psums m row b
  | [], _ => rfl
  | x :: xs, b => by
    show (b + x % m) % m :: psums m (xs.map fun x => x % m) ((b + x % m) % m) = _
    rw [Int.add_emod_emod, psums_raw m xs]
    rfl
theorem side_ahead (row : List Int) (m : Int) (hm : 1 ≤ m) : lfold (m_lside_1s m) row [0] = (List.range (row.length + 1)).map (ahd row m) := by
  rw [← sums_ahd row m hm]
  have e := sums_fold m row [] 0
  have e2 := sums_fold m (m_rests row m) [] 0
  have e3 : m_rests row m = row.map fun x => x % m := rfl
  rw [e3, psums_raw] at e2
  refine Eq.trans (show lfold (m_lside_1s m) row [0] = lfold (m_sums_ahead_1s m) row ([] ++ [0]) from rfl) (e.trans e2.symm)
def prs (A : Nat → Int) (j : Nat) : List (Int × Int) := ((List.range j).filter fun i => decide (A i = A j)).map fun (i : Nat) => ((j : Int), (j : Int) - (i : Int))
theorem ahd_getD (A : Nat → Int) (n k : Nat) (h : k ≤ n) : ((List.range (n + 1)).map A).getD k 0 = A k := by
  rw [List.getD_eq_getElem?_getD, List.getElem?_map, List.getElem?_range (by omega)]
  rfl
theorem side_pairs (A : Nat → Int) (n : Nat) : lfold (m_lside_3s ((List.range (n + 1)).map A)) (rng 1 (((List.range (n + 1)).map A).length : Int)) [] = (List.range' 1 n).flatMap (prs A) := by
  rw [List.length_map, List.length_range, show rng 1 ((n + 1 : Nat) : Int) = (List.range' 1 n).map fun (k : Nat) => (k : Int) from rng_nat 1 (n + 1), lfold_mapL]
  rw [lfold_flat (g := prs A) fun j hj s => ?_]
  · rfl
  · have hj := List.mem_range'_1.mp hj
    unfold m_lside_3s m_lside_5 m_lside_6 prs
    congr 1
    rw [List.map_id', rng0_nat, List.filter_map, List.map_map]
    congr 1
    refine List.filter_congr fun i hi => ?_
    have hi := List.mem_range.mp hi
    show decide (_ = _) = _
    rw [Int.toNat_natCast, Int.toNat_natCast, ahd_getD A n i (by omega), ahd_getD A n j (by omega)]
theorem mem_prs (A : Nat → Int) (n : Nat) (p : Int × Int) : p ∈ (List.range' 1 n).flatMap (prs A) ↔ ∃ i j : Nat, p = ((j : Int), (j : Int) - (i : Int)) ∧ i < j ∧ j ≤ n ∧ A i = A j := by
  rw [List.mem_flatMap]
  unfold prs
  constructor
  · rintro ⟨j, hj, hp⟩
    obtain ⟨i, hi, rfl⟩ := List.mem_map.mp hp
    obtain ⟨h1, h2⟩ := List.mem_filter.mp hi
    have h3 := List.mem_range'_1.mp hj
    exact ⟨i, j, rfl, List.mem_range.mp h1, by omega, of_decide_eq_true h2⟩
  · rintro ⟨i, j, rfl, h1, h2, h3⟩
    exact ⟨j, List.mem_range'_1.mpr (by omega), List.mem_map.mpr ⟨i, List.mem_filter.mpr ⟨List.mem_range.mpr h1, decide_eq_true h3⟩, rfl⟩⟩
theorem cnt_snoc (y : Int) : ∀ l : List Int, cnt (l ++ [y]) = cnt l + l.count y
  | [] => by simp [cnt]
  | x :: l => by
    show (l ++ [y]).count x + cnt (l ++ [y]) = (l.count x + cnt l) + (x :: l).count y
    rw [cnt_snoc y l, List.count_append, List.count_cons]
    by_cases h : x = y
    · subst h; simp; omega
    · have h' : ¬ y = x := fun z => h z.symm
      simp [List.count_cons, h, h']; omega
theorem len_prs (A : Nat → Int) : ∀ n : Nat, ((List.range' 1 n).flatMap (prs A)).length = cnt ((List.range (n + 1)).map A)
  | 0 => rfl
  | n + 1 => by
    rw [List.range'_1_concat, List.flatMap_append, List.length_append, len_prs A n, show List.range (n + 1 + 1) = List.range (n + 1) ++ [n + 1] from List.range_succ, List.map_append, List.map_singleton, cnt_snoc]
    congr 1
    rw [List.flatMap_singleton, Nat.add_comm 1 n]
    unfold prs
    rw [List.length_map, List.count_eq_countP, List.countP_map, List.countP_eq_length_filter]
    rfl
theorem min_prs (A : Nat → Int) (n i j : Nat) (h1 : i < j) (h2 : j ≤ n) (h3 : A i = A j) (h4 : Far A j) (h5 : ∀ i', i < i' → i' < j → A i' ≠ A j) : dmin ((0 : Int), (0 : Int)) ((List.range' 1 n).flatMap (prs A)) = ((j : Int), (j : Int) - (i : Int)) := by
  have hin := (mem_prs A n _).mpr ⟨i, j, rfl, h1, h2, h3⟩
  have hle := dmin_le ((0 : Int), (0 : Int)) hin
  obtain ⟨i', j', e, g1, g2, g3⟩ := (mem_prs A n _).mp (dmin_mem ((0 : Int), (0 : Int)) (List.ne_nil_of_mem hin))
  rw [e] at hle ⊢
  rw [dlt_pair] at hle
  have hj : ¬ j' < j := fun z => h4 i' j' g1 z g3
  have ej : j' = j := by
    by_cases z : (j : Int) = (j' : Int)
    · omega
    · simp only at hle
      rw [if_neg z, decide_eq_false_iff_not] at hle
      omega
  subst ej
  simp only at hle
  rw [if_pos trivial, decide_eq_false_iff_not] at hle
  have : ¬ i < i' := fun z => h5 i' z g1 g3
  have : i' = i := by omega
  rw [this]
theorem side_true (row : List Int) (m : Int) (hm : 1 ≤ m) : m_lside row m = true := by
  unfold m_lside
  rw [side_ahead row m hm]
  unfold m_lside_2
  rw [side_pairs]
  have fs := fs_at row m hm
  have hs := sums_ahd row m hm
  have hc := hms_eq row m hm
  have hl := len_prs (ahd row m) row.length
  unfold m_lside_4 m_lside_7
  cases hf : m_first_stretch row m with
  | none =>
    rw [hf] at fs
    have e : (List.range' 1 row.length).flatMap (prs (ahd row m)) = [] := by
      refine List.eq_nil_iff_forall_not_mem.mpr fun p hp => ?_
      obtain ⟨i, j, _, g1, g2, g3⟩ := (mem_prs _ _ _).mp hp
      exact fs i j g1 (by omega) g3
    rw [e] at hl ⊢
    rw [if_neg (by simp), if_neg (by simp [hs]), hc, ← hl]
    simp
  | some p =>
    rw [hf] at fs
    obtain ⟨i, j, rfl, g1, g2, g3, g4, g5⟩ := fs
    have hin := (mem_prs (ahd row m) row.length _).mpr ⟨i, j, rfl, g1, g2, g3⟩
    have ne := List.ne_nil_of_mem hin
    rw [if_pos (by simpa using ne), min_prs _ _ i j g1 g2 g3 g4 g5]
    unfold m_lside_8 m_lside_9 m_lside_10
    rw [min_prs _ _ i j g1 g2 g3 g4 g5, if_neg (by simp [hs, hf]; omega), hc, ← hl]
    simp
/-! all together -/
theorem hits_told (row : List Int) (m : Int) (hm : 1 ≤ m) : ((rng (1 : Int) ((row.length : Int) + (1 : Int))).map (fun (many : Int) => ((((m_lcnt row m)).getD (many).toNat [])).getD ((0 : Int)).toNat (0 : Int))) = told m row := by
  unfold told
  refine List.map_congr_left fun j hj => ?_
  have hj := mem_rng.mp hj
  exact lcnt_at row m hm j.toNat 0 (by omega) ⟨Int.le_refl _, by omega⟩
theorem told_getD (m : Int) (row : List Int) (many : Int) (h : 1 ≤ many ∧ many < (row.length : Int) + 1) : (told m row).getD (many - 1).toNat 0 = cntw m row many.toNat 0 := by
  unfold told
  rw [show rng 1 ((row.length : Int) + 1) = (List.range' 1 row.length).map fun (k : Nat) => (k : Int) from rng_nat 1 (row.length + 1), List.map_map, List.getD_eq_getElem?_getD, List.getElem?_map, List.getElem?_eq_getElem (by rw [List.length_range']; omega)]
  simp only [List.getElem_range', Option.map_some, Option.getD_some, Function.comp]
  congr 1
  omega
def oneOf : Option Int → List Int
  | some x => [x]
  | none => []
theorem few_find (p : Int → Bool) : ∀ xs : List Int, (xs.filter p).take 1 = oneOf (xs.find? p)
  | [] => rfl
  | x :: xs => by
    rw [List.filter_cons, List.find?_cons]
    cases h : p x with
    | true => rfl
    | false => exact few_find p xs
theorem come_right (row : List Int) (m : Int) (hm : 1 ≤ m) (many : Int) (h0 : 0 ≤ many) : (if (decide (many ≤ ((row).length : Int))) = true then some (((rng 0 m).filter (fun (rest_ : Int) => (decide (((((m_lcnt row m)).getD (many).toNat [])).getD (rest_).toNat (0 : Int) > (0 : Int))))).map (fun (rest_ : Int) => rest_)) else some ([] : List Int)) = some (m_come_to row m many) := by
  rw [come_eq row m hm many h0]
  by_cases h : many ≤ (row.length : Int)
  · rw [if_pos (decide_eq_true h), List.map_id']
    congr 1
    unfold restsOf
    refine List.filter_congr fun k hk => ?_
    rw [lcnt_at row m hm many.toNat k (by omega) (mem_rng.mp hk), reach_cnt]
  · rw [if_neg (by rw [decide_eq_true_eq]; exact h)]
    congr 1
    refine (List.eq_nil_iff_forall_not_mem.mpr fun k hk => ?_).symm
    have := (mem_restsOf.mp hk).2
    rw [reach_big m row _ k (by omega)] at this
    cases this
theorem turn8 (s : Scr) (row : List Int) (m : Int) (hm : 1 ≤ m) (k : Int) : m_law_8s s row m (m_lcnt row m) k () = .nxt () ∧ m_law_14s s row m (m_lcnt row m) k () = .nxt () := by
  have a : ∀ x : Int, m_hit_of row m (1 + x % ((row.length : Int) + 2)) = m_lfst row m (1 + x % ((row.length : Int) + 2)) := fun x => by
    have := many_a row.length x
    rw [hit_eq m hm row _ this, lfst_eq m hm row _ (by omega)]
  have b : ∀ many : Int, 0 ≤ many → m_law_12 row m (m_lcnt row m) many = .nxt () := fun many h0 => by
    have c := come_right row m hm many h0
    unfold m_law_12 m_law_13
    by_cases h : (decide (many ≤ (row.length : Int))) = true
    · rw [if_pos h] at c ⊢
      rw [c]
      simp
    · rw [if_neg h] at c ⊢
      rw [← c]
      simp
  refine ⟨?_, ?_⟩
  · unfold m_law_8s m_law_10 m_law_11
    rw [a, if_neg (by simp)]
    exact b _ (many_b _ _)
  · unfold m_law_14s m_law_16 m_law_17
    rw [a, if_neg (by simp)]
    exact b _ (many_b _ _)
theorem law_true (s : Scr) (h : s.ns.length ≤ 63) : m_law s = true := by
  obtain ⟨hr, hm, _⟩ := post_lrow s 40 25 ⟨rfl, rfl⟩
  unfold m_law m_law_1 m_law_2 m_law_3
  generalize hp : m_lrow s 40 25 = z at hr hm ⊢
  obtain ⟨row, m⟩ := z
  dsimp only at hr hm ⊢
  rw [hits_told row m hm]
  unfold m_law_4
  have e1 := hbp_eq row m hm
  have e2 : m_how_many_hits row m = (told m row).sum := by unfold m_how_many_hits; rw [e1]
  rw [if_neg (by simp [e1, e2]), if_neg (by simp [side_true row m hm]; rfl)]
  have ef : (cut (((rng (1 : Int) ((row.length : Int) + (1 : Int))).filter (fun (many : Int) => (decide ((told m row).getD ((many - (1 : Int))).toNat (0 : Int) > (0 : Int))))).map (fun (many : Int) => many)) none (some (1 : Int))) = oneOf ((rng 1 ((row.length : Int) + 1)).find? (fun many => reach m row many.toNat 0)) := by
    rw [cut_take _ (by decide), List.map_id', ← few_find]
    congr 1
    refine List.filter_congr fun k hk => ?_
    rw [told_getD m row k (mem_rng.mp hk), reach_cnt]
  rw [ef]
  have fe := few_eq m hm row
  unfold fewH at fe
  have t8 : (lrun (m_law_8s s row m (m_lcnt row m)) (rng 0 (3 : Int)) ()).out (m_law_9 s row m) = decide ((row, m) = m_lrow s 40 25) := by
    rw [lrun_unit fun k _ => (turn8 s row m hm k).1]
    rfl
  have t14 : (lrun (m_law_14s s row m (m_lcnt row m)) (rng 0 (3 : Int)) ()).out (m_law_15 s row m) = decide ((row, m) = m_lrow s 40 25) := by
    rw [lrun_unit fun k _ => (turn8 s row m hm k).2]
    rfl
  unfold m_law_5 m_law_6
  cases hf : (rng 1 ((row.length : Int) + 1)).find? (fun many => reach m row many.toNat 0) with
  | none =>
    rw [hf] at fe
    have fe : m_fewest_hit row m = none := fe
    rw [if_neg (by simp [oneOf]), if_neg (by simp [fe]), if_neg (by simp), t14]
    exact decide_eq_true hp.symm
  | some k =>
    rw [hf] at fe
    have fe : m_fewest_hit row m = some (gr m row k.toNat 0) := fe
    have hk := mem_rng.mp (List.mem_of_find?_eq_some hf)
    have hr : reach m row k.toNat 0 = true := List.find?_some (p := fun many : Int => reach m row many.toNat 0) hf
    have e3 : m_lfst row m ((oneOf (some k)).getD (0 : Int).toNat 0) = some (gr m row k.toNat 0) := by
      show m_lfst row m k = _
      rw [lfst_eq m hm row k (by omega)]
      unfold firstH
      rw [if_pos hr]
    rw [if_pos (by simp [oneOf]), e3]
    unfold m_law_7
    rw [if_neg (by simp [fe]), if_neg (by
      have := gr_hit m hm row k.toNat (by omega) hr
      simp [this]), t8]
    exact decide_eq_true hp.symm


local macro_rules | `(tactic| walk_at "sc") => `(tactic| first | omega | assumption | decide | (split <;> omega) | (simp only [mem_rng, List.length_cons, List.length_nil] at *; omega) | (simp at *; omega) | (have hz := enum_mem (by assumption); omega) | fail)
local macro_rules | `(tactic| walk_at "ix") => `(tactic| first | omega | (simp only [List.length_cons, List.length_nil, List.length_append, List.length_set]; omega) | (simp only [mem_rng, rng_len, List.length_map, List.length_set] at *; omega) | (have hz := enum_mem (by assumption); omega) | fail)
local macro_rules | `(tactic| walk_at "ixn") => `(tactic| first | exact ixN_neg' (by omega) (by omega) | exact ixN_neg' (by omega) (by simp only [List.length_cons, List.length_nil, List.length_append]; omega) | fail)
local macro_rules | `(tactic| walk_at "pre") => `(tactic| first | exact trivial | assumption | omega | decide | (simp only [mem_rng] at *; omega) | (refine ⟨?_, ?_⟩ <;> walk_at "sc") | (refine ⟨?_, ?_, ?_⟩ <;> walk_at "sc") | (refine ⟨?_, ?_, ?_, ?_⟩ <;> walk_at "sc") | (refine ⟨?_, ?_, ?_, ?_, ?_⟩ <;> walk_at "sc") | (have hz := enum_mem (by assumption); omega) | fail)
local macro_rules | `(tactic| walk_at "mu") => `(tactic| first | exact .inr ⟨by omega, by omega⟩ | exact .inl ⟨by omega, by omega⟩ | exact .inr ⟨by walk_at "sc", by walk_at "sc"⟩ | exact .inl ⟨by walk_at "sc", by walk_at "sc"⟩ | fail)
local macro_rules | `(tactic| walk_at "pw") => `(tactic| exact ⟨by first | decide | omega, by first | decide | omega, by first | decide | omega⟩)
local macro_rules | `(tactic| walk_at "sz") => `(tactic| first | (rw [sizeLine_eq]; omega) | (simp only [List.length_append, List.length_cons, List.length_nil, rng_len, List.length_map, psort_len, isort_len, rep_len, rep_len2] at *; rw [sizeLine_eq]; omega) | fail)
local macro_rules | `(tactic| walk_at "inv0") => `(tactic| first | omega | (simp; done) | (simp only [List.length_cons, List.length_nil, List.length_append, Nat.zero_add, rng_len, enum_len]; omega) | fail)
local macro_rules | `(tactic| walk_at "inv") => `(tactic| first | omega | (simp only [List.length_cons, List.length_nil, List.length_append] at this ⊢; omega) | fail)
local macro_rules | `(tactic| walk_at "invx") => `(tactic| fail)
local macro_rules | `(tactic| walk_at "hok") => `(tactic| first | exact Box.hok (by assumption) | exact trivial | fail)
local macro_rules | `(tactic| walk_at "szd") => `(tactic| fail)
local macro_rules | `(tactic| walk_at "ne") => `(tactic| first | omega | (refine List.length_pos_iff.mpr ?_; assumption) | fail)
local macro_rules | `(tactic| walk_at "d64") => `(tactic| fail)
local macro_rules | `(tactic| walk_at "J") => `(tactic| fail)
local macro_rules | `(tactic| walk_at "ib") => `(tactic| first | decide | (subst_vars; decide) | (subst_vars; decide +kernel) | fail)
local macro_rules | `(tactic| walk_at "rg") => `(tactic| first | exact ⟨by omega, by omega, by omega, by omega, by omega⟩ | exact ⟨by walk_at "sc", by walk_at "sc", by walk_at "sc", by walk_at "sc", by walk_at "sc"⟩ | fail)
local macro_rules | `(tactic| walk_at "nn") => `(tactic| first | assumption | (simp_all; done) | fail)
local macro_rules | `(tactic| walk_at "dk") => `(tactic| first | assumption | (simp_all; done) | fail)
local macro_rules | `(tactic| walk_at "no") => `(tactic| first | omega | contradiction | (simp_all; done) | fail)
local macro_rules | `(tactic| walk_at "ix") => `(tactic| first | omega | (split <;> decide) | fail)
def topS (i : Nat) : Stmt := PySem.Challenge.pw_restsums_k42_whole_hits_counted.main.body.getD i (.Pass ⟨0, 0, 0, 0⟩)
abbrev s_need_modulus : Stmt := topS 5
abbrev s_are_places : Stmt := topS 6
abbrev s_rests : Stmt := topS 7
abbrev s_is_hit : Stmt := topS 8
abbrev s_need_count : Stmt := topS 10
abbrev s_ways_on : Stmt := topS 11
abbrev s_first_of : Stmt := topS 12
abbrev s_fewest_hit : Stmt := topS 13
abbrev s_hits_by_places : Stmt := topS 14
abbrev s_how_many_hits : Stmt := topS 15
abbrev s_hit_of : Stmt := topS 16
abbrev s_come_to : Stmt := topS 17
abbrev s_sums_ahead : Stmt := topS 19
abbrev s_first_stretch : Stmt := topS 20
abbrev s_how_many_stretches : Stmt := topS 21
abbrev s__law_cell_at : Stmt := topS 23
abbrev s__law_numbers : Stmt := topS 24
abbrev s__law_row : Stmt := topS 25
abbrev s__law_counted : Stmt := topS 26
abbrev s__law_first : Stmt := topS 27
abbrev s__law_side : Stmt := topS 28
abbrev s_law : Stmt := topS 29
theorem nm_ahead : Nm "ahead" := ⟨by decide +kernel, by decide +kernel, by decide +kernel⟩
theorem nm_alike : Nm "alike" := ⟨by decide +kernel, by decide +kernel, by decide +kernel⟩
theorem nm_behind : Nm "behind" := ⟨by decide +kernel, by decide +kernel, by decide +kernel⟩
theorem nm_beyond : Nm "beyond" := ⟨by decide +kernel, by decide +kernel, by decide +kernel⟩
theorem nm_both : Nm "both" := ⟨by decide +kernel, by decide +kernel, by decide +kernel⟩
theorem nm_cell : Nm "cell" := ⟨by decide +kernel, by decide +kernel, by decide +kernel⟩
theorem nm_count : Nm "count" := ⟨by decide +kernel, by decide +kernel, by decide +kernel⟩
theorem nm_due : Nm "due" := ⟨by decide +kernel, by decide +kernel, by decide +kernel⟩
theorem nm_far : Nm "far" := ⟨by decide +kernel, by decide +kernel, by decide +kernel⟩
theorem nm_fewest : Nm "fewest" := ⟨by decide +kernel, by decide +kernel, by decide +kernel⟩
theorem nm_first : Nm "first" := ⟨by decide +kernel, by decide +kernel, by decide +kernel⟩
theorem nm_found : Nm "found" := ⟨by decide +kernel, by decide +kernel, by decide +kernel⟩
theorem nm_greatest : Nm "greatest" := ⟨by decide +kernel, by decide +kernel, by decide +kernel⟩
theorem nm_head : Nm "head" := ⟨by decide +kernel, by decide +kernel, by decide +kernel⟩
theorem nm_here : Nm "here" := ⟨by decide +kernel, by decide +kernel, by decide +kernel⟩
theorem nm_hits : Nm "hits" := ⟨by decide +kernel, by decide +kernel, by decide +kernel⟩
theorem nm_j : Nm "j" := ⟨by decide +kernel, by decide +kernel, by decide +kernel⟩
theorem nm_k : Nm "k" := ⟨by decide +kernel, by decide +kernel, by decide +kernel⟩
theorem nm_last : Nm "last" := ⟨by decide +kernel, by decide +kernel, by decide +kernel⟩
theorem nm_least : Nm "least" := ⟨by decide +kernel, by decide +kernel, by decide +kernel⟩
theorem nm_left : Nm "left" := ⟨by decide +kernel, by decide +kernel, by decide +kernel⟩
theorem nm_many : Nm "many" := ⟨by decide +kernel, by decide +kernel, by decide +kernel⟩
theorem nm_modulus : Nm "modulus" := ⟨by decide +kernel, by decide +kernel, by decide +kernel⟩
theorem nm_more : Nm "more" := ⟨by decide +kernel, by decide +kernel, by decide +kernel⟩
theorem nm_most : Nm "most" := ⟨by decide +kernel, by decide +kernel, by decide +kernel⟩
theorem nm_number : Nm "number" := ⟨by decide +kernel, by decide +kernel, by decide +kernel⟩
theorem nm_numbers : Nm "numbers" := ⟨by decide +kernel, by decide +kernel, by decide +kernel⟩
theorem nm_often : Nm "often" := ⟨by decide +kernel, by decide +kernel, by decide +kernel⟩
theorem nm_one : Nm "one" := ⟨by decide +kernel, by decide +kernel, by decide +kernel⟩
theorem nm_pairs : Nm "pairs" := ⟨by decide +kernel, by decide +kernel, by decide +kernel⟩
theorem nm_place : Nm "place" := ⟨by decide +kernel, by decide +kernel, by decide +kernel⟩
theorem nm_places : Nm "places" := ⟨by decide +kernel, by decide +kernel, by decide +kernel⟩
theorem nm_rest_ : Nm "rest" := ⟨by decide +kernel, by decide +kernel, by decide +kernel⟩
theorem nm_row : Nm "row" := ⟨by decide +kernel, by decide +kernel, by decide +kernel⟩
theorem nm_script : Nm "script" := ⟨by decide +kernel, by decide +kernel, by decide +kernel⟩
theorem nm_some_ : Nm "some" := ⟨by decide +kernel, by decide +kernel, by decide +kernel⟩
theorem nm_sum_behind : Nm "sum_behind" := ⟨by decide +kernel, by decide +kernel, by decide +kernel⟩
theorem nm_table : Nm "table" := ⟨by decide +kernel, by decide +kernel, by decide +kernel⟩
theorem nm_tails : Nm "tails" := ⟨by decide +kernel, by decide +kernel, by decide +kernel⟩
theorem nm_wanted : Nm "wanted" := ⟨by decide +kernel, by decide +kernel, by decide +kernel⟩
theorem nm_ways : Nm "ways" := ⟨by decide +kernel, by decide +kernel, by decide +kernel⟩
structure Txt (K : PySem.W.Frag) (mg : Str → Option Value) : Prop where
  b_abs : mg "abs" = none
  b_dict : mg "dict" = none
  b_enumerate : mg "enumerate" = none
  b_len : mg "len" = none
  b_list : mg "list" = none
  b_max : mg "max" = none
  b_min : mg "min" = none
  b_range : mg "range" = none
  b_reversed : mg "reversed" = none
  b_sorted : mg "sorted" = none
  b_sum : mg "sum" = none
abbrev N_need_modulus : List Str := ["modulus"]
theorem sc_need_modulus : FnScope N_need_modulus ["modulus"] (defScope s_need_modulus) := ⟨rfl, rfl, rfl, by decide +kernel, rfl, by decide +kernel, by decide +kernel⟩
theorem sl_need_modulus_modulus {P : Program} {w : World} {K : PySem.W.Frag} {mg : Str → Option Value} {base : Heap} {f : Addr} {cdv : Value} {A : Around} {outer : List Env} {s : Shared} {H : Hp} {E : XK} : Sl (cxOf (L2.CX P w) P w K mg base N_need_modulus "need_modulus" (defScope s_need_modulus) f cdv A outer s H E) 0 "modulus" := ⟨rfl, (by first | exact .inl rfl | exact .inr (.inl rfl)), nm_modulus⟩
theorem cal_need_modulus {P : Program} {w : World} {K : PySem.W.Frag} {mg : Str → Option Value} {base : Heap} {f : Addr} {fd : FuncData} (T : Txt K mg) (F : Fun K "need_modulus" "need_modulus" s_need_modulus f fd) (hm : mg "need_modulus" = some (.ref f)) (hb : Binds K fd ["modulus"] [])  : Cal P w K mg base 1 "need_modulus" (Sp1 K false (fun (modulus : Int) => 1 ≤ modulus) m_need_modulus) := by
  refine fn1 F hm hb sc_need_modulus rfl fun cdv A outer s H0 E hr G0 v_modulus modulus D s0 r_modulus hp fin => ?_
  have x0_0 : Ext G0 H0 G0 H0 := Ext.refl s0
  show tSs _ _ D [some v_modulus] H0
  have tk : m_need_modulus modulus = _ := rfl
  refine b_cons (s_if x0_0.s (et_cmp c_lt (ev_v (sl_need_modulus_modulus) r_modulus) ev_int) (fun h1 G1 H1 x2 l1 => ?_) (fun h1 G1 H1 x2 l1 => ?_))
  · have tk := tk_tt tk h1
    have h1_ := h1; try simp only [Bool.and_eq_true, Bool.or_eq_true, Bool.and_eq_false_iff, Bool.or_eq_false_iff, Bool.not_eq_true', Bool.not_eq_false', decide_eq_true_eq, decide_eq_false_iff_not, Classical.not_not] at h1_
    have x0_1 := x0_0.trans x2
    show tSs _ _ _ [some v_modulus] _
    exfalso
    walk_at "no"
  · have tk := tk_ff tk h1
    have h1_ := h1; try simp only [Bool.and_eq_true, Bool.or_eq_true, Bool.and_eq_false_iff, Bool.or_eq_false_iff, Bool.not_eq_true', Bool.not_eq_false', decide_eq_true_eq, decide_eq_false_iff_not, Classical.not_not] at h1_
    have x0_1 := x0_0.trans x2
    show tSs _ _ _ [some v_modulus] _
    refine b_nil ?_
    show tSs _ _ _ [some v_modulus] _
    refine b_nil ?_
    exact fin.nx _ _ _ x0_1 (rep_of tk rfl)

abbrev N_are_places : List Str := ["row", "places", "last", "place"]
theorem sc_are_places : FnScope N_are_places ["row", "places"] (defScope s_are_places) := ⟨rfl, rfl, rfl, by decide +kernel, rfl, by decide +kernel, by decide +kernel⟩
theorem sl_are_places_last {P : Program} {w : World} {K : PySem.W.Frag} {mg : Str → Option Value} {base : Heap} {f : Addr} {cdv : Value} {A : Around} {outer : List Env} {s : Shared} {H : Hp} {E : XK} : Sl (cxOf (L2.CX P w) P w K mg base N_are_places "are_places" (defScope s_are_places) f cdv A outer s H E) 2 "last" := ⟨rfl, (by first | exact .inl rfl | exact .inr (.inl rfl)), nm_last⟩
theorem sl_are_places_place {P : Program} {w : World} {K : PySem.W.Frag} {mg : Str → Option Value} {base : Heap} {f : Addr} {cdv : Value} {A : Around} {outer : List Env} {s : Shared} {H : Hp} {E : XK} : Sl (cxOf (L2.CX P w) P w K mg base N_are_places "are_places" (defScope s_are_places) f cdv A outer s H E) 3 "place" := ⟨rfl, (by first | exact .inl rfl | exact .inr (.inl rfl)), nm_place⟩
theorem sl_are_places_places {P : Program} {w : World} {K : PySem.W.Frag} {mg : Str → Option Value} {base : Heap} {f : Addr} {cdv : Value} {A : Around} {outer : List Env} {s : Shared} {H : Hp} {E : XK} : Sl (cxOf (L2.CX P w) P w K mg base N_are_places "are_places" (defScope s_are_places) f cdv A outer s H E) 1 "places" := ⟨rfl, (by first | exact .inl rfl | exact .inr (.inl rfl)), nm_places⟩
theorem sl_are_places_row {P : Program} {w : World} {K : PySem.W.Frag} {mg : Str → Option Value} {base : Heap} {f : Addr} {cdv : Value} {A : Around} {outer : List Env} {s : Shared} {H : Hp} {E : XK} : Sl (cxOf (L2.CX P w) P w K mg base N_are_places "are_places" (defScope s_are_places) f cdv A outer s H E) 0 "row" := ⟨rfl, (by first | exact .inl rfl | exact .inr (.inl rfl)), nm_row⟩
theorem ss_are_places_last {P : Program} {w : World} {K : PySem.W.Frag} {mg : Str → Option Value} {base : Heap} {f : Addr} {cdv : Value} {A : Around} {outer : List Env} {s : Shared} {H : Hp} {E : XK} : Ss (cxOf (L2.CX P w) P w K mg base N_are_places "are_places" (defScope s_are_places) f cdv A outer s H E) 2 "last" := ⟨rfl, (by first | exact .inl rfl | exact .inr rfl), .inl rfl⟩
theorem ss_are_places_place {P : Program} {w : World} {K : PySem.W.Frag} {mg : Str → Option Value} {base : Heap} {f : Addr} {cdv : Value} {A : Around} {outer : List Env} {s : Shared} {H : Hp} {E : XK} : Ss (cxOf (L2.CX P w) P w K mg base N_are_places "are_places" (defScope s_are_places) f cdv A outer s H E) 3 "place" := ⟨rfl, (by first | exact .inl rfl | exact .inr rfl), .inl rfl⟩
theorem gl_are_places_len {P : Program} {w : World} {K : PySem.W.Frag} {mg : Str → Option Value} {base : Heap} {f : Addr} {cdv : Value} {A : Around} {outer : List Env} {s : Shared} {H : Hp} {E : XK} : Gl (cxOf (L2.CX P w) P w K mg base N_are_places "are_places" (defScope s_are_places) f cdv A outer s H E) "len" := by rfl
section
local macro_rules | `(tactic| walk_at "ix") => `(tactic| first | exact all_lt (by assumption) (by assumption) | fail)
local macro_rules | `(tactic| walk_at "sc") => `(tactic| first | exact all_ge (by assumption) (by assumption) | fail)
theorem cal_are_places {P : Program} {w : World} {K : PySem.W.Frag} {mg : Str → Option Value} {base : Heap} {f : Addr} {fd : FuncData} (T : Txt K mg) (F : Fun K "are_places" "are_places" s_are_places f fd) (hm : mg "are_places" = some (.ref f)) (hb : Binds K fd ["row", "places"] [])  : Cal P w K mg base 1 "are_places" (Sp2 K false (fun (row : (List Int)) (places : (List Int)) => True) m_are_places) := by
  refine fn2 F hm hb sc_are_places rfl fun cdv A outer s H0 E hr G0 v_row v_places row places D s0 r_row r_places hp fin => ?_
  have x0_0 : Ext G0 H0 G0 H0 := Ext.refl s0
  show tSs _ _ D [some v_row, some v_places, none, none] H0
  have tk : m_are_places row places = _ := rfl
  refine b_cons (s_set sc_are_places.nd ss_are_places_last x0_0.s (Ev.to (y := (-1 : Int)) (ev_neg ev_int) (by decide)) fun G1 H1 v1_last x1 l1 r1_last => ?_)
  have x0_1 := x0_0.trans x1
  show tSs _ _ _ [some v_row, some v_places, some v1_last, none] _
  refine b_cons (s_for (T := (T1 K 3)) (passes_of rfl) rfl (pg_name (i := 3) sc_are_places.nd rfl ss_are_places_place.hx) acts1 x0_1.s (ei_list (ev_v (sl_are_places_places) (up x1.g r_places))) (fun rest σ G H => ∃ (last : Int), lrun (m_are_places_1s row) rest last = lrun (m_are_places_1s row) places (-1 : Int) ∧ Ext G0 H0 G H ∧ ∃ (u1_last : V) (y1_3 : Option V), σ = [some v_row, some v_places, some u1_last, y1_3] ∧ rep K G u1_last last) (fun _ _ x => ⟨(-1 : Int), rfl, x0_1.trans x, v1_last, none, rfl, up x.g r1_last⟩) ?_ ?_)
  · intro place rest σ1 G2 H2 G3 H3 σ2 hx1 sgA3 sh1 I_ x2 l3 hT
    obtain ⟨last, es1, x0_2, u1_last, y1_3, rfl, ru1_last⟩ := I_
    have x0_3 := x0_2.trans x2
    obtain ⟨t1, rt1, rfl⟩ := hT
    have mem1 := mem_of hx1.1
    have hlx1 := hx1.2; rw [sizeLine_eq] at hlx1
    have hlr1 := mem_len hx1.1
    have tk1 := tk
    have tk : m_are_places_1s row place last = _ := rfl
    show tSs _ _ _ [some v_row, some v_places, some u1_last, some t1] _
    refine b_cons (s_if x0_3.s (et_not (et_chain c_lt c_lt (ev_v (sl_are_places_last) (up x2.g ru1_last)) (ev_v (sl_are_places_place) rt1) fun c3 => (ev_len ⟨gl_are_places_len, T.b_len⟩ (ev_v (sl_are_places_row) (up (x1.g.trans (sgA3.trans x2.g)) r_row))))) (fun h4 G4 H4 x5 l4 => ?_) (fun h4 G4 H4 x5 l4 => ?_))
    · have tk := tk_tt tk h4
      have h4_ := h4; try simp only [Bool.and_eq_true, Bool.or_eq_true, Bool.and_eq_false_iff, Bool.or_eq_false_iff, Bool.not_eq_true', Bool.not_eq_false', decide_eq_true_eq, decide_eq_false_iff_not, Classical.not_not] at h4_
      have x0_4 := x0_3.trans x5
      show tSs _ _ _ [some v_row, some v_places, some u1_last, some t1] _
      refine b_cons (s_ret x0_4.s ev_bl fun G_ H_ v7 x6 _ r_ => ?_)
      exact fin.rt _ _ _ (x0_4.trans x6) (rep_of (tk_outR tk1 (lrun_ret es1 tk)) r_) (fun z => nomatch z)
    · have tk := tk_ff tk h4
      have h4_ := h4; try simp only [Bool.and_eq_true, Bool.or_eq_true, Bool.and_eq_false_iff, Bool.or_eq_false_iff, Bool.not_eq_true', Bool.not_eq_false', decide_eq_true_eq, decide_eq_false_iff_not, Classical.not_not] at h4_
      have x0_4 := x0_3.trans x5
      show tSs _ _ _ [some v_row, some v_places, some u1_last, some t1] _
      refine b_nil ?_
      show tSs _ _ _ [some v_row, some v_places, some u1_last, some t1] _
      refine b_cons (s_set sc_are_places.nd ss_are_places_last x0_4.s (ev_v (sl_are_places_place) (up x5.g rt1)) fun G5 H5 v5_last x8 l5 r5_last => ?_)
      have x0_5 := x0_4.trans x8
      show tSs _ _ _ [some v_row, some v_places, some v5_last, some t1] _
      refine b_nil ?_
      exact ⟨_, x5.g.trans x8.g, x0_5.s, place, lrun_nxt es1 tk, x0_5, v5_last, some t1, rfl, r5_last⟩
  · intro σ1 G6 H6 sgC6 sh1 I_
    obtain ⟨last, es1, x0_6, u1_last, y1_3, rfl, ru1_last⟩ := I_
    have tk := tk_outN (k := m_are_places_2) tk es1
    show tSs _ _ _ [some v_row, some v_places, some u1_last, y1_3] _
    refine b_cons (s_ret x0_6.s ev_bl fun G_ H_ v10 x9 _ r_ => ?_)
    exact fin.rt _ _ _ (x0_6.trans x9) (rep_of tk r_) (fun z => nomatch z)
end

abbrev N_rests : List Str := ["row", "modulus", "number"]
theorem sc_rests : FnScope N_rests ["row", "modulus"] (defScope s_rests) := ⟨rfl, rfl, rfl, by decide +kernel, rfl, by decide +kernel, by decide +kernel⟩
theorem sl_rests_modulus {P : Program} {w : World} {K : PySem.W.Frag} {mg : Str → Option Value} {base : Heap} {f : Addr} {cdv : Value} {A : Around} {outer : List Env} {s : Shared} {H : Hp} {E : XK} : Sl (cxOf (L2.CX P w) P w K mg base N_rests "rests" (defScope s_rests) f cdv A outer s H E) 1 "modulus" := ⟨rfl, (by first | exact .inl rfl | exact .inr (.inl rfl)), nm_modulus⟩
theorem sl_rests_row {P : Program} {w : World} {K : PySem.W.Frag} {mg : Str → Option Value} {base : Heap} {f : Addr} {cdv : Value} {A : Around} {outer : List Env} {s : Shared} {H : Hp} {E : XK} : Sl (cxOf (L2.CX P w) P w K mg base N_rests "rests" (defScope s_rests) f cdv A outer s H E) 0 "row" := ⟨rfl, (by first | exact .inl rfl | exact .inr (.inl rfl)), nm_row⟩
theorem gl_rests_need_modulus {P : Program} {w : World} {K : PySem.W.Frag} {mg : Str → Option Value} {base : Heap} {f : Addr} {cdv : Value} {A : Around} {outer : List Env} {s : Shared} {H : Hp} {E : XK} : Gl (cxOf (L2.CX P w) P w K mg base N_rests "rests" (defScope s_rests) f cdv A outer s H E) "need_modulus" := by rfl
theorem cal_rests {P : Program} {w : World} {K : PySem.W.Frag} {mg : Str → Option Value} {base : Heap} {f : Addr} {fd : FuncData} (T : Txt K mg) (F : Fun K "rests" "rests" s_rests f fd) (hm : mg "rests" = some (.ref f)) (hb : Binds K fd ["row", "modulus"] []) (C_need_modulus : Cal P w K mg base 1 "need_modulus" (Sp1 K false (fun (modulus : Int) => 1 ≤ modulus) m_need_modulus)) : Cal P w K mg base 2 "rests" (Sp2 K true (fun (row : (List Int)) (modulus : Int) => 1 ≤ modulus) m_rests) := by
  refine fn2 F hm hb sc_rests rfl fun cdv A outer s H0 E hr G0 v_row v_modulus row modulus D s0 r_row r_modulus hp fin => ?_
  have x0_0 : Ext G0 H0 G0 H0 := Ext.refl s0
  show tSs _ _ D [some v_row, some v_modulus, none] H0
  have tk : m_rests row modulus = _ := rfl
  refine b_cons (s_expr x0_0.s (ev_c1 C_need_modulus (hr.mono (by decide)) gl_rests_need_modulus (ev_v (sl_rests_modulus) r_modulus) (by walk_at "pre")) fun G1 H1 v2 x1 l1 _ => ?_)
  have x0_1 := x0_0.trans x1
  show tSs _ _ _ [some v_row, some v_modulus, none] _
  refine b_cons (s_retN_ x0_1.s (evN_lc (lc1A (fun (number : Int) => (number % modulus)) rfl sc_rests.nd (ei_list (ev_v (sl_rests_row) (up x1.g r_row))) [("number", 2)] (blkOk_by (N := N_rests) (sc := defScope s_rests) (by decide +kernel)) (fun _ _ _ _ _ => pg_name (i := 2) sc_rests.nd rfl (.inl rfl)) (fun number v14 G4 H5 hx6 x3 r15 s8 s9 s10 s11 s12 => (ev_bin (b_mod (by walk_at "sc")) (ev_v ((⟨rfl, .inl rfl, nm_number⟩ : Sl _ 2 _)) r15) (ev_v ((⟨rfl, (by first | exact .inr (.inl rfl) | exact .inr (.inr rfl) | exact .inl rfl), nm_modulus⟩ : Sl _ 1 _)) (up (x1.g.trans x3.g) r_modulus)))))) fun G_ H_ v17 x16 _ r_ n_ => ?_)
  exact fin.rt _ _ _ (x0_1.trans x16) (rep_of tk r_) (fun _ p z => x0_1.h.free (n_ p z))

abbrev N_is_hit : List Str := ["row", "modulus", "places", "place"]
theorem sc_is_hit : FnScope N_is_hit ["row", "modulus", "places"] (defScope s_is_hit) := ⟨rfl, rfl, rfl, by decide +kernel, rfl, by decide +kernel, by decide +kernel⟩
theorem sl_is_hit_modulus {P : Program} {w : World} {K : PySem.W.Frag} {mg : Str → Option Value} {base : Heap} {f : Addr} {cdv : Value} {A : Around} {outer : List Env} {s : Shared} {H : Hp} {E : XK} : Sl (cxOf (L2.CX P w) P w K mg base N_is_hit "is_hit" (defScope s_is_hit) f cdv A outer s H E) 1 "modulus" := ⟨rfl, (by first | exact .inl rfl | exact .inr (.inl rfl)), nm_modulus⟩
theorem sl_is_hit_places {P : Program} {w : World} {K : PySem.W.Frag} {mg : Str → Option Value} {base : Heap} {f : Addr} {cdv : Value} {A : Around} {outer : List Env} {s : Shared} {H : Hp} {E : XK} : Sl (cxOf (L2.CX P w) P w K mg base N_is_hit "is_hit" (defScope s_is_hit) f cdv A outer s H E) 2 "places" := ⟨rfl, (by first | exact .inl rfl | exact .inr (.inl rfl)), nm_places⟩
theorem sl_is_hit_row {P : Program} {w : World} {K : PySem.W.Frag} {mg : Str → Option Value} {base : Heap} {f : Addr} {cdv : Value} {A : Around} {outer : List Env} {s : Shared} {H : Hp} {E : XK} : Sl (cxOf (L2.CX P w) P w K mg base N_is_hit "is_hit" (defScope s_is_hit) f cdv A outer s H E) 0 "row" := ⟨rfl, (by first | exact .inl rfl | exact .inr (.inl rfl)), nm_row⟩
theorem gl_is_hit_are_places {P : Program} {w : World} {K : PySem.W.Frag} {mg : Str → Option Value} {base : Heap} {f : Addr} {cdv : Value} {A : Around} {outer : List Env} {s : Shared} {H : Hp} {E : XK} : Gl (cxOf (L2.CX P w) P w K mg base N_is_hit "is_hit" (defScope s_is_hit) f cdv A outer s H E) "are_places" := by rfl
theorem gl_is_hit_need_modulus {P : Program} {w : World} {K : PySem.W.Frag} {mg : Str → Option Value} {base : Heap} {f : Addr} {cdv : Value} {A : Around} {outer : List Env} {s : Shared} {H : Hp} {E : XK} : Gl (cxOf (L2.CX P w) P w K mg base N_is_hit "is_hit" (defScope s_is_hit) f cdv A outer s H E) "need_modulus" := by rfl
theorem gl_is_hit_sum {P : Program} {w : World} {K : PySem.W.Frag} {mg : Str → Option Value} {base : Heap} {f : Addr} {cdv : Value} {A : Around} {outer : List Env} {s : Shared} {H : Hp} {E : XK} : Gl (cxOf (L2.CX P w) P w K mg base N_is_hit "is_hit" (defScope s_is_hit) f cdv A outer s H E) "sum" := by rfl
section
local macro_rules | `(tactic| walk_at "ix") => `(tactic| first | exact all_lt (by assumption) (are_all (And.right (by assumption))) | fail)
local macro_rules | `(tactic| walk_at "sc") => `(tactic| first | exact all_ge (by assumption) (are_all (And.right (by assumption))) | fail)
local macro_rules | `(tactic| walk_at "ix") => `(tactic| first | exact all_lt (by assumption) (by assumption) | fail)
local macro_rules | `(tactic| walk_at "sc") => `(tactic| first | exact all_ge (by assumption) (by assumption) | fail)
theorem cal_is_hit {P : Program} {w : World} {K : PySem.W.Frag} {mg : Str → Option Value} {base : Heap} {f : Addr} {fd : FuncData} (T : Txt K mg) (F : Fun K "is_hit" "is_hit" s_is_hit f fd) (hm : mg "is_hit" = some (.ref f)) (hb : Binds K fd ["row", "modulus", "places"] []) (C_need_modulus : Cal P w K mg base 1 "need_modulus" (Sp1 K false (fun (modulus : Int) => 1 ≤ modulus) m_need_modulus)) (C_are_places : Cal P w K mg base 1 "are_places" (Sp2 K false (fun (row : (List Int)) (places : (List Int)) => True) m_are_places)) : Cal P w K mg base 2 "is_hit" (Sp3 K false (fun (row : (List Int)) (modulus : Int) (places : (List Int)) => 1 ≤ modulus) m_is_hit) := by
  refine fn3 F hm hb sc_is_hit rfl fun cdv A outer s H0 E hr G0 v_row v_modulus v_places row modulus places D s0 r_row r_modulus r_places hp fin => ?_
  have x0_0 : Ext G0 H0 G0 H0 := Ext.refl s0
  show tSs _ _ D [some v_row, some v_modulus, some v_places, none] H0
  have tk : m_is_hit row modulus places = _ := rfl
  refine b_cons (s_expr x0_0.s (ev_c1 C_need_modulus (hr.mono (by decide)) gl_is_hit_need_modulus (ev_v (sl_is_hit_modulus) r_modulus) (by walk_at "pre")) fun G1 H1 v2 x1 l1 _ => ?_)
  have x0_1 := x0_0.trans x1
  show tSs _ _ _ [some v_row, some v_modulus, some v_places, none] _
  refine b_cons (s_if x0_1.s (et_w (ew_or (et_cmp (c_eqD (hu_of64 hr)) (ev_v (sl_is_hit_places) (up x1.g r_places)) (ev_list (es_nil (α := Int)))) fun c3 => (ew_or1 (et_not (et_val (ev_c2 C_are_places (hr.mono (by decide)) gl_is_hit_are_places (ev_v (sl_is_hit_row) (up x1.g r_row)) (ev_v (sl_is_hit_places) (up x1.g r_places)) (by walk_at "pre"))))))) (fun h4 G2 H2 x5 l2 => ?_) (fun h4 G2 H2 x5 l2 => ?_))
  · have tk := tk_tt tk h4
    have h4_ := h4; try simp only [Bool.and_eq_true, Bool.or_eq_true, Bool.and_eq_false_iff, Bool.or_eq_false_iff, Bool.not_eq_true', Bool.not_eq_false', decide_eq_true_eq, decide_eq_false_iff_not, Classical.not_not] at h4_
    have x0_2 := x0_1.trans x5
    show tSs _ _ _ [some v_row, some v_modulus, some v_places, none] _
    refine b_cons (s_ret x0_2.s ev_bl fun G_ H_ v7 x6 _ r_ => ?_)
    exact fin.rt _ _ _ (x0_2.trans x6) (rep_of tk r_) (fun z => nomatch z)
  · have tk := tk_ff tk h4
    have h4_ := h4; try simp only [Bool.and_eq_true, Bool.or_eq_true, Bool.and_eq_false_iff, Bool.or_eq_false_iff, Bool.not_eq_true', Bool.not_eq_false', decide_eq_true_eq, decide_eq_false_iff_not, Classical.not_not] at h4_
    have x0_2 := x0_1.trans x5
    show tSs _ _ _ [some v_row, some v_modulus, some v_places, none] _
    refine b_nil ?_
    show tSs _ _ _ [some v_row, some v_modulus, some v_places, none] _
    refine b_cons (s_ret x0_2.s (ev_cmp c_eq (ev_bin (b_mod (by walk_at "sc")) (ev_sum ⟨gl_is_hit_sum, T.b_sum⟩ rfl (ev_lc (lc1A (fun (place : Int) => ((row).getD (place).toNat (0 : Int))) rfl sc_is_hit.nd (ei_list (ev_v (sl_is_hit_places) (up (x1.g.trans x5.g) r_places))) [("place", 3)] (blkOk_by (N := N_is_hit) (sc := defScope s_is_hit) (by decide +kernel)) (fun _ _ _ _ _ => pg_name (i := 3) sc_is_hit.nd rfl (.inl rfl)) (fun place v19 G9 H10 hx11 x8 r20 s13 s14 s15 s16 s17 => (ev_ix (0 : Int) (ev_v ((⟨rfl, (by first | exact .inr (.inl rfl) | exact .inr (.inr rfl) | exact .inl rfl), nm_row⟩ : Sl _ 0 _)) (up (x1.g.trans (x5.g.trans x8.g)) r_row)) (ev_v ((⟨rfl, .inl rfl, nm_place⟩ : Sl _ 3 _)) r20) (by walk_at "sc") (by walk_at "ix")))))) (ev_v (sl_is_hit_modulus) (up (x1.g.trans x5.g) r_modulus))) ev_int) fun G_ H_ v22 x21 _ r_ => ?_)
    exact fin.rt _ _ _ (x0_2.trans x21) (rep_of tk r_) (fun z => nomatch z)
end

abbrev N_need_count : List Str := ["many", "least"]
theorem sc_need_count : FnScope N_need_count ["many", "least"] (defScope s_need_count) := ⟨rfl, rfl, rfl, by decide +kernel, rfl, by decide +kernel, by decide +kernel⟩
theorem sl_need_count_least {P : Program} {w : World} {K : PySem.W.Frag} {mg : Str → Option Value} {base : Heap} {f : Addr} {cdv : Value} {A : Around} {outer : List Env} {s : Shared} {H : Hp} {E : XK} : Sl (cxOf (L2.CX P w) P w K mg base N_need_count "need_count" (defScope s_need_count) f cdv A outer s H E) 1 "least" := ⟨rfl, (by first | exact .inl rfl | exact .inr (.inl rfl)), nm_least⟩
theorem sl_need_count_many {P : Program} {w : World} {K : PySem.W.Frag} {mg : Str → Option Value} {base : Heap} {f : Addr} {cdv : Value} {A : Around} {outer : List Env} {s : Shared} {H : Hp} {E : XK} : Sl (cxOf (L2.CX P w) P w K mg base N_need_count "need_count" (defScope s_need_count) f cdv A outer s H E) 0 "many" := ⟨rfl, (by first | exact .inl rfl | exact .inr (.inl rfl)), nm_many⟩
theorem cal_need_count {P : Program} {w : World} {K : PySem.W.Frag} {mg : Str → Option Value} {base : Heap} {f : Addr} {fd : FuncData} (T : Txt K mg) (F : Fun K "need_count" "need_count" s_need_count f fd) (hm : mg "need_count" = some (.ref f)) (hb : Binds K fd ["many", "least"] [])  : Cal P w K mg base 1 "need_count" (Sp2 K false (fun (many : Int) (least : Int) => least ≤ many) m_need_count) := by
  refine fn2 F hm hb sc_need_count rfl fun cdv A outer s H0 E hr G0 v_many v_least many least D s0 r_many r_least hp fin => ?_
  have x0_0 : Ext G0 H0 G0 H0 := Ext.refl s0
  show tSs _ _ D [some v_many, some v_least] H0
  have tk : m_need_count many least = _ := rfl
  refine b_cons (s_if x0_0.s (et_cmp c_lt (ev_v (sl_need_count_many) r_many) (ev_v (sl_need_count_least) r_least)) (fun h1 G1 H1 x2 l1 => ?_) (fun h1 G1 H1 x2 l1 => ?_))
  · have tk := tk_tt tk h1
    have h1_ := h1; try simp only [Bool.and_eq_true, Bool.or_eq_true, Bool.and_eq_false_iff, Bool.or_eq_false_iff, Bool.not_eq_true', Bool.not_eq_false', decide_eq_true_eq, decide_eq_false_iff_not, Classical.not_not] at h1_
    have x0_1 := x0_0.trans x2
    show tSs _ _ _ [some v_many, some v_least] _
    exfalso
    walk_at "no"
  · have tk := tk_ff tk h1
    have h1_ := h1; try simp only [Bool.and_eq_true, Bool.or_eq_true, Bool.and_eq_false_iff, Bool.or_eq_false_iff, Bool.not_eq_true', Bool.not_eq_false', decide_eq_true_eq, decide_eq_false_iff_not, Classical.not_not] at h1_
    have x0_1 := x0_0.trans x2
    show tSs _ _ _ [some v_many, some v_least] _
    refine b_nil ?_
    show tSs _ _ _ [some v_many, some v_least] _
    refine b_nil ?_
    exact fin.nx _ _ _ x0_1 (rep_of tk rfl)

abbrev N_ways_on : List Str := ["some", "modulus", "found", "rest", "behind", "here", "ways", "many", "sum_behind", "count", "both"]
theorem sc_ways_on : FnScope N_ways_on ["some", "modulus"] (defScope s_ways_on) := ⟨rfl, rfl, rfl, by decide +kernel, rfl, by decide +kernel, by decide +kernel⟩
theorem sl_ways_on_behind {P : Program} {w : World} {K : PySem.W.Frag} {mg : Str → Option Value} {base : Heap} {f : Addr} {cdv : Value} {A : Around} {outer : List Env} {s : Shared} {H : Hp} {E : XK} : Sl (cxOf (L2.CX P w) P w K mg base N_ways_on "ways_on" (defScope s_ways_on) f cdv A outer s H E) 4 "behind" := ⟨rfl, (by first | exact .inl rfl | exact .inr (.inl rfl)), nm_behind⟩
theorem sl_ways_on_both {P : Program} {w : World} {K : PySem.W.Frag} {mg : Str → Option Value} {base : Heap} {f : Addr} {cdv : Value} {A : Around} {outer : List Env} {s : Shared} {H : Hp} {E : XK} : Sl (cxOf (L2.CX P w) P w K mg base N_ways_on "ways_on" (defScope s_ways_on) f cdv A outer s H E) 10 "both" := ⟨rfl, (by first | exact .inl rfl | exact .inr (.inl rfl)), nm_both⟩
theorem sl_ways_on_count {P : Program} {w : World} {K : PySem.W.Frag} {mg : Str → Option Value} {base : Heap} {f : Addr} {cdv : Value} {A : Around} {outer : List Env} {s : Shared} {H : Hp} {E : XK} : Sl (cxOf (L2.CX P w) P w K mg base N_ways_on "ways_on" (defScope s_ways_on) f cdv A outer s H E) 9 "count" := ⟨rfl, (by first | exact .inl rfl | exact .inr (.inl rfl)), nm_count⟩
theorem sl_ways_on_found {P : Program} {w : World} {K : PySem.W.Frag} {mg : Str → Option Value} {base : Heap} {f : Addr} {cdv : Value} {A : Around} {outer : List Env} {s : Shared} {H : Hp} {E : XK} : Sl (cxOf (L2.CX P w) P w K mg base N_ways_on "ways_on" (defScope s_ways_on) f cdv A outer s H E) 2 "found" := ⟨rfl, (by first | exact .inl rfl | exact .inr (.inl rfl)), nm_found⟩
theorem sl_ways_on_here {P : Program} {w : World} {K : PySem.W.Frag} {mg : Str → Option Value} {base : Heap} {f : Addr} {cdv : Value} {A : Around} {outer : List Env} {s : Shared} {H : Hp} {E : XK} : Sl (cxOf (L2.CX P w) P w K mg base N_ways_on "ways_on" (defScope s_ways_on) f cdv A outer s H E) 5 "here" := ⟨rfl, (by first | exact .inl rfl | exact .inr (.inl rfl)), nm_here⟩
theorem sl_ways_on_many {P : Program} {w : World} {K : PySem.W.Frag} {mg : Str → Option Value} {base : Heap} {f : Addr} {cdv : Value} {A : Around} {outer : List Env} {s : Shared} {H : Hp} {E : XK} : Sl (cxOf (L2.CX P w) P w K mg base N_ways_on "ways_on" (defScope s_ways_on) f cdv A outer s H E) 7 "many" := ⟨rfl, (by first | exact .inl rfl | exact .inr (.inl rfl)), nm_many⟩
theorem sl_ways_on_modulus {P : Program} {w : World} {K : PySem.W.Frag} {mg : Str → Option Value} {base : Heap} {f : Addr} {cdv : Value} {A : Around} {outer : List Env} {s : Shared} {H : Hp} {E : XK} : Sl (cxOf (L2.CX P w) P w K mg base N_ways_on "ways_on" (defScope s_ways_on) f cdv A outer s H E) 1 "modulus" := ⟨rfl, (by first | exact .inl rfl | exact .inr (.inl rfl)), nm_modulus⟩
theorem sl_ways_on_rest_ {P : Program} {w : World} {K : PySem.W.Frag} {mg : Str → Option Value} {base : Heap} {f : Addr} {cdv : Value} {A : Around} {outer : List Env} {s : Shared} {H : Hp} {E : XK} : Sl (cxOf (L2.CX P w) P w K mg base N_ways_on "ways_on" (defScope s_ways_on) f cdv A outer s H E) 3 "rest" := ⟨rfl, (by first | exact .inl rfl | exact .inr (.inl rfl)), nm_rest_⟩
theorem sl_ways_on_some_ {P : Program} {w : World} {K : PySem.W.Frag} {mg : Str → Option Value} {base : Heap} {f : Addr} {cdv : Value} {A : Around} {outer : List Env} {s : Shared} {H : Hp} {E : XK} : Sl (cxOf (L2.CX P w) P w K mg base N_ways_on "ways_on" (defScope s_ways_on) f cdv A outer s H E) 0 "some" := ⟨rfl, (by first | exact .inl rfl | exact .inr (.inl rfl)), nm_some_⟩
theorem sl_ways_on_sum_behind {P : Program} {w : World} {K : PySem.W.Frag} {mg : Str → Option Value} {base : Heap} {f : Addr} {cdv : Value} {A : Around} {outer : List Env} {s : Shared} {H : Hp} {E : XK} : Sl (cxOf (L2.CX P w) P w K mg base N_ways_on "ways_on" (defScope s_ways_on) f cdv A outer s H E) 8 "sum_behind" := ⟨rfl, (by first | exact .inl rfl | exact .inr (.inl rfl)), nm_sum_behind⟩
theorem sl_ways_on_ways {P : Program} {w : World} {K : PySem.W.Frag} {mg : Str → Option Value} {base : Heap} {f : Addr} {cdv : Value} {A : Around} {outer : List Env} {s : Shared} {H : Hp} {E : XK} : Sl (cxOf (L2.CX P w) P w K mg base N_ways_on "ways_on" (defScope s_ways_on) f cdv A outer s H E) 6 "ways" := ⟨rfl, (by first | exact .inl rfl | exact .inr (.inl rfl)), nm_ways⟩
theorem ss_ways_on_found {P : Program} {w : World} {K : PySem.W.Frag} {mg : Str → Option Value} {base : Heap} {f : Addr} {cdv : Value} {A : Around} {outer : List Env} {s : Shared} {H : Hp} {E : XK} : Ss (cxOf (L2.CX P w) P w K mg base N_ways_on "ways_on" (defScope s_ways_on) f cdv A outer s H E) 2 "found" := ⟨rfl, (by first | exact .inl rfl | exact .inr rfl), .inl rfl⟩
theorem ss_ways_on_rest_ {P : Program} {w : World} {K : PySem.W.Frag} {mg : Str → Option Value} {base : Heap} {f : Addr} {cdv : Value} {A : Around} {outer : List Env} {s : Shared} {H : Hp} {E : XK} : Ss (cxOf (L2.CX P w) P w K mg base N_ways_on "ways_on" (defScope s_ways_on) f cdv A outer s H E) 3 "rest" := ⟨rfl, (by first | exact .inl rfl | exact .inr rfl), .inl rfl⟩
theorem ss_ways_on_behind {P : Program} {w : World} {K : PySem.W.Frag} {mg : Str → Option Value} {base : Heap} {f : Addr} {cdv : Value} {A : Around} {outer : List Env} {s : Shared} {H : Hp} {E : XK} : Ss (cxOf (L2.CX P w) P w K mg base N_ways_on "ways_on" (defScope s_ways_on) f cdv A outer s H E) 4 "behind" := ⟨rfl, (by first | exact .inl rfl | exact .inr rfl), .inl rfl⟩
theorem ss_ways_on_here {P : Program} {w : World} {K : PySem.W.Frag} {mg : Str → Option Value} {base : Heap} {f : Addr} {cdv : Value} {A : Around} {outer : List Env} {s : Shared} {H : Hp} {E : XK} : Ss (cxOf (L2.CX P w) P w K mg base N_ways_on "ways_on" (defScope s_ways_on) f cdv A outer s H E) 5 "here" := ⟨rfl, (by first | exact .inl rfl | exact .inr rfl), .inl rfl⟩
theorem ss_ways_on_ways {P : Program} {w : World} {K : PySem.W.Frag} {mg : Str → Option Value} {base : Heap} {f : Addr} {cdv : Value} {A : Around} {outer : List Env} {s : Shared} {H : Hp} {E : XK} : Ss (cxOf (L2.CX P w) P w K mg base N_ways_on "ways_on" (defScope s_ways_on) f cdv A outer s H E) 6 "ways" := ⟨rfl, (by first | exact .inl rfl | exact .inr rfl), .inl rfl⟩
theorem ss_ways_on_many {P : Program} {w : World} {K : PySem.W.Frag} {mg : Str → Option Value} {base : Heap} {f : Addr} {cdv : Value} {A : Around} {outer : List Env} {s : Shared} {H : Hp} {E : XK} : Ss (cxOf (L2.CX P w) P w K mg base N_ways_on "ways_on" (defScope s_ways_on) f cdv A outer s H E) 7 "many" := ⟨rfl, (by first | exact .inl rfl | exact .inr rfl), .inl rfl⟩
theorem ss_ways_on_sum_behind {P : Program} {w : World} {K : PySem.W.Frag} {mg : Str → Option Value} {base : Heap} {f : Addr} {cdv : Value} {A : Around} {outer : List Env} {s : Shared} {H : Hp} {E : XK} : Ss (cxOf (L2.CX P w) P w K mg base N_ways_on "ways_on" (defScope s_ways_on) f cdv A outer s H E) 8 "sum_behind" := ⟨rfl, (by first | exact .inl rfl | exact .inr rfl), .inl rfl⟩
theorem ss_ways_on_count {P : Program} {w : World} {K : PySem.W.Frag} {mg : Str → Option Value} {base : Heap} {f : Addr} {cdv : Value} {A : Around} {outer : List Env} {s : Shared} {H : Hp} {E : XK} : Ss (cxOf (L2.CX P w) P w K mg base N_ways_on "ways_on" (defScope s_ways_on) f cdv A outer s H E) 9 "count" := ⟨rfl, (by first | exact .inl rfl | exact .inr rfl), .inl rfl⟩
theorem ss_ways_on_both {P : Program} {w : World} {K : PySem.W.Frag} {mg : Str → Option Value} {base : Heap} {f : Addr} {cdv : Value} {A : Around} {outer : List Env} {s : Shared} {H : Hp} {E : XK} : Ss (cxOf (L2.CX P w) P w K mg base N_ways_on "ways_on" (defScope s_ways_on) f cdv A outer s H E) 10 "both" := ⟨rfl, (by first | exact .inl rfl | exact .inr rfl), .inl rfl⟩
theorem gl_ways_on_enumerate {P : Program} {w : World} {K : PySem.W.Frag} {mg : Str → Option Value} {base : Heap} {f : Addr} {cdv : Value} {A : Around} {outer : List Env} {s : Shared} {H : Hp} {E : XK} : Gl (cxOf (L2.CX P w) P w K mg base N_ways_on "ways_on" (defScope s_ways_on) f cdv A outer s H E) "enumerate" := by rfl
theorem gl_ways_on_reversed {P : Program} {w : World} {K : PySem.W.Frag} {mg : Str → Option Value} {base : Heap} {f : Addr} {cdv : Value} {A : Around} {outer : List Env} {s : Shared} {H : Hp} {E : XK} : Gl (cxOf (L2.CX P w) P w K mg base N_ways_on "ways_on" (defScope s_ways_on) f cdv A outer s H E) "reversed" := by rfl
section
local macro_rules | `(tactic| walk_at "szd") => `(tactic| first | exact kin_szd (KInL.at_ (by assumption)) (by omega) | fail)
local macro_rules | `(tactic| walk_at "d64") => `(tactic| first | exact kin_d64 (KInL.at_ (KInT.at_ (by assumption))) (by omega) | fail)
local macro_rules | `(tactic| walk_at "inv0") => `(tactic| first | exact kin_one (by omega) | assumption | (subst_vars; first | rfl | decide | exact kin_one (by omega) | exact kin_start (by assumption)) | fail)
local macro_rules | `(tactic| walk_at "sz") => `(tactic| first | (simp only [List.length_append, List.length_cons, List.length_nil, List.length_map, List.length_reverse] at *; rw [sizeLine_eq]; omega) | fail)
local macro_rules | `(tactic| walk_at "invx") => `(tactic| first | exact kin_cons (by assumption) (by assumption) | exact KInL.set (by assumption) (KIn.put (KInL.at_ (by assumption)) (by first | exact kin_mod (by omega) | (subst_vars; exact kin_mod (by omega)))) | assumption | (simp only [List.length_set] at *; omega) | (simp only [Int.toNat_zero, List.getD_cons_zero, List.length_cons] at *; omega) | fail)
theorem cal_ways_on {P : Program} {w : World} {K : PySem.W.Frag} {mg : Str → Option Value} {base : Heap} {f : Addr} {fd : FuncData} (T : Txt K mg) (F : Fun K "ways_on" "ways_on" s_ways_on f fd) (hm : mg "ways_on" = some (.ref f)) (hb : Binds K fd ["some", "modulus"] [])  : Cal P w K mg base 1 "ways_on" (Sp2 K true (fun (some_ : (List Int)) (modulus : Int) => some_.length ≤ 1000 ∧ 1 ≤ modulus ∧ modulus ≤ 1000) m_ways_on) := by
  refine fn2 F hm hb sc_ways_on rfl fun cdv A outer s H0 E hr G0 v_some_ v_modulus some_ modulus D s0 r_some_ r_modulus hp fin => ?_
  have x0_0 : Ext G0 H0 G0 H0 := Ext.refl s0
  show tSs _ _ D [some v_some_, some v_modulus, none, none, none, none, none, none, none, none, none] H0
  have hpc := hp; obtain ⟨hp_0, hp_1, hp_2⟩ := hpc
  have tk : m_ways_on some_ modulus = _ := rfl
  refine b_cons (s_listO sc_ways_on.nd ss_ways_on_found x0_0.s (es_cons (ev_list (es_cons (ev_disp1 (hu64 hr) ev_int ev_int) es_nil)) es_nil) fun G1 H1 q_found x1 l1 n_q_found o1_found => ?_)
  have x0_1 := x0_0.trans x1
  have m_q_found := x0_0.h.free n_q_found
  show tSs _ _ _ [some v_some_, some v_modulus, some (.ref q_found), none, none, none, none, none, none, none, none] _
  obtain ⟨found, e2⟩ : ∃ z, z = ([([(⟨[((0 : Int), (1 : Int))]⟩ : (Dct Int Int))] : List (Dct Int Int))] : List (List (Dct Int Int))) := ⟨_, rfl⟩
  rw [← e2] at o1_found
  have tk : _ = m_ways_on_1 some_ modulus found := tk.trans (by first | (rw [e2] <;> rfl) | rfl)
  have g_e2 := congrArg List.length e2; try simp only [List.length_append, List.length_cons, List.length_nil, rng_len, List.length_map, List.length_reverse, List.length_set] at g_e2
  refine b_cons (s_for (T := (T1 K 3)) (passes_of rfl) rfl (pg_name (i := 3) sc_ways_on.nd rfl ss_ways_on_rest_.hx) acts1 x0_1.s (ei_rev ⟨gl_ways_on_reversed, T.b_reversed⟩ (ev_v (sl_ways_on_some_) (up x1.g r_some_))) (fun rest σ G H => ∃ (found_0 : (List (List (Dct Int Int)))), lfold (m_ways_on_2s modulus) rest found_0 = lfold (m_ways_on_2s modulus) ((some_).reverse) found ∧ Ext G0 H0 G H ∧ ∃ (y1_3 y1_4 y1_5 y1_6 y1_7 y1_8 y1_9 y1_10 : Option V), σ = [some v_some_, some v_modulus, some (.ref q_found), y1_3, y1_4, y1_5, y1_6, y1_7, y1_8, y1_9, y1_10] ∧ Own K G H q_found found_0 ∧ found_0.length + 1 * rest.length ≤ found.length + 1 * ((some_).reverse).length ∧ (found_0.getD (0 : Int).toNat []).length = found_0.length ∧ KInT modulus found_0 ∧ 1 ≤ found_0.length) (fun _ _ x => ⟨found, rfl, x0_1.trans x, none, none, none, none, none, none, none, none, rfl, o1_found.mono x, by walk_at "inv0", by walk_at "inv0", by walk_at "inv0", by walk_at "inv0"⟩) ?_ ?_)
  · intro rest_ rest σ1 G2 H2 G3 H3 σ2 hx1 sgA3 sh1 I_ x3 l3 hT
    obtain ⟨found_0, es1, x0_2, y1_3, y1_4, y1_5, y1_6, y1_7, y1_8, y1_9, y1_10, rfl, o2_found, inv1_0, inv1_1, inv1_2, inv1_3⟩ := I_
    have x0_3 := x0_2.trans x3
    have o3_found := o2_found.mono x3
    obtain ⟨t1, rt1, rfl⟩ := hT
    have inv1_0_ := inv1_0; try simp only [List.length_cons, List.length_nil] at inv1_0_
    have inv1_1_ := inv1_1; try simp only [List.length_cons, List.length_nil] at inv1_1_
    have inv1_2_ := inv1_2; try simp only [List.length_cons, List.length_nil] at inv1_2_
    have inv1_3_ := inv1_3; try simp only [List.length_cons, List.length_nil] at inv1_3_
    have mem1 := mem_of hx1.1
    have hlx1 := hx1.2; rw [sizeLine_eq] at hlx1
    have hlr1 := mem_len hx1.1
    have tk1 := tk
    have tk : m_ways_on_2s modulus rest_ found_0 = _ := rfl
    show tSs _ _ _ [some v_some_, some v_modulus, some (.ref q_found), some t1, y1_4, y1_5, y1_6, y1_7, y1_8, y1_9, y1_10] _
    refine b_cons (s_set sc_ways_on.nd ss_ways_on_behind x0_3.s (ev_ix [] (ev_vO (sl_ways_on_found) o3_found) ev_int (by walk_at "sc") (by walk_at "ix")) fun G4 H4 v4_behind x4 l4 r4_behind => ?_)
    have x0_4 := x0_3.trans x4
    have o4_found := o3_found.mono x4
    show tSs _ _ _ [some v_some_, some v_modulus, some (.ref q_found), some t1, some v4_behind, y1_5, y1_6, y1_7, y1_8, y1_9, y1_10] _
    obtain ⟨behind, e5⟩ : ∃ z, z = ((found_0).getD ((0 : Int)).toNat []) := ⟨_, rfl⟩
    rw [← e5] at r4_behind
    have tk : _ = m_ways_on_4 modulus found_0 rest_ behind := tk.trans (by first | (rw [e5] <;> rfl) | rfl)
    have g_e5 := congrArg List.length e5; try simp only [List.length_append, List.length_cons, List.length_nil, rng_len, List.length_map, List.length_reverse, psort_len, isort_len] at g_e5
    refine b_cons (s_setLD sc_ways_on.nd ss_ways_on_here x0_4.s (evLD_cat (evLD_lc (fun (ways : (Dct Int Int)) => ways) rfl sc_ways_on.nd (ei_list (ev_v (sl_ways_on_behind) r4_behind)) [("ways", 6)] (blkOk_by (N := N_ways_on) (sc := defScope s_ways_on) (by decide +kernel)) (fun _ _ _ _ _ => pg_name (i := 6) sc_ways_on.nd rfl (.inl rfl)) (fun ways v17 G7 H8 hx9 x6 r18 s11 s12 s13 s14 s15 => (evND_copy ⟨(by rfl), T.b_dict⟩ (hu64 hr) (by walk_at "hok") (ev_v ((⟨rfl, .inl rfl, nm_ways⟩ : Sl _ 6 _)) r18)))) (evLD_one evND_nil) (by walk_at "sz")) fun G6 H6 q_here x19 l6 or6 => ?_)
    have n_q_here := or6.nw
    have o6_here := or6.back x0_4.h
    have x0_6 := x0_4.trans x19
    have m_q_here := x0_4.h.free n_q_here
    have d_q_found_q_here : q_found ≠ q_here := fun z => by obtain ⟨u, hu⟩ := o4_found.ex; rw [z, n_q_here] at hu; cases hu
    have o6_found := o4_found.mono x19
    show tSs _ _ _ [some v_some_, some v_modulus, some (.ref q_found), some t1, some v4_behind, some (.ref q_here), y1_6, y1_7, y1_8, y1_9, y1_10] _
    obtain ⟨here, e20⟩ : ∃ z, z = ((behind.map (fun (ways : (Dct Int Int)) => ways)) ++ [(⟨[]⟩ : (Dct Int Int))]) := ⟨_, rfl⟩
    rw [← e20] at o6_here
    have tk : _ = m_ways_on_5 modulus found_0 rest_ behind here := tk.trans (by first | (rw [e20] <;> rfl) | rfl)
    have g_e20 := congrArg List.length e20; try simp only [List.length_append, List.length_cons, List.length_nil, rng_len, List.length_map, List.length_reverse, List.length_set] at g_e20
    refine b_cons (s_for (T := (T2 K 7 6)) (passes_of rfl) rfl (pg_tup rfl (pgs_cons (pg_name (i := 7) sc_ways_on.nd rfl ss_ways_on_many.hx) (pgs_cons (pg_name (i := 6) sc_ways_on.nd rfl ss_ways_on_ways.hx) pgs_nil))) acts2 x0_6.s (ei_enum ⟨gl_ways_on_enumerate, T.b_enumerate⟩ (ev_v (sl_ways_on_behind) (up x19.g r4_behind))) (fun rest σ G H => ∃ (here_1 : (List (Dct Int Int))), lfold (m_ways_on_6s modulus rest_) rest here_1 = lfold (m_ways_on_6s modulus rest_) (enum behind) here ∧ Ext G0 H0 G H ∧ ∃ (y2_6 y2_7 y2_8 y2_9 y2_10 : Option V), σ = [some v_some_, some v_modulus, some (.ref q_found), some t1, some v4_behind, some (.ref q_here), y2_6, y2_7, y2_8, y2_9, y2_10] ∧ OwnLD K H0 G H q_here here_1 ∧ Own K G H q_found found_0 ∧ here_1.length = behind.length + 1 ∧ KInL modulus here_1) (fun _ _ x => ⟨here, rfl, x0_6.trans x, y1_6, y1_7, y1_8, y1_9, y1_10, rfl, o6_here.mono x, o6_found.mono x, by walk_at "inv0", by walk_at "inv0"⟩) ?_ ?_)
    · intro z2 rest σ1 G7 H7 G8 H8 σ2 hx2 sgA8 sh2 I_ x21 l8 hT
      obtain ⟨here_1, es2, x0_7, y2_6, y2_7, y2_8, y2_9, y2_10, rfl, o7_here, o7_found, inv2_0, inv2_1⟩ := I_
      have x0_8 := x0_7.trans x21
      have o8_found := o7_found.mono x21
      have o8_here := o7_here.mono x21
      obtain ⟨t2a, t2b, rt2a, rt2b, rfl⟩ := hT
      have inv2_0_ := inv2_0; try simp only [List.length_cons, List.length_nil] at inv2_0_
      have inv2_1_ := inv2_1; try simp only [List.length_cons, List.length_nil] at inv2_1_
      have mem2 := mem_of hx2.1
      have hlx2 := hx2.2; rw [sizeLine_eq] at hlx2
      have hlr2 := mem_len hx2.1
      have tk2 := tk
      have tk : m_ways_on_6s modulus rest_ z2 here_1 = _ := rfl
      show tSs _ _ _ [some v_some_, some v_modulus, some (.ref q_found), some t1, some v4_behind, some (.ref q_here), some t2b, some t2a, y2_8, y2_9, y2_10] _
      refine b_cons (s_for (T := (T2 K 8 9)) (passes_of rfl) rfl (pg_tup rfl (pgs_cons (pg_name (i := 8) sc_ways_on.nd rfl ss_ways_on_sum_behind.hx) (pgs_cons (pg_name (i := 9) sc_ways_on.nd rfl ss_ways_on_count.hx) pgs_nil))) acts2 x0_8.s (ei_items (ev_v (sl_ways_on_ways) rt2b)) (fun rest σ G H => ∃ (here : (List (Dct Int Int))), lfold (m_ways_on_8s modulus rest_ z2) rest here = lfold (m_ways_on_8s modulus rest_ z2) z2.2.kvs here_1 ∧ Ext G0 H0 G H ∧ ∃ (y3_8 y3_9 y3_10 : Option V), σ = [some v_some_, some v_modulus, some (.ref q_found), some t1, some v4_behind, some (.ref q_here), some t2b, some t2a, y3_8, y3_9, y3_10] ∧ OwnLD K H0 G H q_here here ∧ Own K G H q_found found_0 ∧ here.length = behind.length + 1 ∧ KInL modulus here) (fun _ _ x => ⟨here_1, rfl, x0_8.trans x, y2_8, y2_9, y2_10, rfl, o8_here.mono x, o8_found.mono x, by walk_at "inv0", by walk_at "inv0"⟩) ?_ ?_)
      · intro z3 rest σ1 G9 H9 G10 H10 σ2 hx3 sgA10 sh3 I_ x22 l10 hT
        obtain ⟨here, es3, x0_9, y3_8, y3_9, y3_10, rfl, o9_here, o9_found, inv3_0, inv3_1⟩ := I_
        have x0_10 := x0_9.trans x22
        have o10_found := o9_found.mono x22
        have o10_here := o9_here.mono x22
        obtain ⟨t3a, t3b, rt3a, rt3b, rfl⟩ := hT
        have inv3_0_ := inv3_0; try simp only [List.length_cons, List.length_nil] at inv3_0_
        have inv3_1_ := inv3_1; try simp only [List.length_cons, List.length_nil] at inv3_1_
        have mem3 := mem_of hx3.1
        have hlx3 := hx3.2; rw [sizeLine_eq] at hlx3
        have hlr3 := mem_len hx3.1
        have tk3 := tk
        have tk : m_ways_on_8s modulus rest_ z2 z3 here = _ := rfl
        show tSs _ _ _ [some v_some_, some v_modulus, some (.ref q_found), some t1, some v4_behind, some (.ref q_here), some t2b, some t2a, some t3a, some t3b, y3_10] _
        refine b_cons (s_set sc_ways_on.nd ss_ways_on_both x0_10.s (ev_bin (b_mod (by walk_at "sc")) (ev_bin b_add (ev_v (sl_ways_on_rest_) (up (x4.g.trans (x19.g.trans (sgA8.trans (x21.g.trans (sgA10.trans x22.g))))) rt1)) (ev_v (sl_ways_on_sum_behind) rt3a)) (ev_v (sl_ways_on_modulus) (up (x1.g.trans (sgA3.trans (x3.g.trans (x4.g.trans (x19.g.trans (sgA8.trans (x21.g.trans (sgA10.trans x22.g)))))))) r_modulus))) fun G11 H11 v11_both x23 l11 r11_both => ?_)
        have x0_11 := x0_10.trans x23
        have o11_found := o10_found.mono x23
        have o11_here := o10_here.mono x23
        show tSs _ _ _ [some v_some_, some v_modulus, some (.ref q_found), some t1, some v4_behind, some (.ref q_here), some t2b, some t2a, some t3a, some t3b, some v11_both] _
        obtain ⟨both, e24⟩ : ∃ z, z = ((rest_ + z3.1) % modulus) := ⟨_, rfl⟩
        rw [← e24] at r11_both
        have tk : _ = m_ways_on_10 here z2 z3 both := tk.trans (by first | (rw [e24] <;> rfl) | rfl)
        refine b_cons (s_putLD (sl_ways_on_here) (hu1 hr) x0_11.s o11_here (ev_bin b_add (ev_dget2 (hu1 hr) (ev_ixLD (ev_vLD (sl_ways_on_here) o11_here) (ev_bin b_add (ev_v (sl_ways_on_many) (up (sgA10.trans (x22.g.trans x23.g)) rt2a)) ev_int) (by walk_at "sc") (by walk_at "ix")) (ev_v (sl_ways_on_both) r11_both) ev_int) (ev_v (sl_ways_on_count) (up x23.g rt3b))) (ev_bin b_add (ev_v (sl_ways_on_many) (up (sgA10.trans (x22.g.trans x23.g)) rt2a)) ev_int) (ev_v (sl_ways_on_both) r11_both) (by walk_at "sc") (by walk_at "ix") (by walk_at "szd") fun G12 H12_ qq27 us26 x25 l12 hn28 hg29 hl30 o12_here => ?_)
        have x0_12 := (x0_11.trans x25).wr (o := us26) hn28 hg29
        have o12_found := (o11_found.mono x25).wr (o' := us26) (Own.ne_nl (o11_found.mono x25) hl30)
        show tSs _ _ _ [some v_some_, some v_modulus, some (.ref q_found), some t1, some v4_behind, some (.ref q_here), some t2b, some t2a, some t3a, some t3b, some v11_both] _
        refine b_nil ?_
        exact ⟨_, x23.g.trans x25.g, x0_12.s, (here.set ((z2.1 + (1 : Int))).toNat (⟨dput (here.getD ((z2.1 + (1 : Int))).toNat ⟨[]⟩).kvs both (((dlook (here.getD ((z2.1 + (1 : Int))).toNat ⟨[]⟩).kvs both).getD (0 : Int)) + z3.2)⟩ : (Dct Int Int))), lfold_nxt es3 tk, x0_12, some t3a, some t3b, some v11_both, rfl, o12_here, o12_found, by have hi := inv3_0; (try simp only [List.length_cons, List.length_nil, List.length_append, rng_len, enum_len] at hi ⊢); first | omega | walk_at "invx", by have hi := inv3_1; (try simp only [List.length_cons, List.length_nil, List.length_append, rng_len, enum_len] at hi ⊢); first | omega | walk_at "invx"⟩
      · intro σ1 G13 H13 sgC13 sh3 I_
        obtain ⟨here, es3, x0_13, y3_8, y3_9, y3_10, rfl, o13_here, o13_found, inv3_0, inv3_1⟩ := I_
        have tk := tk_fold (k := m_ways_on_9) tk es3
        have inv3_0_ := inv3_0; try simp only [List.length_cons, List.length_nil, rng_len, enum_len] at inv3_0_
        have inv3_1_ := inv3_1; try simp only [List.length_cons, List.length_nil, rng_len, enum_len] at inv3_1_
        show tSs _ _ _ [some v_some_, some v_modulus, some (.ref q_found), some t1, some v4_behind, some (.ref q_here), some t2b, some t2a, y3_8, y3_9, y3_10] _
        refine b_nil ?_
        exact ⟨_, sgC13, x0_13.s, here, lfold_nxt es2 tk, x0_13, some t2b, some t2a, y3_8, y3_9, y3_10, rfl, o13_here, o13_found, by have hi := inv2_0; (try simp only [List.length_cons, List.length_nil, List.length_append, rng_len, enum_len] at hi ⊢); first | omega | walk_at "invx", by have hi := inv2_1; (try simp only [List.length_cons, List.length_nil, List.length_append, rng_len, enum_len] at hi ⊢); first | omega | walk_at "invx"⟩
    · intro σ1 G14 H14 sgC14 sh2 I_
      obtain ⟨here_1, es2, x0_14, y2_6, y2_7, y2_8, y2_9, y2_10, rfl, o14_here, o14_found, inv2_0, inv2_1⟩ := I_
      have tk := tk_fold (k := (m_ways_on_7 found_0)) tk es2
      have inv2_0_ := inv2_0; try simp only [List.length_cons, List.length_nil, rng_len, enum_len] at inv2_0_
      have inv2_1_ := inv2_1; try simp only [List.length_cons, List.length_nil, rng_len, enum_len] at inv2_1_
      show tSs _ _ _ [some v_some_, some v_modulus, some (.ref q_found), some t1, some v4_behind, some (.ref q_here), y2_6, y2_7, y2_8, y2_9, y2_10] _
      refine OwnLD.lock o14_here x0_14 fun G15 H15 x0_15 sg15 kp15 r15_here => ?_
      have o15_found := kp15 d_q_found_q_here o14_found
      show tSs _ _ _ [some v_some_, some v_modulus, some (.ref q_found), some t1, some v4_behind, some (.ref q_here), y2_6, y2_7, y2_8, y2_9, y2_10] _
      refine b_cons (s_insert0 (sl_ways_on_found) x0_15.s o15_found (ev_v (sl_ways_on_here) r15_here) (by walk_at "sz") fun G16 H16_ us32 x31 l16 o16_found => ?_)
      have x0_16 := (x0_15.trans x31).wr (o := .lst us32) m_q_found o16_found.off
      show tSs _ _ _ [some v_some_, some v_modulus, some (.ref q_found), some t1, some v4_behind, some (.ref q_here), y2_6, y2_7, y2_8, y2_9, y2_10] _
      refine b_nil ?_
      exact ⟨_, x4.g.trans (x19.g.trans (sgC14.trans (sg15.trans x31.g))), x0_16.s, (here_1 :: found_0), lfold_nxt es1 tk, x0_16, some t1, some v4_behind, some (.ref q_here), y2_6, y2_7, y2_8, y2_9, y2_10, rfl, o16_found, by have hi := inv1_0; (try simp only [List.length_cons, List.length_nil, List.length_append, rng_len, enum_len] at hi ⊢); first | omega | walk_at "invx", by have hi := inv1_1; (try simp only [List.length_cons, List.length_nil, List.length_append, rng_len, enum_len] at hi ⊢); first | omega | walk_at "invx", by have hi := inv1_2; (try simp only [List.length_cons, List.length_nil, List.length_append, rng_len, enum_len] at hi ⊢); first | omega | walk_at "invx", by have hi := inv1_3; (try simp only [List.length_cons, List.length_nil, List.length_append, rng_len, enum_len] at hi ⊢); first | omega | walk_at "invx"⟩
  · intro σ1 G17 H17 sgC17 sh1 I_
    obtain ⟨found_0, es1, x0_17, y1_3, y1_4, y1_5, y1_6, y1_7, y1_8, y1_9, y1_10, rfl, o17_found, inv1_0, inv1_1, inv1_2, inv1_3⟩ := I_
    have tk := tk_fold (k := m_ways_on_3) tk es1
    have inv1_0_ := inv1_0; try simp only [List.length_cons, List.length_nil, rng_len, enum_len] at inv1_0_
    have inv1_1_ := inv1_1; try simp only [List.length_cons, List.length_nil, rng_len, enum_len] at inv1_1_
    have inv1_2_ := inv1_2; try simp only [List.length_cons, List.length_nil, rng_len, enum_len] at inv1_2_
    have inv1_3_ := inv1_3; try simp only [List.length_cons, List.length_nil, rng_len, enum_len] at inv1_3_
    show tSs _ _ _ [some v_some_, some v_modulus, some (.ref q_found), y1_3, y1_4, y1_5, y1_6, y1_7, y1_8, y1_9, y1_10] _
    obtain ⟨G18, x0_18, sg18, r18_found⟩ := o17_found.frz x0_17 m_q_found
    refine b_cons (s_retV (sl_ways_on_found) x0_18.s ?_)
    exact fin.rt _ _ _ x0_18 (rep_of tk r18_found) (fun _ p z => by cases z; exact m_q_found)
end

abbrev N_first_of : List Str := ["some", "modulus", "many", "found", "places", "wanted", "place", "rest", "left"]
theorem sc_first_of : FnScope N_first_of ["some", "modulus", "many", "found"] (defScope s_first_of) := ⟨rfl, rfl, rfl, by decide +kernel, rfl, by decide +kernel, by decide +kernel⟩
theorem sl_first_of_found {P : Program} {w : World} {K : PySem.W.Frag} {mg : Str → Option Value} {base : Heap} {f : Addr} {cdv : Value} {A : Around} {outer : List Env} {s : Shared} {H : Hp} {E : XK} : Sl (cxOf (L2.CX P w) P w K mg base N_first_of "first_of" (defScope s_first_of) f cdv A outer s H E) 3 "found" := ⟨rfl, (by first | exact .inl rfl | exact .inr (.inl rfl)), nm_found⟩
theorem sl_first_of_left {P : Program} {w : World} {K : PySem.W.Frag} {mg : Str → Option Value} {base : Heap} {f : Addr} {cdv : Value} {A : Around} {outer : List Env} {s : Shared} {H : Hp} {E : XK} : Sl (cxOf (L2.CX P w) P w K mg base N_first_of "first_of" (defScope s_first_of) f cdv A outer s H E) 8 "left" := ⟨rfl, (by first | exact .inl rfl | exact .inr (.inl rfl)), nm_left⟩
theorem sl_first_of_many {P : Program} {w : World} {K : PySem.W.Frag} {mg : Str → Option Value} {base : Heap} {f : Addr} {cdv : Value} {A : Around} {outer : List Env} {s : Shared} {H : Hp} {E : XK} : Sl (cxOf (L2.CX P w) P w K mg base N_first_of "first_of" (defScope s_first_of) f cdv A outer s H E) 2 "many" := ⟨rfl, (by first | exact .inl rfl | exact .inr (.inl rfl)), nm_many⟩
theorem sl_first_of_modulus {P : Program} {w : World} {K : PySem.W.Frag} {mg : Str → Option Value} {base : Heap} {f : Addr} {cdv : Value} {A : Around} {outer : List Env} {s : Shared} {H : Hp} {E : XK} : Sl (cxOf (L2.CX P w) P w K mg base N_first_of "first_of" (defScope s_first_of) f cdv A outer s H E) 1 "modulus" := ⟨rfl, (by first | exact .inl rfl | exact .inr (.inl rfl)), nm_modulus⟩
theorem sl_first_of_place {P : Program} {w : World} {K : PySem.W.Frag} {mg : Str → Option Value} {base : Heap} {f : Addr} {cdv : Value} {A : Around} {outer : List Env} {s : Shared} {H : Hp} {E : XK} : Sl (cxOf (L2.CX P w) P w K mg base N_first_of "first_of" (defScope s_first_of) f cdv A outer s H E) 6 "place" := ⟨rfl, (by first | exact .inl rfl | exact .inr (.inl rfl)), nm_place⟩
theorem sl_first_of_places {P : Program} {w : World} {K : PySem.W.Frag} {mg : Str → Option Value} {base : Heap} {f : Addr} {cdv : Value} {A : Around} {outer : List Env} {s : Shared} {H : Hp} {E : XK} : Sl (cxOf (L2.CX P w) P w K mg base N_first_of "first_of" (defScope s_first_of) f cdv A outer s H E) 4 "places" := ⟨rfl, (by first | exact .inl rfl | exact .inr (.inl rfl)), nm_places⟩
theorem sl_first_of_rest_ {P : Program} {w : World} {K : PySem.W.Frag} {mg : Str → Option Value} {base : Heap} {f : Addr} {cdv : Value} {A : Around} {outer : List Env} {s : Shared} {H : Hp} {E : XK} : Sl (cxOf (L2.CX P w) P w K mg base N_first_of "first_of" (defScope s_first_of) f cdv A outer s H E) 7 "rest" := ⟨rfl, (by first | exact .inl rfl | exact .inr (.inl rfl)), nm_rest_⟩
theorem sl_first_of_some_ {P : Program} {w : World} {K : PySem.W.Frag} {mg : Str → Option Value} {base : Heap} {f : Addr} {cdv : Value} {A : Around} {outer : List Env} {s : Shared} {H : Hp} {E : XK} : Sl (cxOf (L2.CX P w) P w K mg base N_first_of "first_of" (defScope s_first_of) f cdv A outer s H E) 0 "some" := ⟨rfl, (by first | exact .inl rfl | exact .inr (.inl rfl)), nm_some_⟩
theorem sl_first_of_wanted {P : Program} {w : World} {K : PySem.W.Frag} {mg : Str → Option Value} {base : Heap} {f : Addr} {cdv : Value} {A : Around} {outer : List Env} {s : Shared} {H : Hp} {E : XK} : Sl (cxOf (L2.CX P w) P w K mg base N_first_of "first_of" (defScope s_first_of) f cdv A outer s H E) 5 "wanted" := ⟨rfl, (by first | exact .inl rfl | exact .inr (.inl rfl)), nm_wanted⟩
theorem ss_first_of_places {P : Program} {w : World} {K : PySem.W.Frag} {mg : Str → Option Value} {base : Heap} {f : Addr} {cdv : Value} {A : Around} {outer : List Env} {s : Shared} {H : Hp} {E : XK} : Ss (cxOf (L2.CX P w) P w K mg base N_first_of "first_of" (defScope s_first_of) f cdv A outer s H E) 4 "places" := ⟨rfl, (by first | exact .inl rfl | exact .inr rfl), .inl rfl⟩
theorem ss_first_of_wanted {P : Program} {w : World} {K : PySem.W.Frag} {mg : Str → Option Value} {base : Heap} {f : Addr} {cdv : Value} {A : Around} {outer : List Env} {s : Shared} {H : Hp} {E : XK} : Ss (cxOf (L2.CX P w) P w K mg base N_first_of "first_of" (defScope s_first_of) f cdv A outer s H E) 5 "wanted" := ⟨rfl, (by first | exact .inl rfl | exact .inr rfl), .inl rfl⟩
theorem ss_first_of_place {P : Program} {w : World} {K : PySem.W.Frag} {mg : Str → Option Value} {base : Heap} {f : Addr} {cdv : Value} {A : Around} {outer : List Env} {s : Shared} {H : Hp} {E : XK} : Ss (cxOf (L2.CX P w) P w K mg base N_first_of "first_of" (defScope s_first_of) f cdv A outer s H E) 6 "place" := ⟨rfl, (by first | exact .inl rfl | exact .inr rfl), .inl rfl⟩
theorem ss_first_of_rest_ {P : Program} {w : World} {K : PySem.W.Frag} {mg : Str → Option Value} {base : Heap} {f : Addr} {cdv : Value} {A : Around} {outer : List Env} {s : Shared} {H : Hp} {E : XK} : Ss (cxOf (L2.CX P w) P w K mg base N_first_of "first_of" (defScope s_first_of) f cdv A outer s H E) 7 "rest" := ⟨rfl, (by first | exact .inl rfl | exact .inr rfl), .inl rfl⟩
theorem ss_first_of_left {P : Program} {w : World} {K : PySem.W.Frag} {mg : Str → Option Value} {base : Heap} {f : Addr} {cdv : Value} {A : Around} {outer : List Env} {s : Shared} {H : Hp} {E : XK} : Ss (cxOf (L2.CX P w) P w K mg base N_first_of "first_of" (defScope s_first_of) f cdv A outer s H E) 8 "left" := ⟨rfl, (by first | exact .inl rfl | exact .inr rfl), .inl rfl⟩
theorem gl_first_of_enumerate {P : Program} {w : World} {K : PySem.W.Frag} {mg : Str → Option Value} {base : Heap} {f : Addr} {cdv : Value} {A : Around} {outer : List Env} {s : Shared} {H : Hp} {E : XK} : Gl (cxOf (L2.CX P w) P w K mg base N_first_of "first_of" (defScope s_first_of) f cdv A outer s H E) "enumerate" := by rfl
theorem gl_first_of_len {P : Program} {w : World} {K : PySem.W.Frag} {mg : Str → Option Value} {base : Heap} {f : Addr} {cdv : Value} {A : Around} {outer : List Env} {s : Shared} {H : Hp} {E : XK} : Gl (cxOf (L2.CX P w) P w K mg base N_first_of "first_of" (defScope s_first_of) f cdv A outer s H E) "len" := by rfl
section
local macro_rules | `(tactic| walk_at "ix") => `(tactic| first | omega | exact f_ix (by assumption) (by assumption) (by assumption) (by omega) | (subst_vars; exact f_ix (by first | assumption | rfl) (by assumption) (by assumption) (by omega)) | (simp only [decide_eq_false_iff_not] at *; omega) | fail)
local macro_rules | `(tactic| walk_at "inv0") => `(tactic| first | omega | (subst_vars; refine f_start (by first | assumption | rfl) (by omega) (by omega) ?_; simp_all; done) | fail)
local macro_rules | `(tactic| walk_at "invx") => `(tactic| first | (subst_vars; exact (f_take (by first | assumption | rfl) (by assumption) (by omega) (by assumption)).cast (by first | omega | (simp only [List.length_append, List.length_cons, List.length_nil]; omega)) (by first | rfl | assumption)) | (subst_vars; exact f_skip (by first | assumption | rfl) (by assumption) (by omega) (by assumption) (by assumption)) | fail)
theorem cal_first_of {P : Program} {w : World} {K : PySem.W.Frag} {mg : Str → Option Value} {base : Heap} {f : Addr} {fd : FuncData} (T : Txt K mg) (F : Fun K "first_of" "first_of" s_first_of f fd) (hm : mg "first_of" = some (.ref f)) (hb : Binds K fd ["some", "modulus", "many", "found"] [])  : Cal P w K mg base 1 "first_of" (Sp4 K true (fun (some_ : (List Int)) (modulus : Int) (many : Int) (found : (List (List (Dct Int Int)))) => some_.length ≤ 1000 ∧ 1 ≤ modulus ∧ modulus ≤ 1000 ∧ 0 ≤ many ∧ found = m_ways_on some_ modulus) m_first_of) := by
  refine fn4 F hm hb sc_first_of rfl fun cdv A outer s H0 E hr G0 v_some_ v_modulus v_many v_found some_ modulus many found D s0 r_some_ r_modulus r_many r_found hp fin => ?_
  have x0_0 : Ext G0 H0 G0 H0 := Ext.refl s0
  show tSs _ _ D [some v_some_, some v_modulus, some v_many, some v_found, none, none, none, none, none] H0
  have hpc := hp; obtain ⟨hp_0, hp_1, hp_2, hp_3, hp_4⟩ := hpc
  have hfl := f_ix0 hp.2.2.2.2
  have tk : m_first_of some_ modulus many found = _ := rfl
  refine b_cons (s_if x0_0.s (et_w (ew_or (et_cmp c_ge (ev_v (sl_first_of_many) r_many) (ev_len ⟨gl_first_of_len, T.b_len⟩ (ev_ix [] (ev_v (sl_first_of_found) r_found) ev_int (by walk_at "sc") (by walk_at "ix")))) fun c1 => (ew_or1 (et_dnin (hu1 hr) ev_int (ev_ix (⟨[]⟩ : (Dct Int Int)) (ev_ix [] (ev_v (sl_first_of_found) r_found) ev_int (by walk_at "sc") (by walk_at "ix")) (ev_v (sl_first_of_many) r_many) (by walk_at "sc") (by walk_at "ix")))))) (fun h2 G1 H1 x3 l1 => ?_) (fun h2 G1 H1 x3 l1 => ?_))
  · have tk := tk_tt tk h2
    have h2_ := h2; try simp only [Bool.and_eq_true, Bool.or_eq_true, Bool.and_eq_false_iff, Bool.or_eq_false_iff, Bool.not_eq_true', Bool.not_eq_false', decide_eq_true_eq, decide_eq_false_iff_not, Classical.not_not] at h2_
    have x0_1 := x0_0.trans x3
    show tSs _ _ _ [some v_some_, some v_modulus, some v_many, some v_found, none, none, none, none, none] _
    refine b_cons (s_ret x0_1.s (ev_none (α := (List Int))) fun G_ H_ v5 x4 _ r_ => ?_)
    exact fin.rt _ _ _ (x0_1.trans x4) (rep_of tk r_) (fun _ p z => by cases (show _ = V.non from r_).symm.trans z)
  · have tk := tk_ff tk h2
    have h2_ := h2; try simp only [Bool.and_eq_true, Bool.or_eq_true, Bool.and_eq_false_iff, Bool.or_eq_false_iff, Bool.not_eq_true', Bool.not_eq_false', decide_eq_true_eq, decide_eq_false_iff_not, Classical.not_not] at h2_
    have x0_1 := x0_0.trans x3
    show tSs _ _ _ [some v_some_, some v_modulus, some v_many, some v_found, none, none, none, none, none] _
    refine b_nil ?_
    show tSs _ _ _ [some v_some_, some v_modulus, some v_many, some v_found, none, none, none, none, none] _
    refine b_cons (s_nil (α := Int) sc_first_of.nd ss_first_of_places x0_1.s fun H2 q_places x6 l2 n_q_places o2_places => ?_)
    have x0_2 := x0_1.trans x6
    have m_q_places := x0_1.h.free n_q_places
    show tSs _ _ _ [some v_some_, some v_modulus, some v_many, some v_found, some (.ref q_places), none, none, none, none] _
    refine b_cons (s_set sc_first_of.nd ss_first_of_wanted x0_2.s ev_int fun G3 H3 v3_wanted x7 l3 r3_wanted => ?_)
    have x0_3 := x0_2.trans x7
    have o3_places := o2_places.mono x7
    show tSs _ _ _ [some v_some_, some v_modulus, some v_many, some v_found, some (.ref q_places), some v3_wanted, none, none, none] _
    refine b_cons (s_for (T := (T2 K 6 7)) (passes_of rfl) rfl (pg_tup rfl (pgs_cons (pg_name (i := 6) sc_first_of.nd rfl ss_first_of_place.hx) (pgs_cons (pg_name (i := 7) sc_first_of.nd rfl ss_first_of_rest_.hx) pgs_nil))) acts2 x0_3.s (ei_enum ⟨gl_first_of_enumerate, T.b_enumerate⟩ (ev_v (sl_first_of_some_) (up (x3.g.trans ((Same.refl _).trans x7.g)) r_some_))) (fun rest σ G H => ∃ (places : (List Int)) (wanted : Int), lfold (m_first_of_1s modulus many found) rest (places, wanted) = lfold (m_first_of_1s modulus many found) (enum some_) (([] : (List Int)), (0 : Int)) ∧ Ext G0 H0 G H ∧ ∃ (u1_wanted : V) (y1_6 y1_7 y1_8 : Option V), σ = [some v_some_, some v_modulus, some v_many, some v_found, some (.ref q_places), some u1_wanted, y1_6, y1_7, y1_8] ∧ Own K G H q_places places ∧ rep K G u1_wanted wanted ∧ places.length + 1 * rest.length ≤ ([] : (List Int)).length + 1 * (enum some_).length ∧ GInv modulus (rest.map (·.2)) (many - (places.length : Int)) wanted) (fun _ _ x => ⟨([] : (List Int)), (0 : Int), rfl, x0_3.trans x, v3_wanted, none, none, none, rfl, o3_places.mono x, up x.g r3_wanted, by walk_at "inv0", by walk_at "inv0"⟩) ?_ ?_)
    · intro z1 rest σ1 G4 H4 G5 H5 σ2 hx1 sgA5 sh1 I_ x8 l5 hT
      obtain ⟨places, wanted, es1, x0_4, u1_wanted, y1_6, y1_7, y1_8, rfl, o4_places, ru1_wanted, inv1_0, inv1_1⟩ := I_
      have x0_5 := x0_4.trans x8
      have o5_places := o4_places.mono x8
      obtain ⟨t1a, t1b, rt1a, rt1b, rfl⟩ := hT
      have inv1_0_ := inv1_0; try simp only [List.length_cons, List.length_nil] at inv1_0_
      have inv1_1_ := inv1_1; try simp only [List.length_cons, List.length_nil] at inv1_1_
      have mem1 := mem_of hx1.1
      have hlx1 := hx1.2; rw [sizeLine_eq] at hlx1
      have hlr1 := mem_len hx1.1
      obtain ⟨l_, hl_⟩ := hx1.1
      have es := enum_split hl_
      have tk1 := tk
      have tk : m_first_of_1s modulus many found z1 (places, wanted) = _ := rfl
      show tSs _ _ _ [some v_some_, some v_modulus, some v_many, some v_found, some (.ref q_places), some u1_wanted, some t1a, some t1b, y1_8] _
      refine b_cons (s_set sc_first_of.nd ss_first_of_left x0_5.s (ev_bin b_sub (ev_v (sl_first_of_many) (up (x3.g.trans ((Same.refl _).trans (x7.g.trans (sgA5.trans x8.g)))) r_many)) (ev_len ⟨gl_first_of_len, T.b_len⟩ (ev_vO (sl_first_of_places) o5_places))) fun G6 H6 v6_left x9 l6 r6_left => ?_)
      have x0_6 := x0_5.trans x9
      have o6_places := o5_places.mono x9
      show tSs _ _ _ [some v_some_, some v_modulus, some v_many, some v_found, some (.ref q_places), some u1_wanted, some t1a, some t1b, some v6_left] _
      obtain ⟨left, e10⟩ : ∃ z, z = (many - ((places).length : Int)) := ⟨_, rfl⟩
      rw [← e10] at r6_left
      have tk : _ = m_first_of_3 modulus found places wanted z1 left := tk.trans (by first | (rw [e10] <;> rfl) | rfl)
      refine b_cons (s_if x0_6.s (et_w (ew_and (et_cmp c_gt (ev_v (sl_first_of_left) r6_left) ev_int) fun c11 => (ew_and1 (et_din (hu1 hr) (ev_bin (b_mod (by walk_at "sc")) (ev_bin b_sub (ev_v (sl_first_of_wanted) (up (x8.g.trans x9.g) ru1_wanted)) (ev_v (sl_first_of_rest_) (up x9.g rt1b))) (ev_v (sl_first_of_modulus) (up (x3.g.trans ((Same.refl _).trans (x7.g.trans (sgA5.trans (x8.g.trans x9.g))))) r_modulus))) (ev_ix (⟨[]⟩ : (Dct Int Int)) (ev_ix [] (ev_v (sl_first_of_found) (up (x3.g.trans ((Same.refl _).trans (x7.g.trans (sgA5.trans (x8.g.trans x9.g))))) r_found)) (ev_bin b_add (ev_v (sl_first_of_place) (up x9.g rt1a)) ev_int) (by walk_at "sc") (by walk_at "ix")) (ev_bin b_sub (ev_v (sl_first_of_left) r6_left) ev_int) (by walk_at "sc") (by walk_at "ix")))))) (fun h12 G7 H7 x13 l7 => ?_) (fun h12 G7 H7 x13 l7 => ?_))
      · have tk := tk_tt tk h12
        have h12_ := h12; try simp only [Bool.and_eq_true, Bool.or_eq_true, Bool.and_eq_false_iff, Bool.or_eq_false_iff, Bool.not_eq_true', Bool.not_eq_false', decide_eq_true_eq, decide_eq_false_iff_not, Classical.not_not] at h12_
        have x0_7 := x0_6.trans x13
        have o7_places := o6_places.mono x13
        show tSs _ _ _ [some v_some_, some v_modulus, some v_many, some v_found, some (.ref q_places), some u1_wanted, some t1a, some t1b, some v6_left] _
        refine b_cons (s_append (sl_first_of_places) x0_7.s o7_places (ev_v (sl_first_of_place) (up (x9.g.trans x13.g) rt1a)) (by walk_at "sz") fun G8 H8_ us15 x14 l8 o8_places => ?_)
        have x0_8 := (x0_7.trans x14).wr (o := .lst us15) m_q_places o8_places.off
        show tSs _ _ _ [some v_some_, some v_modulus, some v_many, some v_found, some (.ref q_places), some u1_wanted, some t1a, some t1b, some v6_left] _
        refine b_cons (s_set sc_first_of.nd ss_first_of_wanted x0_8.s (ev_bin (b_mod (by walk_at "sc")) (ev_bin b_sub (ev_v (sl_first_of_wanted) (up (x8.g.trans (x9.g.trans (x13.g.trans x14.g))) ru1_wanted)) (ev_v (sl_first_of_rest_) (up (x9.g.trans (x13.g.trans x14.g)) rt1b))) (ev_v (sl_first_of_modulus) (up (x3.g.trans ((Same.refl _).trans (x7.g.trans (sgA5.trans (x8.g.trans (x9.g.trans (x13.g.trans x14.g))))))) r_modulus))) fun G9 H9 v9_wanted x16 l9 r9_wanted => ?_)
        have x0_9 := x0_8.trans x16
        have o9_places := o8_places.mono x16
        show tSs _ _ _ [some v_some_, some v_modulus, some v_many, some v_found, some (.ref q_places), some v9_wanted, some t1a, some t1b, some v6_left] _
        obtain ⟨wanted, e17⟩ : ∃ z, z = ((wanted - z1.2) % modulus) := ⟨_, rfl⟩
        rw [← e17] at r9_wanted
        have tk : _ = m_first_of_4 places wanted z1 := tk.trans (by first | (rw [e17] <;> rfl) | rfl)
        refine b_nil ?_
        show tSs _ _ _ [some v_some_, some v_modulus, some v_many, some v_found, some (.ref q_places), some v9_wanted, some t1a, some t1b, some v6_left] _
        refine b_nil ?_
        exact ⟨_, x9.g.trans (x13.g.trans (x14.g.trans x16.g)), x0_9.s, (places ++ [z1.1]), wanted, lfold_nxt es1 tk, x0_9, v9_wanted, some t1a, some t1b, some v6_left, rfl, o9_places, r9_wanted, by have hi := inv1_0; (try simp only [List.length_cons, List.length_nil, List.length_append, rng_len, enum_len] at hi ⊢); first | omega | walk_at "invx", by have hi := inv1_1; (try simp only [List.length_cons, List.length_nil, List.length_append, rng_len, enum_len] at hi ⊢); first | omega | walk_at "invx"⟩
      · have tk := tk_ff tk h12
        have h12_ := h12; try simp only [Bool.and_eq_true, Bool.or_eq_true, Bool.and_eq_false_iff, Bool.or_eq_false_iff, Bool.not_eq_true', Bool.not_eq_false', decide_eq_true_eq, decide_eq_false_iff_not, Classical.not_not] at h12_
        have x0_7 := x0_6.trans x13
        have o7_places := o6_places.mono x13
        show tSs _ _ _ [some v_some_, some v_modulus, some v_many, some v_found, some (.ref q_places), some u1_wanted, some t1a, some t1b, some v6_left] _
        refine b_nil ?_
        show tSs _ _ _ [some v_some_, some v_modulus, some v_many, some v_found, some (.ref q_places), some u1_wanted, some t1a, some t1b, some v6_left] _
        refine b_nil ?_
        exact ⟨_, x9.g.trans x13.g, x0_7.s, places, wanted, lfold_nxt es1 tk, x0_7, u1_wanted, some t1a, some t1b, some v6_left, rfl, o7_places, (up (x8.g.trans (x9.g.trans x13.g)) ru1_wanted), by have hi := inv1_0; (try simp only [List.length_cons, List.length_nil, List.length_append, rng_len, enum_len] at hi ⊢); first | omega | walk_at "invx", by have hi := inv1_1; (try simp only [List.length_cons, List.length_nil, List.length_append, rng_len, enum_len] at hi ⊢); first | omega | walk_at "invx"⟩
    · intro σ1 G10 H10 sgC10 sh1 I_
      obtain ⟨places, wanted, es1, x0_10, u1_wanted, y1_6, y1_7, y1_8, rfl, o10_places, ru1_wanted, inv1_0, inv1_1⟩ := I_
      have tk := tk_fold (k := m_first_of_2) tk es1
      have inv1_0_ := inv1_0; try simp only [List.length_cons, List.length_nil, rng_len, enum_len] at inv1_0_
      have inv1_1_ := inv1_1; try simp only [List.length_cons, List.length_nil, rng_len, enum_len] at inv1_1_
      show tSs _ _ _ [some v_some_, some v_modulus, some v_many, some v_found, some (.ref q_places), some u1_wanted, y1_6, y1_7, y1_8] _
      obtain ⟨G11, x0_11, sg11, r11_places⟩ := o10_places.frz x0_10 m_q_places
      refine b_cons (s_retV (sl_first_of_places) x0_11.s ?_)
      exact fin.rt _ _ _ x0_11 (rep_of tk r11_places) (fun _ p z => by cases z; exact m_q_places)
end

abbrev N_fewest_hit : List Str := ["row", "modulus", "some", "found", "many"]
theorem sc_fewest_hit : FnScope N_fewest_hit ["row", "modulus"] (defScope s_fewest_hit) := ⟨rfl, rfl, rfl, by decide +kernel, rfl, by decide +kernel, by decide +kernel⟩
theorem sl_fewest_hit_found {P : Program} {w : World} {K : PySem.W.Frag} {mg : Str → Option Value} {base : Heap} {f : Addr} {cdv : Value} {A : Around} {outer : List Env} {s : Shared} {H : Hp} {E : XK} : Sl (cxOf (L2.CX P w) P w K mg base N_fewest_hit "fewest_hit" (defScope s_fewest_hit) f cdv A outer s H E) 3 "found" := ⟨rfl, (by first | exact .inl rfl | exact .inr (.inl rfl)), nm_found⟩
theorem sl_fewest_hit_many {P : Program} {w : World} {K : PySem.W.Frag} {mg : Str → Option Value} {base : Heap} {f : Addr} {cdv : Value} {A : Around} {outer : List Env} {s : Shared} {H : Hp} {E : XK} : Sl (cxOf (L2.CX P w) P w K mg base N_fewest_hit "fewest_hit" (defScope s_fewest_hit) f cdv A outer s H E) 4 "many" := ⟨rfl, (by first | exact .inl rfl | exact .inr (.inl rfl)), nm_many⟩
theorem sl_fewest_hit_modulus {P : Program} {w : World} {K : PySem.W.Frag} {mg : Str → Option Value} {base : Heap} {f : Addr} {cdv : Value} {A : Around} {outer : List Env} {s : Shared} {H : Hp} {E : XK} : Sl (cxOf (L2.CX P w) P w K mg base N_fewest_hit "fewest_hit" (defScope s_fewest_hit) f cdv A outer s H E) 1 "modulus" := ⟨rfl, (by first | exact .inl rfl | exact .inr (.inl rfl)), nm_modulus⟩
theorem sl_fewest_hit_row {P : Program} {w : World} {K : PySem.W.Frag} {mg : Str → Option Value} {base : Heap} {f : Addr} {cdv : Value} {A : Around} {outer : List Env} {s : Shared} {H : Hp} {E : XK} : Sl (cxOf (L2.CX P w) P w K mg base N_fewest_hit "fewest_hit" (defScope s_fewest_hit) f cdv A outer s H E) 0 "row" := ⟨rfl, (by first | exact .inl rfl | exact .inr (.inl rfl)), nm_row⟩
theorem sl_fewest_hit_some_ {P : Program} {w : World} {K : PySem.W.Frag} {mg : Str → Option Value} {base : Heap} {f : Addr} {cdv : Value} {A : Around} {outer : List Env} {s : Shared} {H : Hp} {E : XK} : Sl (cxOf (L2.CX P w) P w K mg base N_fewest_hit "fewest_hit" (defScope s_fewest_hit) f cdv A outer s H E) 2 "some" := ⟨rfl, (by first | exact .inl rfl | exact .inr (.inl rfl)), nm_some_⟩
theorem ss_fewest_hit_some_ {P : Program} {w : World} {K : PySem.W.Frag} {mg : Str → Option Value} {base : Heap} {f : Addr} {cdv : Value} {A : Around} {outer : List Env} {s : Shared} {H : Hp} {E : XK} : Ss (cxOf (L2.CX P w) P w K mg base N_fewest_hit "fewest_hit" (defScope s_fewest_hit) f cdv A outer s H E) 2 "some" := ⟨rfl, (by first | exact .inl rfl | exact .inr rfl), .inl rfl⟩
theorem ss_fewest_hit_found {P : Program} {w : World} {K : PySem.W.Frag} {mg : Str → Option Value} {base : Heap} {f : Addr} {cdv : Value} {A : Around} {outer : List Env} {s : Shared} {H : Hp} {E : XK} : Ss (cxOf (L2.CX P w) P w K mg base N_fewest_hit "fewest_hit" (defScope s_fewest_hit) f cdv A outer s H E) 3 "found" := ⟨rfl, (by first | exact .inl rfl | exact .inr rfl), .inl rfl⟩
theorem ss_fewest_hit_many {P : Program} {w : World} {K : PySem.W.Frag} {mg : Str → Option Value} {base : Heap} {f : Addr} {cdv : Value} {A : Around} {outer : List Env} {s : Shared} {H : Hp} {E : XK} : Ss (cxOf (L2.CX P w) P w K mg base N_fewest_hit "fewest_hit" (defScope s_fewest_hit) f cdv A outer s H E) 4 "many" := ⟨rfl, (by first | exact .inl rfl | exact .inr rfl), .inl rfl⟩
theorem gl_fewest_hit_first_of {P : Program} {w : World} {K : PySem.W.Frag} {mg : Str → Option Value} {base : Heap} {f : Addr} {cdv : Value} {A : Around} {outer : List Env} {s : Shared} {H : Hp} {E : XK} : Gl (cxOf (L2.CX P w) P w K mg base N_fewest_hit "fewest_hit" (defScope s_fewest_hit) f cdv A outer s H E) "first_of" := by rfl
theorem gl_fewest_hit_len {P : Program} {w : World} {K : PySem.W.Frag} {mg : Str → Option Value} {base : Heap} {f : Addr} {cdv : Value} {A : Around} {outer : List Env} {s : Shared} {H : Hp} {E : XK} : Gl (cxOf (L2.CX P w) P w K mg base N_fewest_hit "fewest_hit" (defScope s_fewest_hit) f cdv A outer s H E) "len" := by rfl
theorem gl_fewest_hit_range {P : Program} {w : World} {K : PySem.W.Frag} {mg : Str → Option Value} {base : Heap} {f : Addr} {cdv : Value} {A : Around} {outer : List Env} {s : Shared} {H : Hp} {E : XK} : Gl (cxOf (L2.CX P w) P w K mg base N_fewest_hit "fewest_hit" (defScope s_fewest_hit) f cdv A outer s H E) "range" := by rfl
theorem gl_fewest_hit_rests {P : Program} {w : World} {K : PySem.W.Frag} {mg : Str → Option Value} {base : Heap} {f : Addr} {cdv : Value} {A : Around} {outer : List Env} {s : Shared} {H : Hp} {E : XK} : Gl (cxOf (L2.CX P w) P w K mg base N_fewest_hit "fewest_hit" (defScope s_fewest_hit) f cdv A outer s H E) "rests" := by rfl
theorem gl_fewest_hit_ways_on {P : Program} {w : World} {K : PySem.W.Frag} {mg : Str → Option Value} {base : Heap} {f : Addr} {cdv : Value} {A : Around} {outer : List Env} {s : Shared} {H : Hp} {E : XK} : Gl (cxOf (L2.CX P w) P w K mg base N_fewest_hit "fewest_hit" (defScope s_fewest_hit) f cdv A outer s H E) "ways_on" := by rfl
section
local macro_rules | `(tactic| walk_at "ix") => `(tactic| first | omega | (subst_vars; exact w_ix (by omega) (by omega)) | (rw [f_ix0 (by assumption)]; omega) | fail)
local macro_rules | `(tactic| walk_at "pre") => `(tactic| first | exact ⟨by omega, by omega, by omega, by omega, by assumption⟩ | (subst_vars; exact ⟨by omega, by omega, by omega, by omega, rfl⟩) | fail)
theorem cal_fewest_hit {P : Program} {w : World} {K : PySem.W.Frag} {mg : Str → Option Value} {base : Heap} {f : Addr} {fd : FuncData} (T : Txt K mg) (F : Fun K "fewest_hit" "fewest_hit" s_fewest_hit f fd) (hm : mg "fewest_hit" = some (.ref f)) (hb : Binds K fd ["row", "modulus"] []) (C_rests : Cal P w K mg base 2 "rests" (Sp2 K true (fun (row : (List Int)) (modulus : Int) => 1 ≤ modulus) m_rests)) (C_ways_on : Cal P w K mg base 1 "ways_on" (Sp2 K true (fun (some_ : (List Int)) (modulus : Int) => some_.length ≤ 1000 ∧ 1 ≤ modulus ∧ modulus ≤ 1000) m_ways_on)) (C_first_of : Cal P w K mg base 1 "first_of" (Sp4 K true (fun (some_ : (List Int)) (modulus : Int) (many : Int) (found : (List (List (Dct Int Int)))) => some_.length ≤ 1000 ∧ 1 ≤ modulus ∧ modulus ≤ 1000 ∧ 0 ≤ many ∧ found = m_ways_on some_ modulus) m_first_of)) : Cal P w K mg base 3 "fewest_hit" (Sp2 K true (fun (row : (List Int)) (modulus : Int) => row.length ≤ 1000 ∧ 1 ≤ modulus ∧ modulus ≤ 1000) m_fewest_hit) := by
  refine fn2 F hm hb sc_fewest_hit rfl fun cdv A outer s H0 E hr G0 v_row v_modulus row modulus D s0 r_row r_modulus hp fin => ?_
  have x0_0 : Ext G0 H0 G0 H0 := Ext.refl s0
  show tSs _ _ D [some v_row, some v_modulus, none, none, none] H0
  have hpc := hp; obtain ⟨hp_0, hp_1, hp_2⟩ := hpc
  have tk : m_fewest_hit row modulus = _ := rfl
  have fc1 := post_rests row modulus (by walk_at "pre")
  refine b_cons (s_set sc_fewest_hit.nd ss_fewest_hit_some_ x0_0.s (ev_c2 C_rests (hr.mono (by decide)) gl_fewest_hit_rests (ev_v (sl_fewest_hit_row) r_row) (ev_v (sl_fewest_hit_modulus) r_modulus) (by walk_at "pre")) fun G1 H1 v1_some_ x2 l1 r1_some_ => ?_)
  have x0_1 := x0_0.trans x2
  show tSs _ _ _ [some v_row, some v_modulus, some v1_some_, none, none] _
  obtain ⟨some_, e3⟩ : ∃ z, z = (m_rests row modulus) := ⟨_, rfl⟩
  rw [← e3] at r1_some_
  have tk : _ = m_fewest_hit_1 modulus some_ := tk.trans (by first | (rw [e3] <;> rfl) | rfl)
  have p_e3 := post_rests row modulus (by walk_at "pre"); rw [← e3] at p_e3; (try simp only [rep_len, rep_len2] at p_e3)
  have g_e3 := congrArg List.length e3; try simp only [List.length_append, List.length_cons, List.length_nil, rng_len, List.length_map, List.length_reverse, psort_len, isort_len] at g_e3
  have fc4 := post_ways_on some_ modulus (by walk_at "pre")
  refine b_cons (s_set sc_fewest_hit.nd ss_fewest_hit_found x0_1.s (ev_c2 C_ways_on (hr.mono (by decide)) gl_fewest_hit_ways_on (ev_v (sl_fewest_hit_some_) r1_some_) (ev_v (sl_fewest_hit_modulus) (up x2.g r_modulus)) (by walk_at "pre")) fun G2 H2 v2_found x5 l2 r2_found => ?_)
  have x0_2 := x0_1.trans x5
  show tSs _ _ _ [some v_row, some v_modulus, some v1_some_, some v2_found, none] _
  obtain ⟨found, e6⟩ : ∃ z, z = (m_ways_on some_ modulus) := ⟨_, rfl⟩
  rw [← e6] at r2_found
  have tk : _ = m_fewest_hit_2 modulus some_ found := tk.trans (by first | (rw [e6] <;> rfl) | rfl)
  have p_e6 := post_ways_on some_ modulus (by walk_at "pre"); rw [← e6] at p_e6; (try simp only [rep_len, rep_len2] at p_e6)
  have g_e6 := congrArg List.length e6; try simp only [List.length_append, List.length_cons, List.length_nil, rng_len, List.length_map, List.length_reverse, psort_len, isort_len] at g_e6
  refine b_cons (s_for (T := (T1 K 4)) (passes_of rfl) rfl (pg_name (i := 4) sc_fewest_hit.nd rfl ss_fewest_hit_many.hx) acts1 x0_2.s (ei_range2 ⟨gl_fewest_hit_range, T.b_range⟩ ev_int (ev_bin b_add (ev_len ⟨gl_fewest_hit_len, T.b_len⟩ (ev_v (sl_fewest_hit_some_) (up x5.g r1_some_))) ev_int) ⟨⟨(by walk_at "sc"), (by walk_at "sc")⟩, (by walk_at "sc"), (by walk_at "sc"), (by walk_at "sc")⟩) (fun rest σ G H => lrun (m_fewest_hit_3s modulus some_ found) rest () = lrun (m_fewest_hit_3s modulus some_ found) (rng (1 : Int) (((some_).length : Int) + (1 : Int))) () ∧ Ext G0 H0 G H ∧ ∃ (y1_4 : Option V), σ = [some v_row, some v_modulus, some v1_some_, some v2_found, y1_4]) (fun _ _ x => ⟨rfl, x0_2.trans x, none, rfl⟩) ?_ ?_)
  · intro many rest σ1 G3 H3 G4 H4 σ2 hx1 sgA4 sh1 I_ x7 l4 hT
    obtain ⟨es1, x0_3, y1_4, rfl⟩ := I_
    have x0_4 := x0_3.trans x7
    obtain ⟨t1, rt1, rfl⟩ := hT
    have mem1 := mem_of hx1.1
    have hlx1 := hx1.2; rw [sizeLine_eq] at hlx1
    have hlr1 := mem_len hx1.1
    have tk1 := tk
    have mem1_ := mem_rng.mp mem1
    have tk : m_fewest_hit_3s modulus some_ found many () = _ := rfl
    show tSs _ _ _ [some v_row, some v_modulus, some v1_some_, some v2_found, some t1] _
    refine b_cons (s_if x0_4.s (et_din (hu1 hr) ev_int (ev_ix (⟨[]⟩ : (Dct Int Int)) (ev_ix [] (ev_v (sl_fewest_hit_found) (up (sgA4.trans x7.g) r2_found)) ev_int (by walk_at "sc") (by walk_at "ix")) (ev_v (sl_fewest_hit_many) rt1) (by walk_at "sc") (by walk_at "ix"))) (fun h8 G5 H5 x9 l5 => ?_) (fun h8 G5 H5 x9 l5 => ?_))
    · have tk := tk_tt tk h8
      have h8_ := h8; try simp only [Bool.and_eq_true, Bool.or_eq_true, Bool.and_eq_false_iff, Bool.or_eq_false_iff, Bool.not_eq_true', Bool.not_eq_false', decide_eq_true_eq, decide_eq_false_iff_not, Classical.not_not] at h8_
      have x0_5 := x0_4.trans x9
      show tSs _ _ _ [some v_row, some v_modulus, some v1_some_, some v2_found, some t1] _
      refine b_cons (s_retN_ x0_5.s (evN_c4 C_first_of (hr.mono (by decide)) gl_fewest_hit_first_of (ev_v (sl_fewest_hit_some_) (up (x5.g.trans (sgA4.trans (x7.g.trans x9.g))) r1_some_)) (ev_v (sl_fewest_hit_modulus) (up (x2.g.trans (x5.g.trans (sgA4.trans (x7.g.trans x9.g)))) r_modulus)) (ev_v (sl_fewest_hit_many) (up x9.g rt1)) (ev_v (sl_fewest_hit_found) (up (sgA4.trans (x7.g.trans x9.g)) r2_found)) (by walk_at "pre")) fun G_ H_ v11 x10 _ r_ n_ => ?_)
      exact fin.rt _ _ _ (x0_5.trans x10) (rep_of (tk_outR tk1 (lrun_ret es1 tk)) r_) (fun _ p z => x0_5.h.free (n_ p z))
    · have tk := tk_ff tk h8
      have h8_ := h8; try simp only [Bool.and_eq_true, Bool.or_eq_true, Bool.and_eq_false_iff, Bool.or_eq_false_iff, Bool.not_eq_true', Bool.not_eq_false', decide_eq_true_eq, decide_eq_false_iff_not, Classical.not_not] at h8_
      have x0_5 := x0_4.trans x9
      show tSs _ _ _ [some v_row, some v_modulus, some v1_some_, some v2_found, some t1] _
      refine b_nil ?_
      show tSs _ _ _ [some v_row, some v_modulus, some v1_some_, some v2_found, some t1] _
      refine b_nil ?_
      exact ⟨_, x9.g, x0_5.s, lrun_nxt es1 tk, x0_5, some t1, rfl⟩
  · intro σ1 G6 H6 sgC6 sh1 I_
    obtain ⟨es1, x0_6, y1_4, rfl⟩ := I_
    have tk := tk_outN (k := m_fewest_hit_4) tk es1
    show tSs _ _ _ [some v_row, some v_modulus, some v1_some_, some v2_found, y1_4] _
    refine b_cons (s_ret x0_6.s (ev_none (α := (List Int))) fun G_ H_ v13 x12 _ r_ => ?_)
    exact fin.rt _ _ _ (x0_6.trans x12) (rep_of tk r_) (fun _ p z => by cases (show _ = V.non from r_).symm.trans z)
end

abbrev N_hits_by_places : List Str := ["row", "modulus", "some", "ways"]
theorem sc_hits_by_places : FnScope N_hits_by_places ["row", "modulus"] (defScope s_hits_by_places) := ⟨rfl, rfl, rfl, by decide +kernel, rfl, by decide +kernel, by decide +kernel⟩
theorem sl_hits_by_places_modulus {P : Program} {w : World} {K : PySem.W.Frag} {mg : Str → Option Value} {base : Heap} {f : Addr} {cdv : Value} {A : Around} {outer : List Env} {s : Shared} {H : Hp} {E : XK} : Sl (cxOf (L2.CX P w) P w K mg base N_hits_by_places "hits_by_places" (defScope s_hits_by_places) f cdv A outer s H E) 1 "modulus" := ⟨rfl, (by first | exact .inl rfl | exact .inr (.inl rfl)), nm_modulus⟩
theorem sl_hits_by_places_row {P : Program} {w : World} {K : PySem.W.Frag} {mg : Str → Option Value} {base : Heap} {f : Addr} {cdv : Value} {A : Around} {outer : List Env} {s : Shared} {H : Hp} {E : XK} : Sl (cxOf (L2.CX P w) P w K mg base N_hits_by_places "hits_by_places" (defScope s_hits_by_places) f cdv A outer s H E) 0 "row" := ⟨rfl, (by first | exact .inl rfl | exact .inr (.inl rfl)), nm_row⟩
theorem sl_hits_by_places_some_ {P : Program} {w : World} {K : PySem.W.Frag} {mg : Str → Option Value} {base : Heap} {f : Addr} {cdv : Value} {A : Around} {outer : List Env} {s : Shared} {H : Hp} {E : XK} : Sl (cxOf (L2.CX P w) P w K mg base N_hits_by_places "hits_by_places" (defScope s_hits_by_places) f cdv A outer s H E) 2 "some" := ⟨rfl, (by first | exact .inl rfl | exact .inr (.inl rfl)), nm_some_⟩
theorem ss_hits_by_places_some_ {P : Program} {w : World} {K : PySem.W.Frag} {mg : Str → Option Value} {base : Heap} {f : Addr} {cdv : Value} {A : Around} {outer : List Env} {s : Shared} {H : Hp} {E : XK} : Ss (cxOf (L2.CX P w) P w K mg base N_hits_by_places "hits_by_places" (defScope s_hits_by_places) f cdv A outer s H E) 2 "some" := ⟨rfl, (by first | exact .inl rfl | exact .inr rfl), .inl rfl⟩
theorem gl_hits_by_places_rests {P : Program} {w : World} {K : PySem.W.Frag} {mg : Str → Option Value} {base : Heap} {f : Addr} {cdv : Value} {A : Around} {outer : List Env} {s : Shared} {H : Hp} {E : XK} : Gl (cxOf (L2.CX P w) P w K mg base N_hits_by_places "hits_by_places" (defScope s_hits_by_places) f cdv A outer s H E) "rests" := by rfl
theorem gl_hits_by_places_ways_on {P : Program} {w : World} {K : PySem.W.Frag} {mg : Str → Option Value} {base : Heap} {f : Addr} {cdv : Value} {A : Around} {outer : List Env} {s : Shared} {H : Hp} {E : XK} : Gl (cxOf (L2.CX P w) P w K mg base N_hits_by_places "hits_by_places" (defScope s_hits_by_places) f cdv A outer s H E) "ways_on" := by rfl
theorem cal_hits_by_places {P : Program} {w : World} {K : PySem.W.Frag} {mg : Str → Option Value} {base : Heap} {f : Addr} {fd : FuncData} (T : Txt K mg) (F : Fun K "hits_by_places" "hits_by_places" s_hits_by_places f fd) (hm : mg "hits_by_places" = some (.ref f)) (hb : Binds K fd ["row", "modulus"] []) (C_rests : Cal P w K mg base 2 "rests" (Sp2 K true (fun (row : (List Int)) (modulus : Int) => 1 ≤ modulus) m_rests)) (C_ways_on : Cal P w K mg base 1 "ways_on" (Sp2 K true (fun (some_ : (List Int)) (modulus : Int) => some_.length ≤ 1000 ∧ 1 ≤ modulus ∧ modulus ≤ 1000) m_ways_on)) : Cal P w K mg base 3 "hits_by_places" (Sp2 K true (fun (row : (List Int)) (modulus : Int) => row.length ≤ 1000 ∧ 1 ≤ modulus ∧ modulus ≤ 1000) m_hits_by_places) := by
  refine fn2 F hm hb sc_hits_by_places rfl fun cdv A outer s H0 E hr G0 v_row v_modulus row modulus D s0 r_row r_modulus hp fin => ?_
  have x0_0 : Ext G0 H0 G0 H0 := Ext.refl s0
  show tSs _ _ D [some v_row, some v_modulus, none, none] H0
  have hpc := hp; obtain ⟨hp_0, hp_1, hp_2⟩ := hpc
  have tk : m_hits_by_places row modulus = _ := rfl
  have fc1 := post_rests row modulus (by walk_at "pre")
  refine b_cons (s_set sc_hits_by_places.nd ss_hits_by_places_some_ x0_0.s (ev_c2 C_rests (hr.mono (by decide)) gl_hits_by_places_rests (ev_v (sl_hits_by_places_row) r_row) (ev_v (sl_hits_by_places_modulus) r_modulus) (by walk_at "pre")) fun G1 H1 v1_some_ x2 l1 r1_some_ => ?_)
  have x0_1 := x0_0.trans x2
  show tSs _ _ _ [some v_row, some v_modulus, some v1_some_, none] _
  obtain ⟨some_, e3⟩ : ∃ z, z = (m_rests row modulus) := ⟨_, rfl⟩
  rw [← e3] at r1_some_
  have tk : _ = m_hits_by_places_1 modulus some_ := tk.trans (by first | (rw [e3] <;> rfl) | rfl)
  have p_e3 := post_rests row modulus (by walk_at "pre"); rw [← e3] at p_e3; (try simp only [rep_len, rep_len2] at p_e3)
  have g_e3 := congrArg List.length e3; try simp only [List.length_append, List.length_cons, List.length_nil, rng_len, List.length_map, List.length_reverse, psort_len, isort_len] at g_e3
  refine b_cons (s_retN_ x0_1.s (evN_lc (lc1A (fun (ways : (Dct Int Int)) => ((dlook ways.kvs (0 : Int)).getD (0 : Int))) rfl sc_hits_by_places.nd (ei_list (ev_sl (ev_ix [] (ev_c2 C_ways_on (hr.mono (by decide)) gl_hits_by_places_ways_on (ev_v (sl_hits_by_places_some_) r1_some_) (ev_v (sl_hits_by_places_modulus) (up x2.g r_modulus)) (by walk_at "pre")) ev_int (by walk_at "sc") (by have := post_ways_on some_ modulus (by walk_at "pre"); walk_at "ix")) (eo_some ev_int) eo_none)) [("ways", 3)] (blkOk_by (N := N_hits_by_places) (sc := defScope s_hits_by_places) (by decide +kernel)) (fun _ _ _ _ _ => pg_name (i := 3) sc_hits_by_places.nd rfl (.inl rfl)) (fun ways v15 G5 H6 hx7 x4 r16 s9 s10 s11 s12 s13 => (ev_dget2 (hu1 hr) (ev_v ((⟨rfl, .inl rfl, nm_ways⟩ : Sl _ 3 _)) r16) ev_int ev_int)))) fun G_ H_ v18 x17 _ r_ n_ => ?_)
  exact fin.rt _ _ _ (x0_1.trans x17) (rep_of tk r_) (fun _ p z => x0_1.h.free (n_ p z))

abbrev N_how_many_hits : List Str := ["row", "modulus"]
theorem sc_how_many_hits : FnScope N_how_many_hits ["row", "modulus"] (defScope s_how_many_hits) := ⟨rfl, rfl, rfl, by decide +kernel, rfl, by decide +kernel, by decide +kernel⟩
theorem sl_how_many_hits_modulus {P : Program} {w : World} {K : PySem.W.Frag} {mg : Str → Option Value} {base : Heap} {f : Addr} {cdv : Value} {A : Around} {outer : List Env} {s : Shared} {H : Hp} {E : XK} : Sl (cxOf (L2.CX P w) P w K mg base N_how_many_hits "how_many_hits" (defScope s_how_many_hits) f cdv A outer s H E) 1 "modulus" := ⟨rfl, (by first | exact .inl rfl | exact .inr (.inl rfl)), nm_modulus⟩
theorem sl_how_many_hits_row {P : Program} {w : World} {K : PySem.W.Frag} {mg : Str → Option Value} {base : Heap} {f : Addr} {cdv : Value} {A : Around} {outer : List Env} {s : Shared} {H : Hp} {E : XK} : Sl (cxOf (L2.CX P w) P w K mg base N_how_many_hits "how_many_hits" (defScope s_how_many_hits) f cdv A outer s H E) 0 "row" := ⟨rfl, (by first | exact .inl rfl | exact .inr (.inl rfl)), nm_row⟩
theorem gl_how_many_hits_hits_by_places {P : Program} {w : World} {K : PySem.W.Frag} {mg : Str → Option Value} {base : Heap} {f : Addr} {cdv : Value} {A : Around} {outer : List Env} {s : Shared} {H : Hp} {E : XK} : Gl (cxOf (L2.CX P w) P w K mg base N_how_many_hits "how_many_hits" (defScope s_how_many_hits) f cdv A outer s H E) "hits_by_places" := by rfl
theorem gl_how_many_hits_sum {P : Program} {w : World} {K : PySem.W.Frag} {mg : Str → Option Value} {base : Heap} {f : Addr} {cdv : Value} {A : Around} {outer : List Env} {s : Shared} {H : Hp} {E : XK} : Gl (cxOf (L2.CX P w) P w K mg base N_how_many_hits "how_many_hits" (defScope s_how_many_hits) f cdv A outer s H E) "sum" := by rfl
theorem cal_how_many_hits {P : Program} {w : World} {K : PySem.W.Frag} {mg : Str → Option Value} {base : Heap} {f : Addr} {fd : FuncData} (T : Txt K mg) (F : Fun K "how_many_hits" "how_many_hits" s_how_many_hits f fd) (hm : mg "how_many_hits" = some (.ref f)) (hb : Binds K fd ["row", "modulus"] []) (C_hits_by_places : Cal P w K mg base 3 "hits_by_places" (Sp2 K true (fun (row : (List Int)) (modulus : Int) => row.length ≤ 1000 ∧ 1 ≤ modulus ∧ modulus ≤ 1000) m_hits_by_places)) : Cal P w K mg base 4 "how_many_hits" (Sp2 K false (fun (row : (List Int)) (modulus : Int) => row.length ≤ 1000 ∧ 1 ≤ modulus ∧ modulus ≤ 1000) m_how_many_hits) := by
  refine fn2 F hm hb sc_how_many_hits rfl fun cdv A outer s H0 E hr G0 v_row v_modulus row modulus D s0 r_row r_modulus hp fin => ?_
  have x0_0 : Ext G0 H0 G0 H0 := Ext.refl s0
  show tSs _ _ D [some v_row, some v_modulus] H0
  have hpc := hp; obtain ⟨hp_0, hp_1, hp_2⟩ := hpc
  have tk : m_how_many_hits row modulus = _ := rfl
  refine b_cons (s_ret x0_0.s (ev_sum ⟨gl_how_many_hits_sum, T.b_sum⟩ rfl (ev_c2 C_hits_by_places (hr.mono (by decide)) gl_how_many_hits_hits_by_places (ev_v (sl_how_many_hits_row) r_row) (ev_v (sl_how_many_hits_modulus) r_modulus) (by walk_at "pre"))) fun G_ H_ v2 x1 _ r_ => ?_)
  exact fin.rt _ _ _ (x0_0.trans x1) (rep_of tk r_) (fun z => nomatch z)

abbrev N_hit_of : List Str := ["row", "modulus", "many", "some"]
theorem sc_hit_of : FnScope N_hit_of ["row", "modulus", "many"] (defScope s_hit_of) := ⟨rfl, rfl, rfl, by decide +kernel, rfl, by decide +kernel, by decide +kernel⟩
theorem sl_hit_of_many {P : Program} {w : World} {K : PySem.W.Frag} {mg : Str → Option Value} {base : Heap} {f : Addr} {cdv : Value} {A : Around} {outer : List Env} {s : Shared} {H : Hp} {E : XK} : Sl (cxOf (L2.CX P w) P w K mg base N_hit_of "hit_of" (defScope s_hit_of) f cdv A outer s H E) 2 "many" := ⟨rfl, (by first | exact .inl rfl | exact .inr (.inl rfl)), nm_many⟩
theorem sl_hit_of_modulus {P : Program} {w : World} {K : PySem.W.Frag} {mg : Str → Option Value} {base : Heap} {f : Addr} {cdv : Value} {A : Around} {outer : List Env} {s : Shared} {H : Hp} {E : XK} : Sl (cxOf (L2.CX P w) P w K mg base N_hit_of "hit_of" (defScope s_hit_of) f cdv A outer s H E) 1 "modulus" := ⟨rfl, (by first | exact .inl rfl | exact .inr (.inl rfl)), nm_modulus⟩
theorem sl_hit_of_row {P : Program} {w : World} {K : PySem.W.Frag} {mg : Str → Option Value} {base : Heap} {f : Addr} {cdv : Value} {A : Around} {outer : List Env} {s : Shared} {H : Hp} {E : XK} : Sl (cxOf (L2.CX P w) P w K mg base N_hit_of "hit_of" (defScope s_hit_of) f cdv A outer s H E) 0 "row" := ⟨rfl, (by first | exact .inl rfl | exact .inr (.inl rfl)), nm_row⟩
theorem sl_hit_of_some_ {P : Program} {w : World} {K : PySem.W.Frag} {mg : Str → Option Value} {base : Heap} {f : Addr} {cdv : Value} {A : Around} {outer : List Env} {s : Shared} {H : Hp} {E : XK} : Sl (cxOf (L2.CX P w) P w K mg base N_hit_of "hit_of" (defScope s_hit_of) f cdv A outer s H E) 3 "some" := ⟨rfl, (by first | exact .inl rfl | exact .inr (.inl rfl)), nm_some_⟩
theorem ss_hit_of_some_ {P : Program} {w : World} {K : PySem.W.Frag} {mg : Str → Option Value} {base : Heap} {f : Addr} {cdv : Value} {A : Around} {outer : List Env} {s : Shared} {H : Hp} {E : XK} : Ss (cxOf (L2.CX P w) P w K mg base N_hit_of "hit_of" (defScope s_hit_of) f cdv A outer s H E) 3 "some" := ⟨rfl, (by first | exact .inl rfl | exact .inr rfl), .inl rfl⟩
theorem gl_hit_of_first_of {P : Program} {w : World} {K : PySem.W.Frag} {mg : Str → Option Value} {base : Heap} {f : Addr} {cdv : Value} {A : Around} {outer : List Env} {s : Shared} {H : Hp} {E : XK} : Gl (cxOf (L2.CX P w) P w K mg base N_hit_of "hit_of" (defScope s_hit_of) f cdv A outer s H E) "first_of" := by rfl
theorem gl_hit_of_need_count {P : Program} {w : World} {K : PySem.W.Frag} {mg : Str → Option Value} {base : Heap} {f : Addr} {cdv : Value} {A : Around} {outer : List Env} {s : Shared} {H : Hp} {E : XK} : Gl (cxOf (L2.CX P w) P w K mg base N_hit_of "hit_of" (defScope s_hit_of) f cdv A outer s H E) "need_count" := by rfl
theorem gl_hit_of_rests {P : Program} {w : World} {K : PySem.W.Frag} {mg : Str → Option Value} {base : Heap} {f : Addr} {cdv : Value} {A : Around} {outer : List Env} {s : Shared} {H : Hp} {E : XK} : Gl (cxOf (L2.CX P w) P w K mg base N_hit_of "hit_of" (defScope s_hit_of) f cdv A outer s H E) "rests" := by rfl
theorem gl_hit_of_ways_on {P : Program} {w : World} {K : PySem.W.Frag} {mg : Str → Option Value} {base : Heap} {f : Addr} {cdv : Value} {A : Around} {outer : List Env} {s : Shared} {H : Hp} {E : XK} : Gl (cxOf (L2.CX P w) P w K mg base N_hit_of "hit_of" (defScope s_hit_of) f cdv A outer s H E) "ways_on" := by rfl
theorem cal_hit_of {P : Program} {w : World} {K : PySem.W.Frag} {mg : Str → Option Value} {base : Heap} {f : Addr} {fd : FuncData} (T : Txt K mg) (F : Fun K "hit_of" "hit_of" s_hit_of f fd) (hm : mg "hit_of" = some (.ref f)) (hb : Binds K fd ["row", "modulus", "many"] []) (C_rests : Cal P w K mg base 2 "rests" (Sp2 K true (fun (row : (List Int)) (modulus : Int) => 1 ≤ modulus) m_rests)) (C_need_count : Cal P w K mg base 1 "need_count" (Sp2 K false (fun (many : Int) (least : Int) => least ≤ many) m_need_count)) (C_ways_on : Cal P w K mg base 1 "ways_on" (Sp2 K true (fun (some_ : (List Int)) (modulus : Int) => some_.length ≤ 1000 ∧ 1 ≤ modulus ∧ modulus ≤ 1000) m_ways_on)) (C_first_of : Cal P w K mg base 1 "first_of" (Sp4 K true (fun (some_ : (List Int)) (modulus : Int) (many : Int) (found : (List (List (Dct Int Int)))) => some_.length ≤ 1000 ∧ 1 ≤ modulus ∧ modulus ≤ 1000 ∧ 0 ≤ many ∧ found = m_ways_on some_ modulus) m_first_of)) : Cal P w K mg base 3 "hit_of" (Sp3 K true (fun (row : (List Int)) (modulus : Int) (many : Int) => row.length ≤ 1000 ∧ 1 ≤ modulus ∧ modulus ≤ 1000 ∧ 1 ≤ many) m_hit_of) := by
  refine fn3 F hm hb sc_hit_of rfl fun cdv A outer s H0 E hr G0 v_row v_modulus v_many row modulus many D s0 r_row r_modulus r_many hp fin => ?_
  have x0_0 : Ext G0 H0 G0 H0 := Ext.refl s0
  show tSs _ _ D [some v_row, some v_modulus, some v_many, none] H0
  have hpc := hp; obtain ⟨hp_0, hp_1, hp_2, hp_3⟩ := hpc
  have tk : m_hit_of row modulus many = _ := rfl
  have fc1 := post_rests row modulus (by walk_at "pre")
  refine b_cons (s_set sc_hit_of.nd ss_hit_of_some_ x0_0.s (ev_c2 C_rests (hr.mono (by decide)) gl_hit_of_rests (ev_v (sl_hit_of_row) r_row) (ev_v (sl_hit_of_modulus) r_modulus) (by walk_at "pre")) fun G1 H1 v1_some_ x2 l1 r1_some_ => ?_)
  have x0_1 := x0_0.trans x2
  show tSs _ _ _ [some v_row, some v_modulus, some v_many, some v1_some_] _
  obtain ⟨some_, e3⟩ : ∃ z, z = (m_rests row modulus) := ⟨_, rfl⟩
  rw [← e3] at r1_some_
  have tk : _ = m_hit_of_1 modulus many some_ := tk.trans (by first | (rw [e3] <;> rfl) | rfl)
  have p_e3 := post_rests row modulus (by walk_at "pre"); rw [← e3] at p_e3; (try simp only [rep_len, rep_len2] at p_e3)
  have g_e3 := congrArg List.length e3; try simp only [List.length_append, List.length_cons, List.length_nil, rng_len, List.length_map, List.length_reverse, psort_len, isort_len] at g_e3
  refine b_cons (s_expr x0_1.s (ev_c2 C_need_count (hr.mono (by decide)) gl_hit_of_need_count (ev_v (sl_hit_of_many) (up x2.g r_many)) ev_int (by walk_at "pre")) fun G2 H2 v5 x4 l2 _ => ?_)
  have x0_2 := x0_1.trans x4
  show tSs _ _ _ [some v_row, some v_modulus, some v_many, some v1_some_] _
  refine b_cons (s_retN_ x0_2.s (evN_c4 C_first_of (hr.mono (by decide)) gl_hit_of_first_of (ev_v (sl_hit_of_some_) (up x4.g r1_some_)) (ev_v (sl_hit_of_modulus) (up (x2.g.trans x4.g) r_modulus)) (ev_v (sl_hit_of_many) (up (x2.g.trans x4.g) r_many)) (ev_c2 C_ways_on (hr.mono (by decide)) gl_hit_of_ways_on (ev_v (sl_hit_of_some_) (up x4.g r1_some_)) (ev_v (sl_hit_of_modulus) (up (x2.g.trans x4.g) r_modulus)) (by walk_at "pre")) (by have := post_ways_on some_ modulus (by walk_at "pre"); walk_at "pre")) fun G_ H_ v7 x6 _ r_ n_ => ?_)
  exact fin.rt _ _ _ (x0_2.trans x6) (rep_of tk r_) (fun _ p z => x0_2.h.free (n_ p z))

abbrev N_come_to : List Str := ["row", "modulus", "many", "some"]
theorem sc_come_to : FnScope N_come_to ["row", "modulus", "many"] (defScope s_come_to) := ⟨rfl, rfl, rfl, by decide +kernel, rfl, by decide +kernel, by decide +kernel⟩
theorem sl_come_to_many {P : Program} {w : World} {K : PySem.W.Frag} {mg : Str → Option Value} {base : Heap} {f : Addr} {cdv : Value} {A : Around} {outer : List Env} {s : Shared} {H : Hp} {E : XK} : Sl (cxOf (L2.CX P w) P w K mg base N_come_to "come_to" (defScope s_come_to) f cdv A outer s H E) 2 "many" := ⟨rfl, (by first | exact .inl rfl | exact .inr (.inl rfl)), nm_many⟩
theorem sl_come_to_modulus {P : Program} {w : World} {K : PySem.W.Frag} {mg : Str → Option Value} {base : Heap} {f : Addr} {cdv : Value} {A : Around} {outer : List Env} {s : Shared} {H : Hp} {E : XK} : Sl (cxOf (L2.CX P w) P w K mg base N_come_to "come_to" (defScope s_come_to) f cdv A outer s H E) 1 "modulus" := ⟨rfl, (by first | exact .inl rfl | exact .inr (.inl rfl)), nm_modulus⟩
theorem sl_come_to_row {P : Program} {w : World} {K : PySem.W.Frag} {mg : Str → Option Value} {base : Heap} {f : Addr} {cdv : Value} {A : Around} {outer : List Env} {s : Shared} {H : Hp} {E : XK} : Sl (cxOf (L2.CX P w) P w K mg base N_come_to "come_to" (defScope s_come_to) f cdv A outer s H E) 0 "row" := ⟨rfl, (by first | exact .inl rfl | exact .inr (.inl rfl)), nm_row⟩
theorem sl_come_to_some_ {P : Program} {w : World} {K : PySem.W.Frag} {mg : Str → Option Value} {base : Heap} {f : Addr} {cdv : Value} {A : Around} {outer : List Env} {s : Shared} {H : Hp} {E : XK} : Sl (cxOf (L2.CX P w) P w K mg base N_come_to "come_to" (defScope s_come_to) f cdv A outer s H E) 3 "some" := ⟨rfl, (by first | exact .inl rfl | exact .inr (.inl rfl)), nm_some_⟩
theorem ss_come_to_some_ {P : Program} {w : World} {K : PySem.W.Frag} {mg : Str → Option Value} {base : Heap} {f : Addr} {cdv : Value} {A : Around} {outer : List Env} {s : Shared} {H : Hp} {E : XK} : Ss (cxOf (L2.CX P w) P w K mg base N_come_to "come_to" (defScope s_come_to) f cdv A outer s H E) 3 "some" := ⟨rfl, (by first | exact .inl rfl | exact .inr rfl), .inl rfl⟩
theorem gl_come_to_len {P : Program} {w : World} {K : PySem.W.Frag} {mg : Str → Option Value} {base : Heap} {f : Addr} {cdv : Value} {A : Around} {outer : List Env} {s : Shared} {H : Hp} {E : XK} : Gl (cxOf (L2.CX P w) P w K mg base N_come_to "come_to" (defScope s_come_to) f cdv A outer s H E) "len" := by rfl
theorem gl_come_to_need_count {P : Program} {w : World} {K : PySem.W.Frag} {mg : Str → Option Value} {base : Heap} {f : Addr} {cdv : Value} {A : Around} {outer : List Env} {s : Shared} {H : Hp} {E : XK} : Gl (cxOf (L2.CX P w) P w K mg base N_come_to "come_to" (defScope s_come_to) f cdv A outer s H E) "need_count" := by rfl
theorem gl_come_to_rests {P : Program} {w : World} {K : PySem.W.Frag} {mg : Str → Option Value} {base : Heap} {f : Addr} {cdv : Value} {A : Around} {outer : List Env} {s : Shared} {H : Hp} {E : XK} : Gl (cxOf (L2.CX P w) P w K mg base N_come_to "come_to" (defScope s_come_to) f cdv A outer s H E) "rests" := by rfl
theorem gl_come_to_sorted {P : Program} {w : World} {K : PySem.W.Frag} {mg : Str → Option Value} {base : Heap} {f : Addr} {cdv : Value} {A : Around} {outer : List Env} {s : Shared} {H : Hp} {E : XK} : Gl (cxOf (L2.CX P w) P w K mg base N_come_to "come_to" (defScope s_come_to) f cdv A outer s H E) "sorted" := by rfl
theorem gl_come_to_ways_on {P : Program} {w : World} {K : PySem.W.Frag} {mg : Str → Option Value} {base : Heap} {f : Addr} {cdv : Value} {A : Around} {outer : List Env} {s : Shared} {H : Hp} {E : XK} : Gl (cxOf (L2.CX P w) P w K mg base N_come_to "come_to" (defScope s_come_to) f cdv A outer s H E) "ways_on" := by rfl
section
local macro_rules | `(tactic| walk_at "d64") => `(tactic| first | exact ways_d64 _ (by omega) (by omega) | fail)
local macro_rules | `(tactic| walk_at "ix") => `(tactic| first | omega | exact ways_ix (by omega) | fail)
theorem cal_come_to {P : Program} {w : World} {K : PySem.W.Frag} {mg : Str → Option Value} {base : Heap} {f : Addr} {fd : FuncData} (T : Txt K mg) (F : Fun K "come_to" "come_to" s_come_to f fd) (hm : mg "come_to" = some (.ref f)) (hb : Binds K fd ["row", "modulus", "many"] []) (C_rests : Cal P w K mg base 2 "rests" (Sp2 K true (fun (row : (List Int)) (modulus : Int) => 1 ≤ modulus) m_rests)) (C_need_count : Cal P w K mg base 1 "need_count" (Sp2 K false (fun (many : Int) (least : Int) => least ≤ many) m_need_count)) (C_ways_on : Cal P w K mg base 1 "ways_on" (Sp2 K true (fun (some_ : (List Int)) (modulus : Int) => some_.length ≤ 1000 ∧ 1 ≤ modulus ∧ modulus ≤ 1000) m_ways_on)) : Cal P w K mg base 3 "come_to" (Sp3 K true (fun (row : (List Int)) (modulus : Int) (many : Int) => row.length ≤ 1000 ∧ 1 ≤ modulus ∧ modulus ≤ 63 ∧ 0 ≤ many) m_come_to) := by
  refine fn3 F hm hb sc_come_to rfl fun cdv A outer s H0 E hr G0 v_row v_modulus v_many row modulus many D s0 r_row r_modulus r_many hp fin => ?_
  have x0_0 : Ext G0 H0 G0 H0 := Ext.refl s0
  show tSs _ _ D [some v_row, some v_modulus, some v_many, none] H0
  have hpc := hp; obtain ⟨hp_0, hp_1, hp_2, hp_3⟩ := hpc
  have tk : m_come_to row modulus many = _ := rfl
  have fc1 := post_rests row modulus (by walk_at "pre")
  refine b_cons (s_set sc_come_to.nd ss_come_to_some_ x0_0.s (ev_c2 C_rests (hr.mono (by decide)) gl_come_to_rests (ev_v (sl_come_to_row) r_row) (ev_v (sl_come_to_modulus) r_modulus) (by walk_at "pre")) fun G1 H1 v1_some_ x2 l1 r1_some_ => ?_)
  have x0_1 := x0_0.trans x2
  show tSs _ _ _ [some v_row, some v_modulus, some v_many, some v1_some_] _
  obtain ⟨some_, e3⟩ : ∃ z, z = (m_rests row modulus) := ⟨_, rfl⟩
  rw [← e3] at r1_some_
  have tk : _ = m_come_to_1 modulus many some_ := tk.trans (by first | (rw [e3] <;> rfl) | rfl)
  have p_e3 := post_rests row modulus (by walk_at "pre"); rw [← e3] at p_e3; (try simp only [rep_len, rep_len2] at p_e3)
  have g_e3 := congrArg List.length e3; try simp only [List.length_append, List.length_cons, List.length_nil, rng_len, List.length_map, List.length_reverse, psort_len, isort_len] at g_e3
  refine b_cons (s_expr x0_1.s (ev_c2 C_need_count (hr.mono (by decide)) gl_come_to_need_count (ev_v (sl_come_to_many) (up x2.g r_many)) ev_int (by walk_at "pre")) fun G2 H2 v5 x4 l2 _ => ?_)
  have x0_2 := x0_1.trans x4
  show tSs _ _ _ [some v_row, some v_modulus, some v_many, some v1_some_] _
  refine b_cons (s_if x0_2.s (et_cmp c_gt (ev_v (sl_come_to_many) (up (x2.g.trans x4.g) r_many)) (ev_len ⟨gl_come_to_len, T.b_len⟩ (ev_v (sl_come_to_some_) (up x4.g r1_some_)))) (fun h6 G3 H3 x7 l3 => ?_) (fun h6 G3 H3 x7 l3 => ?_))
  · have tk := tk_tt tk h6
    have h6_ := h6; try simp only [Bool.and_eq_true, Bool.or_eq_true, Bool.and_eq_false_iff, Bool.or_eq_false_iff, Bool.not_eq_true', Bool.not_eq_false', decide_eq_true_eq, decide_eq_false_iff_not, Classical.not_not] at h6_
    have x0_3 := x0_2.trans x7
    show tSs _ _ _ [some v_row, some v_modulus, some v_many, some v1_some_] _
    refine b_cons (s_retN_ x0_3.s (evN_list (es_nil (α := Int))) fun G_ H_ v9 x8 _ r_ n_ => ?_)
    exact fin.rt _ _ _ (x0_3.trans x8) (rep_of tk r_) (fun _ p z => x0_3.h.free (n_ p z))
  · have tk := tk_ff tk h6
    have h6_ := h6; try simp only [Bool.and_eq_true, Bool.or_eq_true, Bool.and_eq_false_iff, Bool.or_eq_false_iff, Bool.not_eq_true', Bool.not_eq_false', decide_eq_true_eq, decide_eq_false_iff_not, Classical.not_not] at h6_
    have x0_3 := x0_2.trans x7
    show tSs _ _ _ [some v_row, some v_modulus, some v_many, some v1_some_] _
    refine b_nil ?_
    show tSs _ _ _ [some v_row, some v_modulus, some v_many, some v1_some_] _
    refine b_cons (s_retN_ x0_3.s (evN_sortedDI rfl ⟨gl_come_to_sorted, T.b_sorted⟩ (by walk_at "d64") (ev_ix (⟨[]⟩ : (Dct Int Int)) (ev_ix [] (ev_c2 C_ways_on (hr.mono (by decide)) gl_come_to_ways_on (ev_v (sl_come_to_some_) (up (x4.g.trans x7.g) r1_some_)) (ev_v (sl_come_to_modulus) (up (x2.g.trans (x4.g.trans x7.g)) r_modulus)) (by walk_at "pre")) ev_int (by walk_at "sc") (by have := post_ways_on some_ modulus (by walk_at "pre"); walk_at "ix")) (ev_v (sl_come_to_many) (up (x2.g.trans (x4.g.trans x7.g)) r_many)) (by walk_at "sc") (by have := post_ways_on some_ modulus (by walk_at "pre"); walk_at "ix"))) fun G_ H_ v11 x10 _ r_ n_ => ?_)
    exact fin.rt _ _ _ (x0_3.trans x10) (rep_of tk r_) (fun _ p z => x0_3.h.free (n_ p z))
end

abbrev N_sums_ahead : List Str := ["row", "modulus", "found", "rest"]
theorem sc_sums_ahead : FnScope N_sums_ahead ["row", "modulus"] (defScope s_sums_ahead) := ⟨rfl, rfl, rfl, by decide +kernel, rfl, by decide +kernel, by decide +kernel⟩
theorem sl_sums_ahead_found {P : Program} {w : World} {K : PySem.W.Frag} {mg : Str → Option Value} {base : Heap} {f : Addr} {cdv : Value} {A : Around} {outer : List Env} {s : Shared} {H : Hp} {E : XK} : Sl (cxOf (L2.CX P w) P w K mg base N_sums_ahead "sums_ahead" (defScope s_sums_ahead) f cdv A outer s H E) 2 "found" := ⟨rfl, (by first | exact .inl rfl | exact .inr (.inl rfl)), nm_found⟩
theorem sl_sums_ahead_modulus {P : Program} {w : World} {K : PySem.W.Frag} {mg : Str → Option Value} {base : Heap} {f : Addr} {cdv : Value} {A : Around} {outer : List Env} {s : Shared} {H : Hp} {E : XK} : Sl (cxOf (L2.CX P w) P w K mg base N_sums_ahead "sums_ahead" (defScope s_sums_ahead) f cdv A outer s H E) 1 "modulus" := ⟨rfl, (by first | exact .inl rfl | exact .inr (.inl rfl)), nm_modulus⟩
theorem sl_sums_ahead_rest_ {P : Program} {w : World} {K : PySem.W.Frag} {mg : Str → Option Value} {base : Heap} {f : Addr} {cdv : Value} {A : Around} {outer : List Env} {s : Shared} {H : Hp} {E : XK} : Sl (cxOf (L2.CX P w) P w K mg base N_sums_ahead "sums_ahead" (defScope s_sums_ahead) f cdv A outer s H E) 3 "rest" := ⟨rfl, (by first | exact .inl rfl | exact .inr (.inl rfl)), nm_rest_⟩
theorem sl_sums_ahead_row {P : Program} {w : World} {K : PySem.W.Frag} {mg : Str → Option Value} {base : Heap} {f : Addr} {cdv : Value} {A : Around} {outer : List Env} {s : Shared} {H : Hp} {E : XK} : Sl (cxOf (L2.CX P w) P w K mg base N_sums_ahead "sums_ahead" (defScope s_sums_ahead) f cdv A outer s H E) 0 "row" := ⟨rfl, (by first | exact .inl rfl | exact .inr (.inl rfl)), nm_row⟩
theorem ss_sums_ahead_found {P : Program} {w : World} {K : PySem.W.Frag} {mg : Str → Option Value} {base : Heap} {f : Addr} {cdv : Value} {A : Around} {outer : List Env} {s : Shared} {H : Hp} {E : XK} : Ss (cxOf (L2.CX P w) P w K mg base N_sums_ahead "sums_ahead" (defScope s_sums_ahead) f cdv A outer s H E) 2 "found" := ⟨rfl, (by first | exact .inl rfl | exact .inr rfl), .inl rfl⟩
theorem ss_sums_ahead_rest_ {P : Program} {w : World} {K : PySem.W.Frag} {mg : Str → Option Value} {base : Heap} {f : Addr} {cdv : Value} {A : Around} {outer : List Env} {s : Shared} {H : Hp} {E : XK} : Ss (cxOf (L2.CX P w) P w K mg base N_sums_ahead "sums_ahead" (defScope s_sums_ahead) f cdv A outer s H E) 3 "rest" := ⟨rfl, (by first | exact .inl rfl | exact .inr rfl), .inl rfl⟩
theorem gl_sums_ahead_rests {P : Program} {w : World} {K : PySem.W.Frag} {mg : Str → Option Value} {base : Heap} {f : Addr} {cdv : Value} {A : Around} {outer : List Env} {s : Shared} {H : Hp} {E : XK} : Gl (cxOf (L2.CX P w) P w K mg base N_sums_ahead "sums_ahead" (defScope s_sums_ahead) f cdv A outer s H E) "rests" := by rfl
theorem cal_sums_ahead {P : Program} {w : World} {K : PySem.W.Frag} {mg : Str → Option Value} {base : Heap} {f : Addr} {fd : FuncData} (T : Txt K mg) (F : Fun K "sums_ahead" "sums_ahead" s_sums_ahead f fd) (hm : mg "sums_ahead" = some (.ref f)) (hb : Binds K fd ["row", "modulus"] []) (C_rests : Cal P w K mg base 2 "rests" (Sp2 K true (fun (row : (List Int)) (modulus : Int) => 1 ≤ modulus) m_rests)) : Cal P w K mg base 3 "sums_ahead" (Sp2 K true (fun (row : (List Int)) (modulus : Int) => 1 ≤ modulus ∧ row.length ≤ 1000) m_sums_ahead) := by
  refine fn2 F hm hb sc_sums_ahead rfl fun cdv A outer s H0 E hr G0 v_row v_modulus row modulus D s0 r_row r_modulus hp fin => ?_
  have x0_0 : Ext G0 H0 G0 H0 := Ext.refl s0
  show tSs _ _ D [some v_row, some v_modulus, none, none] H0
  have hpc := hp; obtain ⟨hp_0, hp_1⟩ := hpc
  have tk : m_sums_ahead row modulus = _ := rfl
  refine b_cons (s_setO sc_sums_ahead.nd ss_sums_ahead_found x0_0.s (evN_list (es_cons ev_int es_nil)) fun G1 H1 q_found x1 l1 n_q_found o1_found => ?_)
  have x0_1 := x0_0.trans x1
  have m_q_found := x0_0.h.free n_q_found
  show tSs _ _ _ [some v_row, some v_modulus, some (.ref q_found), none] _
  have fc2 := post_rests row modulus (by walk_at "pre")
  refine b_cons (s_for (T := (T1 K 3)) (passes_of rfl) rfl (pg_name (i := 3) sc_sums_ahead.nd rfl ss_sums_ahead_rest_.hx) acts1 x0_1.s (ei_list (ev_c2 C_rests (hr.mono (by decide)) gl_sums_ahead_rests (ev_v (sl_sums_ahead_row) (up x1.g r_row)) (ev_v (sl_sums_ahead_modulus) (up x1.g r_modulus)) (by walk_at "pre"))) (fun rest σ G H => ∃ (found : (List Int)), lfold (m_sums_ahead_1s modulus) rest found = lfold (m_sums_ahead_1s modulus) (m_rests row modulus) ([(0 : Int)] : List Int) ∧ Ext G0 H0 G H ∧ ∃ (y1_3 : Option V), σ = [some v_row, some v_modulus, some (.ref q_found), y1_3] ∧ Own K G H q_found found ∧ found.length + 1 * rest.length ≤ ([(0 : Int)] : List Int).length + 1 * (m_rests row modulus).length ∧ 1 ≤ found.length) (fun _ _ x => ⟨([(0 : Int)] : List Int), rfl, x0_1.trans x, none, rfl, o1_found.mono x, by walk_at "inv0", by walk_at "inv0"⟩) ?_ ?_)
  · intro rest_ rest σ1 G2 H2 G3 H3 σ2 hx1 sgA3 sh1 I_ x3 l3 hT
    obtain ⟨found, es1, x0_2, y1_3, rfl, o2_found, inv1_0, inv1_1⟩ := I_
    have x0_3 := x0_2.trans x3
    have o3_found := o2_found.mono x3
    obtain ⟨t1, rt1, rfl⟩ := hT
    have inv1_0_ := inv1_0; try simp only [List.length_cons, List.length_nil] at inv1_0_
    have inv1_1_ := inv1_1; try simp only [List.length_cons, List.length_nil] at inv1_1_
    have mem1 := mem_of hx1.1
    have hlx1 := hx1.2; rw [sizeLine_eq] at hlx1
    have hlr1 := mem_len hx1.1
    have tk1 := tk
    have tk : m_sums_ahead_1s modulus rest_ found = _ := rfl
    show tSs _ _ _ [some v_row, some v_modulus, some (.ref q_found), some t1] _
    refine b_cons (s_append (sl_sums_ahead_found) x0_3.s o3_found (ev_bin (b_mod (by walk_at "sc")) (ev_bin b_add (ev_ixN (0 : Int) (j := (found).length - 1) (ev_vO (sl_sums_ahead_found) o3_found) (Ev.to (y := (-1 : Int)) (ev_neg ev_int) (by decide)) (by walk_at "ixn")) (ev_v (sl_sums_ahead_rest_) rt1)) (ev_v (sl_sums_ahead_modulus) (up (x1.g.trans (sgA3.trans x3.g)) r_modulus))) (by walk_at "sz") fun G4 H4_ us5 x4 l4 o4_found => ?_)
    have x0_4 := (x0_3.trans x4).wr (o := .lst us5) m_q_found o4_found.off
    show tSs _ _ _ [some v_row, some v_modulus, some (.ref q_found), some t1] _
    refine b_nil ?_
    exact ⟨_, x4.g, x0_4.s, (found ++ [((((found).getD ((found).length - 1) (0 : Int)) + rest_) % modulus)]), lfold_nxt es1 tk, x0_4, some t1, rfl, o4_found, by have hi := inv1_0; (try simp only [List.length_cons, List.length_nil, List.length_append, rng_len, enum_len] at hi ⊢); first | omega | walk_at "invx", by have hi := inv1_1; (try simp only [List.length_cons, List.length_nil, List.length_append, rng_len, enum_len] at hi ⊢); first | omega | walk_at "invx"⟩
  · intro σ1 G5 H5 sgC5 sh1 I_
    obtain ⟨found, es1, x0_5, y1_3, rfl, o5_found, inv1_0, inv1_1⟩ := I_
    have tk := tk_fold (k := m_sums_ahead_2) tk es1
    have inv1_0_ := inv1_0; try simp only [List.length_cons, List.length_nil, rng_len, enum_len] at inv1_0_
    have inv1_1_ := inv1_1; try simp only [List.length_cons, List.length_nil, rng_len, enum_len] at inv1_1_
    show tSs _ _ _ [some v_row, some v_modulus, some (.ref q_found), y1_3] _
    obtain ⟨G6, x0_6, sg6, r6_found⟩ := o5_found.frz x0_5 m_q_found
    refine b_cons (s_retV (sl_sums_ahead_found) x0_6.s ?_)
    exact fin.rt _ _ _ x0_6 (rep_of tk r6_found) (fun _ p z => by cases z; exact m_q_found)

abbrev N_first_stretch : List Str := ["row", "modulus", "last", "place", "ahead"]
theorem sc_first_stretch : FnScope N_first_stretch ["row", "modulus"] (defScope s_first_stretch) := ⟨rfl, rfl, rfl, by decide +kernel, rfl, by decide +kernel, by decide +kernel⟩
theorem sl_first_stretch_ahead {P : Program} {w : World} {K : PySem.W.Frag} {mg : Str → Option Value} {base : Heap} {f : Addr} {cdv : Value} {A : Around} {outer : List Env} {s : Shared} {H : Hp} {E : XK} : Sl (cxOf (L2.CX P w) P w K mg base N_first_stretch "first_stretch" (defScope s_first_stretch) f cdv A outer s H E) 4 "ahead" := ⟨rfl, (by first | exact .inl rfl | exact .inr (.inl rfl)), nm_ahead⟩
theorem sl_first_stretch_last {P : Program} {w : World} {K : PySem.W.Frag} {mg : Str → Option Value} {base : Heap} {f : Addr} {cdv : Value} {A : Around} {outer : List Env} {s : Shared} {H : Hp} {E : XK} : Sl (cxOf (L2.CX P w) P w K mg base N_first_stretch "first_stretch" (defScope s_first_stretch) f cdv A outer s H E) 2 "last" := ⟨rfl, (by first | exact .inl rfl | exact .inr (.inl rfl)), nm_last⟩
theorem sl_first_stretch_modulus {P : Program} {w : World} {K : PySem.W.Frag} {mg : Str → Option Value} {base : Heap} {f : Addr} {cdv : Value} {A : Around} {outer : List Env} {s : Shared} {H : Hp} {E : XK} : Sl (cxOf (L2.CX P w) P w K mg base N_first_stretch "first_stretch" (defScope s_first_stretch) f cdv A outer s H E) 1 "modulus" := ⟨rfl, (by first | exact .inl rfl | exact .inr (.inl rfl)), nm_modulus⟩
theorem sl_first_stretch_place {P : Program} {w : World} {K : PySem.W.Frag} {mg : Str → Option Value} {base : Heap} {f : Addr} {cdv : Value} {A : Around} {outer : List Env} {s : Shared} {H : Hp} {E : XK} : Sl (cxOf (L2.CX P w) P w K mg base N_first_stretch "first_stretch" (defScope s_first_stretch) f cdv A outer s H E) 3 "place" := ⟨rfl, (by first | exact .inl rfl | exact .inr (.inl rfl)), nm_place⟩
theorem sl_first_stretch_row {P : Program} {w : World} {K : PySem.W.Frag} {mg : Str → Option Value} {base : Heap} {f : Addr} {cdv : Value} {A : Around} {outer : List Env} {s : Shared} {H : Hp} {E : XK} : Sl (cxOf (L2.CX P w) P w K mg base N_first_stretch "first_stretch" (defScope s_first_stretch) f cdv A outer s H E) 0 "row" := ⟨rfl, (by first | exact .inl rfl | exact .inr (.inl rfl)), nm_row⟩
theorem ss_first_stretch_last {P : Program} {w : World} {K : PySem.W.Frag} {mg : Str → Option Value} {base : Heap} {f : Addr} {cdv : Value} {A : Around} {outer : List Env} {s : Shared} {H : Hp} {E : XK} : Ss (cxOf (L2.CX P w) P w K mg base N_first_stretch "first_stretch" (defScope s_first_stretch) f cdv A outer s H E) 2 "last" := ⟨rfl, (by first | exact .inl rfl | exact .inr rfl), .inl rfl⟩
theorem ss_first_stretch_place {P : Program} {w : World} {K : PySem.W.Frag} {mg : Str → Option Value} {base : Heap} {f : Addr} {cdv : Value} {A : Around} {outer : List Env} {s : Shared} {H : Hp} {E : XK} : Ss (cxOf (L2.CX P w) P w K mg base N_first_stretch "first_stretch" (defScope s_first_stretch) f cdv A outer s H E) 3 "place" := ⟨rfl, (by first | exact .inl rfl | exact .inr rfl), .inl rfl⟩
theorem ss_first_stretch_ahead {P : Program} {w : World} {K : PySem.W.Frag} {mg : Str → Option Value} {base : Heap} {f : Addr} {cdv : Value} {A : Around} {outer : List Env} {s : Shared} {H : Hp} {E : XK} : Ss (cxOf (L2.CX P w) P w K mg base N_first_stretch "first_stretch" (defScope s_first_stretch) f cdv A outer s H E) 4 "ahead" := ⟨rfl, (by first | exact .inl rfl | exact .inr rfl), .inl rfl⟩
theorem gl_first_stretch_enumerate {P : Program} {w : World} {K : PySem.W.Frag} {mg : Str → Option Value} {base : Heap} {f : Addr} {cdv : Value} {A : Around} {outer : List Env} {s : Shared} {H : Hp} {E : XK} : Gl (cxOf (L2.CX P w) P w K mg base N_first_stretch "first_stretch" (defScope s_first_stretch) f cdv A outer s H E) "enumerate" := by rfl
theorem gl_first_stretch_sums_ahead {P : Program} {w : World} {K : PySem.W.Frag} {mg : Str → Option Value} {base : Heap} {f : Addr} {cdv : Value} {A : Around} {outer : List Env} {s : Shared} {H : Hp} {E : XK} : Gl (cxOf (L2.CX P w) P w K mg base N_first_stretch "first_stretch" (defScope s_first_stretch) f cdv A outer s H E) "sums_ahead" := by rfl
theorem cal_first_stretch {P : Program} {w : World} {K : PySem.W.Frag} {mg : Str → Option Value} {base : Heap} {f : Addr} {fd : FuncData} (T : Txt K mg) (F : Fun K "first_stretch" "first_stretch" s_first_stretch f fd) (hm : mg "first_stretch" = some (.ref f)) (hb : Binds K fd ["row", "modulus"] []) (C_sums_ahead : Cal P w K mg base 3 "sums_ahead" (Sp2 K true (fun (row : (List Int)) (modulus : Int) => 1 ≤ modulus ∧ row.length ≤ 1000) m_sums_ahead)) : Cal P w K mg base 4 "first_stretch" (Sp2 K false (fun (row : (List Int)) (modulus : Int) => 1 ≤ modulus ∧ row.length ≤ 1000) m_first_stretch) := by
  refine fn2 F hm hb sc_first_stretch rfl fun cdv A outer s H0 E hr G0 v_row v_modulus row modulus D s0 r_row r_modulus hp fin => ?_
  have x0_0 : Ext G0 H0 G0 H0 := Ext.refl s0
  show tSs _ _ D [some v_row, some v_modulus, none, none, none] H0
  have hpc := hp; obtain ⟨hp_0, hp_1⟩ := hpc
  have tk : m_first_stretch row modulus = _ := rfl
  refine b_cons (s_dnew (κ := Int) (α := Int) sc_first_stretch.nd ss_first_stretch_last x0_0.s fun H1 q_last x1 l1 n_q_last o1_last => ?_)
  have x0_1 := x0_0.trans x1
  have m_q_last := x0_0.h.free n_q_last
  show tSs _ _ _ [some v_row, some v_modulus, some (.ref q_last), none, none] _
  have fc2 := post_sums_ahead row modulus (by walk_at "pre")
  refine b_cons (s_for (T := (T2 K 3 4)) (passes_of rfl) rfl (pg_tup rfl (pgs_cons (pg_name (i := 3) sc_first_stretch.nd rfl ss_first_stretch_place.hx) (pgs_cons (pg_name (i := 4) sc_first_stretch.nd rfl ss_first_stretch_ahead.hx) pgs_nil))) acts2 x0_1.s (ei_enum ⟨gl_first_stretch_enumerate, T.b_enumerate⟩ (ev_c2 C_sums_ahead (hr.mono (by decide)) gl_first_stretch_sums_ahead (ev_v (sl_first_stretch_row) (up (Same.refl _) r_row)) (ev_v (sl_first_stretch_modulus) (up (Same.refl _) r_modulus)) (by walk_at "pre"))) (fun rest σ G H => ∃ (last : (Dct Int Int)), lrun (m_first_stretch_1s) rest last = lrun (m_first_stretch_1s) (enum (m_sums_ahead row modulus)) (⟨[]⟩ : (Dct Int Int)) ∧ Ext G0 H0 G H ∧ ∃ (y1_3 y1_4 : Option V), σ = [some v_row, some v_modulus, some (.ref q_last), y1_3, y1_4] ∧ OwnD K G H q_last last ∧ last.kvs.length + 1 * rest.length ≤ (⟨[]⟩ : (Dct Int Int)).kvs.length + 1 * (enum (m_sums_ahead row modulus)).length) (fun _ _ x => ⟨(⟨[]⟩ : (Dct Int Int)), rfl, x0_1.trans x, none, none, rfl, o1_last.mono x, by walk_at "inv0"⟩) ?_ ?_)
  · intro z1 rest σ1 G2 H2 G3 H3 σ2 hx1 sgA3 sh1 I_ x3 l3 hT
    obtain ⟨last, es1, x0_2, y1_3, y1_4, rfl, o2_last, inv1_0⟩ := I_
    have x0_3 := x0_2.trans x3
    have o3_last := o2_last.mono x3
    obtain ⟨t1a, t1b, rt1a, rt1b, rfl⟩ := hT
    have inv1_0_ := inv1_0; try simp only [List.length_cons, List.length_nil] at inv1_0_
    have mem1 := mem_of hx1.1
    have hlx1 := hx1.2; rw [sizeLine_eq] at hlx1
    have hlr1 := mem_len hx1.1
    have tk1 := tk
    have tk : m_first_stretch_1s z1 last = _ := rfl
    show tSs _ _ _ [some v_row, some v_modulus, some (.ref q_last), some t1a, some t1b] _
    refine b_cons (s_if x0_3.s (et_din (hu1 hr) (ev_v (sl_first_stretch_ahead) rt1b) (ev_vD (sl_first_stretch_last) o3_last)) (fun h4 G4 H4 x5 l4 => ?_) (fun h4 G4 H4 x5 l4 => ?_))
    · have tk := tk_tt tk h4
      have h4_ := h4; try simp only [Bool.and_eq_true, Bool.or_eq_true, Bool.and_eq_false_iff, Bool.or_eq_false_iff, Bool.not_eq_true', Bool.not_eq_false', decide_eq_true_eq, decide_eq_false_iff_not, Classical.not_not] at h4_
      have x0_4 := x0_3.trans x5
      have o4_last := o3_last.mono x5
      show tSs _ _ _ [some v_row, some v_modulus, some (.ref q_last), some t1a, some t1b] _
      refine OwnD.lock o4_last x0_4 m_q_last fun u_5 x0_5 r5_last => ?_
      show tSs _ _ _ [some v_row, some v_modulus, some (.ref q_last), some t1a, some t1b] _
      refine b_cons (s_ret x0_5.s (ev_some (ev_tup (ev_dget (0 : Int) (hu1 hr) (ev_v (sl_first_stretch_last) r5_last) (ev_v (sl_first_stretch_ahead) (up (x5.g.trans (same_new o4_last.off)) rt1b)) (by walk_at "dk")) (ev_v (sl_first_stretch_place) (up (x5.g.trans (same_new o4_last.off)) rt1a)))) fun G_ H_ v7 x6 _ r_ => ?_)
      exact fin.rt _ _ _ (x0_5.trans x6) (rep_of (tk_outR tk1 (lrun_ret es1 tk)) r_) (fun z => nomatch z)
    · have tk := tk_ff tk h4
      have h4_ := h4; try simp only [Bool.and_eq_true, Bool.or_eq_true, Bool.and_eq_false_iff, Bool.or_eq_false_iff, Bool.not_eq_true', Bool.not_eq_false', decide_eq_true_eq, decide_eq_false_iff_not, Classical.not_not] at h4_
      have x0_4 := x0_3.trans x5
      have o4_last := o3_last.mono x5
      show tSs _ _ _ [some v_row, some v_modulus, some (.ref q_last), some t1a, some t1b] _
      refine b_nil ?_
      show tSs _ _ _ [some v_row, some v_modulus, some (.ref q_last), some t1a, some t1b] _
      refine b_cons (s_dput (sl_first_stretch_last) (hu1 hr) x0_4.s o4_last (ev_v (sl_first_stretch_place) (up x5.g rt1a)) (ev_v (sl_first_stretch_ahead) (up x5.g rt1b)) (by walk_at "sz") fun G6 H6_ us9 x8 l6 o6_last => ?_)
      have x0_6 := (x0_4.trans x8).wr (o := us9) m_q_last o6_last.off
      show tSs _ _ _ [some v_row, some v_modulus, some (.ref q_last), some t1a, some t1b] _
      refine b_nil ?_
      exact ⟨_, x5.g.trans x8.g, x0_6.s, (⟨dput last.kvs z1.2 z1.1⟩ : (Dct Int Int)), lrun_nxt es1 tk, x0_6, some t1a, some t1b, rfl, o6_last, by have hi := inv1_0; have := dput_len last.kvs z1.2 z1.1; (try simp only [List.length_cons, List.length_nil, List.length_append, rng_len, enum_len] at hi ⊢); first | omega | walk_at "invx"⟩
  · intro σ1 G7 H7 sgC7 sh1 I_
    obtain ⟨last, es1, x0_7, y1_3, y1_4, rfl, o7_last, inv1_0⟩ := I_
    have tk := tk_outN (k := m_first_stretch_2) tk es1
    have inv1_0_ := inv1_0; try simp only [List.length_cons, List.length_nil, rng_len, enum_len] at inv1_0_
    show tSs _ _ _ [some v_row, some v_modulus, some (.ref q_last), y1_3, y1_4] _
    refine b_cons (s_ret x0_7.s (ev_none (α := (Int × Int))) fun G_ H_ v11 x10 _ r_ => ?_)
    exact fin.rt _ _ _ (x0_7.trans x10) (rep_of tk r_) (fun z => nomatch z)

abbrev N_how_many_stretches : List Str := ["row", "modulus", "often", "found", "ahead"]
theorem sc_how_many_stretches : FnScope N_how_many_stretches ["row", "modulus"] (defScope s_how_many_stretches) := ⟨rfl, rfl, rfl, by decide +kernel, rfl, by decide +kernel, by decide +kernel⟩
theorem sl_how_many_stretches_ahead {P : Program} {w : World} {K : PySem.W.Frag} {mg : Str → Option Value} {base : Heap} {f : Addr} {cdv : Value} {A : Around} {outer : List Env} {s : Shared} {H : Hp} {E : XK} : Sl (cxOf (L2.CX P w) P w K mg base N_how_many_stretches "how_many_stretches" (defScope s_how_many_stretches) f cdv A outer s H E) 4 "ahead" := ⟨rfl, (by first | exact .inl rfl | exact .inr (.inl rfl)), nm_ahead⟩
theorem sl_how_many_stretches_found {P : Program} {w : World} {K : PySem.W.Frag} {mg : Str → Option Value} {base : Heap} {f : Addr} {cdv : Value} {A : Around} {outer : List Env} {s : Shared} {H : Hp} {E : XK} : Sl (cxOf (L2.CX P w) P w K mg base N_how_many_stretches "how_many_stretches" (defScope s_how_many_stretches) f cdv A outer s H E) 3 "found" := ⟨rfl, (by first | exact .inl rfl | exact .inr (.inl rfl)), nm_found⟩
theorem sl_how_many_stretches_modulus {P : Program} {w : World} {K : PySem.W.Frag} {mg : Str → Option Value} {base : Heap} {f : Addr} {cdv : Value} {A : Around} {outer : List Env} {s : Shared} {H : Hp} {E : XK} : Sl (cxOf (L2.CX P w) P w K mg base N_how_many_stretches "how_many_stretches" (defScope s_how_many_stretches) f cdv A outer s H E) 1 "modulus" := ⟨rfl, (by first | exact .inl rfl | exact .inr (.inl rfl)), nm_modulus⟩
theorem sl_how_many_stretches_often {P : Program} {w : World} {K : PySem.W.Frag} {mg : Str → Option Value} {base : Heap} {f : Addr} {cdv : Value} {A : Around} {outer : List Env} {s : Shared} {H : Hp} {E : XK} : Sl (cxOf (L2.CX P w) P w K mg base N_how_many_stretches "how_many_stretches" (defScope s_how_many_stretches) f cdv A outer s H E) 2 "often" := ⟨rfl, (by first | exact .inl rfl | exact .inr (.inl rfl)), nm_often⟩
theorem sl_how_many_stretches_row {P : Program} {w : World} {K : PySem.W.Frag} {mg : Str → Option Value} {base : Heap} {f : Addr} {cdv : Value} {A : Around} {outer : List Env} {s : Shared} {H : Hp} {E : XK} : Sl (cxOf (L2.CX P w) P w K mg base N_how_many_stretches "how_many_stretches" (defScope s_how_many_stretches) f cdv A outer s H E) 0 "row" := ⟨rfl, (by first | exact .inl rfl | exact .inr (.inl rfl)), nm_row⟩
theorem ss_how_many_stretches_often {P : Program} {w : World} {K : PySem.W.Frag} {mg : Str → Option Value} {base : Heap} {f : Addr} {cdv : Value} {A : Around} {outer : List Env} {s : Shared} {H : Hp} {E : XK} : Ss (cxOf (L2.CX P w) P w K mg base N_how_many_stretches "how_many_stretches" (defScope s_how_many_stretches) f cdv A outer s H E) 2 "often" := ⟨rfl, (by first | exact .inl rfl | exact .inr rfl), .inl rfl⟩
theorem ss_how_many_stretches_found {P : Program} {w : World} {K : PySem.W.Frag} {mg : Str → Option Value} {base : Heap} {f : Addr} {cdv : Value} {A : Around} {outer : List Env} {s : Shared} {H : Hp} {E : XK} : Ss (cxOf (L2.CX P w) P w K mg base N_how_many_stretches "how_many_stretches" (defScope s_how_many_stretches) f cdv A outer s H E) 3 "found" := ⟨rfl, (by first | exact .inl rfl | exact .inr rfl), .inl rfl⟩
theorem ss_how_many_stretches_ahead {P : Program} {w : World} {K : PySem.W.Frag} {mg : Str → Option Value} {base : Heap} {f : Addr} {cdv : Value} {A : Around} {outer : List Env} {s : Shared} {H : Hp} {E : XK} : Ss (cxOf (L2.CX P w) P w K mg base N_how_many_stretches "how_many_stretches" (defScope s_how_many_stretches) f cdv A outer s H E) 4 "ahead" := ⟨rfl, (by first | exact .inl rfl | exact .inr rfl), .inl rfl⟩
theorem gl_how_many_stretches_sums_ahead {P : Program} {w : World} {K : PySem.W.Frag} {mg : Str → Option Value} {base : Heap} {f : Addr} {cdv : Value} {A : Around} {outer : List Env} {s : Shared} {H : Hp} {E : XK} : Gl (cxOf (L2.CX P w) P w K mg base N_how_many_stretches "how_many_stretches" (defScope s_how_many_stretches) f cdv A outer s H E) "sums_ahead" := by rfl
theorem cal_how_many_stretches {P : Program} {w : World} {K : PySem.W.Frag} {mg : Str → Option Value} {base : Heap} {f : Addr} {fd : FuncData} (T : Txt K mg) (F : Fun K "how_many_stretches" "how_many_stretches" s_how_many_stretches f fd) (hm : mg "how_many_stretches" = some (.ref f)) (hb : Binds K fd ["row", "modulus"] []) (C_sums_ahead : Cal P w K mg base 3 "sums_ahead" (Sp2 K true (fun (row : (List Int)) (modulus : Int) => 1 ≤ modulus ∧ row.length ≤ 1000) m_sums_ahead)) : Cal P w K mg base 4 "how_many_stretches" (Sp2 K false (fun (row : (List Int)) (modulus : Int) => 1 ≤ modulus ∧ row.length ≤ 1000) m_how_many_stretches) := by
  refine fn2 F hm hb sc_how_many_stretches rfl fun cdv A outer s H0 E hr G0 v_row v_modulus row modulus D s0 r_row r_modulus hp fin => ?_
  have x0_0 : Ext G0 H0 G0 H0 := Ext.refl s0
  show tSs _ _ D [some v_row, some v_modulus, none, none, none] H0
  have hpc := hp; obtain ⟨hp_0, hp_1⟩ := hpc
  have tk : m_how_many_stretches row modulus = _ := rfl
  refine b_cons (s_dnew (κ := Int) (α := Int) sc_how_many_stretches.nd ss_how_many_stretches_often x0_0.s fun H1 q_often x1 l1 n_q_often o1_often => ?_)
  have x0_1 := x0_0.trans x1
  have m_q_often := x0_0.h.free n_q_often
  show tSs _ _ _ [some v_row, some v_modulus, some (.ref q_often), none, none] _
  refine b_cons (s_set sc_how_many_stretches.nd ss_how_many_stretches_found x0_1.s ev_int fun G2 H2 v2_found x2 l2 r2_found => ?_)
  have x0_2 := x0_1.trans x2
  have o2_often := o1_often.mono x2
  show tSs _ _ _ [some v_row, some v_modulus, some (.ref q_often), some v2_found, none] _
  have fc3 := post_sums_ahead row modulus (by walk_at "pre")
  refine b_cons (s_for (T := (T1 K 4)) (passes_of rfl) rfl (pg_name (i := 4) sc_how_many_stretches.nd rfl ss_how_many_stretches_ahead.hx) acts1 x0_2.s (ei_list (ev_c2 C_sums_ahead (hr.mono (by decide)) gl_how_many_stretches_sums_ahead (ev_v (sl_how_many_stretches_row) (up ((Same.refl _).trans x2.g) r_row)) (ev_v (sl_how_many_stretches_modulus) (up ((Same.refl _).trans x2.g) r_modulus)) (by walk_at "pre"))) (fun rest σ G H => ∃ (often : (Dct Int Int)) (found : Int), lfold (m_how_many_stretches_1s) rest (often, found) = lfold (m_how_many_stretches_1s) (m_sums_ahead row modulus) ((⟨[]⟩ : (Dct Int Int)), (0 : Int)) ∧ Ext G0 H0 G H ∧ ∃ (u1_found : V) (y1_4 : Option V), σ = [some v_row, some v_modulus, some (.ref q_often), some u1_found, y1_4] ∧ OwnD K G H q_often often ∧ rep K G u1_found found ∧ often.kvs.length + 1 * rest.length ≤ (⟨[]⟩ : (Dct Int Int)).kvs.length + 1 * (m_sums_ahead row modulus).length) (fun _ _ x => ⟨(⟨[]⟩ : (Dct Int Int)), (0 : Int), rfl, x0_2.trans x, v2_found, none, rfl, o2_often.mono x, up x.g r2_found, by walk_at "inv0"⟩) ?_ ?_)
  · intro ahead rest σ1 G3 H3 G4 H4 σ2 hx1 sgA4 sh1 I_ x4 l4 hT
    obtain ⟨often, found, es1, x0_3, u1_found, y1_4, rfl, o3_often, ru1_found, inv1_0⟩ := I_
    have x0_4 := x0_3.trans x4
    have o4_often := o3_often.mono x4
    obtain ⟨t1, rt1, rfl⟩ := hT
    have inv1_0_ := inv1_0; try simp only [List.length_cons, List.length_nil] at inv1_0_
    have mem1 := mem_of hx1.1
    have hlx1 := hx1.2; rw [sizeLine_eq] at hlx1
    have hlr1 := mem_len hx1.1
    have tk1 := tk
    have tk : m_how_many_stretches_1s ahead (often, found) = _ := rfl
    show tSs _ _ _ [some v_row, some v_modulus, some (.ref q_often), some u1_found, some t1] _
    refine b_cons (s_aug sc_how_many_stretches.nd ss_how_many_stretches_found x0_4.s i_add (Pa := Is K found) (up x4.g ru1_found) (ev_dget2 (hu1 hr) (ev_vD (sl_how_many_stretches_often) o4_often) (ev_v (sl_how_many_stretches_ahead) rt1) ev_int) fun G5 H5 v5_found x5 l5 r5_found => ?_)
    have x0_5 := x0_4.trans x5
    have o5_often := o4_often.mono x5
    show tSs _ _ _ [some v_row, some v_modulus, some (.ref q_often), some v5_found, some t1] _
    obtain ⟨found, e6⟩ : ∃ z, z = (found + ((dlook often.kvs ahead).getD (0 : Int))) := ⟨_, rfl⟩
    rw [← e6] at r5_found
    have tk : _ = m_how_many_stretches_3 often found ahead := tk.trans (by first | (rw [e6] <;> rfl) | rfl)
    refine b_cons (s_dput (sl_how_many_stretches_often) (hu1 hr) x0_5.s o5_often (ev_bin b_add (ev_dget2 (hu1 hr) (ev_vD (sl_how_many_stretches_often) o5_often) (ev_v (sl_how_many_stretches_ahead) (up x5.g rt1)) ev_int) ev_int) (ev_v (sl_how_many_stretches_ahead) (up x5.g rt1)) (by walk_at "sz") fun G6 H6_ us8 x7 l6 o6_often => ?_)
    have x0_6 := (x0_5.trans x7).wr (o := us8) m_q_often o6_often.off
    show tSs _ _ _ [some v_row, some v_modulus, some (.ref q_often), some v5_found, some t1] _
    refine b_nil ?_
    exact ⟨_, x5.g.trans x7.g, x0_6.s, (⟨dput often.kvs ahead (((dlook often.kvs ahead).getD (0 : Int)) + (1 : Int))⟩ : (Dct Int Int)), found, lfold_nxt es1 tk, x0_6, v5_found, some t1, rfl, o6_often, (up x7.g r5_found), by have hi := inv1_0; have := dput_len often.kvs ahead (((dlook often.kvs ahead).getD (0 : Int)) + (1 : Int)); (try simp only [List.length_cons, List.length_nil, List.length_append, rng_len, enum_len] at hi ⊢); first | omega | walk_at "invx"⟩
  · intro σ1 G7 H7 sgC7 sh1 I_
    obtain ⟨often, found, es1, x0_7, u1_found, y1_4, rfl, o7_often, ru1_found, inv1_0⟩ := I_
    have tk := tk_fold (k := m_how_many_stretches_2) tk es1
    have inv1_0_ := inv1_0; try simp only [List.length_cons, List.length_nil, rng_len, enum_len] at inv1_0_
    show tSs _ _ _ [some v_row, some v_modulus, some (.ref q_often), some u1_found, y1_4] _
    refine b_cons (s_ret x0_7.s (ev_v (sl_how_many_stretches_found) ru1_found) fun G_ H_ v10 x9 _ r_ => ?_)
    exact fin.rt _ _ _ (x0_7.trans x9) (rep_of tk r_) (fun z => nomatch z)

abbrev N_q_cell_at : List Str := ["script", "k"]
theorem sc_q_cell_at : FnScope N_q_cell_at ["script", "k"] (defScope s__law_cell_at) := ⟨rfl, rfl, rfl, by decide +kernel, rfl, by decide +kernel, by decide +kernel⟩
theorem sl_q_cell_at_k {P : Program} {w : World} {K : PySem.W.Frag} {mg : Str → Option Value} {base : Heap} {f : Addr} {cdv : Value} {A : Around} {outer : List Env} {s : Shared} {H : Hp} {E : XK} : Sl (cxOf (L2.CX P w) P w K mg base N_q_cell_at "_law_cell_at" (defScope s__law_cell_at) f cdv A outer s H E) 1 "k" := ⟨rfl, (by first | exact .inl rfl | exact .inr (.inl rfl)), nm_k⟩
theorem sl_q_cell_at_script {P : Program} {w : World} {K : PySem.W.Frag} {mg : Str → Option Value} {base : Heap} {f : Addr} {cdv : Value} {A : Around} {outer : List Env} {s : Shared} {H : Hp} {E : XK} : Sl (cxOf (L2.CX P w) P w K mg base N_q_cell_at "_law_cell_at" (defScope s__law_cell_at) f cdv A outer s H E) 0 "script" := ⟨rfl, (by first | exact .inl rfl | exact .inr (.inl rfl)), nm_script⟩
theorem gl_q_cell_at_len {P : Program} {w : World} {K : PySem.W.Frag} {mg : Str → Option Value} {base : Heap} {f : Addr} {cdv : Value} {A : Around} {outer : List Env} {s : Shared} {H : Hp} {E : XK} : Gl (cxOf (L2.CX P w) P w K mg base N_q_cell_at "_law_cell_at" (defScope s__law_cell_at) f cdv A outer s H E) "len" := by rfl
theorem cal_q_cell_at {P : Program} {w : World} {K : PySem.W.Frag} {mg : Str → Option Value} {base : Heap} {f : Addr} {fd : FuncData} (T : Txt K mg) (F : Fun K "_law_cell_at" "_law_cell_at" s__law_cell_at f fd) (hm : mg "_law_cell_at" = some (.ref f)) (hb : Binds K fd ["script", "k"] [])  : Cal P w K mg base 1 "_law_cell_at" (Sp2 K false (fun (script : Scr) (k : Int) => 0 ≤ k) m_q_cell_at) := by
  refine fn2 F hm hb sc_q_cell_at rfl fun cdv A outer s H0 E hr G0 v_script v_k script k D s0 r_script r_k hp fin => ?_
  have x0_0 : Ext G0 H0 G0 H0 := Ext.refl s0
  show tSs _ _ D [some v_script, some v_k] H0
  have tk : m_q_cell_at script k = _ := rfl
  refine b_cons (s_if x0_0.s (et_cmp c_lt (ev_v (sl_q_cell_at_k) r_k) (ev_len ⟨gl_q_cell_at_len, T.b_len⟩ (ev_v (sl_q_cell_at_script) r_script))) (fun h1 G1 H1 x2 l1 => ?_) (fun h1 G1 H1 x2 l1 => ?_))
  · have tk := tk_tt tk h1
    have h1_ := h1; try simp only [Bool.and_eq_true, Bool.or_eq_true, Bool.and_eq_false_iff, Bool.or_eq_false_iff, Bool.not_eq_true', Bool.not_eq_false', decide_eq_true_eq, decide_eq_false_iff_not, Classical.not_not] at h1_
    have x0_1 := x0_0.trans x2
    show tSs _ _ _ [some v_script, some v_k] _
    refine b_cons (s_ret x0_1.s (ev_ix (0 : Int) (ev_v (sl_q_cell_at_script) (up x2.g r_script)) (ev_v (sl_q_cell_at_k) (up x2.g r_k)) (by walk_at "sc") (by walk_at "ix")) fun G_ H_ v4 x3 _ r_ => ?_)
    exact fin.rt _ _ _ (x0_1.trans x3) (rep_of tk r_) (fun z => nomatch z)
  · have tk := tk_ff tk h1
    have h1_ := h1; try simp only [Bool.and_eq_true, Bool.or_eq_true, Bool.and_eq_false_iff, Bool.or_eq_false_iff, Bool.not_eq_true', Bool.not_eq_false', decide_eq_true_eq, decide_eq_false_iff_not, Classical.not_not] at h1_
    have x0_1 := x0_0.trans x2
    show tSs _ _ _ [some v_script, some v_k] _
    refine b_nil ?_
    show tSs _ _ _ [some v_script, some v_k] _
    refine b_cons (s_ret x0_1.s ev_int fun G_ H_ v6 x5 _ r_ => ?_)
    exact fin.rt _ _ _ (x0_1.trans x5) (rep_of tk r_) (fun z => nomatch z)

abbrev N_numbers : List Str := ["cell", "many", "found", "rest", "k", "one"]
theorem sc_numbers : FnScope N_numbers ["cell", "many"] (defScope s__law_numbers) := ⟨rfl, rfl, rfl, by decide +kernel, rfl, by decide +kernel, by decide +kernel⟩
theorem sl_numbers_cell {P : Program} {w : World} {K : PySem.W.Frag} {mg : Str → Option Value} {base : Heap} {f : Addr} {cdv : Value} {A : Around} {outer : List Env} {s : Shared} {H : Hp} {E : XK} : Sl (cxOf (L2.CX P w) P w K mg base N_numbers "_law_numbers" (defScope s__law_numbers) f cdv A outer s H E) 0 "cell" := ⟨rfl, (by first | exact .inl rfl | exact .inr (.inl rfl)), nm_cell⟩
theorem sl_numbers_found {P : Program} {w : World} {K : PySem.W.Frag} {mg : Str → Option Value} {base : Heap} {f : Addr} {cdv : Value} {A : Around} {outer : List Env} {s : Shared} {H : Hp} {E : XK} : Sl (cxOf (L2.CX P w) P w K mg base N_numbers "_law_numbers" (defScope s__law_numbers) f cdv A outer s H E) 2 "found" := ⟨rfl, (by first | exact .inl rfl | exact .inr (.inl rfl)), nm_found⟩
theorem sl_numbers_k {P : Program} {w : World} {K : PySem.W.Frag} {mg : Str → Option Value} {base : Heap} {f : Addr} {cdv : Value} {A : Around} {outer : List Env} {s : Shared} {H : Hp} {E : XK} : Sl (cxOf (L2.CX P w) P w K mg base N_numbers "_law_numbers" (defScope s__law_numbers) f cdv A outer s H E) 4 "k" := ⟨rfl, (by first | exact .inl rfl | exact .inr (.inl rfl)), nm_k⟩
theorem sl_numbers_many {P : Program} {w : World} {K : PySem.W.Frag} {mg : Str → Option Value} {base : Heap} {f : Addr} {cdv : Value} {A : Around} {outer : List Env} {s : Shared} {H : Hp} {E : XK} : Sl (cxOf (L2.CX P w) P w K mg base N_numbers "_law_numbers" (defScope s__law_numbers) f cdv A outer s H E) 1 "many" := ⟨rfl, (by first | exact .inl rfl | exact .inr (.inl rfl)), nm_many⟩
theorem sl_numbers_one {P : Program} {w : World} {K : PySem.W.Frag} {mg : Str → Option Value} {base : Heap} {f : Addr} {cdv : Value} {A : Around} {outer : List Env} {s : Shared} {H : Hp} {E : XK} : Sl (cxOf (L2.CX P w) P w K mg base N_numbers "_law_numbers" (defScope s__law_numbers) f cdv A outer s H E) 5 "one" := ⟨rfl, (by first | exact .inl rfl | exact .inr (.inl rfl)), nm_one⟩
theorem sl_numbers_rest_ {P : Program} {w : World} {K : PySem.W.Frag} {mg : Str → Option Value} {base : Heap} {f : Addr} {cdv : Value} {A : Around} {outer : List Env} {s : Shared} {H : Hp} {E : XK} : Sl (cxOf (L2.CX P w) P w K mg base N_numbers "_law_numbers" (defScope s__law_numbers) f cdv A outer s H E) 3 "rest" := ⟨rfl, (by first | exact .inl rfl | exact .inr (.inl rfl)), nm_rest_⟩
theorem ss_numbers_found {P : Program} {w : World} {K : PySem.W.Frag} {mg : Str → Option Value} {base : Heap} {f : Addr} {cdv : Value} {A : Around} {outer : List Env} {s : Shared} {H : Hp} {E : XK} : Ss (cxOf (L2.CX P w) P w K mg base N_numbers "_law_numbers" (defScope s__law_numbers) f cdv A outer s H E) 2 "found" := ⟨rfl, (by first | exact .inl rfl | exact .inr rfl), .inl rfl⟩
theorem ss_numbers_rest_ {P : Program} {w : World} {K : PySem.W.Frag} {mg : Str → Option Value} {base : Heap} {f : Addr} {cdv : Value} {A : Around} {outer : List Env} {s : Shared} {H : Hp} {E : XK} : Ss (cxOf (L2.CX P w) P w K mg base N_numbers "_law_numbers" (defScope s__law_numbers) f cdv A outer s H E) 3 "rest" := ⟨rfl, (by first | exact .inl rfl | exact .inr rfl), .inl rfl⟩
theorem ss_numbers_k {P : Program} {w : World} {K : PySem.W.Frag} {mg : Str → Option Value} {base : Heap} {f : Addr} {cdv : Value} {A : Around} {outer : List Env} {s : Shared} {H : Hp} {E : XK} : Ss (cxOf (L2.CX P w) P w K mg base N_numbers "_law_numbers" (defScope s__law_numbers) f cdv A outer s H E) 4 "k" := ⟨rfl, (by first | exact .inl rfl | exact .inr rfl), .inl rfl⟩
theorem ss_numbers_one {P : Program} {w : World} {K : PySem.W.Frag} {mg : Str → Option Value} {base : Heap} {f : Addr} {cdv : Value} {A : Around} {outer : List Env} {s : Shared} {H : Hp} {E : XK} : Ss (cxOf (L2.CX P w) P w K mg base N_numbers "_law_numbers" (defScope s__law_numbers) f cdv A outer s H E) 5 "one" := ⟨rfl, (by first | exact .inl rfl | exact .inr rfl), .inl rfl⟩
theorem gl_numbers_abs {P : Program} {w : World} {K : PySem.W.Frag} {mg : Str → Option Value} {base : Heap} {f : Addr} {cdv : Value} {A : Around} {outer : List Env} {s : Shared} {H : Hp} {E : XK} : Gl (cxOf (L2.CX P w) P w K mg base N_numbers "_law_numbers" (defScope s__law_numbers) f cdv A outer s H E) "abs" := by rfl
theorem gl_numbers_range {P : Program} {w : World} {K : PySem.W.Frag} {mg : Str → Option Value} {base : Heap} {f : Addr} {cdv : Value} {A : Around} {outer : List Env} {s : Shared} {H : Hp} {E : XK} : Gl (cxOf (L2.CX P w) P w K mg base N_numbers "_law_numbers" (defScope s__law_numbers) f cdv A outer s H E) "range" := by rfl
section
local macro_rules | `(tactic| walk_at "inv0") => `(tactic| first | (split <;> omega) | (simp only [List.length_nil]; rw [rng_len]; omega) | fail)
theorem cal_numbers {P : Program} {w : World} {K : PySem.W.Frag} {mg : Str → Option Value} {base : Heap} {f : Addr} {fd : FuncData} (T : Txt K mg) (F : Fun K "_law_numbers" "_law_numbers" s__law_numbers f fd) (hm : mg "_law_numbers" = some (.ref f)) (hb : Binds K fd ["cell", "many"] [])  : Cal P w K mg base 1 "_law_numbers" (Sp2 K true (fun (cell : Int) (many : Int) => 1 ≤ many ∧ many ≤ 5) m_numbers) := by
  refine fn2 F hm hb sc_numbers rfl fun cdv A outer s H0 E hr G0 v_cell v_many cell many D s0 r_cell r_many hp fin => ?_
  have x0_0 : Ext G0 H0 G0 H0 := Ext.refl s0
  show tSs _ _ D [some v_cell, some v_many, none, none, none, none] H0
  have hpc := hp; obtain ⟨hp_0, hp_1⟩ := hpc
  have tk : m_numbers cell many = _ := rfl
  refine b_cons (s_nil (α := Int) sc_numbers.nd ss_numbers_found x0_0.s fun H1 q_found x1 l1 n_q_found o1_found => ?_)
  have x0_1 := x0_0.trans x1
  have m_q_found := x0_0.h.free n_q_found
  show tSs _ _ _ [some v_cell, some v_many, some (.ref q_found), none, none, none] _
  refine b_cons (s_set sc_numbers.nd ss_numbers_rest_ x0_1.s (ev_abs ⟨gl_numbers_abs, T.b_abs⟩ (ev_v (sl_numbers_cell) (up (Same.refl _) r_cell))) fun G2 H2 v2_rest_ x2 l2 r2_rest_ => ?_)
  have x0_2 := x0_1.trans x2
  have o2_found := o1_found.mono x2
  show tSs _ _ _ [some v_cell, some v_many, some (.ref q_found), some v2_rest_, none, none] _
  obtain ⟨rest_, e3⟩ : ∃ z, z = (if cell < 0 then -cell else cell) := ⟨_, rfl⟩
  rw [← e3] at r2_rest_
  have tk : _ = m_numbers_1 cell many rest_ := tk.trans (by first | (rw [e3] <;> rfl) | rfl)
  refine b_cons (s_for (T := (T1 K 4)) (passes_of rfl) rfl (pg_name (i := 4) sc_numbers.nd rfl ss_numbers_k.hx) acts1 x0_2.s (ei_range1 ⟨gl_numbers_range, T.b_range⟩ (ev_v (sl_numbers_many) (up ((Same.refl _).trans x2.g) r_many)) (by walk_at "sc") (by walk_at "sc")) (fun rest σ G H => ∃ (found : (List Int)) (rest__0 : Int), lfold (m_numbers_2s cell) rest (found, rest__0) = lfold (m_numbers_2s cell) (rng 0 many) (([] : (List Int)), rest_) ∧ Ext G0 H0 G H ∧ ∃ (u1_rest_ : V) (y1_4 y1_5 : Option V), σ = [some v_cell, some v_many, some (.ref q_found), some u1_rest_, y1_4, y1_5] ∧ Own K G H q_found found ∧ rep K G u1_rest_ rest__0 ∧ found.length + 1 * rest.length ≤ ([] : (List Int)).length + 1 * (rng 0 many).length ∧ 0 ≤ rest__0 ∧ (found.length : Int) + rest.length = many) (fun _ _ x => ⟨([] : (List Int)), rest_, rfl, x0_2.trans x, v2_rest_, none, none, rfl, o2_found.mono x, up x.g r2_rest_, by walk_at "inv0", by walk_at "inv0", by walk_at "inv0"⟩) ?_ ?_)
  · intro k rest σ1 G3 H3 G4 H4 σ2 hx1 sgA4 sh1 I_ x4 l4 hT
    obtain ⟨found, rest__0, es1, x0_3, u1_rest_, y1_4, y1_5, rfl, o3_found, ru1_rest_, inv1_0, inv1_1, inv1_2⟩ := I_
    have x0_4 := x0_3.trans x4
    have o4_found := o3_found.mono x4
    obtain ⟨t1, rt1, rfl⟩ := hT
    have inv1_0_ := inv1_0; try simp only [List.length_cons, List.length_nil] at inv1_0_
    have inv1_1_ := inv1_1; try simp only [List.length_cons, List.length_nil] at inv1_1_
    have inv1_2_ := inv1_2; try simp only [List.length_cons, List.length_nil] at inv1_2_
    have mem1 := mem_of hx1.1
    have hlx1 := hx1.2; rw [sizeLine_eq] at hlx1
    have hlr1 := mem_len hx1.1
    have tk1 := tk
    have mem1_ := mem_rng.mp mem1
    have tk : m_numbers_2s cell k (found, rest__0) = _ := rfl
    show tSs _ _ _ [some v_cell, some v_many, some (.ref q_found), some u1_rest_, some t1, y1_5] _
    refine b_cons (s_if x0_4.s (et_cmp c_ge (ev_abs ⟨gl_numbers_abs, T.b_abs⟩ (ev_v (sl_numbers_cell) (up ((Same.refl _).trans (x2.g.trans (sgA4.trans x4.g))) r_cell))) (Ev.to (y := (1000000000000000000 : Int)) (ev_bin (b_pow (by walk_at "pw")) ev_int ev_int) (by decide))) (fun h5 G5 H5 x6 l5 => ?_) (fun h5 G5 H5 x6 l5 => ?_))
    · have tk := tk_tt tk h5
      have h5_ := h5; try simp only [Bool.and_eq_true, Bool.or_eq_true, Bool.and_eq_false_iff, Bool.or_eq_false_iff, Bool.not_eq_true', Bool.not_eq_false', decide_eq_true_eq, decide_eq_false_iff_not, Classical.not_not] at h5_
      have x0_5 := x0_4.trans x6
      have o5_found := o4_found.mono x6
      show tSs _ _ _ [some v_cell, some v_many, some (.ref q_found), some u1_rest_, some t1, y1_5] _
      refine b_cons (s_append (sl_numbers_found) x0_5.s o5_found (ev_bin (b_mod (by walk_at "sc")) (ev_v (sl_numbers_rest_) (up (x4.g.trans x6.g) ru1_rest_)) ev_int) (by walk_at "sz") fun G6 H6_ us8 x7 l6 o6_found => ?_)
      have x0_6 := (x0_5.trans x7).wr (o := .lst us8) m_q_found o6_found.off
      show tSs _ _ _ [some v_cell, some v_many, some (.ref q_found), some u1_rest_, some t1, y1_5] _
      refine b_cons (s_set sc_numbers.nd ss_numbers_rest_ x0_6.s (ev_bin (b_div ⟨(by walk_at "sc"), (by walk_at "sc")⟩) (ev_v (sl_numbers_rest_) (up (x4.g.trans (x6.g.trans x7.g)) ru1_rest_)) ev_int) fun G7 H7 v7_rest_ x9 l7 r7_rest_ => ?_)
      have x0_7 := x0_6.trans x9
      have o7_found := o6_found.mono x9
      show tSs _ _ _ [some v_cell, some v_many, some (.ref q_found), some v7_rest_, some t1, y1_5] _
      refine b_nil ?_
      show tSs _ _ _ [some v_cell, some v_many, some (.ref q_found), some v7_rest_, some t1, y1_5] _
      refine b_nil ?_
      exact ⟨_, x6.g.trans (x7.g.trans x9.g), x0_7.s, (found ++ [(rest__0 % (1009 : Int))]), (rest__0 / (1009 : Int)), lfold_nxt es1 tk, x0_7, v7_rest_, some t1, y1_5, rfl, o7_found, r7_rest_, by have hi := inv1_0; (try simp only [List.length_cons, List.length_nil, List.length_append, rng_len, enum_len] at hi ⊢); first | omega | walk_at "invx", by have hi := inv1_1; (try simp only [List.length_cons, List.length_nil, List.length_append, rng_len, enum_len] at hi ⊢); first | omega | walk_at "invx", by have hi := inv1_2; (try simp only [List.length_cons, List.length_nil, List.length_append, rng_len, enum_len] at hi ⊢); first | omega | walk_at "invx"⟩
    · have tk := tk_ff tk h5
      have h5_ := h5; try simp only [Bool.and_eq_true, Bool.or_eq_true, Bool.and_eq_false_iff, Bool.or_eq_false_iff, Bool.not_eq_true', Bool.not_eq_false', decide_eq_true_eq, decide_eq_false_iff_not, Classical.not_not] at h5_
      have x0_5 := x0_4.trans x6
      have o5_found := o4_found.mono x6
      show tSs _ _ _ [some v_cell, some v_many, some (.ref q_found), some u1_rest_, some t1, y1_5] _
      refine b_cons (s_set sc_numbers.nd ss_numbers_one x0_5.s (ev_bin (b_mod (by walk_at "sc")) (ev_bin b_add (ev_bin (b_mod (by walk_at "sc")) (ev_v (sl_numbers_rest_) (up (x4.g.trans x6.g) ru1_rest_)) ev_int) (ev_bin (b_mul (by walk_at "mu")) (ev_bin (b_mul (by walk_at "mu")) ev_int (ev_bin b_add (ev_v (sl_numbers_k) (up x6.g rt1)) ev_int)) (ev_bin b_add (ev_v (sl_numbers_k) (up x6.g rt1)) ev_int))) ev_int) fun G8 H8 v8_one x10 l8 r8_one => ?_)
      have x0_8 := x0_5.trans x10
      have o8_found := o5_found.mono x10
      show tSs _ _ _ [some v_cell, some v_many, some (.ref q_found), some u1_rest_, some t1, some v8_one] _
      obtain ⟨one, e11⟩ : ∃ z, z = (((rest__0 % (2147483629 : Int)) + (((7919 : Int) * (k + (1 : Int))) * (k + (3 : Int)))) % (2147483629 : Int)) := ⟨_, rfl⟩
      rw [← e11] at r8_one
      have tk : _ = m_numbers_4 found rest__0 one := tk.trans (by first | (rw [e11] <;> rfl) | rfl)
      refine b_cons (s_set sc_numbers.nd ss_numbers_one x0_8.s (ev_bin b_add (ev_bin (b_mod (by walk_at "sc")) (ev_bin (b_mul (by walk_at "mu")) (ev_v (sl_numbers_one) r8_one) (ev_v (sl_numbers_one) r8_one)) ev_int) (ev_bin (b_div ⟨(by walk_at "sc"), (by walk_at "sc")⟩) (ev_v (sl_numbers_one) r8_one) ev_int)) fun G9 H9 v9_one x12 l9 r9_one => ?_)
      have x0_9 := x0_8.trans x12
      have o9_found := o8_found.mono x12
      show tSs _ _ _ [some v_cell, some v_many, some (.ref q_found), some u1_rest_, some t1, some v9_one] _
      obtain ⟨one, e13⟩ : ∃ z, z = (((one * one) % (2147483587 : Int)) + (one / (7 : Int))) := ⟨_, rfl⟩
      rw [← e13] at r9_one
      have tk : _ = m_numbers_5 found rest__0 one := tk.trans (by first | (rw [e13] <;> rfl) | rfl)
      refine b_cons (s_append (sl_numbers_found) x0_9.s o9_found (ev_bin (b_div ⟨(by walk_at "sc"), (by walk_at "sc")⟩) (ev_bin (b_mod (by walk_at "sc")) (ev_bin (b_mul (by walk_at "mu")) (ev_v (sl_numbers_one) r9_one) ev_int) ev_int) ev_int) (by walk_at "sz") fun G10 H10_ us15 x14 l10 o10_found => ?_)
      have x0_10 := (x0_9.trans x14).wr (o := .lst us15) m_q_found o10_found.off
      show tSs _ _ _ [some v_cell, some v_many, some (.ref q_found), some u1_rest_, some t1, some v9_one] _
      refine b_nil ?_
      show tSs _ _ _ [some v_cell, some v_many, some (.ref q_found), some u1_rest_, some t1, some v9_one] _
      refine b_nil ?_
      exact ⟨_, x6.g.trans (x10.g.trans (x12.g.trans x14.g)), x0_10.s, (found ++ [(((one * (48271 : Int)) % (2147483647 : Int)) / (16 : Int))]), rest__0, lfold_nxt es1 tk, x0_10, u1_rest_, some t1, some v9_one, rfl, o10_found, (up (x4.g.trans (x6.g.trans (x10.g.trans (x12.g.trans x14.g)))) ru1_rest_), by have hi := inv1_0; (try simp only [List.length_cons, List.length_nil, List.length_append, rng_len, enum_len] at hi ⊢); first | omega | walk_at "invx", by have hi := inv1_1; (try simp only [List.length_cons, List.length_nil, List.length_append, rng_len, enum_len] at hi ⊢); first | omega | walk_at "invx", by have hi := inv1_2; (try simp only [List.length_cons, List.length_nil, List.length_append, rng_len, enum_len] at hi ⊢); first | omega | walk_at "invx"⟩
  · intro σ1 G11 H11 sgC11 sh1 I_
    obtain ⟨found, rest__0, es1, x0_11, u1_rest_, y1_4, y1_5, rfl, o11_found, ru1_rest_, inv1_0, inv1_1, inv1_2⟩ := I_
    have tk := tk_fold (k := m_numbers_3) tk es1
    have inv1_0_ := inv1_0; try simp only [List.length_cons, List.length_nil, rng_len, enum_len] at inv1_0_
    have inv1_1_ := inv1_1; try simp only [List.length_cons, List.length_nil, rng_len, enum_len] at inv1_1_
    have inv1_2_ := inv1_2; try simp only [List.length_cons, List.length_nil, rng_len, enum_len] at inv1_2_
    show tSs _ _ _ [some v_cell, some v_many, some (.ref q_found), some u1_rest_, y1_4, y1_5] _
    obtain ⟨G12, x0_12, sg12, r12_found⟩ := o11_found.frz x0_11 m_q_found
    refine b_cons (s_retV (sl_numbers_found) x0_12.s ?_)
    exact fin.rt _ _ _ x0_12 (rep_of tk r12_found) (fun _ p z => by cases z; exact m_q_found)
end

abbrev N_lrow : List Str := ["script", "most", "greatest", "head", "modulus", "many", "row", "k", "numbers", "number", "far"]
theorem sc_lrow : FnScope N_lrow ["script", "most", "greatest"] (defScope s__law_row) := ⟨rfl, rfl, rfl, by decide +kernel, rfl, by decide +kernel, by decide +kernel⟩
theorem sl_lrow_far {P : Program} {w : World} {K : PySem.W.Frag} {mg : Str → Option Value} {base : Heap} {f : Addr} {cdv : Value} {A : Around} {outer : List Env} {s : Shared} {H : Hp} {E : XK} : Sl (cxOf (L2.CX P w) P w K mg base N_lrow "_law_row" (defScope s__law_row) f cdv A outer s H E) 10 "far" := ⟨rfl, (by first | exact .inl rfl | exact .inr (.inl rfl)), nm_far⟩
theorem sl_lrow_greatest {P : Program} {w : World} {K : PySem.W.Frag} {mg : Str → Option Value} {base : Heap} {f : Addr} {cdv : Value} {A : Around} {outer : List Env} {s : Shared} {H : Hp} {E : XK} : Sl (cxOf (L2.CX P w) P w K mg base N_lrow "_law_row" (defScope s__law_row) f cdv A outer s H E) 2 "greatest" := ⟨rfl, (by first | exact .inl rfl | exact .inr (.inl rfl)), nm_greatest⟩
theorem sl_lrow_head {P : Program} {w : World} {K : PySem.W.Frag} {mg : Str → Option Value} {base : Heap} {f : Addr} {cdv : Value} {A : Around} {outer : List Env} {s : Shared} {H : Hp} {E : XK} : Sl (cxOf (L2.CX P w) P w K mg base N_lrow "_law_row" (defScope s__law_row) f cdv A outer s H E) 3 "head" := ⟨rfl, (by first | exact .inl rfl | exact .inr (.inl rfl)), nm_head⟩
theorem sl_lrow_k {P : Program} {w : World} {K : PySem.W.Frag} {mg : Str → Option Value} {base : Heap} {f : Addr} {cdv : Value} {A : Around} {outer : List Env} {s : Shared} {H : Hp} {E : XK} : Sl (cxOf (L2.CX P w) P w K mg base N_lrow "_law_row" (defScope s__law_row) f cdv A outer s H E) 7 "k" := ⟨rfl, (by first | exact .inl rfl | exact .inr (.inl rfl)), nm_k⟩
theorem sl_lrow_many {P : Program} {w : World} {K : PySem.W.Frag} {mg : Str → Option Value} {base : Heap} {f : Addr} {cdv : Value} {A : Around} {outer : List Env} {s : Shared} {H : Hp} {E : XK} : Sl (cxOf (L2.CX P w) P w K mg base N_lrow "_law_row" (defScope s__law_row) f cdv A outer s H E) 5 "many" := ⟨rfl, (by first | exact .inl rfl | exact .inr (.inl rfl)), nm_many⟩
theorem sl_lrow_modulus {P : Program} {w : World} {K : PySem.W.Frag} {mg : Str → Option Value} {base : Heap} {f : Addr} {cdv : Value} {A : Around} {outer : List Env} {s : Shared} {H : Hp} {E : XK} : Sl (cxOf (L2.CX P w) P w K mg base N_lrow "_law_row" (defScope s__law_row) f cdv A outer s H E) 4 "modulus" := ⟨rfl, (by first | exact .inl rfl | exact .inr (.inl rfl)), nm_modulus⟩
theorem sl_lrow_most {P : Program} {w : World} {K : PySem.W.Frag} {mg : Str → Option Value} {base : Heap} {f : Addr} {cdv : Value} {A : Around} {outer : List Env} {s : Shared} {H : Hp} {E : XK} : Sl (cxOf (L2.CX P w) P w K mg base N_lrow "_law_row" (defScope s__law_row) f cdv A outer s H E) 1 "most" := ⟨rfl, (by first | exact .inl rfl | exact .inr (.inl rfl)), nm_most⟩
theorem sl_lrow_number {P : Program} {w : World} {K : PySem.W.Frag} {mg : Str → Option Value} {base : Heap} {f : Addr} {cdv : Value} {A : Around} {outer : List Env} {s : Shared} {H : Hp} {E : XK} : Sl (cxOf (L2.CX P w) P w K mg base N_lrow "_law_row" (defScope s__law_row) f cdv A outer s H E) 9 "number" := ⟨rfl, (by first | exact .inl rfl | exact .inr (.inl rfl)), nm_number⟩
theorem sl_lrow_numbers {P : Program} {w : World} {K : PySem.W.Frag} {mg : Str → Option Value} {base : Heap} {f : Addr} {cdv : Value} {A : Around} {outer : List Env} {s : Shared} {H : Hp} {E : XK} : Sl (cxOf (L2.CX P w) P w K mg base N_lrow "_law_row" (defScope s__law_row) f cdv A outer s H E) 8 "numbers" := ⟨rfl, (by first | exact .inl rfl | exact .inr (.inl rfl)), nm_numbers⟩
theorem sl_lrow_row {P : Program} {w : World} {K : PySem.W.Frag} {mg : Str → Option Value} {base : Heap} {f : Addr} {cdv : Value} {A : Around} {outer : List Env} {s : Shared} {H : Hp} {E : XK} : Sl (cxOf (L2.CX P w) P w K mg base N_lrow "_law_row" (defScope s__law_row) f cdv A outer s H E) 6 "row" := ⟨rfl, (by first | exact .inl rfl | exact .inr (.inl rfl)), nm_row⟩
theorem sl_lrow_script {P : Program} {w : World} {K : PySem.W.Frag} {mg : Str → Option Value} {base : Heap} {f : Addr} {cdv : Value} {A : Around} {outer : List Env} {s : Shared} {H : Hp} {E : XK} : Sl (cxOf (L2.CX P w) P w K mg base N_lrow "_law_row" (defScope s__law_row) f cdv A outer s H E) 0 "script" := ⟨rfl, (by first | exact .inl rfl | exact .inr (.inl rfl)), nm_script⟩
theorem ss_lrow_head {P : Program} {w : World} {K : PySem.W.Frag} {mg : Str → Option Value} {base : Heap} {f : Addr} {cdv : Value} {A : Around} {outer : List Env} {s : Shared} {H : Hp} {E : XK} : Ss (cxOf (L2.CX P w) P w K mg base N_lrow "_law_row" (defScope s__law_row) f cdv A outer s H E) 3 "head" := ⟨rfl, (by first | exact .inl rfl | exact .inr rfl), .inl rfl⟩
theorem ss_lrow_modulus {P : Program} {w : World} {K : PySem.W.Frag} {mg : Str → Option Value} {base : Heap} {f : Addr} {cdv : Value} {A : Around} {outer : List Env} {s : Shared} {H : Hp} {E : XK} : Ss (cxOf (L2.CX P w) P w K mg base N_lrow "_law_row" (defScope s__law_row) f cdv A outer s H E) 4 "modulus" := ⟨rfl, (by first | exact .inl rfl | exact .inr rfl), .inl rfl⟩
theorem ss_lrow_many {P : Program} {w : World} {K : PySem.W.Frag} {mg : Str → Option Value} {base : Heap} {f : Addr} {cdv : Value} {A : Around} {outer : List Env} {s : Shared} {H : Hp} {E : XK} : Ss (cxOf (L2.CX P w) P w K mg base N_lrow "_law_row" (defScope s__law_row) f cdv A outer s H E) 5 "many" := ⟨rfl, (by first | exact .inl rfl | exact .inr rfl), .inl rfl⟩
theorem ss_lrow_row {P : Program} {w : World} {K : PySem.W.Frag} {mg : Str → Option Value} {base : Heap} {f : Addr} {cdv : Value} {A : Around} {outer : List Env} {s : Shared} {H : Hp} {E : XK} : Ss (cxOf (L2.CX P w) P w K mg base N_lrow "_law_row" (defScope s__law_row) f cdv A outer s H E) 6 "row" := ⟨rfl, (by first | exact .inl rfl | exact .inr rfl), .inl rfl⟩
theorem ss_lrow_k {P : Program} {w : World} {K : PySem.W.Frag} {mg : Str → Option Value} {base : Heap} {f : Addr} {cdv : Value} {A : Around} {outer : List Env} {s : Shared} {H : Hp} {E : XK} : Ss (cxOf (L2.CX P w) P w K mg base N_lrow "_law_row" (defScope s__law_row) f cdv A outer s H E) 7 "k" := ⟨rfl, (by first | exact .inl rfl | exact .inr rfl), .inl rfl⟩
theorem ss_lrow_numbers {P : Program} {w : World} {K : PySem.W.Frag} {mg : Str → Option Value} {base : Heap} {f : Addr} {cdv : Value} {A : Around} {outer : List Env} {s : Shared} {H : Hp} {E : XK} : Ss (cxOf (L2.CX P w) P w K mg base N_lrow "_law_row" (defScope s__law_row) f cdv A outer s H E) 8 "numbers" := ⟨rfl, (by first | exact .inl rfl | exact .inr rfl), .inl rfl⟩
theorem ss_lrow_number {P : Program} {w : World} {K : PySem.W.Frag} {mg : Str → Option Value} {base : Heap} {f : Addr} {cdv : Value} {A : Around} {outer : List Env} {s : Shared} {H : Hp} {E : XK} : Ss (cxOf (L2.CX P w) P w K mg base N_lrow "_law_row" (defScope s__law_row) f cdv A outer s H E) 9 "number" := ⟨rfl, (by first | exact .inl rfl | exact .inr rfl), .inl rfl⟩
theorem ss_lrow_far {P : Program} {w : World} {K : PySem.W.Frag} {mg : Str → Option Value} {base : Heap} {f : Addr} {cdv : Value} {A : Around} {outer : List Env} {s : Shared} {H : Hp} {E : XK} : Ss (cxOf (L2.CX P w) P w K mg base N_lrow "_law_row" (defScope s__law_row) f cdv A outer s H E) 10 "far" := ⟨rfl, (by first | exact .inl rfl | exact .inr rfl), .inl rfl⟩
theorem gl_lrow__law_cell_at {P : Program} {w : World} {K : PySem.W.Frag} {mg : Str → Option Value} {base : Heap} {f : Addr} {cdv : Value} {A : Around} {outer : List Env} {s : Shared} {H : Hp} {E : XK} : Gl (cxOf (L2.CX P w) P w K mg base N_lrow "_law_row" (defScope s__law_row) f cdv A outer s H E) "_law_cell_at" := by rfl
theorem gl_lrow__law_numbers {P : Program} {w : World} {K : PySem.W.Frag} {mg : Str → Option Value} {base : Heap} {f : Addr} {cdv : Value} {A : Around} {outer : List Env} {s : Shared} {H : Hp} {E : XK} : Gl (cxOf (L2.CX P w) P w K mg base N_lrow "_law_row" (defScope s__law_row) f cdv A outer s H E) "_law_numbers" := by rfl
theorem gl_lrow_range {P : Program} {w : World} {K : PySem.W.Frag} {mg : Str → Option Value} {base : Heap} {f : Addr} {cdv : Value} {A : Around} {outer : List Env} {s : Shared} {H : Hp} {E : XK} : Gl (cxOf (L2.CX P w) P w K mg base N_lrow "_law_row" (defScope s__law_row) f cdv A outer s H E) "range" := by rfl
section
local macro_rules | `(tactic| walk_at "mu") => `(tactic| first | exact .inl ⟨by omega, by omega⟩ | exact .inl (mu_far (by assumption)) | fail)
theorem cal_lrow {P : Program} {w : World} {K : PySem.W.Frag} {mg : Str → Option Value} {base : Heap} {f : Addr} {fd : FuncData} (T : Txt K mg) (F : Fun K "_law_row" "_law_row" s__law_row f fd) (hm : mg "_law_row" = some (.ref f)) (hb : Binds K fd ["script", "most", "greatest"] []) (C_q_cell_at : Cal P w K mg base 1 "_law_cell_at" (Sp2 K false (fun (script : Scr) (k : Int) => 0 ≤ k) m_q_cell_at)) (C_numbers : Cal P w K mg base 1 "_law_numbers" (Sp2 K true (fun (cell : Int) (many : Int) => 1 ≤ many ∧ many ≤ 5) m_numbers)) : Cal P w K mg base 2 "_law_row" (Sp3 K false (fun (script : Scr) (most : Int) (greatest : Int) => most = 40 ∧ greatest = 25) m_lrow) := by
  refine fn3 F hm hb sc_lrow rfl fun cdv A outer s H0 E hr G0 v_script v_most v_greatest script most greatest D s0 r_script r_most r_greatest hp fin => ?_
  have x0_0 : Ext G0 H0 G0 H0 := Ext.refl s0
  show tSs _ _ D [some v_script, some v_most, some v_greatest, none, none, none, none, none, none, none, none] H0
  have hpc := hp; obtain ⟨hp_0, hp_1⟩ := hpc
  have tk : m_lrow script most greatest = _ := rfl
  have fc1 := post_numbers (m_q_cell_at script (0 : Int)) (5 : Int) (by walk_at "pre")
  refine b_cons (s_set sc_lrow.nd ss_lrow_head x0_0.s (ev_c2 C_numbers (hr.mono (by decide)) gl_lrow__law_numbers (ev_c2 C_q_cell_at (hr.mono (by decide)) gl_lrow__law_cell_at (ev_v (sl_lrow_script) r_script) ev_int (by walk_at "pre")) ev_int (by walk_at "pre")) fun G1 H1 v1_head x2 l1 r1_head => ?_)
  have x0_1 := x0_0.trans x2
  show tSs _ _ _ [some v_script, some v_most, some v_greatest, some v1_head, none, none, none, none, none, none, none] _
  obtain ⟨head, e3⟩ : ∃ z, z = (m_numbers (m_q_cell_at script (0 : Int)) (5 : Int)) := ⟨_, rfl⟩
  rw [← e3] at r1_head
  have tk : _ = m_lrow_1 script most greatest head := tk.trans (by first | (rw [e3] <;> rfl) | rfl)
  have p_e3 := post_numbers (m_q_cell_at script (0 : Int)) (5 : Int) (by walk_at "pre"); rw [← e3] at p_e3; (try simp only [rep_len, rep_len2] at p_e3)
  have g_e3 := congrArg List.length e3; try simp only [List.length_append, List.length_cons, List.length_nil, rng_len, List.length_map, List.length_reverse, psort_len, isort_len] at g_e3
  refine b_cons (s_set sc_lrow.nd ss_lrow_modulus x0_1.s (ev_bin b_add ev_int (ev_bin (b_mod (by walk_at "sc")) (ev_ix (0 : Int) (ev_v (sl_lrow_head) r1_head) ev_int (by walk_at "sc") (by walk_at "ix")) (ev_v (sl_lrow_greatest) (up x2.g r_greatest)))) fun G2 H2 v2_modulus x4 l2 r2_modulus => ?_)
  have x0_2 := x0_1.trans x4
  show tSs _ _ _ [some v_script, some v_most, some v_greatest, some v1_head, some v2_modulus, none, none, none, none, none, none] _
  obtain ⟨modulus, e5⟩ : ∃ z, z = ((1 : Int) + (((head).getD ((0 : Int)).toNat (0 : Int)) % greatest)) := ⟨_, rfl⟩
  rw [← e5] at r2_modulus
  have tk : _ = m_lrow_2 script most head modulus := tk.trans (by first | (rw [e5] <;> rfl) | rfl)
  have f_e5 : 1 ≤ modulus ∧ modulus ≤ 25 := by rw [e5, hp.2]; omega
  refine b_cons (s_set sc_lrow.nd ss_lrow_many x0_2.s (ev_bin (b_mod (by walk_at "sc")) (ev_ix (0 : Int) (ev_v (sl_lrow_head) (up x4.g r1_head)) ev_int (by walk_at "sc") (by walk_at "ix")) (ev_bin b_add (ev_v (sl_lrow_most) (up (x2.g.trans x4.g) r_most)) ev_int)) fun G3 H3 v3_many x6 l3 r3_many => ?_)
  have x0_3 := x0_2.trans x6
  show tSs _ _ _ [some v_script, some v_most, some v_greatest, some v1_head, some v2_modulus, some v3_many, none, none, none, none, none] _
  obtain ⟨many, e7⟩ : ∃ z, z = (((head).getD ((1 : Int)).toNat (0 : Int)) % (most + (1 : Int))) := ⟨_, rfl⟩
  rw [← e7] at r3_many
  have tk : _ = m_lrow_3 script head modulus many := tk.trans (by first | (rw [e7] <;> rfl) | rfl)
  have f_e7 : 0 ≤ many ∧ many ≤ 40 := by rw [e7, hp.1]; omega
  refine b_cons (s_nil (α := Int) sc_lrow.nd ss_lrow_row x0_3.s fun H4 q_row x8 l4 n_q_row o4_row => ?_)
  have x0_4 := x0_3.trans x8
  have m_q_row := x0_3.h.free n_q_row
  show tSs _ _ _ [some v_script, some v_most, some v_greatest, some v1_head, some v2_modulus, some v3_many, some (.ref q_row), none, none, none, none] _
  refine b_cons (s_for (T := (T1 K 7)) (passes_of rfl) rfl (pg_name (i := 7) sc_lrow.nd rfl ss_lrow_k.hx) acts1 x0_4.s (ei_range1 ⟨gl_lrow_range, T.b_range⟩ (ev_v (sl_lrow_many) (up (Same.refl _) r3_many)) (by walk_at "sc") (by walk_at "sc")) (fun rest σ G H => ∃ (row : (List Int)), lfold (m_lrow_4s script head modulus) rest row = lfold (m_lrow_4s script head modulus) (rng 0 many) ([] : (List Int)) ∧ Ext G0 H0 G H ∧ ∃ (y1_7 y1_8 y1_9 y1_10 : Option V), σ = [some v_script, some v_most, some v_greatest, some v1_head, some v2_modulus, some v3_many, some (.ref q_row), y1_7, y1_8, y1_9, y1_10] ∧ Own K G H q_row row ∧ row.length + 1 * rest.length ≤ ([] : (List Int)).length + 1 * (rng 0 many).length) (fun _ _ x => ⟨([] : (List Int)), rfl, x0_4.trans x, none, none, none, none, rfl, o4_row.mono x, by walk_at "inv0"⟩) ?_ ?_)
  · intro k rest σ1 G5 H5 G6 H6 σ2 hx1 sgA6 sh1 I_ x9 l6 hT
    obtain ⟨row, es1, x0_5, y1_7, y1_8, y1_9, y1_10, rfl, o5_row, inv1_0⟩ := I_
    have x0_6 := x0_5.trans x9
    have o6_row := o5_row.mono x9
    obtain ⟨t1, rt1, rfl⟩ := hT
    have inv1_0_ := inv1_0; try simp only [List.length_cons, List.length_nil] at inv1_0_
    have mem1 := mem_of hx1.1
    have hlx1 := hx1.2; rw [sizeLine_eq] at hlx1
    have hlr1 := mem_len hx1.1
    have tk1 := tk
    have mem1_ := mem_rng.mp mem1
    have tk : m_lrow_4s script head modulus k row = _ := rfl
    show tSs _ _ _ [some v_script, some v_most, some v_greatest, some v1_head, some v2_modulus, some v3_many, some (.ref q_row), some t1, y1_8, y1_9, y1_10] _
    have fc10 := post_numbers ((m_q_cell_at script ((1 : Int) + (k % (10 : Int)))) + ((41 : Int) * (k / (10 : Int)))) (3 : Int) (by walk_at "pre")
    refine b_cons (s_set sc_lrow.nd ss_lrow_numbers x0_6.s (ev_c2 C_numbers (hr.mono (by decide)) gl_lrow__law_numbers (ev_bin b_add (ev_c2 C_q_cell_at (hr.mono (by decide)) gl_lrow__law_cell_at (ev_v (sl_lrow_script) (up (x2.g.trans (x4.g.trans (x6.g.trans ((Same.refl _).trans (sgA6.trans x9.g))))) r_script)) (ev_bin b_add ev_int (ev_bin (b_mod (by walk_at "sc")) (ev_v (sl_lrow_k) rt1) ev_int)) (by walk_at "pre")) (ev_bin (b_mul (by walk_at "mu")) ev_int (ev_bin (b_div ⟨(by walk_at "sc"), (by walk_at "sc")⟩) (ev_v (sl_lrow_k) rt1) ev_int))) ev_int (by walk_at "pre")) fun G7 H7 v7_numbers x11 l7 r7_numbers => ?_)
    have x0_7 := x0_6.trans x11
    have o7_row := o6_row.mono x11
    show tSs _ _ _ [some v_script, some v_most, some v_greatest, some v1_head, some v2_modulus, some v3_many, some (.ref q_row), some t1, some v7_numbers, y1_9, y1_10] _
    obtain ⟨numbers, e12⟩ : ∃ z, z = (m_numbers ((m_q_cell_at script ((1 : Int) + (k % (10 : Int)))) + ((41 : Int) * (k / (10 : Int)))) (3 : Int)) := ⟨_, rfl⟩
    rw [← e12] at r7_numbers
    have tk : _ = m_lrow_6 head modulus row numbers := tk.trans (by first | (rw [e12] <;> rfl) | rfl)
    have p_e12 := post_numbers ((m_q_cell_at script ((1 : Int) + (k % (10 : Int)))) + ((41 : Int) * (k / (10 : Int)))) (3 : Int) (by walk_at "pre"); rw [← e12] at p_e12; (try simp only [rep_len, rep_len2] at p_e12)
    have g_e12 := congrArg List.length e12; try simp only [List.length_append, List.length_cons, List.length_nil, rng_len, List.length_map, List.length_reverse, psort_len, isort_len] at g_e12
    refine b_cons (s_set sc_lrow.nd ss_lrow_number x0_7.s (ev_ix (0 : Int) (ev_list (es_cons (ev_bin (b_mod (by walk_at "sc")) (ev_ix (0 : Int) (ev_v (sl_lrow_numbers) r7_numbers) ev_int (by walk_at "sc") (by walk_at "ix")) ev_int) (es_cons ev_int (es_cons (ev_ix (0 : Int) (ev_v (sl_lrow_numbers) r7_numbers) ev_int (by walk_at "sc") (by walk_at "ix")) (es_cons (ev_bin b_add ev_int (ev_bin (b_mul (by walk_at "mu")) ev_int (ev_bin (b_mod (by walk_at "sc")) (ev_ix (0 : Int) (ev_v (sl_lrow_numbers) r7_numbers) ev_int (by walk_at "sc") (by walk_at "ix")) ev_int))) (es_cons (ev_bin b_sub (ev_v (sl_lrow_modulus) (up (x6.g.trans ((Same.refl _).trans (sgA6.trans (x9.g.trans x11.g)))) r2_modulus)) ev_int) es_nil)))))) (ev_bin (b_mod (by walk_at "sc")) (ev_ix (0 : Int) (ev_v (sl_lrow_head) (up (x4.g.trans (x6.g.trans ((Same.refl _).trans (sgA6.trans (x9.g.trans x11.g))))) r1_head)) ev_int (by walk_at "sc") (by walk_at "ix")) ev_int) (by walk_at "sc") (by walk_at "ix")) fun G8 H8 v8_number x13 l8 r8_number => ?_)
    have x0_8 := x0_7.trans x13
    have o8_row := o7_row.mono x13
    show tSs _ _ _ [some v_script, some v_most, some v_greatest, some v1_head, some v2_modulus, some v3_many, some (.ref q_row), some t1, some v7_numbers, some v8_number, y1_10] _
    obtain ⟨number, e14⟩ : ∃ z, z = ((([(((numbers).getD ((0 : Int)).toNat (0 : Int)) % (2 : Int)), (1 : Int), ((numbers).getD ((0 : Int)).toNat (0 : Int)), ((1 : Int) + ((2 : Int) * (((numbers).getD ((0 : Int)).toNat (0 : Int)) % (2 : Int)))), (modulus - (1 : Int))] : List Int)).getD ((((head).getD ((2 : Int)).toNat (0 : Int)) % (5 : Int))).toNat (0 : Int)) := ⟨_, rfl⟩
    rw [← e14] at r8_number
    have tk : _ = m_lrow_7 head modulus row numbers number := tk.trans (by first | (rw [e14] <;> rfl) | rfl)
    refine b_cons (s_if x0_8.s (et_cmp c_eq (ev_bin (b_mod (by walk_at "sc")) (ev_ix (0 : Int) (ev_v (sl_lrow_numbers) (up x13.g r7_numbers)) ev_int (by walk_at "sc") (by walk_at "ix")) ev_int) ev_int) (fun h15 G9 H9 x16 l9 => ?_) (fun h15 G9 H9 x16 l9 => ?_))
    · have tk := tk_tt tk h15
      have h15_ := h15; try simp only [Bool.and_eq_true, Bool.or_eq_true, Bool.and_eq_false_iff, Bool.or_eq_false_iff, Bool.not_eq_true', Bool.not_eq_false', decide_eq_true_eq, decide_eq_false_iff_not, Classical.not_not] at h15_
      have x0_9 := x0_8.trans x16
      have o9_row := o8_row.mono x16
      show tSs _ _ _ [some v_script, some v_most, some v_greatest, some v1_head, some v2_modulus, some v3_many, some (.ref q_row), some t1, some v7_numbers, some v8_number, y1_10] _
      refine b_cons (s_set sc_lrow.nd ss_lrow_number x0_9.s (ev_bin (b_mod (by walk_at "sc")) (ev_ix (0 : Int) (ev_v (sl_lrow_numbers) (up (x13.g.trans x16.g) r7_numbers)) ev_int (by walk_at "sc") (by walk_at "ix")) ev_int) fun G10 H10 v10_number x17 l10 r10_number => ?_)
      have x0_10 := x0_9.trans x17
      have o10_row := o9_row.mono x17
      show tSs _ _ _ [some v_script, some v_most, some v_greatest, some v1_head, some v2_modulus, some v3_many, some (.ref q_row), some t1, some v7_numbers, some v10_number, y1_10] _
      obtain ⟨number, e18⟩ : ∃ z, z = (((numbers).getD ((1 : Int)).toNat (0 : Int)) % (7 : Int)) := ⟨_, rfl⟩
      rw [← e18] at r10_number
      have tk : _ = m_lrow_8 head modulus row numbers number := tk.trans (by first | (rw [e18] <;> rfl) | rfl)
      refine b_nil ?_
      show tSs _ _ _ [some v_script, some v_most, some v_greatest, some v1_head, some v2_modulus, some v3_many, some (.ref q_row), some t1, some v7_numbers, some v10_number, y1_10] _
      refine b_cons (s_if x0_10.s (et_cmp c_gt (ev_bin (b_mod (by walk_at "sc")) (ev_ix (0 : Int) (ev_v (sl_lrow_head) (up (x4.g.trans (x6.g.trans ((Same.refl _).trans (sgA6.trans (x9.g.trans (x11.g.trans (x13.g.trans (x16.g.trans x17.g)))))))) r1_head)) ev_int (by walk_at "sc") (by walk_at "ix")) ev_int) ev_int) (fun h19 G11 H11 x20 l11 => ?_) (fun h19 G11 H11 x20 l11 => ?_))
      · have tk := tk_tt tk h19
        have h19_ := h19; try simp only [Bool.and_eq_true, Bool.or_eq_true, Bool.and_eq_false_iff, Bool.or_eq_false_iff, Bool.not_eq_true', Bool.not_eq_false', decide_eq_true_eq, decide_eq_false_iff_not, Classical.not_not] at h19_
        have x0_11 := x0_10.trans x20
        have o11_row := o10_row.mono x20
        show tSs _ _ _ [some v_script, some v_most, some v_greatest, some v1_head, some v2_modulus, some v3_many, some (.ref q_row), some t1, some v7_numbers, some v10_number, y1_10] _
        refine b_cons (s_set sc_lrow.nd ss_lrow_far x0_11.s (ev_ix (0 : Int) (ev_list (es_cons ev_int (es_cons (Ev.to (y := (100000 : Int)) (ev_bin (b_pow (by walk_at "pw")) ev_int ev_int) (by decide)) (es_cons (Ev.to (y := (1000000000 : Int)) (ev_bin (b_pow (by walk_at "pw")) ev_int ev_int) (by decide)) (es_cons (Ev.to (y := (100000000000000 : Int)) (ev_bin (b_pow (by walk_at "pw")) ev_int ev_int) (by decide)) (es_cons (Ev.to (y := (1000000000000000000 : Int)) (ev_bin (b_pow (by walk_at "pw")) ev_int ev_int) (by decide)) (es_cons (Ev.to (y := (100000000000000000000000 : Int)) (ev_bin (b_pow (by walk_at "pw")) ev_int ev_int) (by decide)) es_nil))))))) (ev_bin (b_mod (by walk_at "sc")) (ev_bin (b_div ⟨(by walk_at "sc"), (by walk_at "sc")⟩) (ev_ix (0 : Int) (ev_v (sl_lrow_numbers) (up (x13.g.trans (x16.g.trans (x17.g.trans x20.g))) r7_numbers)) ev_int (by walk_at "sc") (by walk_at "ix")) ev_int) ev_int) (by walk_at "sc") (by walk_at "ix")) fun G12 H12 v12_far x21 l12 r12_far => ?_)
        have x0_12 := x0_11.trans x21
        have o12_row := o11_row.mono x21
        show tSs _ _ _ [some v_script, some v_most, some v_greatest, some v1_head, some v2_modulus, some v3_many, some (.ref q_row), some t1, some v7_numbers, some v10_number, some v12_far] _
        obtain ⟨far, e22⟩ : ∃ z, z = ((([(1 : Int), (100000 : Int), (1000000000 : Int), (100000000000000 : Int), (1000000000000000000 : Int), (100000000000000000000000 : Int)] : List Int)).getD (((((numbers).getD ((2 : Int)).toNat (0 : Int)) / (5 : Int)) % (6 : Int))).toNat (0 : Int)) := ⟨_, rfl⟩
        rw [← e22] at r12_far
        have tk : _ = m_lrow_9 head modulus row numbers number far := tk.trans (by first | (rw [e22] <;> rfl) | rfl)
        refine b_cons (s_set sc_lrow.nd ss_lrow_number x0_12.s (ev_bin b_add (ev_v (sl_lrow_number) (up (x20.g.trans x21.g) r10_number)) (ev_bin (b_mul (by walk_at "mu")) (ev_bin (b_mul (by walk_at "mu")) (ev_v (sl_lrow_modulus) (up (x6.g.trans ((Same.refl _).trans (sgA6.trans (x9.g.trans (x11.g.trans (x13.g.trans (x16.g.trans (x17.g.trans (x20.g.trans x21.g))))))))) r2_modulus)) (ev_bin b_sub (ev_bin (b_mod (by walk_at "sc")) (ev_ix (0 : Int) (ev_v (sl_lrow_numbers) (up (x13.g.trans (x16.g.trans (x17.g.trans (x20.g.trans x21.g)))) r7_numbers)) ev_int (by walk_at "sc") (by walk_at "ix")) ev_int) ev_int)) (ev_v (sl_lrow_far) r12_far))) fun G13 H13 v13_number x23 l13 r13_number => ?_)
        have x0_13 := x0_12.trans x23
        have o13_row := o12_row.mono x23
        show tSs _ _ _ [some v_script, some v_most, some v_greatest, some v1_head, some v2_modulus, some v3_many, some (.ref q_row), some t1, some v7_numbers, some v13_number, some v12_far] _
        obtain ⟨number, e24⟩ : ∃ z, z = (number + ((modulus * ((((numbers).getD ((1 : Int)).toNat (0 : Int)) % (1009 : Int)) - (500 : Int))) * far)) := ⟨_, rfl⟩
        rw [← e24] at r13_number
        have tk : _ = m_lrow_10 head row number := tk.trans (by first | (rw [e24] <;> rfl) | rfl)
        refine b_nil ?_
        show tSs _ _ _ [some v_script, some v_most, some v_greatest, some v1_head, some v2_modulus, some v3_many, some (.ref q_row), some t1, some v7_numbers, some v13_number, some v12_far] _
        refine b_cons (s_append (sl_lrow_row) x0_13.s o13_row (ev_bin b_sub (ev_v (sl_lrow_number) r13_number) (ev_ix (0 : Int) (ev_list (es_cons ev_int (es_cons ev_int es_nil))) (ev_bin (b_mod (by walk_at "sc")) (ev_ix (0 : Int) (ev_v (sl_lrow_head) (up (x4.g.trans (x6.g.trans ((Same.refl _).trans (sgA6.trans (x9.g.trans (x11.g.trans (x13.g.trans (x16.g.trans (x17.g.trans (x20.g.trans (x21.g.trans x23.g))))))))))) r1_head)) ev_int (by walk_at "sc") (by walk_at "ix")) ev_int) (by walk_at "sc") (by walk_at "ix"))) (by walk_at "sz") fun G14 H14_ us26 x25 l14 o14_row => ?_)
        have x0_14 := (x0_13.trans x25).wr (o := .lst us26) m_q_row o14_row.off
        show tSs _ _ _ [some v_script, some v_most, some v_greatest, some v1_head, some v2_modulus, some v3_many, some (.ref q_row), some t1, some v7_numbers, some v13_number, some v12_far] _
        refine b_nil ?_
        exact ⟨_, x11.g.trans (x13.g.trans (x16.g.trans (x17.g.trans (x20.g.trans (x21.g.trans (x23.g.trans x25.g)))))), x0_14.s, (row ++ [(number - ((([(0 : Int), (3 : Int)] : List Int)).getD ((((head).getD ((4 : Int)).toNat (0 : Int)) % (2 : Int))).toNat (0 : Int)))]), lfold_nxt es1 tk, x0_14, some t1, some v7_numbers, some v13_number, some v12_far, rfl, o14_row, by have hi := inv1_0; (try simp only [List.length_cons, List.length_nil, List.length_append, rng_len, enum_len] at hi ⊢); first | omega | walk_at "invx"⟩
      · have tk := tk_ff tk h19
        have h19_ := h19; try simp only [Bool.and_eq_true, Bool.or_eq_true, Bool.and_eq_false_iff, Bool.or_eq_false_iff, Bool.not_eq_true', Bool.not_eq_false', decide_eq_true_eq, decide_eq_false_iff_not, Classical.not_not] at h19_
        have x0_11 := x0_10.trans x20
        have o11_row := o10_row.mono x20
        show tSs _ _ _ [some v_script, some v_most, some v_greatest, some v1_head, some v2_modulus, some v3_many, some (.ref q_row), some t1, some v7_numbers, some v10_number, y1_10] _
        refine b_nil ?_
        show tSs _ _ _ [some v_script, some v_most, some v_greatest, some v1_head, some v2_modulus, some v3_many, some (.ref q_row), some t1, some v7_numbers, some v10_number, y1_10] _
        refine b_cons (s_append (sl_lrow_row) x0_11.s o11_row (ev_bin b_sub (ev_v (sl_lrow_number) (up x20.g r10_number)) (ev_ix (0 : Int) (ev_list (es_cons ev_int (es_cons ev_int es_nil))) (ev_bin (b_mod (by walk_at "sc")) (ev_ix (0 : Int) (ev_v (sl_lrow_head) (up (x4.g.trans (x6.g.trans ((Same.refl _).trans (sgA6.trans (x9.g.trans (x11.g.trans (x13.g.trans (x16.g.trans (x17.g.trans x20.g))))))))) r1_head)) ev_int (by walk_at "sc") (by walk_at "ix")) ev_int) (by walk_at "sc") (by walk_at "ix"))) (by walk_at "sz") fun G15 H15_ us28 x27 l15 o15_row => ?_)
        have x0_15 := (x0_11.trans x27).wr (o := .lst us28) m_q_row o15_row.off
        show tSs _ _ _ [some v_script, some v_most, some v_greatest, some v1_head, some v2_modulus, some v3_many, some (.ref q_row), some t1, some v7_numbers, some v10_number, y1_10] _
        refine b_nil ?_
        exact ⟨_, x11.g.trans (x13.g.trans (x16.g.trans (x17.g.trans (x20.g.trans x27.g)))), x0_15.s, (row ++ [(number - ((([(0 : Int), (3 : Int)] : List Int)).getD ((((head).getD ((4 : Int)).toNat (0 : Int)) % (2 : Int))).toNat (0 : Int)))]), lfold_nxt es1 tk, x0_15, some t1, some v7_numbers, some v10_number, y1_10, rfl, o15_row, by have hi := inv1_0; (try simp only [List.length_cons, List.length_nil, List.length_append, rng_len, enum_len] at hi ⊢); first | omega | walk_at "invx"⟩
    · have tk := tk_ff tk h15
      have h15_ := h15; try simp only [Bool.and_eq_true, Bool.or_eq_true, Bool.and_eq_false_iff, Bool.or_eq_false_iff, Bool.not_eq_true', Bool.not_eq_false', decide_eq_true_eq, decide_eq_false_iff_not, Classical.not_not] at h15_
      have x0_9 := x0_8.trans x16
      have o9_row := o8_row.mono x16
      show tSs _ _ _ [some v_script, some v_most, some v_greatest, some v1_head, some v2_modulus, some v3_many, some (.ref q_row), some t1, some v7_numbers, some v8_number, y1_10] _
      refine b_nil ?_
      show tSs _ _ _ [some v_script, some v_most, some v_greatest, some v1_head, some v2_modulus, some v3_many, some (.ref q_row), some t1, some v7_numbers, some v8_number, y1_10] _
      refine b_cons (s_if x0_9.s (et_cmp c_gt (ev_bin (b_mod (by walk_at "sc")) (ev_ix (0 : Int) (ev_v (sl_lrow_head) (up (x4.g.trans (x6.g.trans ((Same.refl _).trans (sgA6.trans (x9.g.trans (x11.g.trans (x13.g.trans x16.g))))))) r1_head)) ev_int (by walk_at "sc") (by walk_at "ix")) ev_int) ev_int) (fun h29 G16 H16 x30 l16 => ?_) (fun h29 G16 H16 x30 l16 => ?_))
      · have tk := tk_tt tk h29
        have h29_ := h29; try simp only [Bool.and_eq_true, Bool.or_eq_true, Bool.and_eq_false_iff, Bool.or_eq_false_iff, Bool.not_eq_true', Bool.not_eq_false', decide_eq_true_eq, decide_eq_false_iff_not, Classical.not_not] at h29_
        have x0_16 := x0_9.trans x30
        have o16_row := o9_row.mono x30
        show tSs _ _ _ [some v_script, some v_most, some v_greatest, some v1_head, some v2_modulus, some v3_many, some (.ref q_row), some t1, some v7_numbers, some v8_number, y1_10] _
        refine b_cons (s_set sc_lrow.nd ss_lrow_far x0_16.s (ev_ix (0 : Int) (ev_list (es_cons ev_int (es_cons (Ev.to (y := (100000 : Int)) (ev_bin (b_pow (by walk_at "pw")) ev_int ev_int) (by decide)) (es_cons (Ev.to (y := (1000000000 : Int)) (ev_bin (b_pow (by walk_at "pw")) ev_int ev_int) (by decide)) (es_cons (Ev.to (y := (100000000000000 : Int)) (ev_bin (b_pow (by walk_at "pw")) ev_int ev_int) (by decide)) (es_cons (Ev.to (y := (1000000000000000000 : Int)) (ev_bin (b_pow (by walk_at "pw")) ev_int ev_int) (by decide)) (es_cons (Ev.to (y := (100000000000000000000000 : Int)) (ev_bin (b_pow (by walk_at "pw")) ev_int ev_int) (by decide)) es_nil))))))) (ev_bin (b_mod (by walk_at "sc")) (ev_bin (b_div ⟨(by walk_at "sc"), (by walk_at "sc")⟩) (ev_ix (0 : Int) (ev_v (sl_lrow_numbers) (up (x13.g.trans (x16.g.trans x30.g)) r7_numbers)) ev_int (by walk_at "sc") (by walk_at "ix")) ev_int) ev_int) (by walk_at "sc") (by walk_at "ix")) fun G17 H17 v17_far x31 l17 r17_far => ?_)
        have x0_17 := x0_16.trans x31
        have o17_row := o16_row.mono x31
        show tSs _ _ _ [some v_script, some v_most, some v_greatest, some v1_head, some v2_modulus, some v3_many, some (.ref q_row), some t1, some v7_numbers, some v8_number, some v17_far] _
        obtain ⟨far, e32⟩ : ∃ z, z = ((([(1 : Int), (100000 : Int), (1000000000 : Int), (100000000000000 : Int), (1000000000000000000 : Int), (100000000000000000000000 : Int)] : List Int)).getD (((((numbers).getD ((2 : Int)).toNat (0 : Int)) / (5 : Int)) % (6 : Int))).toNat (0 : Int)) := ⟨_, rfl⟩
        rw [← e32] at r17_far
        have tk : _ = m_lrow_11 head modulus row numbers number far := tk.trans (by first | (rw [e32] <;> rfl) | rfl)
        refine b_cons (s_set sc_lrow.nd ss_lrow_number x0_17.s (ev_bin b_add (ev_v (sl_lrow_number) (up (x16.g.trans (x30.g.trans x31.g)) r8_number)) (ev_bin (b_mul (by walk_at "mu")) (ev_bin (b_mul (by walk_at "mu")) (ev_v (sl_lrow_modulus) (up (x6.g.trans ((Same.refl _).trans (sgA6.trans (x9.g.trans (x11.g.trans (x13.g.trans (x16.g.trans (x30.g.trans x31.g)))))))) r2_modulus)) (ev_bin b_sub (ev_bin (b_mod (by walk_at "sc")) (ev_ix (0 : Int) (ev_v (sl_lrow_numbers) (up (x13.g.trans (x16.g.trans (x30.g.trans x31.g))) r7_numbers)) ev_int (by walk_at "sc") (by walk_at "ix")) ev_int) ev_int)) (ev_v (sl_lrow_far) r17_far))) fun G18 H18 v18_number x33 l18 r18_number => ?_)
        have x0_18 := x0_17.trans x33
        have o18_row := o17_row.mono x33
        show tSs _ _ _ [some v_script, some v_most, some v_greatest, some v1_head, some v2_modulus, some v3_many, some (.ref q_row), some t1, some v7_numbers, some v18_number, some v17_far] _
        obtain ⟨number, e34⟩ : ∃ z, z = (number + ((modulus * ((((numbers).getD ((1 : Int)).toNat (0 : Int)) % (1009 : Int)) - (500 : Int))) * far)) := ⟨_, rfl⟩
        rw [← e34] at r18_number
        have tk : _ = m_lrow_12 head row number := tk.trans (by first | (rw [e34] <;> rfl) | rfl)
        refine b_nil ?_
        show tSs _ _ _ [some v_script, some v_most, some v_greatest, some v1_head, some v2_modulus, some v3_many, some (.ref q_row), some t1, some v7_numbers, some v18_number, some v17_far] _
        refine b_cons (s_append (sl_lrow_row) x0_18.s o18_row (ev_bin b_sub (ev_v (sl_lrow_number) r18_number) (ev_ix (0 : Int) (ev_list (es_cons ev_int (es_cons ev_int es_nil))) (ev_bin (b_mod (by walk_at "sc")) (ev_ix (0 : Int) (ev_v (sl_lrow_head) (up (x4.g.trans (x6.g.trans ((Same.refl _).trans (sgA6.trans (x9.g.trans (x11.g.trans (x13.g.trans (x16.g.trans (x30.g.trans (x31.g.trans x33.g)))))))))) r1_head)) ev_int (by walk_at "sc") (by walk_at "ix")) ev_int) (by walk_at "sc") (by walk_at "ix"))) (by walk_at "sz") fun G19 H19_ us36 x35 l19 o19_row => ?_)
        have x0_19 := (x0_18.trans x35).wr (o := .lst us36) m_q_row o19_row.off
        show tSs _ _ _ [some v_script, some v_most, some v_greatest, some v1_head, some v2_modulus, some v3_many, some (.ref q_row), some t1, some v7_numbers, some v18_number, some v17_far] _
        refine b_nil ?_
        exact ⟨_, x11.g.trans (x13.g.trans (x16.g.trans (x30.g.trans (x31.g.trans (x33.g.trans x35.g))))), x0_19.s, (row ++ [(number - ((([(0 : Int), (3 : Int)] : List Int)).getD ((((head).getD ((4 : Int)).toNat (0 : Int)) % (2 : Int))).toNat (0 : Int)))]), lfold_nxt es1 tk, x0_19, some t1, some v7_numbers, some v18_number, some v17_far, rfl, o19_row, by have hi := inv1_0; (try simp only [List.length_cons, List.length_nil, List.length_append, rng_len, enum_len] at hi ⊢); first | omega | walk_at "invx"⟩
      · have tk := tk_ff tk h29
        have h29_ := h29; try simp only [Bool.and_eq_true, Bool.or_eq_true, Bool.and_eq_false_iff, Bool.or_eq_false_iff, Bool.not_eq_true', Bool.not_eq_false', decide_eq_true_eq, decide_eq_false_iff_not, Classical.not_not] at h29_
        have x0_16 := x0_9.trans x30
        have o16_row := o9_row.mono x30
        show tSs _ _ _ [some v_script, some v_most, some v_greatest, some v1_head, some v2_modulus, some v3_many, some (.ref q_row), some t1, some v7_numbers, some v8_number, y1_10] _
        refine b_nil ?_
        show tSs _ _ _ [some v_script, some v_most, some v_greatest, some v1_head, some v2_modulus, some v3_many, some (.ref q_row), some t1, some v7_numbers, some v8_number, y1_10] _
        refine b_cons (s_append (sl_lrow_row) x0_16.s o16_row (ev_bin b_sub (ev_v (sl_lrow_number) (up (x16.g.trans x30.g) r8_number)) (ev_ix (0 : Int) (ev_list (es_cons ev_int (es_cons ev_int es_nil))) (ev_bin (b_mod (by walk_at "sc")) (ev_ix (0 : Int) (ev_v (sl_lrow_head) (up (x4.g.trans (x6.g.trans ((Same.refl _).trans (sgA6.trans (x9.g.trans (x11.g.trans (x13.g.trans (x16.g.trans x30.g)))))))) r1_head)) ev_int (by walk_at "sc") (by walk_at "ix")) ev_int) (by walk_at "sc") (by walk_at "ix"))) (by walk_at "sz") fun G20 H20_ us38 x37 l20 o20_row => ?_)
        have x0_20 := (x0_16.trans x37).wr (o := .lst us38) m_q_row o20_row.off
        show tSs _ _ _ [some v_script, some v_most, some v_greatest, some v1_head, some v2_modulus, some v3_many, some (.ref q_row), some t1, some v7_numbers, some v8_number, y1_10] _
        refine b_nil ?_
        exact ⟨_, x11.g.trans (x13.g.trans (x16.g.trans (x30.g.trans x37.g))), x0_20.s, (row ++ [(number - ((([(0 : Int), (3 : Int)] : List Int)).getD ((((head).getD ((4 : Int)).toNat (0 : Int)) % (2 : Int))).toNat (0 : Int)))]), lfold_nxt es1 tk, x0_20, some t1, some v7_numbers, some v8_number, y1_10, rfl, o20_row, by have hi := inv1_0; (try simp only [List.length_cons, List.length_nil, List.length_append, rng_len, enum_len] at hi ⊢); first | omega | walk_at "invx"⟩
  · intro σ1 G21 H21 sgC21 sh1 I_
    obtain ⟨row, es1, x0_21, y1_7, y1_8, y1_9, y1_10, rfl, o21_row, inv1_0⟩ := I_
    have tk := tk_fold (k := (m_lrow_5 modulus)) tk es1
    have inv1_0_ := inv1_0; try simp only [List.length_cons, List.length_nil, rng_len, enum_len] at inv1_0_
    show tSs _ _ _ [some v_script, some v_most, some v_greatest, some v1_head, some v2_modulus, some v3_many, some (.ref q_row), y1_7, y1_8, y1_9, y1_10] _
    obtain ⟨G22, x0_22, sg22, r22_row⟩ := o21_row.frz x0_21 m_q_row
    refine b_cons (s_ret x0_22.s (ev_tup (ev_v (sl_lrow_row) r22_row) (ev_v (sl_lrow_modulus) (up (x6.g.trans ((Same.refl _).trans (sgC21.trans sg22))) r2_modulus))) fun G_ H_ v40 x39 _ r_ => ?_)
    exact fin.rt _ _ _ (x0_22.trans x39) (rep_of tk r_) (fun z => nomatch z)
end

abbrev N_lcnt : List Str := ["row", "modulus", "table", "k", "number", "many", "rest", "more"]
theorem sc_lcnt : FnScope N_lcnt ["row", "modulus"] (defScope s__law_counted) := ⟨rfl, rfl, rfl, by decide +kernel, rfl, by decide +kernel, by decide +kernel⟩
theorem sl_lcnt_many {P : Program} {w : World} {K : PySem.W.Frag} {mg : Str → Option Value} {base : Heap} {f : Addr} {cdv : Value} {A : Around} {outer : List Env} {s : Shared} {H : Hp} {E : XK} : Sl (cxOf (L2.CX P w) P w K mg base N_lcnt "_law_counted" (defScope s__law_counted) f cdv A outer s H E) 5 "many" := ⟨rfl, (by first | exact .inl rfl | exact .inr (.inl rfl)), nm_many⟩
theorem sl_lcnt_modulus {P : Program} {w : World} {K : PySem.W.Frag} {mg : Str → Option Value} {base : Heap} {f : Addr} {cdv : Value} {A : Around} {outer : List Env} {s : Shared} {H : Hp} {E : XK} : Sl (cxOf (L2.CX P w) P w K mg base N_lcnt "_law_counted" (defScope s__law_counted) f cdv A outer s H E) 1 "modulus" := ⟨rfl, (by first | exact .inl rfl | exact .inr (.inl rfl)), nm_modulus⟩
theorem sl_lcnt_more {P : Program} {w : World} {K : PySem.W.Frag} {mg : Str → Option Value} {base : Heap} {f : Addr} {cdv : Value} {A : Around} {outer : List Env} {s : Shared} {H : Hp} {E : XK} : Sl (cxOf (L2.CX P w) P w K mg base N_lcnt "_law_counted" (defScope s__law_counted) f cdv A outer s H E) 7 "more" := ⟨rfl, (by first | exact .inl rfl | exact .inr (.inl rfl)), nm_more⟩
theorem sl_lcnt_number {P : Program} {w : World} {K : PySem.W.Frag} {mg : Str → Option Value} {base : Heap} {f : Addr} {cdv : Value} {A : Around} {outer : List Env} {s : Shared} {H : Hp} {E : XK} : Sl (cxOf (L2.CX P w) P w K mg base N_lcnt "_law_counted" (defScope s__law_counted) f cdv A outer s H E) 4 "number" := ⟨rfl, (by first | exact .inl rfl | exact .inr (.inl rfl)), nm_number⟩
theorem sl_lcnt_rest_ {P : Program} {w : World} {K : PySem.W.Frag} {mg : Str → Option Value} {base : Heap} {f : Addr} {cdv : Value} {A : Around} {outer : List Env} {s : Shared} {H : Hp} {E : XK} : Sl (cxOf (L2.CX P w) P w K mg base N_lcnt "_law_counted" (defScope s__law_counted) f cdv A outer s H E) 6 "rest" := ⟨rfl, (by first | exact .inl rfl | exact .inr (.inl rfl)), nm_rest_⟩
theorem sl_lcnt_row {P : Program} {w : World} {K : PySem.W.Frag} {mg : Str → Option Value} {base : Heap} {f : Addr} {cdv : Value} {A : Around} {outer : List Env} {s : Shared} {H : Hp} {E : XK} : Sl (cxOf (L2.CX P w) P w K mg base N_lcnt "_law_counted" (defScope s__law_counted) f cdv A outer s H E) 0 "row" := ⟨rfl, (by first | exact .inl rfl | exact .inr (.inl rfl)), nm_row⟩
theorem sl_lcnt_table {P : Program} {w : World} {K : PySem.W.Frag} {mg : Str → Option Value} {base : Heap} {f : Addr} {cdv : Value} {A : Around} {outer : List Env} {s : Shared} {H : Hp} {E : XK} : Sl (cxOf (L2.CX P w) P w K mg base N_lcnt "_law_counted" (defScope s__law_counted) f cdv A outer s H E) 2 "table" := ⟨rfl, (by first | exact .inl rfl | exact .inr (.inl rfl)), nm_table⟩
theorem ss_lcnt_table {P : Program} {w : World} {K : PySem.W.Frag} {mg : Str → Option Value} {base : Heap} {f : Addr} {cdv : Value} {A : Around} {outer : List Env} {s : Shared} {H : Hp} {E : XK} : Ss (cxOf (L2.CX P w) P w K mg base N_lcnt "_law_counted" (defScope s__law_counted) f cdv A outer s H E) 2 "table" := ⟨rfl, (by first | exact .inl rfl | exact .inr rfl), .inl rfl⟩
theorem ss_lcnt_number {P : Program} {w : World} {K : PySem.W.Frag} {mg : Str → Option Value} {base : Heap} {f : Addr} {cdv : Value} {A : Around} {outer : List Env} {s : Shared} {H : Hp} {E : XK} : Ss (cxOf (L2.CX P w) P w K mg base N_lcnt "_law_counted" (defScope s__law_counted) f cdv A outer s H E) 4 "number" := ⟨rfl, (by first | exact .inl rfl | exact .inr rfl), .inl rfl⟩
theorem ss_lcnt_many {P : Program} {w : World} {K : PySem.W.Frag} {mg : Str → Option Value} {base : Heap} {f : Addr} {cdv : Value} {A : Around} {outer : List Env} {s : Shared} {H : Hp} {E : XK} : Ss (cxOf (L2.CX P w) P w K mg base N_lcnt "_law_counted" (defScope s__law_counted) f cdv A outer s H E) 5 "many" := ⟨rfl, (by first | exact .inl rfl | exact .inr rfl), .inl rfl⟩
theorem ss_lcnt_rest_ {P : Program} {w : World} {K : PySem.W.Frag} {mg : Str → Option Value} {base : Heap} {f : Addr} {cdv : Value} {A : Around} {outer : List Env} {s : Shared} {H : Hp} {E : XK} : Ss (cxOf (L2.CX P w) P w K mg base N_lcnt "_law_counted" (defScope s__law_counted) f cdv A outer s H E) 6 "rest" := ⟨rfl, (by first | exact .inl rfl | exact .inr rfl), .inl rfl⟩
theorem ss_lcnt_more {P : Program} {w : World} {K : PySem.W.Frag} {mg : Str → Option Value} {base : Heap} {f : Addr} {cdv : Value} {A : Around} {outer : List Env} {s : Shared} {H : Hp} {E : XK} : Ss (cxOf (L2.CX P w) P w K mg base N_lcnt "_law_counted" (defScope s__law_counted) f cdv A outer s H E) 7 "more" := ⟨rfl, (by first | exact .inl rfl | exact .inr rfl), .inl rfl⟩
theorem gl_lcnt_len {P : Program} {w : World} {K : PySem.W.Frag} {mg : Str → Option Value} {base : Heap} {f : Addr} {cdv : Value} {A : Around} {outer : List Env} {s : Shared} {H : Hp} {E : XK} : Gl (cxOf (L2.CX P w) P w K mg base N_lcnt "_law_counted" (defScope s__law_counted) f cdv A outer s H E) "len" := by rfl
theorem gl_lcnt_range {P : Program} {w : World} {K : PySem.W.Frag} {mg : Str → Option Value} {base : Heap} {f : Addr} {cdv : Value} {A : Around} {outer : List Env} {s : Shared} {H : Hp} {E : XK} : Gl (cxOf (L2.CX P w) P w K mg base N_lcnt "_law_counted" (defScope s__law_counted) f cdv A outer s H E) "range" := by rfl
section
local macro_rules | `(tactic| walk_at "ix") => `(tactic| first | omega | exact Grid.ix (by assumption) (by omega) | exact Grid.ix2 (by assumption) (by omega) (by first | omega | exact Int.emod_lt_of_pos _ (by omega)) | fail)
local macro_rules | `(tactic| walk_at "sc") => `(tactic| first | omega | exact Int.emod_nonneg _ (by omega) | fail)
local macro_rules | `(tactic| walk_at "inv0") => `(tactic| first | assumption | fail)
local macro_rules | `(tactic| walk_at "invx") => `(tactic| first | assumption | fail)
local macro_rules | `(tactic| walk_at "sz") => `(tactic| first | (rw [sizeLine_eq]; simp only [List.length_cons, List.length_nil]; omega) | fail)
theorem cal_lcnt {P : Program} {w : World} {K : PySem.W.Frag} {mg : Str → Option Value} {base : Heap} {f : Addr} {fd : FuncData} (T : Txt K mg) (F : Fun K "_law_counted" "_law_counted" s__law_counted f fd) (hm : mg "_law_counted" = some (.ref f)) (hb : Binds K fd ["row", "modulus"] [])  : Cal P w K mg base 1 "_law_counted" (Sp2 K false (fun (row : (List Int)) (modulus : Int) => row.length ≤ 40 ∧ 1 ≤ modulus ∧ modulus ≤ 25) m_lcnt) := by
  refine fn2 F hm hb sc_lcnt rfl fun cdv A outer s H0 E hr G0 v_row v_modulus row modulus D s0 r_row r_modulus hp fin => ?_
  have x0_0 : Ext G0 H0 G0 H0 := Ext.refl s0
  show tSs _ _ D [some v_row, some v_modulus, none, none, none, none, none, none] H0
  have hpc := hp; obtain ⟨hp_0, hp_1, hp_2⟩ := hpc
  have tk : m_lcnt row modulus = _ := rfl
  refine b_cons (s_setT ss_lcnt_table x0_0.s (fun (k : Int) => (List.replicate (modulus).toNat ([(0 : Int)] : List Int)).flatten) rfl sc_lcnt.nd (ei_range1 ⟨gl_lcnt_range, T.b_range⟩ (ev_bin b_add (ev_len ⟨gl_lcnt_len, T.b_len⟩ (ev_v (sl_lcnt_row) r_row)) ev_int) (by walk_at "sc") (by walk_at "sc")) [("k", 3)] (blkOk_by (N := N_lcnt) (sc := defScope s__law_counted) (by decide +kernel)) (fun _ _ _ _ _ => pg_name (i := 3) sc_lcnt.nd rfl (.inl rfl)) (fun k v12 G2 H3 hx4 x1 r13 s6 s7 s8 s9 s10 => (evN_rep (by walk_at "sc") (by walk_at "sc") (by walk_at "sz") (ev_list (es_cons ev_int es_nil)) (ev_v ((⟨rfl, (by first | exact .inr (.inl rfl) | exact .inr (.inr rfl) | exact .inl rfl), nm_modulus⟩ : Sl _ 1 _)) (up x1.g r_modulus)))) fun G2 H2 q_table x14 l2 or2 => ?_)
  have x0_2 := x0_0.trans x14
  have o2_table := or2.back x0_0.h
  show tSs _ _ _ [some v_row, some v_modulus, some (.ref q_table), none, none, none, none, none] _
  obtain ⟨table, e15⟩ : ∃ z, z = ((rng 0 (((row).length : Int) + (1 : Int))).map (fun (k : Int) => (List.replicate (modulus).toNat ([(0 : Int)] : List Int)).flatten)) := ⟨_, rfl⟩
  rw [← e15] at o2_table
  have tk : _ = m_lcnt_1 row modulus table := tk.trans (by first | (rw [e15] <;> rfl) | rfl)
  have f_e15 : Grid row.length modulus table := by rw [e15]; exact grid_new hp.2.1
  have g_e15 := congrArg List.length e15; try simp only [List.length_append, List.length_cons, List.length_nil, rng_len, List.length_map, List.length_reverse, List.length_set] at g_e15
  refine b_cons (s_putT (sl_lcnt_table) x0_2.s o2_table ev_int ev_int ev_int (by walk_at "sc") (by walk_at "ix") (by walk_at "sc") (by walk_at "ix") fun G3 H3_ qq18 us17 x16 l3 hn19 hg20 o3_table => ?_)
  have x0_3 := (x0_2.trans x16).wr (o := us17) hn19 hg20
  show tSs _ _ _ [some v_row, some v_modulus, some (.ref q_table), none, none, none, none, none] _
  obtain ⟨table, e21⟩ : ∃ z, z = (table.set ((0 : Int)).toNat ((table.getD ((0 : Int)).toNat []).set ((0 : Int)).toNat (1 : Int))) := ⟨_, rfl⟩
  rw [← e21] at o3_table
  have tk : _ = m_lcnt_2 row modulus table := tk.trans (by first | (rw [e21] <;> rfl) | rfl)
  have f_e21 : Grid row.length modulus table := by rw [e21]; exact (by assumption : Grid _ _ _).set _ _ _
  have g_e21 := congrArg List.length e21; try simp only [List.length_append, List.length_cons, List.length_nil, rng_len, List.length_map, List.length_reverse, List.length_set] at g_e21
  refine b_cons (s_for (T := (T1 K 4)) (passes_of rfl) rfl (pg_name (i := 4) sc_lcnt.nd rfl ss_lcnt_number.hx) acts1 x0_3.s (ei_list (ev_v (sl_lcnt_row) (up (x14.g.trans x16.g) r_row))) (fun rest σ G H => ∃ (table_0 : (List (List Int))), lfold (m_lcnt_3s row modulus) rest table_0 = lfold (m_lcnt_3s row modulus) row table ∧ Ext G0 H0 G H ∧ ∃ (y1_4 y1_5 y1_6 y1_7 : Option V), σ = [some v_row, some v_modulus, some (.ref q_table), none, y1_4, y1_5, y1_6, y1_7] ∧ OwnT K H0 G H q_table table_0 ∧ Grid row.length modulus table_0) (fun _ _ x => ⟨table, rfl, x0_3.trans x, none, none, none, none, rfl, o3_table.mono x, by walk_at "inv0"⟩) ?_ ?_)
  · intro number rest σ1 G4 H4 G5 H5 σ2 hx1 sgA5 sh1 I_ x22 l5 hT
    obtain ⟨table_0, es1, x0_4, y1_4, y1_5, y1_6, y1_7, rfl, o4_table, inv1_0⟩ := I_
    have x0_5 := x0_4.trans x22
    have o5_table := o4_table.mono x22
    obtain ⟨t1, rt1, rfl⟩ := hT
    have inv1_0_ := inv1_0; try simp only [List.length_cons, List.length_nil] at inv1_0_
    have mem1 := mem_of hx1.1
    have hlx1 := hx1.2; rw [sizeLine_eq] at hlx1
    have hlr1 := mem_len hx1.1
    have tk1 := tk
    have tk : m_lcnt_3s row modulus number table_0 = _ := rfl
    show tSs _ _ _ [some v_row, some v_modulus, some (.ref q_table), none, some t1, y1_5, y1_6, y1_7] _
    refine b_cons (s_for (T := (T1 K 5)) (passes_of rfl) rfl (pg_name (i := 5) sc_lcnt.nd rfl ss_lcnt_many.hx) acts1 x0_5.s (ei_rangeD ⟨gl_lcnt_range, T.b_range⟩ (ev_len ⟨gl_lcnt_len, T.b_len⟩ (ev_v (sl_lcnt_row) (up (x14.g.trans (x16.g.trans (sgA5.trans x22.g))) r_row))) ev_int (Ev.to (y := (-1 : Int)) (ev_neg ev_int) (by decide)) ⟨⟨(by walk_at "sc"), (by walk_at "sc")⟩, (by walk_at "sc"), (by walk_at "sc"), (by walk_at "sc")⟩) (fun rest σ G H => ∃ (table : (List (List Int))), lfold (m_lcnt_5s modulus number) rest table = lfold (m_lcnt_5s modulus number) (rngD ((row).length : Int) (0 : Int)) table_0 ∧ Ext G0 H0 G H ∧ ∃ (y2_5 y2_6 y2_7 : Option V), σ = [some v_row, some v_modulus, some (.ref q_table), none, some t1, y2_5, y2_6, y2_7] ∧ OwnT K H0 G H q_table table ∧ Grid row.length modulus table) (fun _ _ x => ⟨table_0, rfl, x0_5.trans x, y1_5, y1_6, y1_7, rfl, o5_table.mono x, by walk_at "inv0"⟩) ?_ ?_)
    · intro many rest σ1 G6 H6 G7 H7 σ2 hx2 sgA7 sh2 I_ x23 l7 hT
      obtain ⟨table, es2, x0_6, y2_5, y2_6, y2_7, rfl, o6_table, inv2_0⟩ := I_
      have x0_7 := x0_6.trans x23
      have o7_table := o6_table.mono x23
      obtain ⟨t2, rt2, rfl⟩ := hT
      have inv2_0_ := inv2_0; try simp only [List.length_cons, List.length_nil] at inv2_0_
      have mem2 := mem_of hx2.1
      have hlx2 := hx2.2; rw [sizeLine_eq] at hlx2
      have hlr2 := mem_len hx2.1
      have tk2 := tk
      have mem2_ := mem_rngD mem2
      have tk : m_lcnt_5s modulus number many table = _ := rfl
      show tSs _ _ _ [some v_row, some v_modulus, some (.ref q_table), none, some t1, some t2, y2_6, y2_7] _
      refine b_cons (s_for (T := (T1 K 6)) (passes_of rfl) rfl (pg_name (i := 6) sc_lcnt.nd rfl ss_lcnt_rest_.hx) acts1 x0_7.s (ei_range1 ⟨gl_lcnt_range, T.b_range⟩ (ev_v (sl_lcnt_modulus) (up (x14.g.trans (x16.g.trans (sgA5.trans (x22.g.trans (sgA7.trans x23.g))))) r_modulus)) (by walk_at "sc") (by walk_at "sc")) (fun rest σ G H => ∃ (table_2 : (List (List Int))), lfold (m_lcnt_7s modulus number many) rest table_2 = lfold (m_lcnt_7s modulus number many) (rng 0 modulus) table ∧ Ext G0 H0 G H ∧ ∃ (y3_6 y3_7 : Option V), σ = [some v_row, some v_modulus, some (.ref q_table), none, some t1, some t2, y3_6, y3_7] ∧ OwnT K H0 G H q_table table_2 ∧ Grid row.length modulus table_2) (fun _ _ x => ⟨table, rfl, x0_7.trans x, y2_6, y2_7, rfl, o7_table.mono x, by walk_at "inv0"⟩) ?_ ?_)
      · intro rest_ rest σ1 G8 H8 G9 H9 σ2 hx3 sgA9 sh3 I_ x24 l9 hT
        obtain ⟨table_2, es3, x0_8, y3_6, y3_7, rfl, o8_table, inv3_0⟩ := I_
        have x0_9 := x0_8.trans x24
        have o9_table := o8_table.mono x24
        obtain ⟨t3, rt3, rfl⟩ := hT
        have inv3_0_ := inv3_0; try simp only [List.length_cons, List.length_nil] at inv3_0_
        have mem3 := mem_of hx3.1
        have hlx3 := hx3.2; rw [sizeLine_eq] at hlx3
        have hlr3 := mem_len hx3.1
        have tk3 := tk
        have mem3_ := mem_rng.mp mem3
        have tk : m_lcnt_7s modulus number many rest_ table_2 = _ := rfl
        show tSs _ _ _ [some v_row, some v_modulus, some (.ref q_table), none, some t1, some t2, some t3, y3_7] _
        refine b_cons (s_set sc_lcnt.nd ss_lcnt_more x0_9.s (ev_ix (0 : Int) (ev_ixT (ev_vT (sl_lcnt_table) o9_table) (ev_bin b_sub (ev_v (sl_lcnt_many) (up (sgA9.trans x24.g) rt2)) ev_int) (by walk_at "sc") (by walk_at "ix")) (ev_bin (b_mod (by walk_at "sc")) (ev_bin b_sub (ev_v (sl_lcnt_rest_) rt3) (ev_v (sl_lcnt_number) (up (sgA7.trans (x23.g.trans (sgA9.trans x24.g))) rt1))) (ev_v (sl_lcnt_modulus) (up (x14.g.trans (x16.g.trans (sgA5.trans (x22.g.trans (sgA7.trans (x23.g.trans (sgA9.trans x24.g))))))) r_modulus))) (by walk_at "sc") (by walk_at "ix")) fun G10 H10 v10_more x25 l10 r10_more => ?_)
        have x0_10 := x0_9.trans x25
        have o10_table := o9_table.mono x25
        show tSs _ _ _ [some v_row, some v_modulus, some (.ref q_table), none, some t1, some t2, some t3, some v10_more] _
        obtain ⟨more, e26⟩ : ∃ z, z = (((table_2.getD ((many - (1 : Int))).toNat [])).getD (((rest_ - number) % modulus)).toNat (0 : Int)) := ⟨_, rfl⟩
        rw [← e26] at r10_more
        have tk : _ = m_lcnt_9 many table_2 rest_ more := tk.trans (by first | (rw [e26] <;> rfl) | rfl)
        refine b_cons (s_putT (sl_lcnt_table) x0_10.s o10_table (ev_bin b_add (ev_ix (0 : Int) (ev_ixT (ev_vT (sl_lcnt_table) o10_table) (ev_v (sl_lcnt_many) (up (sgA9.trans (x24.g.trans x25.g)) rt2)) (by walk_at "sc") (by walk_at "ix")) (ev_v (sl_lcnt_rest_) (up x25.g rt3)) (by walk_at "sc") (by walk_at "ix")) (ev_v (sl_lcnt_more) r10_more)) (ev_v (sl_lcnt_many) (up (sgA9.trans (x24.g.trans x25.g)) rt2)) (ev_v (sl_lcnt_rest_) (up x25.g rt3)) (by walk_at "sc") (by walk_at "ix") (by walk_at "sc") (by walk_at "ix") fun G11 H11_ qq29 us28 x27 l11 hn30 hg31 o11_table => ?_)
        have x0_11 := (x0_10.trans x27).wr (o := us28) hn30 hg31
        show tSs _ _ _ [some v_row, some v_modulus, some (.ref q_table), none, some t1, some t2, some t3, some v10_more] _
        obtain ⟨table, e32⟩ : ∃ z, z = (table_2.set (many).toNat ((table_2.getD (many).toNat []).set (rest_).toNat ((((table_2.getD (many).toNat [])).getD (rest_).toNat (0 : Int)) + more))) := ⟨_, rfl⟩
        rw [← e32] at o11_table
        have tk : _ = m_lcnt_10 table := tk.trans (by first | (rw [e32] <;> rfl) | rfl)
        have f_e32 : Grid row.length modulus table := by rw [e32]; exact (by assumption : Grid _ _ _).set _ _ _
        have g_e32 := congrArg List.length e32; try simp only [List.length_append, List.length_cons, List.length_nil, rng_len, List.length_map, List.length_reverse, List.length_set] at g_e32
        refine b_nil ?_
        exact ⟨_, x25.g.trans x27.g, x0_11.s, table, lfold_nxt es3 tk, x0_11, some t3, some v10_more, rfl, o11_table, by have hi := inv3_0; (try simp only [List.length_cons, List.length_nil, List.length_append, rng_len, enum_len] at hi ⊢); first | omega | walk_at "invx"⟩
      · intro σ1 G12 H12 sgC12 sh3 I_
        obtain ⟨table_2, es3, x0_12, y3_6, y3_7, rfl, o12_table, inv3_0⟩ := I_
        have tk := tk_fold (k := m_lcnt_8) tk es3
        have inv3_0_ := inv3_0; try simp only [List.length_cons, List.length_nil, rng_len, enum_len] at inv3_0_
        show tSs _ _ _ [some v_row, some v_modulus, some (.ref q_table), none, some t1, some t2, y3_6, y3_7] _
        refine b_nil ?_
        exact ⟨_, sgC12, x0_12.s, table_2, lfold_nxt es2 tk, x0_12, some t2, y3_6, y3_7, rfl, o12_table, by have hi := inv2_0; (try simp only [List.length_cons, List.length_nil, List.length_append, rng_len, enum_len] at hi ⊢); first | omega | walk_at "invx"⟩
    · intro σ1 G13 H13 sgC13 sh2 I_
      obtain ⟨table, es2, x0_13, y2_5, y2_6, y2_7, rfl, o13_table, inv2_0⟩ := I_
      have tk := tk_fold (k := m_lcnt_6) tk es2
      have inv2_0_ := inv2_0; try simp only [List.length_cons, List.length_nil, rng_len, enum_len] at inv2_0_
      show tSs _ _ _ [some v_row, some v_modulus, some (.ref q_table), none, some t1, y2_5, y2_6, y2_7] _
      refine b_nil ?_
      exact ⟨_, sgC13, x0_13.s, table, lfold_nxt es1 tk, x0_13, some t1, y2_5, y2_6, y2_7, rfl, o13_table, by have hi := inv1_0; (try simp only [List.length_cons, List.length_nil, List.length_append, rng_len, enum_len] at hi ⊢); first | omega | walk_at "invx"⟩
  · intro σ1 G14 H14 sgC14 sh1 I_
    obtain ⟨table_0, es1, x0_14, y1_4, y1_5, y1_6, y1_7, rfl, o14_table, inv1_0⟩ := I_
    have tk := tk_fold (k := m_lcnt_4) tk es1
    have inv1_0_ := inv1_0; try simp only [List.length_cons, List.length_nil, rng_len, enum_len] at inv1_0_
    show tSs _ _ _ [some v_row, some v_modulus, some (.ref q_table), none, y1_4, y1_5, y1_6, y1_7] _
    obtain ⟨G15, x0_15, sg15, r15_table⟩ := o14_table.frz x0_14
    refine b_cons (s_ret x0_15.s (ev_v (sl_lcnt_table) r15_table) fun G_ H_ v34 x33 _ r_ => ?_)
    exact fin.rt _ _ _ (x0_15.trans x33) (rep_of tk r_) (fun z => nomatch z)
end

abbrev N_lfst : List Str := ["row", "modulus", "many", "tails", "k", "ahead", "here", "j", "some", "rest", "found", "left", "behind"]
theorem sc_lfst : FnScope N_lfst ["row", "modulus", "many"] (defScope s__law_first) := ⟨rfl, rfl, rfl, by decide +kernel, rfl, by decide +kernel, by decide +kernel⟩
theorem sl_lfst_ahead {P : Program} {w : World} {K : PySem.W.Frag} {mg : Str → Option Value} {base : Heap} {f : Addr} {cdv : Value} {A : Around} {outer : List Env} {s : Shared} {H : Hp} {E : XK} : Sl (cxOf (L2.CX P w) P w K mg base N_lfst "_law_first" (defScope s__law_first) f cdv A outer s H E) 5 "ahead" := ⟨rfl, (by first | exact .inl rfl | exact .inr (.inl rfl)), nm_ahead⟩
theorem sl_lfst_behind {P : Program} {w : World} {K : PySem.W.Frag} {mg : Str → Option Value} {base : Heap} {f : Addr} {cdv : Value} {A : Around} {outer : List Env} {s : Shared} {H : Hp} {E : XK} : Sl (cxOf (L2.CX P w) P w K mg base N_lfst "_law_first" (defScope s__law_first) f cdv A outer s H E) 12 "behind" := ⟨rfl, (by first | exact .inl rfl | exact .inr (.inl rfl)), nm_behind⟩
theorem sl_lfst_found {P : Program} {w : World} {K : PySem.W.Frag} {mg : Str → Option Value} {base : Heap} {f : Addr} {cdv : Value} {A : Around} {outer : List Env} {s : Shared} {H : Hp} {E : XK} : Sl (cxOf (L2.CX P w) P w K mg base N_lfst "_law_first" (defScope s__law_first) f cdv A outer s H E) 10 "found" := ⟨rfl, (by first | exact .inl rfl | exact .inr (.inl rfl)), nm_found⟩
theorem sl_lfst_here {P : Program} {w : World} {K : PySem.W.Frag} {mg : Str → Option Value} {base : Heap} {f : Addr} {cdv : Value} {A : Around} {outer : List Env} {s : Shared} {H : Hp} {E : XK} : Sl (cxOf (L2.CX P w) P w K mg base N_lfst "_law_first" (defScope s__law_first) f cdv A outer s H E) 6 "here" := ⟨rfl, (by first | exact .inl rfl | exact .inr (.inl rfl)), nm_here⟩
theorem sl_lfst_j {P : Program} {w : World} {K : PySem.W.Frag} {mg : Str → Option Value} {base : Heap} {f : Addr} {cdv : Value} {A : Around} {outer : List Env} {s : Shared} {H : Hp} {E : XK} : Sl (cxOf (L2.CX P w) P w K mg base N_lfst "_law_first" (defScope s__law_first) f cdv A outer s H E) 7 "j" := ⟨rfl, (by first | exact .inl rfl | exact .inr (.inl rfl)), nm_j⟩
theorem sl_lfst_k {P : Program} {w : World} {K : PySem.W.Frag} {mg : Str → Option Value} {base : Heap} {f : Addr} {cdv : Value} {A : Around} {outer : List Env} {s : Shared} {H : Hp} {E : XK} : Sl (cxOf (L2.CX P w) P w K mg base N_lfst "_law_first" (defScope s__law_first) f cdv A outer s H E) 4 "k" := ⟨rfl, (by first | exact .inl rfl | exact .inr (.inl rfl)), nm_k⟩
theorem sl_lfst_left {P : Program} {w : World} {K : PySem.W.Frag} {mg : Str → Option Value} {base : Heap} {f : Addr} {cdv : Value} {A : Around} {outer : List Env} {s : Shared} {H : Hp} {E : XK} : Sl (cxOf (L2.CX P w) P w K mg base N_lfst "_law_first" (defScope s__law_first) f cdv A outer s H E) 11 "left" := ⟨rfl, (by first | exact .inl rfl | exact .inr (.inl rfl)), nm_left⟩
theorem sl_lfst_many {P : Program} {w : World} {K : PySem.W.Frag} {mg : Str → Option Value} {base : Heap} {f : Addr} {cdv : Value} {A : Around} {outer : List Env} {s : Shared} {H : Hp} {E : XK} : Sl (cxOf (L2.CX P w) P w K mg base N_lfst "_law_first" (defScope s__law_first) f cdv A outer s H E) 2 "many" := ⟨rfl, (by first | exact .inl rfl | exact .inr (.inl rfl)), nm_many⟩
theorem sl_lfst_modulus {P : Program} {w : World} {K : PySem.W.Frag} {mg : Str → Option Value} {base : Heap} {f : Addr} {cdv : Value} {A : Around} {outer : List Env} {s : Shared} {H : Hp} {E : XK} : Sl (cxOf (L2.CX P w) P w K mg base N_lfst "_law_first" (defScope s__law_first) f cdv A outer s H E) 1 "modulus" := ⟨rfl, (by first | exact .inl rfl | exact .inr (.inl rfl)), nm_modulus⟩
theorem sl_lfst_rest_ {P : Program} {w : World} {K : PySem.W.Frag} {mg : Str → Option Value} {base : Heap} {f : Addr} {cdv : Value} {A : Around} {outer : List Env} {s : Shared} {H : Hp} {E : XK} : Sl (cxOf (L2.CX P w) P w K mg base N_lfst "_law_first" (defScope s__law_first) f cdv A outer s H E) 9 "rest" := ⟨rfl, (by first | exact .inl rfl | exact .inr (.inl rfl)), nm_rest_⟩
theorem sl_lfst_row {P : Program} {w : World} {K : PySem.W.Frag} {mg : Str → Option Value} {base : Heap} {f : Addr} {cdv : Value} {A : Around} {outer : List Env} {s : Shared} {H : Hp} {E : XK} : Sl (cxOf (L2.CX P w) P w K mg base N_lfst "_law_first" (defScope s__law_first) f cdv A outer s H E) 0 "row" := ⟨rfl, (by first | exact .inl rfl | exact .inr (.inl rfl)), nm_row⟩
theorem sl_lfst_some_ {P : Program} {w : World} {K : PySem.W.Frag} {mg : Str → Option Value} {base : Heap} {f : Addr} {cdv : Value} {A : Around} {outer : List Env} {s : Shared} {H : Hp} {E : XK} : Sl (cxOf (L2.CX P w) P w K mg base N_lfst "_law_first" (defScope s__law_first) f cdv A outer s H E) 8 "some" := ⟨rfl, (by first | exact .inl rfl | exact .inr (.inl rfl)), nm_some_⟩
theorem sl_lfst_tails {P : Program} {w : World} {K : PySem.W.Frag} {mg : Str → Option Value} {base : Heap} {f : Addr} {cdv : Value} {A : Around} {outer : List Env} {s : Shared} {H : Hp} {E : XK} : Sl (cxOf (L2.CX P w) P w K mg base N_lfst "_law_first" (defScope s__law_first) f cdv A outer s H E) 3 "tails" := ⟨rfl, (by first | exact .inl rfl | exact .inr (.inl rfl)), nm_tails⟩
theorem ss_lfst_tails {P : Program} {w : World} {K : PySem.W.Frag} {mg : Str → Option Value} {base : Heap} {f : Addr} {cdv : Value} {A : Around} {outer : List Env} {s : Shared} {H : Hp} {E : XK} : Ss (cxOf (L2.CX P w) P w K mg base N_lfst "_law_first" (defScope s__law_first) f cdv A outer s H E) 3 "tails" := ⟨rfl, (by first | exact .inl rfl | exact .inr rfl), .inl rfl⟩
theorem ss_lfst_k {P : Program} {w : World} {K : PySem.W.Frag} {mg : Str → Option Value} {base : Heap} {f : Addr} {cdv : Value} {A : Around} {outer : List Env} {s : Shared} {H : Hp} {E : XK} : Ss (cxOf (L2.CX P w) P w K mg base N_lfst "_law_first" (defScope s__law_first) f cdv A outer s H E) 4 "k" := ⟨rfl, (by first | exact .inl rfl | exact .inr rfl), .inl rfl⟩
theorem ss_lfst_ahead {P : Program} {w : World} {K : PySem.W.Frag} {mg : Str → Option Value} {base : Heap} {f : Addr} {cdv : Value} {A : Around} {outer : List Env} {s : Shared} {H : Hp} {E : XK} : Ss (cxOf (L2.CX P w) P w K mg base N_lfst "_law_first" (defScope s__law_first) f cdv A outer s H E) 5 "ahead" := ⟨rfl, (by first | exact .inl rfl | exact .inr rfl), .inl rfl⟩
theorem ss_lfst_here {P : Program} {w : World} {K : PySem.W.Frag} {mg : Str → Option Value} {base : Heap} {f : Addr} {cdv : Value} {A : Around} {outer : List Env} {s : Shared} {H : Hp} {E : XK} : Ss (cxOf (L2.CX P w) P w K mg base N_lfst "_law_first" (defScope s__law_first) f cdv A outer s H E) 6 "here" := ⟨rfl, (by first | exact .inl rfl | exact .inr rfl), .inl rfl⟩
theorem ss_lfst_j {P : Program} {w : World} {K : PySem.W.Frag} {mg : Str → Option Value} {base : Heap} {f : Addr} {cdv : Value} {A : Around} {outer : List Env} {s : Shared} {H : Hp} {E : XK} : Ss (cxOf (L2.CX P w) P w K mg base N_lfst "_law_first" (defScope s__law_first) f cdv A outer s H E) 7 "j" := ⟨rfl, (by first | exact .inl rfl | exact .inr rfl), .inl rfl⟩
theorem ss_lfst_some_ {P : Program} {w : World} {K : PySem.W.Frag} {mg : Str → Option Value} {base : Heap} {f : Addr} {cdv : Value} {A : Around} {outer : List Env} {s : Shared} {H : Hp} {E : XK} : Ss (cxOf (L2.CX P w) P w K mg base N_lfst "_law_first" (defScope s__law_first) f cdv A outer s H E) 8 "some" := ⟨rfl, (by first | exact .inl rfl | exact .inr rfl), .inl rfl⟩
theorem ss_lfst_rest_ {P : Program} {w : World} {K : PySem.W.Frag} {mg : Str → Option Value} {base : Heap} {f : Addr} {cdv : Value} {A : Around} {outer : List Env} {s : Shared} {H : Hp} {E : XK} : Ss (cxOf (L2.CX P w) P w K mg base N_lfst "_law_first" (defScope s__law_first) f cdv A outer s H E) 9 "rest" := ⟨rfl, (by first | exact .inl rfl | exact .inr rfl), .inl rfl⟩
theorem ss_lfst_found {P : Program} {w : World} {K : PySem.W.Frag} {mg : Str → Option Value} {base : Heap} {f : Addr} {cdv : Value} {A : Around} {outer : List Env} {s : Shared} {H : Hp} {E : XK} : Ss (cxOf (L2.CX P w) P w K mg base N_lfst "_law_first" (defScope s__law_first) f cdv A outer s H E) 10 "found" := ⟨rfl, (by first | exact .inl rfl | exact .inr rfl), .inl rfl⟩
theorem ss_lfst_left {P : Program} {w : World} {K : PySem.W.Frag} {mg : Str → Option Value} {base : Heap} {f : Addr} {cdv : Value} {A : Around} {outer : List Env} {s : Shared} {H : Hp} {E : XK} : Ss (cxOf (L2.CX P w) P w K mg base N_lfst "_law_first" (defScope s__law_first) f cdv A outer s H E) 11 "left" := ⟨rfl, (by first | exact .inl rfl | exact .inr rfl), .inl rfl⟩
theorem ss_lfst_behind {P : Program} {w : World} {K : PySem.W.Frag} {mg : Str → Option Value} {base : Heap} {f : Addr} {cdv : Value} {A : Around} {outer : List Env} {s : Shared} {H : Hp} {E : XK} : Ss (cxOf (L2.CX P w) P w K mg base N_lfst "_law_first" (defScope s__law_first) f cdv A outer s H E) 12 "behind" := ⟨rfl, (by first | exact .inl rfl | exact .inr rfl), .inl rfl⟩
theorem gl_lfst_dict {P : Program} {w : World} {K : PySem.W.Frag} {mg : Str → Option Value} {base : Heap} {f : Addr} {cdv : Value} {A : Around} {outer : List Env} {s : Shared} {H : Hp} {E : XK} : Gl (cxOf (L2.CX P w) P w K mg base N_lfst "_law_first" (defScope s__law_first) f cdv A outer s H E) "dict" := by rfl
theorem gl_lfst_len {P : Program} {w : World} {K : PySem.W.Frag} {mg : Str → Option Value} {base : Heap} {f : Addr} {cdv : Value} {A : Around} {outer : List Env} {s : Shared} {H : Hp} {E : XK} : Gl (cxOf (L2.CX P w) P w K mg base N_lfst "_law_first" (defScope s__law_first) f cdv A outer s H E) "len" := by rfl
theorem gl_lfst_max {P : Program} {w : World} {K : PySem.W.Frag} {mg : Str → Option Value} {base : Heap} {f : Addr} {cdv : Value} {A : Around} {outer : List Env} {s : Shared} {H : Hp} {E : XK} : Gl (cxOf (L2.CX P w) P w K mg base N_lfst "_law_first" (defScope s__law_first) f cdv A outer s H E) "max" := by rfl
theorem gl_lfst_min {P : Program} {w : World} {K : PySem.W.Frag} {mg : Str → Option Value} {base : Heap} {f : Addr} {cdv : Value} {A : Around} {outer : List Env} {s : Shared} {H : Hp} {E : XK} : Gl (cxOf (L2.CX P w) P w K mg base N_lfst "_law_first" (defScope s__law_first) f cdv A outer s H E) "min" := by rfl
theorem gl_lfst_range {P : Program} {w : World} {K : PySem.W.Frag} {mg : Str → Option Value} {base : Heap} {f : Addr} {cdv : Value} {A : Around} {outer : List Env} {s : Shared} {H : Hp} {E : XK} : Gl (cxOf (L2.CX P w) P w K mg base N_lfst "_law_first" (defScope s__law_first) f cdv A outer s H E) "range" := by rfl
section
local macro_rules | `(tactic| walk_at "inv0") => `(tactic| first | exact tls_new' (by rw [rngD_len]; omega) (by omega) (by omega) | (subst_vars; exact tls_new' (by rw [rngD_len]; omega) (by omega) (by omega)) | exact KB.nil | (subst_vars; exact fun d hd => by cases hd) | (subst_vars; exact Hrs.at_ (Tls.at0 (by assumption)) _) | (simp only [List.length_nil, Nat.zero_add]; omega) | fail)
local macro_rules | `(tactic| walk_at "invx") => `(tactic| first | exact KB.put (by assumption) (kin_mod (by omega)) | exact Hrs.app (by assumption) (by assumption) | exact Hrs.app (by assumption) KB.nil | (subst_vars; exact Hrs.app (by assumption) (Hrs.at_ (Tls.at0 (by assumption)) _)) | (subst_vars; exact Tls.cons' (by assumption) (by assumption) (by assumption) rfl (by omega) (by omega)) | fail)
local macro_rules | `(tactic| walk_at "ix") => `(tactic| first | omega | exact Tls.ix0 (by assumption) | exact Tls.ixk (by assumption) rfl (by omega) | exact Tls.ixj (by assumption) (by assumption) (by assumption) (by omega) | exact ne_pos (by assumption) | (simp only [decide_eq_false_iff_not] at *; omega) | fail)
local macro_rules | `(tactic| walk_at "sz") => `(tactic| first | exact KB.sz (by assumption) (by omega) (by omega) | exact Tls.sz (by assumption) (by omega) | (rw [sizeLine_eq]; omega) | fail)
theorem cal_lfst {P : Program} {w : World} {K : PySem.W.Frag} {mg : Str → Option Value} {base : Heap} {f : Addr} {fd : FuncData} (T : Txt K mg) (F : Fun K "_law_first" "_law_first" s__law_first f fd) (hm : mg "_law_first" = some (.ref f)) (hb : Binds K fd ["row", "modulus", "many"] [])  : Cal P w K mg base 1 "_law_first" (Sp3 K false (fun (row : (List Int)) (modulus : Int) (many : Int) => row.length ≤ 40 ∧ 1 ≤ modulus ∧ modulus ≤ 25 ∧ 0 ≤ many) m_lfst) := by
  refine fn3 F hm hb sc_lfst rfl fun cdv A outer s H0 E hr G0 v_row v_modulus v_many row modulus many D s0 r_row r_modulus r_many hp fin => ?_
  have x0_0 : Ext G0 H0 G0 H0 := Ext.refl s0
  show tSs _ _ D [some v_row, some v_modulus, some v_many, none, none, none, none, none, none, none, none, none, none] H0
  have hpc := hp; obtain ⟨hp_0, hp_1, hp_2, hp_3⟩ := hpc
  have tk : m_lfst row modulus many = _ := rfl
  refine b_cons (s_set sc_lfst.nd ss_lfst_tails x0_0.s (ev_list (es_cons (ev_list (es_cons (ev_disp1 (hu64 hr) ev_int ev_bl) es_nil)) es_nil)) fun G1 H1 v1_tails x1 l1 r1_tails => ?_)
  have x0_1 := x0_0.trans x1
  show tSs _ _ _ [some v_row, some v_modulus, some v_many, some v1_tails, none, none, none, none, none, none, none, none, none] _
  obtain ⟨tails, e2⟩ : ∃ z, z = ([([(⟨[((0 : Int), true)]⟩ : (Dct Int Bool))] : List (Dct Int Bool))] : List (List (Dct Int Bool))) := ⟨_, rfl⟩
  rw [← e2] at r1_tails
  have tk : _ = m_lfst_1 row modulus many tails := tk.trans (by first | (rw [e2] <;> rfl) | rfl)
  have g_e2 := congrArg List.length e2; try simp only [List.length_append, List.length_cons, List.length_nil, rng_len, List.length_map, List.length_reverse, psort_len, isort_len] at g_e2
  refine b_cons (s_for (T := (T1 K 4)) (passes_of rfl) rfl (pg_name (i := 4) sc_lfst.nd rfl ss_lfst_k.hx) acts1 x0_1.s (ei_rangeD ⟨gl_lfst_range, T.b_range⟩ (ev_bin b_sub (ev_len ⟨gl_lfst_len, T.b_len⟩ (ev_v (sl_lfst_row) (up x1.g r_row))) ev_int) (Ev.to (y := (-1 : Int)) (ev_neg ev_int) (by decide)) (Ev.to (y := (-1 : Int)) (ev_neg ev_int) (by decide)) ⟨⟨(by walk_at "sc"), (by walk_at "sc")⟩, (by walk_at "sc"), (by walk_at "sc"), (by walk_at "sc")⟩) (fun rest σ G H => ∃ (tails_0 : (List (List (Dct Int Bool)))), lfold (m_lfst_2s row modulus many) rest tails_0 = lfold (m_lfst_2s row modulus many) (rngD (((row).length : Int) - (1 : Int)) (-1 : Int)) tails ∧ Ext G0 H0 G H ∧ ∃ (u1_tails : V) (y1_4 y1_5 y1_6 y1_7 y1_8 y1_9 : Option V), σ = [some v_row, some v_modulus, some v_many, some u1_tails, y1_4, y1_5, y1_6, y1_7, y1_8, y1_9, none, none, none] ∧ rep K G u1_tails tails_0 ∧ Tls row.length modulus many rest.length tails_0) (fun _ _ x => ⟨tails, rfl, x0_1.trans x, v1_tails, none, none, none, none, none, none, rfl, up x.g r1_tails, by walk_at "inv0"⟩) ?_ ?_)
  · intro k rest σ1 G2 H2 G3 H3 σ2 hx1 sgA3 sh1 I_ x3 l3 hT
    obtain ⟨tails_0, es1, x0_2, u1_tails, y1_4, y1_5, y1_6, y1_7, y1_8, y1_9, rfl, ru1_tails, inv1_0⟩ := I_
    have x0_3 := x0_2.trans x3
    obtain ⟨t1, rt1, rfl⟩ := hT
    have inv1_0_ := inv1_0; try simp only [List.length_cons, List.length_nil] at inv1_0_
    have mem1 := mem_of hx1.1
    have hlx1 := hx1.2; rw [sizeLine_eq] at hlx1
    have hlr1 := mem_len hx1.1
    obtain ⟨l_, hl_⟩ := hx1.1
    have hk_ := rngD_at hl_
    obtain ⟨jj, e_jj⟩ : ∃ z, z = (rng 0 ((if (((row.length : Int) - k)) < many then ((row.length : Int) - k) else many) + 1)).length := ⟨_, rfl⟩
    have tk1 := tk
    have mem1_ := mem_rngD mem1
    have tk : m_lfst_2s row modulus many k tails_0 = _ := rfl
    show tSs _ _ _ [some v_row, some v_modulus, some v_many, some u1_tails, some t1, y1_5, y1_6, y1_7, y1_8, y1_9, none, none, none] _
    refine b_cons (s_set sc_lfst.nd ss_lfst_ahead x0_3.s (ev_ix [] (ev_v (sl_lfst_tails) (up x3.g ru1_tails)) ev_int (by walk_at "sc") (by walk_at "ix")) fun G4 H4 v4_ahead x4 l4 r4_ahead => ?_)
    have x0_4 := x0_3.trans x4
    show tSs _ _ _ [some v_row, some v_modulus, some v_many, some u1_tails, some t1, some v4_ahead, y1_6, y1_7, y1_8, y1_9, none, none, none] _
    obtain ⟨ahead, e5⟩ : ∃ z, z = ((tails_0).getD ((0 : Int)).toNat []) := ⟨_, rfl⟩
    rw [← e5] at r4_ahead
    have tk : _ = m_lfst_4 row modulus many tails_0 k ahead := tk.trans (by first | (rw [e5] <;> rfl) | rfl)
    have g_e5 := congrArg List.length e5; try simp only [List.length_append, List.length_cons, List.length_nil, rng_len, List.length_map, List.length_reverse, psort_len, isort_len] at g_e5
    refine b_cons (s_nil (α := (Dct Int Bool)) sc_lfst.nd ss_lfst_here x0_4.s fun H5 q_here x6 l5 n_q_here o5_here => ?_)
    have x0_5 := x0_4.trans x6
    have m_q_here := x0_4.h.free n_q_here
    show tSs _ _ _ [some v_row, some v_modulus, some v_many, some u1_tails, some t1, some v4_ahead, some (.ref q_here), y1_7, y1_8, y1_9, none, none, none] _
    refine b_cons (s_for (T := (T1 K 7)) (passes_of rfl) rfl (pg_name (i := 7) sc_lfst.nd rfl ss_lfst_j.hx) acts1 x0_5.s (ei_range1 ⟨gl_lfst_range, T.b_range⟩ (ev_bin b_add (ev_min ⟨gl_lfst_min, T.b_min⟩ rfl (ev_v (sl_lfst_many) (up (x1.g.trans (sgA3.trans (x3.g.trans (x4.g.trans (Same.refl _))))) r_many)) (ev_bin b_sub (ev_len ⟨gl_lfst_len, T.b_len⟩ (ev_v (sl_lfst_row) (up (x1.g.trans (sgA3.trans (x3.g.trans (x4.g.trans (Same.refl _))))) r_row))) (ev_v (sl_lfst_k) (up (x4.g.trans (Same.refl _)) rt1)))) ev_int) (by walk_at "sc") (by walk_at "sc")) (fun rest σ G H => ∃ (here : (List (Dct Int Bool))), lfold (m_lfst_5s row modulus k ahead) rest here = lfold (m_lfst_5s row modulus k ahead) (rng 0 ((if (((row).length : Int) - k) < many then (((row).length : Int) - k) else many) + (1 : Int))) ([] : (List (Dct Int Bool))) ∧ Ext G0 H0 G H ∧ ∃ (y2_7 y2_8 y2_9 : Option V), σ = [some v_row, some v_modulus, some v_many, some u1_tails, some t1, some v4_ahead, some (.ref q_here), y2_7, y2_8, y2_9, none, none, none] ∧ Own K G H q_here here ∧ here.length + 1 * rest.length ≤ ([] : (List (Dct Int Bool))).length + 1 * (rng 0 ((if (((row).length : Int) - k) < many then (((row).length : Int) - k) else many) + (1 : Int))).length ∧ Hrs modulus here ∧ here.length + rest.length = jj) (fun _ _ x => ⟨([] : (List (Dct Int Bool))), rfl, x0_5.trans x, y1_7, y1_8, y1_9, rfl, o5_here.mono x, by walk_at "inv0", by walk_at "inv0", by walk_at "inv0"⟩) ?_ ?_)
    · intro j rest σ1 G6 H6 G7 H7 σ2 hx2 sgA7 sh2 I_ x7 l7 hT
      obtain ⟨here, es2, x0_6, y2_7, y2_8, y2_9, rfl, o6_here, inv2_0, inv2_1, inv2_2⟩ := I_
      have x0_7 := x0_6.trans x7
      have o7_here := o6_here.mono x7
      obtain ⟨t2, rt2, rfl⟩ := hT
      have inv2_0_ := inv2_0; try simp only [List.length_cons, List.length_nil] at inv2_0_
      have inv2_1_ := inv2_1; try simp only [List.length_cons, List.length_nil] at inv2_1_
      have inv2_2_ := inv2_2; try simp only [List.length_cons, List.length_nil] at inv2_2_
      have mem2 := mem_of hx2.1
      have hlx2 := hx2.2; rw [sizeLine_eq] at hlx2
      have hlr2 := mem_len hx2.1
      have tk2 := tk
      have mem2_ := mem_rng.mp mem2
      have tk : m_lfst_5s row modulus k ahead j here = _ := rfl
      show tSs _ _ _ [some v_row, some v_modulus, some v_many, some u1_tails, some t1, some v4_ahead, some (.ref q_here), some t2, y2_8, y2_9, none, none, none] _
      refine b_cons (s_dnew (κ := Int) (α := Bool) sc_lfst.nd ss_lfst_some_ x0_7.s fun H8 q_some_ x8 l8 n_q_some_ o8_some_ => ?_)
      have x0_8 := x0_7.trans x8
      have m_q_some_ := x0_7.h.free n_q_some_
      have d_q_here_q_some_ : q_here ≠ q_some_ := fun z => by obtain ⟨u, hu⟩ := o7_here.ex; rw [z, n_q_some_] at hu; cases hu
      have o8_here := o7_here.mono x8
      show tSs _ _ _ [some v_row, some v_modulus, some v_many, some u1_tails, some t1, some v4_ahead, some (.ref q_here), some t2, some (.ref q_some_), y2_9, none, none, none] _
      refine b_cons (s_if x0_8.s (et_cmp c_lt (ev_v (sl_lfst_j) (up (Same.refl _) rt2)) (ev_len ⟨gl_lfst_len, T.b_len⟩ (ev_v (sl_lfst_ahead) (up ((Same.refl _).trans (sgA7.trans (x7.g.trans (Same.refl _)))) r4_ahead)))) (fun h9 G9 H9 x10 l9 => ?_) (fun h9 G9 H9 x10 l9 => ?_))
      · have tk := tk_tt tk h9
        have h9_ := h9; try simp only [Bool.and_eq_true, Bool.or_eq_true, Bool.and_eq_false_iff, Bool.or_eq_false_iff, Bool.not_eq_true', Bool.not_eq_false', decide_eq_true_eq, decide_eq_false_iff_not, Classical.not_not] at h9_
        have x0_9 := x0_8.trans x10
        have o9_here := o8_here.mono x10
        have o9_some_ := o8_some_.mono x10
        show tSs _ _ _ [some v_row, some v_modulus, some v_many, some u1_tails, some t1, some v4_ahead, some (.ref q_here), some t2, some (.ref q_some_), y2_9, none, none, none] _
        refine b_cons (s_dcopy sc_lfst.nd ss_lfst_some_ ⟨gl_lfst_dict, T.b_dict⟩ x0_9.s (hu64 hr) (by walk_at "hok") (ev_ix (⟨[]⟩ : (Dct Int Bool)) (ev_v (sl_lfst_ahead) (up ((Same.refl _).trans (sgA7.trans (x7.g.trans ((Same.refl _).trans x10.g)))) r4_ahead)) (ev_v (sl_lfst_j) (up ((Same.refl _).trans x10.g) rt2)) (by walk_at "sc") (by walk_at "ix")) fun G10 H10 q_some__1 x11 l10 n_q_some__1 o10_some_ => ?_)
        have x0_10 := x0_9.trans x11
        have m_q_some__1 := x0_9.h.free n_q_some__1
        have d_q_here_q_some__1 : q_here ≠ q_some__1 := fun z => by obtain ⟨u, hu⟩ := o9_here.ex; rw [z, n_q_some__1] at hu; cases hu
        have o10_here := o9_here.mono x11
        show tSs _ _ _ [some v_row, some v_modulus, some v_many, some u1_tails, some t1, some v4_ahead, some (.ref q_here), some t2, some (.ref q_some__1), y2_9, none, none, none] _
        obtain ⟨some_, e12⟩ : ∃ z, z = ((ahead).getD (j).toNat (⟨[]⟩ : (Dct Int Bool))) := ⟨_, rfl⟩
        rw [← e12] at o10_some_
        have tk : _ = m_lfst_7 row modulus k ahead here j some_ := tk.trans (by first | (rw [e12] <;> rfl) | rfl)
        refine b_nil ?_
        show tSs _ _ _ [some v_row, some v_modulus, some v_many, some u1_tails, some t1, some v4_ahead, some (.ref q_here), some t2, some (.ref q_some__1), y2_9, none, none, none] _
        refine b_cons (s_if x0_10.s (et_cmp c_gt (ev_v (sl_lfst_j) (up ((Same.refl _).trans (x10.g.trans x11.g)) rt2)) ev_int) (fun h13 G11 H11 x14 l11 => ?_) (fun h13 G11 H11 x14 l11 => ?_))
        · have tk := tk_tt tk h13
          have h13_ := h13; try simp only [Bool.and_eq_true, Bool.or_eq_true, Bool.and_eq_false_iff, Bool.or_eq_false_iff, Bool.not_eq_true', Bool.not_eq_false', decide_eq_true_eq, decide_eq_false_iff_not, Classical.not_not] at h13_
          have x0_11 := x0_10.trans x14
          have o11_here := o10_here.mono x14
          have o11_some_ := o10_some_.mono x14
          show tSs _ _ _ [some v_row, some v_modulus, some v_many, some u1_tails, some t1, some v4_ahead, some (.ref q_here), some t2, some (.ref q_some__1), y2_9, none, none, none] _
          refine b_cons (s_for (T := (T1 K 9)) (passes_of rfl) rfl (pg_name (i := 9) sc_lfst.nd rfl ss_lfst_rest_.hx) acts1 x0_11.s (ei_keys (ev_ix (⟨[]⟩ : (Dct Int Bool)) (ev_v (sl_lfst_ahead) (up ((Same.refl _).trans (sgA7.trans (x7.g.trans ((Same.refl _).trans (x10.g.trans (x11.g.trans x14.g)))))) r4_ahead)) (ev_bin b_sub (ev_v (sl_lfst_j) (up ((Same.refl _).trans (x10.g.trans (x11.g.trans x14.g))) rt2)) ev_int) (by walk_at "sc") (by walk_at "ix"))) (fun rest σ G H => ∃ (some__2 : (Dct Int Bool)), lfold (m_lfst_8s row modulus k) rest some__2 = lfold (m_lfst_8s row modulus k) (((ahead).getD ((j - (1 : Int))).toNat (⟨[]⟩ : (Dct Int Bool))).kvs.map (·.1)) some_ ∧ Ext G0 H0 G H ∧ ∃ (y3_9 : Option V), σ = [some v_row, some v_modulus, some v_many, some u1_tails, some t1, some v4_ahead, some (.ref q_here), some t2, some (.ref q_some__1), y3_9, none, none, none] ∧ OwnD K G H q_some__1 some__2 ∧ Own K G H q_here here ∧ some__2.kvs.length + 1 * rest.length ≤ some_.kvs.length + 1 * (((ahead).getD ((j - (1 : Int))).toNat (⟨[]⟩ : (Dct Int Bool))).kvs.map (·.1)).length ∧ KB modulus (some__2.kvs.map (·.1))) (fun _ _ x => ⟨some_, rfl, x0_11.trans x, y2_9, rfl, o11_some_.mono x, o11_here.mono x, by walk_at "inv0", by walk_at "inv0"⟩) ?_ ?_)
          · intro rest_ rest σ1 G12 H12 G13 H13 σ2 hx3 sgA13 sh3 I_ x15 l13 hT
            obtain ⟨some__2, es3, x0_12, y3_9, rfl, o12_some_, o12_here, inv3_0, inv3_1⟩ := I_
            have x0_13 := x0_12.trans x15
            have o13_here := o12_here.mono x15
            have o13_some_ := o12_some_.mono x15
            obtain ⟨t3, rt3, rfl⟩ := hT
            have inv3_0_ := inv3_0; try simp only [List.length_cons, List.length_nil] at inv3_0_
            have inv3_1_ := inv3_1; try simp only [List.length_cons, List.length_nil] at inv3_1_
            have mem3 := mem_of hx3.1
            have hlx3 := hx3.2; rw [sizeLine_eq] at hlx3
            have hlr3 := mem_len hx3.1
            have tk3 := tk
            have tk : m_lfst_8s row modulus k rest_ some__2 = _ := rfl
            show tSs _ _ _ [some v_row, some v_modulus, some v_many, some u1_tails, some t1, some v4_ahead, some (.ref q_here), some t2, some (.ref q_some__1), some t3, none, none, none] _
            refine b_cons (s_dput (sl_lfst_some_) (hu1 hr) x0_13.s o13_some_ ev_bl (ev_bin (b_mod (by walk_at "sc")) (ev_bin b_add (ev_v (sl_lfst_rest_) rt3) (ev_ix (0 : Int) (ev_v (sl_lfst_row) (up (x1.g.trans (sgA3.trans (x3.g.trans (x4.g.trans ((Same.refl _).trans (sgA7.trans (x7.g.trans ((Same.refl _).trans (x10.g.trans (x11.g.trans (x14.g.trans (sgA13.trans x15.g)))))))))))) r_row)) (ev_v (sl_lfst_k) (up (x4.g.trans ((Same.refl _).trans (sgA7.trans (x7.g.trans ((Same.refl _).trans (x10.g.trans (x11.g.trans (x14.g.trans (sgA13.trans x15.g))))))))) rt1)) (by walk_at "sc") (by walk_at "ix"))) (ev_v (sl_lfst_modulus) (up (x1.g.trans (sgA3.trans (x3.g.trans (x4.g.trans ((Same.refl _).trans (sgA7.trans (x7.g.trans ((Same.refl _).trans (x10.g.trans (x11.g.trans (x14.g.trans (sgA13.trans x15.g)))))))))))) r_modulus))) (by walk_at "sz") fun G14 H14_ us17 x16 l14 o14_some_ => ?_)
            have x0_14 := (x0_13.trans x16).wr (o := us17) m_q_some__1 o14_some_.off
            have o14_here := (o13_here.mono x16).wr (o' := us17) d_q_here_q_some__1
            show tSs _ _ _ [some v_row, some v_modulus, some v_many, some u1_tails, some t1, some v4_ahead, some (.ref q_here), some t2, some (.ref q_some__1), some t3, none, none, none] _
            refine b_nil ?_
            exact ⟨_, x16.g, x0_14.s, (⟨dput some__2.kvs ((rest_ + ((row).getD (k).toNat (0 : Int))) % modulus) true⟩ : (Dct Int Bool)), lfold_nxt es3 tk, x0_14, some t3, rfl, o14_some_, o14_here, by have hi := inv3_0; have := dput_len some__2.kvs ((rest_ + ((row).getD (k).toNat (0 : Int))) % modulus) true; (try simp only [List.length_cons, List.length_nil, List.length_append, rng_len, enum_len] at hi ⊢); first | omega | walk_at "invx", by have hi := inv3_1; have := dput_len some__2.kvs ((rest_ + ((row).getD (k).toNat (0 : Int))) % modulus) true; (try simp only [List.length_cons, List.length_nil, List.length_append, rng_len, enum_len] at hi ⊢); first | omega | walk_at "invx"⟩
          · intro σ1 G15 H15 sgC15 sh3 I_
            obtain ⟨some__2, es3, x0_15, y3_9, rfl, o15_some_, o15_here, inv3_0, inv3_1⟩ := I_
            have tk := tk_fold (k := (m_lfst_9 here)) tk es3
            have inv3_0_ := inv3_0; try simp only [List.length_cons, List.length_nil, rng_len, enum_len] at inv3_0_
            have inv3_1_ := inv3_1; try simp only [List.length_cons, List.length_nil, rng_len, enum_len] at inv3_1_
            show tSs _ _ _ [some v_row, some v_modulus, some v_many, some u1_tails, some t1, some v4_ahead, some (.ref q_here), some t2, some (.ref q_some__1), y3_9, none, none, none] _
            refine b_nil ?_
            show tSs _ _ _ [some v_row, some v_modulus, some v_many, some u1_tails, some t1, some v4_ahead, some (.ref q_here), some t2, some (.ref q_some__1), y3_9, none, none, none] _
            refine OwnD.lock o15_some_ x0_15 m_q_some__1 fun u_16 x0_16 r16_some_ => ?_
            have o16_here := o15_here.lockD (u := u_16) o15_some_.off d_q_here_q_some__1
            show tSs _ _ _ [some v_row, some v_modulus, some v_many, some u1_tails, some t1, some v4_ahead, some (.ref q_here), some t2, some (.ref q_some__1), y3_9, none, none, none] _
            show tSs _ _ _ [some v_row, some v_modulus, some v_many, some u1_tails, some t1, some v4_ahead, some (.ref q_here), some t2, some (.ref q_some__1), y3_9, none, none, none] _
            refine b_cons (s_append (sl_lfst_here) x0_16.s o16_here (ev_v (sl_lfst_some_) r16_some_) (by walk_at "sz") fun G17 H17_ us19 x18 l17 o17_here => ?_)
            have x0_17 := (x0_16.trans x18).wr (o := .lst us19) m_q_here o17_here.off
            show tSs _ _ _ [some v_row, some v_modulus, some v_many, some u1_tails, some t1, some v4_ahead, some (.ref q_here), some t2, some (.ref q_some__1), y3_9, none, none, none] _
            refine b_nil ?_
            exact ⟨_, (Same.refl _).trans (x10.g.trans (x11.g.trans (x14.g.trans (sgC15.trans ((same_new o15_some_.off).trans x18.g))))), x0_17.s, (here ++ [some__2]), lfold_nxt es2 tk, x0_17, some t2, some (.ref q_some__1), y3_9, rfl, o17_here, by have hi := inv2_0; (try simp only [List.length_cons, List.length_nil, List.length_append, rng_len, enum_len] at hi ⊢); first | omega | walk_at "invx", by have hi := inv2_1; (try simp only [List.length_cons, List.length_nil, List.length_append, rng_len, enum_len] at hi ⊢); first | omega | walk_at "invx", by have hi := inv2_2; (try simp only [List.length_cons, List.length_nil, List.length_append, rng_len, enum_len] at hi ⊢); first | omega | walk_at "invx"⟩
        · have tk := tk_ff tk h13
          have h13_ := h13; try simp only [Bool.and_eq_true, Bool.or_eq_true, Bool.and_eq_false_iff, Bool.or_eq_false_iff, Bool.not_eq_true', Bool.not_eq_false', decide_eq_true_eq, decide_eq_false_iff_not, Classical.not_not] at h13_
          have x0_11 := x0_10.trans x14
          have o11_here := o10_here.mono x14
          have o11_some_ := o10_some_.mono x14
          show tSs _ _ _ [some v_row, some v_modulus, some v_many, some u1_tails, some t1, some v4_ahead, some (.ref q_here), some t2, some (.ref q_some__1), y2_9, none, none, none] _
          refine b_nil ?_
          show tSs _ _ _ [some v_row, some v_modulus, some v_many, some u1_tails, some t1, some v4_ahead, some (.ref q_here), some t2, some (.ref q_some__1), y2_9, none, none, none] _
          refine OwnD.lock o11_some_ x0_11 m_q_some__1 fun u_18 x0_18 r18_some_ => ?_
          have o18_here := o11_here.lockD (u := u_18) o11_some_.off d_q_here_q_some__1
          show tSs _ _ _ [some v_row, some v_modulus, some v_many, some u1_tails, some t1, some v4_ahead, some (.ref q_here), some t2, some (.ref q_some__1), y2_9, none, none, none] _
          show tSs _ _ _ [some v_row, some v_modulus, some v_many, some u1_tails, some t1, some v4_ahead, some (.ref q_here), some t2, some (.ref q_some__1), y2_9, none, none, none] _
          refine b_cons (s_append (sl_lfst_here) x0_18.s o18_here (ev_v (sl_lfst_some_) r18_some_) (by walk_at "sz") fun G19 H19_ us21 x20 l19 o19_here => ?_)
          have x0_19 := (x0_18.trans x20).wr (o := .lst us21) m_q_here o19_here.off
          show tSs _ _ _ [some v_row, some v_modulus, some v_many, some u1_tails, some t1, some v4_ahead, some (.ref q_here), some t2, some (.ref q_some__1), y2_9, none, none, none] _
          refine b_nil ?_
          exact ⟨_, (Same.refl _).trans (x10.g.trans (x11.g.trans (x14.g.trans ((same_new o11_some_.off).trans x20.g)))), x0_19.s, (here ++ [some_]), lfold_nxt es2 tk, x0_19, some t2, some (.ref q_some__1), y2_9, rfl, o19_here, by have hi := inv2_0; (try simp only [List.length_cons, List.length_nil, List.length_append, rng_len, enum_len] at hi ⊢); first | omega | walk_at "invx", by have hi := inv2_1; (try simp only [List.length_cons, List.length_nil, List.length_append, rng_len, enum_len] at hi ⊢); first | omega | walk_at "invx", by have hi := inv2_2; (try simp only [List.length_cons, List.length_nil, List.length_append, rng_len, enum_len] at hi ⊢); first | omega | walk_at "invx"⟩
      · have tk := tk_ff tk h9
        have h9_ := h9; try simp only [Bool.and_eq_true, Bool.or_eq_true, Bool.and_eq_false_iff, Bool.or_eq_false_iff, Bool.not_eq_true', Bool.not_eq_false', decide_eq_true_eq, decide_eq_false_iff_not, Classical.not_not] at h9_
        have x0_9 := x0_8.trans x10
        have o9_here := o8_here.mono x10
        have o9_some_ := o8_some_.mono x10
        show tSs _ _ _ [some v_row, some v_modulus, some v_many, some u1_tails, some t1, some v4_ahead, some (.ref q_here), some t2, some (.ref q_some_), y2_9, none, none, none] _
        refine b_nil ?_
        show tSs _ _ _ [some v_row, some v_modulus, some v_many, some u1_tails, some t1, some v4_ahead, some (.ref q_here), some t2, some (.ref q_some_), y2_9, none, none, none] _
        refine b_cons (s_if x0_9.s (et_cmp c_gt (ev_v (sl_lfst_j) (up ((Same.refl _).trans x10.g) rt2)) ev_int) (fun h22 G20 H20 x23 l20 => ?_) (fun h22 G20 H20 x23 l20 => ?_))
        · have tk := tk_tt tk h22
          have h22_ := h22; try simp only [Bool.and_eq_true, Bool.or_eq_true, Bool.and_eq_false_iff, Bool.or_eq_false_iff, Bool.not_eq_true', Bool.not_eq_false', decide_eq_true_eq, decide_eq_false_iff_not, Classical.not_not] at h22_
          have x0_20 := x0_9.trans x23
          have o20_here := o9_here.mono x23
          have o20_some_ := o9_some_.mono x23
          show tSs _ _ _ [some v_row, some v_modulus, some v_many, some u1_tails, some t1, some v4_ahead, some (.ref q_here), some t2, some (.ref q_some_), y2_9, none, none, none] _
          refine b_cons (s_for (T := (T1 K 9)) (passes_of rfl) rfl (pg_name (i := 9) sc_lfst.nd rfl ss_lfst_rest_.hx) acts1 x0_20.s (ei_keys (ev_ix (⟨[]⟩ : (Dct Int Bool)) (ev_v (sl_lfst_ahead) (up ((Same.refl _).trans (sgA7.trans (x7.g.trans ((Same.refl _).trans (x10.g.trans x23.g))))) r4_ahead)) (ev_bin b_sub (ev_v (sl_lfst_j) (up ((Same.refl _).trans (x10.g.trans x23.g)) rt2)) ev_int) (by walk_at "sc") (by walk_at "ix"))) (fun rest σ G H => ∃ (some_ : (Dct Int Bool)), lfold (m_lfst_10s row modulus k) rest some_ = lfold (m_lfst_10s row modulus k) (((ahead).getD ((j - (1 : Int))).toNat (⟨[]⟩ : (Dct Int Bool))).kvs.map (·.1)) (⟨[]⟩ : (Dct Int Bool)) ∧ Ext G0 H0 G H ∧ ∃ (y3_9 : Option V), σ = [some v_row, some v_modulus, some v_many, some u1_tails, some t1, some v4_ahead, some (.ref q_here), some t2, some (.ref q_some_), y3_9, none, none, none] ∧ OwnD K G H q_some_ some_ ∧ Own K G H q_here here ∧ some_.kvs.length + 1 * rest.length ≤ (⟨[]⟩ : (Dct Int Bool)).kvs.length + 1 * (((ahead).getD ((j - (1 : Int))).toNat (⟨[]⟩ : (Dct Int Bool))).kvs.map (·.1)).length ∧ KB modulus (some_.kvs.map (·.1))) (fun _ _ x => ⟨(⟨[]⟩ : (Dct Int Bool)), rfl, x0_20.trans x, y2_9, rfl, o20_some_.mono x, o20_here.mono x, by walk_at "inv0", by walk_at "inv0"⟩) ?_ ?_)
          · intro rest_ rest σ1 G21 H21 G22 H22 σ2 hx3 sgA22 sh3 I_ x24 l22 hT
            obtain ⟨some_, es3, x0_21, y3_9, rfl, o21_some_, o21_here, inv3_0, inv3_1⟩ := I_
            have x0_22 := x0_21.trans x24
            have o22_here := o21_here.mono x24
            have o22_some_ := o21_some_.mono x24
            obtain ⟨t3, rt3, rfl⟩ := hT
            have inv3_0_ := inv3_0; try simp only [List.length_cons, List.length_nil] at inv3_0_
            have inv3_1_ := inv3_1; try simp only [List.length_cons, List.length_nil] at inv3_1_
            have mem3 := mem_of hx3.1
            have hlx3 := hx3.2; rw [sizeLine_eq] at hlx3
            have hlr3 := mem_len hx3.1
            have tk3 := tk
            have tk : m_lfst_10s row modulus k rest_ some_ = _ := rfl
            show tSs _ _ _ [some v_row, some v_modulus, some v_many, some u1_tails, some t1, some v4_ahead, some (.ref q_here), some t2, some (.ref q_some_), some t3, none, none, none] _
            refine b_cons (s_dput (sl_lfst_some_) (hu1 hr) x0_22.s o22_some_ ev_bl (ev_bin (b_mod (by walk_at "sc")) (ev_bin b_add (ev_v (sl_lfst_rest_) rt3) (ev_ix (0 : Int) (ev_v (sl_lfst_row) (up (x1.g.trans (sgA3.trans (x3.g.trans (x4.g.trans ((Same.refl _).trans (sgA7.trans (x7.g.trans ((Same.refl _).trans (x10.g.trans (x23.g.trans (sgA22.trans x24.g))))))))))) r_row)) (ev_v (sl_lfst_k) (up (x4.g.trans ((Same.refl _).trans (sgA7.trans (x7.g.trans ((Same.refl _).trans (x10.g.trans (x23.g.trans (sgA22.trans x24.g)))))))) rt1)) (by walk_at "sc") (by walk_at "ix"))) (ev_v (sl_lfst_modulus) (up (x1.g.trans (sgA3.trans (x3.g.trans (x4.g.trans ((Same.refl _).trans (sgA7.trans (x7.g.trans ((Same.refl _).trans (x10.g.trans (x23.g.trans (sgA22.trans x24.g))))))))))) r_modulus))) (by walk_at "sz") fun G23 H23_ us26 x25 l23 o23_some_ => ?_)
            have x0_23 := (x0_22.trans x25).wr (o := us26) m_q_some_ o23_some_.off
            have o23_here := (o22_here.mono x25).wr (o' := us26) d_q_here_q_some_
            show tSs _ _ _ [some v_row, some v_modulus, some v_many, some u1_tails, some t1, some v4_ahead, some (.ref q_here), some t2, some (.ref q_some_), some t3, none, none, none] _
            refine b_nil ?_
            exact ⟨_, x25.g, x0_23.s, (⟨dput some_.kvs ((rest_ + ((row).getD (k).toNat (0 : Int))) % modulus) true⟩ : (Dct Int Bool)), lfold_nxt es3 tk, x0_23, some t3, rfl, o23_some_, o23_here, by have hi := inv3_0; have := dput_len some_.kvs ((rest_ + ((row).getD (k).toNat (0 : Int))) % modulus) true; (try simp only [List.length_cons, List.length_nil, List.length_append, rng_len, enum_len] at hi ⊢); first | omega | walk_at "invx", by have hi := inv3_1; have := dput_len some_.kvs ((rest_ + ((row).getD (k).toNat (0 : Int))) % modulus) true; (try simp only [List.length_cons, List.length_nil, List.length_append, rng_len, enum_len] at hi ⊢); first | omega | walk_at "invx"⟩
          · intro σ1 G24 H24 sgC24 sh3 I_
            obtain ⟨some_, es3, x0_24, y3_9, rfl, o24_some_, o24_here, inv3_0, inv3_1⟩ := I_
            have tk := tk_fold (k := (m_lfst_11 here)) tk es3
            have inv3_0_ := inv3_0; try simp only [List.length_cons, List.length_nil, rng_len, enum_len] at inv3_0_
            have inv3_1_ := inv3_1; try simp only [List.length_cons, List.length_nil, rng_len, enum_len] at inv3_1_
            show tSs _ _ _ [some v_row, some v_modulus, some v_many, some u1_tails, some t1, some v4_ahead, some (.ref q_here), some t2, some (.ref q_some_), y3_9, none, none, none] _
            refine b_nil ?_
            show tSs _ _ _ [some v_row, some v_modulus, some v_many, some u1_tails, some t1, some v4_ahead, some (.ref q_here), some t2, some (.ref q_some_), y3_9, none, none, none] _
            refine OwnD.lock o24_some_ x0_24 m_q_some_ fun u_25 x0_25 r25_some_ => ?_
            have o25_here := o24_here.lockD (u := u_25) o24_some_.off d_q_here_q_some_
            show tSs _ _ _ [some v_row, some v_modulus, some v_many, some u1_tails, some t1, some v4_ahead, some (.ref q_here), some t2, some (.ref q_some_), y3_9, none, none, none] _
            show tSs _ _ _ [some v_row, some v_modulus, some v_many, some u1_tails, some t1, some v4_ahead, some (.ref q_here), some t2, some (.ref q_some_), y3_9, none, none, none] _
            refine b_cons (s_append (sl_lfst_here) x0_25.s o25_here (ev_v (sl_lfst_some_) r25_some_) (by walk_at "sz") fun G26 H26_ us28 x27 l26 o26_here => ?_)
            have x0_26 := (x0_25.trans x27).wr (o := .lst us28) m_q_here o26_here.off
            show tSs _ _ _ [some v_row, some v_modulus, some v_many, some u1_tails, some t1, some v4_ahead, some (.ref q_here), some t2, some (.ref q_some_), y3_9, none, none, none] _
            refine b_nil ?_
            exact ⟨_, (Same.refl _).trans (x10.g.trans (x23.g.trans (sgC24.trans ((same_new o24_some_.off).trans x27.g)))), x0_26.s, (here ++ [some_]), lfold_nxt es2 tk, x0_26, some t2, some (.ref q_some_), y3_9, rfl, o26_here, by have hi := inv2_0; (try simp only [List.length_cons, List.length_nil, List.length_append, rng_len, enum_len] at hi ⊢); first | omega | walk_at "invx", by have hi := inv2_1; (try simp only [List.length_cons, List.length_nil, List.length_append, rng_len, enum_len] at hi ⊢); first | omega | walk_at "invx", by have hi := inv2_2; (try simp only [List.length_cons, List.length_nil, List.length_append, rng_len, enum_len] at hi ⊢); first | omega | walk_at "invx"⟩
        · have tk := tk_ff tk h22
          have h22_ := h22; try simp only [Bool.and_eq_true, Bool.or_eq_true, Bool.and_eq_false_iff, Bool.or_eq_false_iff, Bool.not_eq_true', Bool.not_eq_false', decide_eq_true_eq, decide_eq_false_iff_not, Classical.not_not] at h22_
          have x0_20 := x0_9.trans x23
          have o20_here := o9_here.mono x23
          have o20_some_ := o9_some_.mono x23
          show tSs _ _ _ [some v_row, some v_modulus, some v_many, some u1_tails, some t1, some v4_ahead, some (.ref q_here), some t2, some (.ref q_some_), y2_9, none, none, none] _
          refine b_nil ?_
          show tSs _ _ _ [some v_row, some v_modulus, some v_many, some u1_tails, some t1, some v4_ahead, some (.ref q_here), some t2, some (.ref q_some_), y2_9, none, none, none] _
          refine OwnD.lock o20_some_ x0_20 m_q_some_ fun u_27 x0_27 r27_some_ => ?_
          have o27_here := o20_here.lockD (u := u_27) o20_some_.off d_q_here_q_some_
          show tSs _ _ _ [some v_row, some v_modulus, some v_many, some u1_tails, some t1, some v4_ahead, some (.ref q_here), some t2, some (.ref q_some_), y2_9, none, none, none] _
          show tSs _ _ _ [some v_row, some v_modulus, some v_many, some u1_tails, some t1, some v4_ahead, some (.ref q_here), some t2, some (.ref q_some_), y2_9, none, none, none] _
          refine b_cons (s_append (sl_lfst_here) x0_27.s o27_here (ev_v (sl_lfst_some_) r27_some_) (by walk_at "sz") fun G28 H28_ us30 x29 l28 o28_here => ?_)
          have x0_28 := (x0_27.trans x29).wr (o := .lst us30) m_q_here o28_here.off
          show tSs _ _ _ [some v_row, some v_modulus, some v_many, some u1_tails, some t1, some v4_ahead, some (.ref q_here), some t2, some (.ref q_some_), y2_9, none, none, none] _
          refine b_nil ?_
          exact ⟨_, (Same.refl _).trans (x10.g.trans (x23.g.trans ((same_new o20_some_.off).trans x29.g))), x0_28.s, (here ++ [(⟨[]⟩ : (Dct Int Bool))]), lfold_nxt es2 tk, x0_28, some t2, some (.ref q_some_), y2_9, rfl, o28_here, by have hi := inv2_0; (try simp only [List.length_cons, List.length_nil, List.length_append, rng_len, enum_len] at hi ⊢); first | omega | walk_at "invx", by have hi := inv2_1; (try simp only [List.length_cons, List.length_nil, List.length_append, rng_len, enum_len] at hi ⊢); first | omega | walk_at "invx", by have hi := inv2_2; (try simp only [List.length_cons, List.length_nil, List.length_append, rng_len, enum_len] at hi ⊢); first | omega | walk_at "invx"⟩
    · intro σ1 G29 H29 sgC29 sh2 I_
      obtain ⟨here, es2, x0_29, y2_7, y2_8, y2_9, rfl, o29_here, inv2_0, inv2_1, inv2_2⟩ := I_
      have tk := tk_fold (k := (m_lfst_6 tails_0)) tk es2
      have inv2_0_ := inv2_0; try simp only [List.length_cons, List.length_nil, rng_len, enum_len] at inv2_0_
      have inv2_1_ := inv2_1; try simp only [List.length_cons, List.length_nil, rng_len, enum_len] at inv2_1_
      have inv2_2_ := inv2_2; try simp only [List.length_cons, List.length_nil, rng_len, enum_len] at inv2_2_
      show tSs _ _ _ [some v_row, some v_modulus, some v_many, some u1_tails, some t1, some v4_ahead, some (.ref q_here), y2_7, y2_8, y2_9, none, none, none] _
      obtain ⟨G30, x0_30, sg30, r30_here⟩ := o29_here.frz x0_29 m_q_here
      show tSs _ _ _ [some v_row, some v_modulus, some v_many, some u1_tails, some t1, some v4_ahead, some (.ref q_here), y2_7, y2_8, y2_9, none, none, none] _
      refine b_cons (s_set sc_lfst.nd ss_lfst_tails x0_30.s (ev_cat (by walk_at "sz") (ev_list (es_cons (ev_v (sl_lfst_here) r30_here) es_nil)) (ev_v (sl_lfst_tails) (up (x3.g.trans (x4.g.trans ((Same.refl _).trans (sgC29.trans sg30)))) ru1_tails))) fun G31 H31 v31_tails x31 l31 r31_tails => ?_)
      have x0_31 := x0_30.trans x31
      show tSs _ _ _ [some v_row, some v_modulus, some v_many, some v31_tails, some t1, some v4_ahead, some (.ref q_here), y2_7, y2_8, y2_9, none, none, none] _
      obtain ⟨tails, e32⟩ : ∃ z, z = (([here] : List (List (Dct Int Bool))) ++ tails_0) := ⟨_, rfl⟩
      rw [← e32] at r31_tails
      have tk : _ = m_lfst_12 tails := tk.trans (by first | (rw [e32] <;> rfl) | rfl)
      have g_e32 := congrArg List.length e32; try simp only [List.length_append, List.length_cons, List.length_nil, rng_len, List.length_map, List.length_reverse, psort_len, isort_len] at g_e32
      refine b_nil ?_
      exact ⟨_, x4.g.trans ((Same.refl _).trans (sgC29.trans (sg30.trans x31.g))), x0_31.s, tails, lfold_nxt es1 tk, x0_31, v31_tails, some t1, some v4_ahead, some (.ref q_here), y2_7, y2_8, y2_9, rfl, r31_tails, by have hi := inv1_0; (try simp only [List.length_cons, List.length_nil, List.length_append, rng_len, enum_len] at hi ⊢); first | omega | walk_at "invx"⟩
  · intro σ1 G32 H32 sgC32 sh1 I_
    obtain ⟨tails_0, es1, x0_32, u1_tails, y1_4, y1_5, y1_6, y1_7, y1_8, y1_9, rfl, ru1_tails, inv1_0⟩ := I_
    have tk := tk_fold (k := (m_lfst_3 row modulus many)) tk es1
    have inv1_0_ := inv1_0; try simp only [List.length_cons, List.length_nil, rng_len, enum_len] at inv1_0_
    show tSs _ _ _ [some v_row, some v_modulus, some v_many, some u1_tails, y1_4, y1_5, y1_6, y1_7, y1_8, y1_9, none, none, none] _
    refine b_cons (s_if x0_32.s (et_w (ew_or (et_cmp c_ge (ev_v (sl_lfst_many) (up (x1.g.trans sgC32) r_many)) (ev_len ⟨gl_lfst_len, T.b_len⟩ (ev_ix [] (ev_v (sl_lfst_tails) ru1_tails) ev_int (by walk_at "sc") (by walk_at "ix")))) fun c33 => (ew_or1 (et_dnin (hu1 hr) ev_int (ev_ix (⟨[]⟩ : (Dct Int Bool)) (ev_ix [] (ev_v (sl_lfst_tails) ru1_tails) ev_int (by walk_at "sc") (by walk_at "ix")) (ev_v (sl_lfst_many) (up (x1.g.trans sgC32) r_many)) (by walk_at "sc") (by walk_at "ix")))))) (fun h34 G33 H33 x35 l33 => ?_) (fun h34 G33 H33 x35 l33 => ?_))
    · have tk := tk_tt tk h34
      have h34_ := h34; try simp only [Bool.and_eq_true, Bool.or_eq_true, Bool.and_eq_false_iff, Bool.or_eq_false_iff, Bool.not_eq_true', Bool.not_eq_false', decide_eq_true_eq, decide_eq_false_iff_not, Classical.not_not] at h34_
      have x0_33 := x0_32.trans x35
      show tSs _ _ _ [some v_row, some v_modulus, some v_many, some u1_tails, y1_4, y1_5, y1_6, y1_7, y1_8, y1_9, none, none, none] _
      refine b_cons (s_ret x0_33.s (ev_none (α := (List Int))) fun G_ H_ v37 x36 _ r_ => ?_)
      exact fin.rt _ _ _ (x0_33.trans x36) (rep_of tk r_) (fun z => nomatch z)
    · have tk := tk_ff tk h34
      have h34_ := h34; try simp only [Bool.and_eq_true, Bool.or_eq_true, Bool.and_eq_false_iff, Bool.or_eq_false_iff, Bool.not_eq_true', Bool.not_eq_false', decide_eq_true_eq, decide_eq_false_iff_not, Classical.not_not] at h34_
      have x0_33 := x0_32.trans x35
      show tSs _ _ _ [some v_row, some v_modulus, some v_many, some u1_tails, y1_4, y1_5, y1_6, y1_7, y1_8, y1_9, none, none, none] _
      refine b_nil ?_
      show tSs _ _ _ [some v_row, some v_modulus, some v_many, some u1_tails, y1_4, y1_5, y1_6, y1_7, y1_8, y1_9, none, none, none] _
      refine b_cons (s_nil (α := Int) sc_lfst.nd ss_lfst_found x0_33.s fun H34 q_found x38 l34 n_q_found o34_found => ?_)
      have x0_34 := x0_33.trans x38
      have m_q_found := x0_33.h.free n_q_found
      show tSs _ _ _ [some v_row, some v_modulus, some v_many, some u1_tails, y1_4, y1_5, y1_6, y1_7, y1_8, y1_9, some (.ref q_found), none, none] _
      refine b_cons (s_set sc_lfst.nd ss_lfst_rest_ x0_34.s ev_int fun G35 H35 v35_rest_ x39 l35 r35_rest_ => ?_)
      have x0_35 := x0_34.trans x39
      have o35_found := o34_found.mono x39
      show tSs _ _ _ [some v_row, some v_modulus, some v_many, some u1_tails, y1_4, y1_5, y1_6, y1_7, y1_8, some v35_rest_, some (.ref q_found), none, none] _
      refine b_cons (s_for (T := (T1 K 4)) (passes_of rfl) rfl (pg_name (i := 4) sc_lfst.nd rfl ss_lfst_k.hx) acts1 x0_35.s (ei_range1 ⟨gl_lfst_range, T.b_range⟩ (ev_len ⟨gl_lfst_len, T.b_len⟩ (ev_v (sl_lfst_row) (up (x1.g.trans (sgC32.trans (x35.g.trans ((Same.refl _).trans x39.g)))) r_row))) (by walk_at "sc") (by walk_at "sc")) (fun rest σ G H => ∃ (rest_ : Int) (found : (List Int)), lfold (m_lfst_13s row modulus many tails_0) rest (rest_, found) = lfold (m_lfst_13s row modulus many tails_0) (rng 0 ((row).length : Int)) ((0 : Int), ([] : (List Int))) ∧ Ext G0 H0 G H ∧ ∃ (u1_rest_ : V) (y1_4 y1_8 y1_11 y1_12 : Option V), σ = [some v_row, some v_modulus, some v_many, some u1_tails, y1_4, y1_5, y1_6, y1_7, y1_8, some u1_rest_, some (.ref q_found), y1_11, y1_12] ∧ rep K G u1_rest_ rest_ ∧ Own K G H q_found found ∧ found.length + 1 * rest.length ≤ ([] : (List Int)).length + 1 * (rng 0 ((row).length : Int)).length) (fun _ _ x => ⟨(0 : Int), ([] : (List Int)), rfl, x0_35.trans x, v35_rest_, y1_4, y1_8, none, none, rfl, up x.g r35_rest_, o35_found.mono x, by walk_at "inv0"⟩) ?_ ?_)
      · intro k rest σ1 G36 H36 G37 H37 σ2 hx1 sgA37 sh1 I_ x40 l37 hT
        obtain ⟨rest_, found, es1, x0_36, u1_rest_, y1_4, y1_8, y1_11, y1_12, rfl, ru1_rest_, o36_found, inv1_0⟩ := I_
        have x0_37 := x0_36.trans x40
        have o37_found := o36_found.mono x40
        obtain ⟨t1, rt1, rfl⟩ := hT
        have inv1_0_ := inv1_0; try simp only [List.length_cons, List.length_nil] at inv1_0_
        have mem1 := mem_of hx1.1
        have hlx1 := hx1.2; rw [sizeLine_eq] at hlx1
        have hlr1 := mem_len hx1.1
        have tk1 := tk
        have mem1_ := mem_rng.mp mem1
        have tk : m_lfst_13s row modulus many tails_0 k (rest_, found) = _ := rfl
        show tSs _ _ _ [some v_row, some v_modulus, some v_many, some u1_tails, some t1, y1_5, y1_6, y1_7, y1_8, some u1_rest_, some (.ref q_found), y1_11, y1_12] _
        refine b_cons (s_set sc_lfst.nd ss_lfst_left x0_37.s (ev_bin b_sub (ev_v (sl_lfst_many) (up (x1.g.trans (sgC32.trans (x35.g.trans ((Same.refl _).trans (x39.g.trans (sgA37.trans x40.g)))))) r_many)) (ev_len ⟨gl_lfst_len, T.b_len⟩ (ev_vO (sl_lfst_found) o37_found))) fun G38 H38 v38_left x41 l38 r38_left => ?_)
        have x0_38 := x0_37.trans x41
        have o38_found := o37_found.mono x41
        show tSs _ _ _ [some v_row, some v_modulus, some v_many, some u1_tails, some t1, y1_5, y1_6, y1_7, y1_8, some u1_rest_, some (.ref q_found), some v38_left, y1_12] _
        obtain ⟨left, e42⟩ : ∃ z, z = (many - ((found).length : Int)) := ⟨_, rfl⟩
        rw [← e42] at r38_left
        have tk : _ = m_lfst_15 row modulus tails_0 rest_ found k left := tk.trans (by first | (rw [e42] <;> rfl) | rfl)
        refine b_cons (s_set sc_lfst.nd ss_lfst_behind x0_38.s (ev_bin (b_mod (by walk_at "sc")) (ev_bin b_sub (ev_v (sl_lfst_rest_) (up (x40.g.trans x41.g) ru1_rest_)) (ev_ix (0 : Int) (ev_v (sl_lfst_row) (up (x1.g.trans (sgC32.trans (x35.g.trans ((Same.refl _).trans (x39.g.trans (sgA37.trans (x40.g.trans x41.g))))))) r_row)) (ev_v (sl_lfst_k) (up x41.g rt1)) (by walk_at "sc") (by walk_at "ix"))) (ev_v (sl_lfst_modulus) (up (x1.g.trans (sgC32.trans (x35.g.trans ((Same.refl _).trans (x39.g.trans (sgA37.trans (x40.g.trans x41.g))))))) r_modulus))) fun G39 H39 v39_behind x43 l39 r39_behind => ?_)
        have x0_39 := x0_38.trans x43
        have o39_found := o38_found.mono x43
        show tSs _ _ _ [some v_row, some v_modulus, some v_many, some u1_tails, some t1, y1_5, y1_6, y1_7, y1_8, some u1_rest_, some (.ref q_found), some v38_left, some v39_behind] _
        obtain ⟨behind, e44⟩ : ∃ z, z = ((rest_ - ((row).getD (k).toNat (0 : Int))) % modulus) := ⟨_, rfl⟩
        rw [← e44] at r39_behind
        have tk : _ = m_lfst_16 tails_0 rest_ found k left behind := tk.trans (by first | (rw [e44] <;> rfl) | rfl)
        have fc45 := cut_le ((tails_0).getD ((k + (1 : Int))).toNat []) (some (if (left - (1 : Int)) > (0 : Int) then (left - (1 : Int)) else (0 : Int))) (some left)
        refine b_cons (s_setN sc_lfst.nd ss_lfst_some_ x0_39.s (evN_sl (ev_ix [] (ev_v (sl_lfst_tails) (up (x35.g.trans ((Same.refl _).trans (x39.g.trans (sgA37.trans (x40.g.trans (x41.g.trans x43.g)))))) ru1_tails)) (ev_bin b_add (ev_v (sl_lfst_k) (up (x41.g.trans x43.g) rt1)) ev_int) (by walk_at "sc") (by walk_at "ix")) (eo_some (ev_max ⟨gl_lfst_max, T.b_max⟩ rfl ev_int (ev_bin b_sub (ev_v (sl_lfst_left) (up x43.g r38_left)) ev_int))) (eo_some (ev_v (sl_lfst_left) (up x43.g r38_left)))) fun G40 H40 v40_some_ x46 l40 r40_some_ n40 => ?_)
        have x0_40 := x0_39.trans x46
        have o40_found := o39_found.mono x46
        show tSs _ _ _ [some v_row, some v_modulus, some v_many, some u1_tails, some t1, y1_5, y1_6, y1_7, some v40_some_, some u1_rest_, some (.ref q_found), some v38_left, some v39_behind] _
        obtain ⟨some_, e47⟩ : ∃ z, z = (cut ((tails_0).getD ((k + (1 : Int))).toNat []) (some (if (left - (1 : Int)) > (0 : Int) then (left - (1 : Int)) else (0 : Int))) (some left)) := ⟨_, rfl⟩
        rw [← e47] at r40_some_
        have tk : _ = m_lfst_17 rest_ found k left behind some_ := tk.trans (by first | (rw [e47] <;> rfl) | rfl)
        have g_e47 := congrArg List.length e47; try simp only [List.length_append, List.length_cons, List.length_nil, rng_len, List.length_map, List.length_reverse, psort_len, isort_len] at g_e47
        refine b_cons (s_if x0_40.s (et_w (ew_and (et_cmp c_gt (ev_v (sl_lfst_left) (up (x43.g.trans x46.g) r38_left)) ev_int) fun c49 => (ew_and (et_cmp (c_neNil (hu_of64 hr)) (ev_v (sl_lfst_some_) r40_some_) (ev_list (es_nil (α := (Dct Int Bool))))) fun c48 => (ew_and1 (et_din (hu1 hr) (ev_v (sl_lfst_behind) (up x46.g r39_behind)) (ev_ix (⟨[]⟩ : (Dct Int Bool)) (ev_v (sl_lfst_some_) r40_some_) ev_int (by walk_at "sc") (by walk_at "ix"))))))) (fun h50 G41 H41 x51 l41 => ?_) (fun h50 G41 H41 x51 l41 => ?_))
        · have tk := tk_tt tk h50
          have h50_ := h50; try simp only [Bool.and_eq_true, Bool.or_eq_true, Bool.and_eq_false_iff, Bool.or_eq_false_iff, Bool.not_eq_true', Bool.not_eq_false', decide_eq_true_eq, decide_eq_false_iff_not, Classical.not_not] at h50_
          have x0_41 := x0_40.trans x51
          have o41_found := o40_found.mono x51
          show tSs _ _ _ [some v_row, some v_modulus, some v_many, some u1_tails, some t1, y1_5, y1_6, y1_7, some v40_some_, some u1_rest_, some (.ref q_found), some v38_left, some v39_behind] _
          refine b_cons (s_append (sl_lfst_found) x0_41.s o41_found (ev_v (sl_lfst_k) (up (x41.g.trans (x43.g.trans (x46.g.trans x51.g))) rt1)) (by walk_at "sz") fun G42 H42_ us53 x52 l42 o42_found => ?_)
          have x0_42 := (x0_41.trans x52).wr (o := .lst us53) m_q_found o42_found.off
          show tSs _ _ _ [some v_row, some v_modulus, some v_many, some u1_tails, some t1, y1_5, y1_6, y1_7, some v40_some_, some u1_rest_, some (.ref q_found), some v38_left, some v39_behind] _
          refine b_cons (s_set sc_lfst.nd ss_lfst_rest_ x0_42.s (ev_v (sl_lfst_behind) (up (x46.g.trans (x51.g.trans x52.g)) r39_behind)) fun G43 H43 v43_rest_ x54 l43 r43_rest_ => ?_)
          have x0_43 := x0_42.trans x54
          have o43_found := o42_found.mono x54
          show tSs _ _ _ [some v_row, some v_modulus, some v_many, some u1_tails, some t1, y1_5, y1_6, y1_7, some v40_some_, some v43_rest_, some (.ref q_found), some v38_left, some v39_behind] _
          refine b_nil ?_
          show tSs _ _ _ [some v_row, some v_modulus, some v_many, some u1_tails, some t1, y1_5, y1_6, y1_7, some v40_some_, some v43_rest_, some (.ref q_found), some v38_left, some v39_behind] _
          refine b_nil ?_
          exact ⟨_, x41.g.trans (x43.g.trans (x46.g.trans (x51.g.trans (x52.g.trans x54.g)))), x0_43.s, behind, (found ++ [k]), lfold_nxt es1 tk, x0_43, v43_rest_, some t1, some v40_some_, some v38_left, some v39_behind, rfl, r43_rest_, o43_found, by have hi := inv1_0; (try simp only [List.length_cons, List.length_nil, List.length_append, rng_len, enum_len] at hi ⊢); first | omega | walk_at "invx"⟩
        · have tk := tk_ff tk h50
          have h50_ := h50; try simp only [Bool.and_eq_true, Bool.or_eq_true, Bool.and_eq_false_iff, Bool.or_eq_false_iff, Bool.not_eq_true', Bool.not_eq_false', decide_eq_true_eq, decide_eq_false_iff_not, Classical.not_not] at h50_
          have x0_41 := x0_40.trans x51
          have o41_found := o40_found.mono x51
          show tSs _ _ _ [some v_row, some v_modulus, some v_many, some u1_tails, some t1, y1_5, y1_6, y1_7, some v40_some_, some u1_rest_, some (.ref q_found), some v38_left, some v39_behind] _
          refine b_nil ?_
          show tSs _ _ _ [some v_row, some v_modulus, some v_many, some u1_tails, some t1, y1_5, y1_6, y1_7, some v40_some_, some u1_rest_, some (.ref q_found), some v38_left, some v39_behind] _
          refine b_nil ?_
          exact ⟨_, x41.g.trans (x43.g.trans (x46.g.trans x51.g)), x0_41.s, rest_, found, lfold_nxt es1 tk, x0_41, u1_rest_, some t1, some v40_some_, some v38_left, some v39_behind, rfl, (up (x40.g.trans (x41.g.trans (x43.g.trans (x46.g.trans x51.g)))) ru1_rest_), o41_found, by have hi := inv1_0; (try simp only [List.length_cons, List.length_nil, List.length_append, rng_len, enum_len] at hi ⊢); first | omega | walk_at "invx"⟩
      · intro σ1 G44 H44 sgC44 sh1 I_
        obtain ⟨rest_, found, es1, x0_44, u1_rest_, y1_4, y1_8, y1_11, y1_12, rfl, ru1_rest_, o44_found, inv1_0⟩ := I_
        have tk := tk_fold (k := m_lfst_14) tk es1
        have inv1_0_ := inv1_0; try simp only [List.length_cons, List.length_nil, rng_len, enum_len] at inv1_0_
        show tSs _ _ _ [some v_row, some v_modulus, some v_many, some u1_tails, y1_4, y1_5, y1_6, y1_7, y1_8, some u1_rest_, some (.ref q_found), y1_11, y1_12] _
        obtain ⟨G45, x0_45, sg45, r45_found⟩ := o44_found.frz x0_44 m_q_found
        refine b_cons (s_ret x0_45.s (ev_some (ev_v (sl_lfst_found) r45_found)) fun G_ H_ v56 x55 _ r_ => ?_)
        exact fin.rt _ _ _ (x0_45.trans x55) (rep_of tk r_) (fun z => nomatch z)
end

abbrev N_lside : List Str := ["row", "modulus", "ahead", "number", "pairs", "beyond", "alike", "first", "due", "many"]
theorem sc_lside : FnScope N_lside ["row", "modulus"] (defScope s__law_side) := ⟨rfl, rfl, rfl, by decide +kernel, rfl, by decide +kernel, by decide +kernel⟩
theorem sl_lside_ahead {P : Program} {w : World} {K : PySem.W.Frag} {mg : Str → Option Value} {base : Heap} {f : Addr} {cdv : Value} {A : Around} {outer : List Env} {s : Shared} {H : Hp} {E : XK} : Sl (cxOf (L2.CX P w) P w K mg base N_lside "_law_side" (defScope s__law_side) f cdv A outer s H E) 2 "ahead" := ⟨rfl, (by first | exact .inl rfl | exact .inr (.inl rfl)), nm_ahead⟩
theorem sl_lside_alike {P : Program} {w : World} {K : PySem.W.Frag} {mg : Str → Option Value} {base : Heap} {f : Addr} {cdv : Value} {A : Around} {outer : List Env} {s : Shared} {H : Hp} {E : XK} : Sl (cxOf (L2.CX P w) P w K mg base N_lside "_law_side" (defScope s__law_side) f cdv A outer s H E) 6 "alike" := ⟨rfl, (by first | exact .inl rfl | exact .inr (.inl rfl)), nm_alike⟩
theorem sl_lside_beyond {P : Program} {w : World} {K : PySem.W.Frag} {mg : Str → Option Value} {base : Heap} {f : Addr} {cdv : Value} {A : Around} {outer : List Env} {s : Shared} {H : Hp} {E : XK} : Sl (cxOf (L2.CX P w) P w K mg base N_lside "_law_side" (defScope s__law_side) f cdv A outer s H E) 5 "beyond" := ⟨rfl, (by first | exact .inl rfl | exact .inr (.inl rfl)), nm_beyond⟩
theorem sl_lside_due {P : Program} {w : World} {K : PySem.W.Frag} {mg : Str → Option Value} {base : Heap} {f : Addr} {cdv : Value} {A : Around} {outer : List Env} {s : Shared} {H : Hp} {E : XK} : Sl (cxOf (L2.CX P w) P w K mg base N_lside "_law_side" (defScope s__law_side) f cdv A outer s H E) 8 "due" := ⟨rfl, (by first | exact .inl rfl | exact .inr (.inl rfl)), nm_due⟩
theorem sl_lside_many {P : Program} {w : World} {K : PySem.W.Frag} {mg : Str → Option Value} {base : Heap} {f : Addr} {cdv : Value} {A : Around} {outer : List Env} {s : Shared} {H : Hp} {E : XK} : Sl (cxOf (L2.CX P w) P w K mg base N_lside "_law_side" (defScope s__law_side) f cdv A outer s H E) 9 "many" := ⟨rfl, (by first | exact .inl rfl | exact .inr (.inl rfl)), nm_many⟩
theorem sl_lside_modulus {P : Program} {w : World} {K : PySem.W.Frag} {mg : Str → Option Value} {base : Heap} {f : Addr} {cdv : Value} {A : Around} {outer : List Env} {s : Shared} {H : Hp} {E : XK} : Sl (cxOf (L2.CX P w) P w K mg base N_lside "_law_side" (defScope s__law_side) f cdv A outer s H E) 1 "modulus" := ⟨rfl, (by first | exact .inl rfl | exact .inr (.inl rfl)), nm_modulus⟩
theorem sl_lside_number {P : Program} {w : World} {K : PySem.W.Frag} {mg : Str → Option Value} {base : Heap} {f : Addr} {cdv : Value} {A : Around} {outer : List Env} {s : Shared} {H : Hp} {E : XK} : Sl (cxOf (L2.CX P w) P w K mg base N_lside "_law_side" (defScope s__law_side) f cdv A outer s H E) 3 "number" := ⟨rfl, (by first | exact .inl rfl | exact .inr (.inl rfl)), nm_number⟩
theorem sl_lside_pairs {P : Program} {w : World} {K : PySem.W.Frag} {mg : Str → Option Value} {base : Heap} {f : Addr} {cdv : Value} {A : Around} {outer : List Env} {s : Shared} {H : Hp} {E : XK} : Sl (cxOf (L2.CX P w) P w K mg base N_lside "_law_side" (defScope s__law_side) f cdv A outer s H E) 4 "pairs" := ⟨rfl, (by first | exact .inl rfl | exact .inr (.inl rfl)), nm_pairs⟩
theorem sl_lside_row {P : Program} {w : World} {K : PySem.W.Frag} {mg : Str → Option Value} {base : Heap} {f : Addr} {cdv : Value} {A : Around} {outer : List Env} {s : Shared} {H : Hp} {E : XK} : Sl (cxOf (L2.CX P w) P w K mg base N_lside "_law_side" (defScope s__law_side) f cdv A outer s H E) 0 "row" := ⟨rfl, (by first | exact .inl rfl | exact .inr (.inl rfl)), nm_row⟩
theorem ss_lside_ahead {P : Program} {w : World} {K : PySem.W.Frag} {mg : Str → Option Value} {base : Heap} {f : Addr} {cdv : Value} {A : Around} {outer : List Env} {s : Shared} {H : Hp} {E : XK} : Ss (cxOf (L2.CX P w) P w K mg base N_lside "_law_side" (defScope s__law_side) f cdv A outer s H E) 2 "ahead" := ⟨rfl, (by first | exact .inl rfl | exact .inr rfl), .inl rfl⟩
theorem ss_lside_number {P : Program} {w : World} {K : PySem.W.Frag} {mg : Str → Option Value} {base : Heap} {f : Addr} {cdv : Value} {A : Around} {outer : List Env} {s : Shared} {H : Hp} {E : XK} : Ss (cxOf (L2.CX P w) P w K mg base N_lside "_law_side" (defScope s__law_side) f cdv A outer s H E) 3 "number" := ⟨rfl, (by first | exact .inl rfl | exact .inr rfl), .inl rfl⟩
theorem ss_lside_pairs {P : Program} {w : World} {K : PySem.W.Frag} {mg : Str → Option Value} {base : Heap} {f : Addr} {cdv : Value} {A : Around} {outer : List Env} {s : Shared} {H : Hp} {E : XK} : Ss (cxOf (L2.CX P w) P w K mg base N_lside "_law_side" (defScope s__law_side) f cdv A outer s H E) 4 "pairs" := ⟨rfl, (by first | exact .inl rfl | exact .inr rfl), .inl rfl⟩
theorem ss_lside_beyond {P : Program} {w : World} {K : PySem.W.Frag} {mg : Str → Option Value} {base : Heap} {f : Addr} {cdv : Value} {A : Around} {outer : List Env} {s : Shared} {H : Hp} {E : XK} : Ss (cxOf (L2.CX P w) P w K mg base N_lside "_law_side" (defScope s__law_side) f cdv A outer s H E) 5 "beyond" := ⟨rfl, (by first | exact .inl rfl | exact .inr rfl), .inl rfl⟩
theorem ss_lside_alike {P : Program} {w : World} {K : PySem.W.Frag} {mg : Str → Option Value} {base : Heap} {f : Addr} {cdv : Value} {A : Around} {outer : List Env} {s : Shared} {H : Hp} {E : XK} : Ss (cxOf (L2.CX P w) P w K mg base N_lside "_law_side" (defScope s__law_side) f cdv A outer s H E) 6 "alike" := ⟨rfl, (by first | exact .inl rfl | exact .inr rfl), .inl rfl⟩
theorem ss_lside_due {P : Program} {w : World} {K : PySem.W.Frag} {mg : Str → Option Value} {base : Heap} {f : Addr} {cdv : Value} {A : Around} {outer : List Env} {s : Shared} {H : Hp} {E : XK} : Ss (cxOf (L2.CX P w) P w K mg base N_lside "_law_side" (defScope s__law_side) f cdv A outer s H E) 8 "due" := ⟨rfl, (by first | exact .inl rfl | exact .inr rfl), .inl rfl⟩
theorem ss_lside_many {P : Program} {w : World} {K : PySem.W.Frag} {mg : Str → Option Value} {base : Heap} {f : Addr} {cdv : Value} {A : Around} {outer : List Env} {s : Shared} {H : Hp} {E : XK} : Ss (cxOf (L2.CX P w) P w K mg base N_lside "_law_side" (defScope s__law_side) f cdv A outer s H E) 9 "many" := ⟨rfl, (by first | exact .inl rfl | exact .inr rfl), .inl rfl⟩
theorem gl_lside_first_stretch {P : Program} {w : World} {K : PySem.W.Frag} {mg : Str → Option Value} {base : Heap} {f : Addr} {cdv : Value} {A : Around} {outer : List Env} {s : Shared} {H : Hp} {E : XK} : Gl (cxOf (L2.CX P w) P w K mg base N_lside "_law_side" (defScope s__law_side) f cdv A outer s H E) "first_stretch" := by rfl
theorem gl_lside_how_many_stretches {P : Program} {w : World} {K : PySem.W.Frag} {mg : Str → Option Value} {base : Heap} {f : Addr} {cdv : Value} {A : Around} {outer : List Env} {s : Shared} {H : Hp} {E : XK} : Gl (cxOf (L2.CX P w) P w K mg base N_lside "_law_side" (defScope s__law_side) f cdv A outer s H E) "how_many_stretches" := by rfl
theorem gl_lside_len {P : Program} {w : World} {K : PySem.W.Frag} {mg : Str → Option Value} {base : Heap} {f : Addr} {cdv : Value} {A : Around} {outer : List Env} {s : Shared} {H : Hp} {E : XK} : Gl (cxOf (L2.CX P w) P w K mg base N_lside "_law_side" (defScope s__law_side) f cdv A outer s H E) "len" := by rfl
theorem gl_lside_list {P : Program} {w : World} {K : PySem.W.Frag} {mg : Str → Option Value} {base : Heap} {f : Addr} {cdv : Value} {A : Around} {outer : List Env} {s : Shared} {H : Hp} {E : XK} : Gl (cxOf (L2.CX P w) P w K mg base N_lside "_law_side" (defScope s__law_side) f cdv A outer s H E) "list" := by rfl
theorem gl_lside_min {P : Program} {w : World} {K : PySem.W.Frag} {mg : Str → Option Value} {base : Heap} {f : Addr} {cdv : Value} {A : Around} {outer : List Env} {s : Shared} {H : Hp} {E : XK} : Gl (cxOf (L2.CX P w) P w K mg base N_lside "_law_side" (defScope s__law_side) f cdv A outer s H E) "min" := by rfl
theorem gl_lside_range {P : Program} {w : World} {K : PySem.W.Frag} {mg : Str → Option Value} {base : Heap} {f : Addr} {cdv : Value} {A : Around} {outer : List Env} {s : Shared} {H : Hp} {E : XK} : Gl (cxOf (L2.CX P w) P w K mg base N_lside "_law_side" (defScope s__law_side) f cdv A outer s H E) "range" := by rfl
theorem gl_lside_sums_ahead {P : Program} {w : World} {K : PySem.W.Frag} {mg : Str → Option Value} {base : Heap} {f : Addr} {cdv : Value} {A : Around} {outer : List Env} {s : Shared} {H : Hp} {E : XK} : Gl (cxOf (L2.CX P w) P w K mg base N_lside "_law_side" (defScope s__law_side) f cdv A outer s H E) "sums_ahead" := by rfl
section
local macro_rules | `(tactic| walk_at "sz") => `(tactic| first | (rw [sizeLine_eq, List.length_map]; omega) | (rw [sizeLine_eq]; omega) | fail)
local macro_rules | `(tactic| walk_at "ixn") => `(tactic| first | exact ixN_neg' (by decide) (by omega) (by omega) | fail)
theorem cal_lside {P : Program} {w : World} {K : PySem.W.Frag} {mg : Str → Option Value} {base : Heap} {f : Addr} {fd : FuncData} (T : Txt K mg) (F : Fun K "_law_side" "_law_side" s__law_side f fd) (hm : mg "_law_side" = some (.ref f)) (hb : Binds K fd ["row", "modulus"] []) (C_sums_ahead : Cal P w K mg base 3 "sums_ahead" (Sp2 K true (fun (row : (List Int)) (modulus : Int) => 1 ≤ modulus ∧ row.length ≤ 1000) m_sums_ahead)) (C_first_stretch : Cal P w K mg base 4 "first_stretch" (Sp2 K false (fun (row : (List Int)) (modulus : Int) => 1 ≤ modulus ∧ row.length ≤ 1000) m_first_stretch)) (C_how_many_stretches : Cal P w K mg base 4 "how_many_stretches" (Sp2 K false (fun (row : (List Int)) (modulus : Int) => 1 ≤ modulus ∧ row.length ≤ 1000) m_how_many_stretches)) : Cal P w K mg base 5 "_law_side" (Sp2 K false (fun (row : (List Int)) (modulus : Int) => row.length ≤ 40 ∧ 1 ≤ modulus ∧ modulus ≤ 25) m_lside) := by
  refine fn2 F hm hb sc_lside rfl fun cdv A outer s H0 E hr G0 v_row v_modulus row modulus D s0 r_row r_modulus hp fin => ?_
  have x0_0 : Ext G0 H0 G0 H0 := Ext.refl s0
  show tSs _ _ D [some v_row, some v_modulus, none, none, none, none, none, none, none, none] H0
  have hpc := hp; obtain ⟨hp_0, hp_1, hp_2⟩ := hpc
  have tk : m_lside row modulus = _ := rfl
  refine b_cons (s_setO sc_lside.nd ss_lside_ahead x0_0.s (evN_list (es_cons ev_int es_nil)) fun G1 H1 q_ahead x1 l1 n_q_ahead o1_ahead => ?_)
  have x0_1 := x0_0.trans x1
  have m_q_ahead := x0_0.h.free n_q_ahead
  show tSs _ _ _ [some v_row, some v_modulus, some (.ref q_ahead), none, none, none, none, none, none, none] _
  refine b_cons (s_for (T := (T1 K 3)) (passes_of rfl) rfl (pg_name (i := 3) sc_lside.nd rfl ss_lside_number.hx) acts1 x0_1.s (ei_list (ev_v (sl_lside_row) (up x1.g r_row))) (fun rest σ G H => ∃ (ahead : (List Int)), lfold (m_lside_1s modulus) rest ahead = lfold (m_lside_1s modulus) row ([(0 : Int)] : List Int) ∧ Ext G0 H0 G H ∧ ∃ (y1_3 : Option V), σ = [some v_row, some v_modulus, some (.ref q_ahead), y1_3, none, none, none, none, none, none] ∧ Own K G H q_ahead ahead ∧ ahead.length + 1 * rest.length ≤ ([(0 : Int)] : List Int).length + 1 * row.length ∧ 1 ≤ ahead.length ∧ ahead.length + rest.length = row.length + 1) (fun _ _ x => ⟨([(0 : Int)] : List Int), rfl, x0_1.trans x, none, rfl, o1_ahead.mono x, by walk_at "inv0", by walk_at "inv0", by walk_at "inv0"⟩) ?_ ?_)
  · intro number rest σ1 G2 H2 G3 H3 σ2 hx1 sgA3 sh1 I_ x2 l3 hT
    obtain ⟨ahead, es1, x0_2, y1_3, rfl, o2_ahead, inv1_0, inv1_1, inv1_2⟩ := I_
    have x0_3 := x0_2.trans x2
    have o3_ahead := o2_ahead.mono x2
    obtain ⟨t1, rt1, rfl⟩ := hT
    have inv1_0_ := inv1_0; try simp only [List.length_cons, List.length_nil] at inv1_0_
    have inv1_1_ := inv1_1; try simp only [List.length_cons, List.length_nil] at inv1_1_
    have inv1_2_ := inv1_2; try simp only [List.length_cons, List.length_nil] at inv1_2_
    have mem1 := mem_of hx1.1
    have hlx1 := hx1.2; rw [sizeLine_eq] at hlx1
    have hlr1 := mem_len hx1.1
    have tk1 := tk
    have tk : m_lside_1s modulus number ahead = _ := rfl
    show tSs _ _ _ [some v_row, some v_modulus, some (.ref q_ahead), some t1, none, none, none, none, none, none] _
    refine b_cons (s_append (sl_lside_ahead) x0_3.s o3_ahead (ev_bin (b_mod (by walk_at "sc")) (ev_bin b_add (ev_ixN (0 : Int) (j := (ahead).length - 1) (ev_vO (sl_lside_ahead) o3_ahead) (Ev.to (y := (-1 : Int)) (ev_neg ev_int) (by decide)) (by walk_at "ixn")) (ev_v (sl_lside_number) rt1)) (ev_v (sl_lside_modulus) (up (x1.g.trans (sgA3.trans x2.g)) r_modulus))) (by walk_at "sz") fun G4 H4_ us4 x3 l4 o4_ahead => ?_)
    have x0_4 := (x0_3.trans x3).wr (o := .lst us4) m_q_ahead o4_ahead.off
    show tSs _ _ _ [some v_row, some v_modulus, some (.ref q_ahead), some t1, none, none, none, none, none, none] _
    refine b_nil ?_
    exact ⟨_, x3.g, x0_4.s, (ahead ++ [((((ahead).getD ((ahead).length - 1) (0 : Int)) + number) % modulus)]), lfold_nxt es1 tk, x0_4, some t1, rfl, o4_ahead, by have hi := inv1_0; (try simp only [List.length_cons, List.length_nil, List.length_append, rng_len, enum_len] at hi ⊢); first | omega | walk_at "invx", by have hi := inv1_1; (try simp only [List.length_cons, List.length_nil, List.length_append, rng_len, enum_len] at hi ⊢); first | omega | walk_at "invx", by have hi := inv1_2; (try simp only [List.length_cons, List.length_nil, List.length_append, rng_len, enum_len] at hi ⊢); first | omega | walk_at "invx"⟩
  · intro σ1 G5 H5 sgC5 sh1 I_
    obtain ⟨ahead, es1, x0_5, y1_3, rfl, o5_ahead, inv1_0, inv1_1, inv1_2⟩ := I_
    have tk := tk_fold (k := (m_lside_2 row modulus)) tk es1
    have inv1_0_ := inv1_0; try simp only [List.length_cons, List.length_nil, rng_len, enum_len] at inv1_0_
    have inv1_1_ := inv1_1; try simp only [List.length_cons, List.length_nil, rng_len, enum_len] at inv1_1_
    have inv1_2_ := inv1_2; try simp only [List.length_cons, List.length_nil, rng_len, enum_len] at inv1_2_
    show tSs _ _ _ [some v_row, some v_modulus, some (.ref q_ahead), y1_3, none, none, none, none, none, none] _
    refine b_cons (s_set sc_lside.nd ss_lside_pairs x0_5.s (ev_list (es_nil (α := (Int × Int)))) fun G6 H6 v6_pairs x5 l6 r6_pairs => ?_)
    have x0_6 := x0_5.trans x5
    have o6_ahead := o5_ahead.mono x5
    show tSs _ _ _ [some v_row, some v_modulus, some (.ref q_ahead), y1_3, some v6_pairs, none, none, none, none, none] _
    obtain ⟨G7, x0_7, sg7, r7_ahead⟩ := o6_ahead.frz x0_6 m_q_ahead
    show tSs _ _ _ [some v_row, some v_modulus, some (.ref q_ahead), y1_3, some v6_pairs, none, none, none, none, none] _
    refine b_cons (s_for (T := (T1 K 5)) (passes_of rfl) rfl (pg_name (i := 5) sc_lside.nd rfl ss_lside_beyond.hx) acts1 x0_7.s (ei_range2 ⟨gl_lside_range, T.b_range⟩ ev_int (ev_len ⟨gl_lside_len, T.b_len⟩ (ev_v (sl_lside_ahead) r7_ahead)) ⟨⟨(by walk_at "sc"), (by walk_at "sc")⟩, (by walk_at "sc"), (by walk_at "sc"), (by walk_at "sc")⟩) (fun rest σ G H => ∃ (pairs : (List (Int × Int))), lfold (m_lside_3s ahead) rest pairs = lfold (m_lside_3s ahead) (rng (1 : Int) ((ahead).length : Int)) ([] : List (Int × Int)) ∧ Ext G0 H0 G H ∧ ∃ (u1_pairs : V) (y1_5 y1_6 : Option V), σ = [some v_row, some v_modulus, some (.ref q_ahead), y1_3, some u1_pairs, y1_5, y1_6, none, none, none] ∧ rep K G u1_pairs pairs ∧ pairs.length + 50 * rest.length ≤ 2100) (fun _ _ x => ⟨([] : List (Int × Int)), rfl, x0_7.trans x, v6_pairs, none, none, rfl, up x.g (up sg7 r6_pairs), by walk_at "inv0"⟩) ?_ ?_)
    · intro beyond rest σ1 G8 H8 G9 H9 σ2 hx1 sgA9 sh1 I_ x6 l9 hT
      obtain ⟨pairs, es1, x0_8, u1_pairs, y1_5, y1_6, rfl, ru1_pairs, inv1_0⟩ := I_
      have x0_9 := x0_8.trans x6
      obtain ⟨t1, rt1, rfl⟩ := hT
      have inv1_0_ := inv1_0; try simp only [List.length_cons, List.length_nil] at inv1_0_
      have mem1 := mem_of hx1.1
      have hlx1 := hx1.2; rw [sizeLine_eq] at hlx1
      have hlr1 := mem_len hx1.1
      have tk1 := tk
      have mem1_ := mem_rng.mp mem1
      have tk : m_lside_3s ahead beyond pairs = _ := rfl
      show tSs _ _ _ [some v_row, some v_modulus, some (.ref q_ahead), y1_3, some u1_pairs, some t1, y1_6, none, none, none] _
      refine b_cons (s_setLc sc_lside.nd ss_lside_alike x0_9.s ((lc1 (fun (first : Int) => first) (fun (first : Int) => (decide (((ahead).getD (first).toNat (0 : Int)) = ((ahead).getD (beyond).toNat (0 : Int))))) rfl sc_lside.nd (ei_range1 ⟨gl_lside_range, T.b_range⟩ (ev_v (sl_lside_beyond) rt1) (by walk_at "sc") (by walk_at "sc")) [("first", 7)] (blkOk_by (N := N_lside) (sc := defScope s__law_side) (by decide +kernel)) (fun _ _ _ _ _ => pg_name (i := 7) sc_lside.nd rfl (.inl rfl)) (fun first v18 G8 H9 hx10 x7 r19 s12 s13 s14 s15 s16 => (ets_one (et_cmp c_eq (ev_ix (0 : Int) (ev_v ((⟨rfl, (by first | exact .inr (.inl rfl) | exact .inr (.inr rfl) | exact .inl rfl), nm_ahead⟩ : Sl _ 2 _)) (up (sgA9.trans (x6.g.trans x7.g)) r7_ahead)) (ev_v ((⟨rfl, .inl rfl, nm_first⟩ : Sl _ 7 _)) r19) (by walk_at "sc") (by walk_at "ix")) (ev_ix (0 : Int) (ev_v ((⟨rfl, (by first | exact .inr (.inl rfl) | exact .inr (.inr rfl) | exact .inl rfl), nm_ahead⟩ : Sl _ 2 _)) (up (sgA9.trans (x6.g.trans x7.g)) r7_ahead)) (ev_v ((⟨rfl, (by first | exact .inr (.inl rfl) | exact .inr (.inr rfl) | exact .inl rfl), nm_beyond⟩ : Sl _ 5 _)) (up x7.g rt1)) (by walk_at "sc") (by walk_at "ix"))))) (fun first v18 G8 H9 hx10 ht11 x7 r19 s12 s13 s14 s15 s16 => (ev_v ((⟨rfl, .inl rfl, nm_first⟩ : Sl _ 7 _)) r19)))) fun G11 H11 v11_alike x20 l11 r11_alike n11 => ?_)
      have x0_11 := x0_9.trans x20
      show tSs _ _ _ [some v_row, some v_modulus, some (.ref q_ahead), y1_3, some u1_pairs, some t1, some v11_alike, none, none, none] _
      obtain ⟨alike, e21⟩ : ∃ z, z = (((rng 0 beyond).filter (fun (first : Int) => (decide (((ahead).getD (first).toNat (0 : Int)) = ((ahead).getD (beyond).toNat (0 : Int)))))).map (fun (first : Int) => first)) := ⟨_, rfl⟩
      rw [← e21] at r11_alike
      have tk : _ = m_lside_5 pairs beyond alike := tk.trans (by first | (rw [e21] <;> rfl) | rfl)
      have g_e21 := congrArg List.length e21; try simp only [List.length_append, List.length_cons, List.length_nil, rng_len, List.length_map, List.length_reverse, psort_len, isort_len] at g_e21
      have f_e21 : alike.length ≤ 41 := by rw [e21, List.length_map]; exact Nat.le_trans (List.length_filter_le _ _) (by rw [rng_len]; omega)
      refine b_cons (s_set sc_lside.nd ss_lside_pairs x0_11.s (ev_cat (by walk_at "sz") (ev_v (sl_lside_pairs) (up (x6.g.trans x20.g) ru1_pairs)) (ev_lc (lc1A (fun (first : Int) => (beyond, (beyond - first))) rfl sc_lside.nd (ei_list (ev_v (sl_lside_alike) r11_alike)) [("first", 7)] (blkOk_by (N := N_lside) (sc := defScope s__law_side) (by decide +kernel)) (fun _ _ _ _ _ => pg_name (i := 7) sc_lside.nd rfl (.inl rfl)) (fun first v33 G23 H24 hx25 x22 r34 s27 s28 s29 s30 s31 => (ev_tup (ev_v ((⟨rfl, (by first | exact .inr (.inl rfl) | exact .inr (.inr rfl) | exact .inl rfl), nm_beyond⟩ : Sl _ 5 _)) (up (x20.g.trans x22.g) rt1)) (ev_bin b_sub (ev_v ((⟨rfl, (by first | exact .inr (.inl rfl) | exact .inr (.inr rfl) | exact .inl rfl), nm_beyond⟩ : Sl _ 5 _)) (up (x20.g.trans x22.g) rt1)) (ev_v ((⟨rfl, .inl rfl, nm_first⟩ : Sl _ 7 _)) r34))))))) fun G13 H13 v13_pairs x35 l13 r13_pairs => ?_)
      have x0_13 := x0_11.trans x35
      show tSs _ _ _ [some v_row, some v_modulus, some (.ref q_ahead), y1_3, some v13_pairs, some t1, some v11_alike, none, none, none] _
      obtain ⟨pairs, e36⟩ : ∃ z, z = (pairs ++ (alike.map (fun (first : Int) => (beyond, (beyond - first))))) := ⟨_, rfl⟩
      rw [← e36] at r13_pairs
      have tk : _ = m_lside_6 pairs := tk.trans (by first | (rw [e36] <;> rfl) | rfl)
      have g_e36 := congrArg List.length e36; try simp only [List.length_append, List.length_cons, List.length_nil, rng_len, List.length_map, List.length_reverse, psort_len, isort_len] at g_e36
      refine b_nil ?_
      exact ⟨_, x20.g.trans x35.g, x0_13.s, pairs, lfold_nxt es1 tk, x0_13, v13_pairs, some t1, some v11_alike, rfl, r13_pairs, by have hi := inv1_0; (try simp only [List.length_cons, List.length_nil, List.length_append, rng_len, enum_len] at hi ⊢); first | omega | walk_at "invx"⟩
    · intro σ1 G14 H14 sgC14 sh1 I_
      obtain ⟨pairs, es1, x0_14, u1_pairs, y1_5, y1_6, rfl, ru1_pairs, inv1_0⟩ := I_
      have tk := tk_fold (k := (m_lside_4 row modulus ahead)) tk es1
      have inv1_0_ := inv1_0; try simp only [List.length_cons, List.length_nil, rng_len, enum_len] at inv1_0_
      show tSs _ _ _ [some v_row, some v_modulus, some (.ref q_ahead), y1_3, some u1_pairs, y1_5, y1_6, none, none, none] _
      refine b_cons (s_set sc_lside.nd ss_lside_due x0_14.s (ev_none (α := (Int × Int))) fun G15 H15 v15_due x37 l15 r15_due => ?_)
      have x0_15 := x0_14.trans x37
      show tSs _ _ _ [some v_row, some v_modulus, some (.ref q_ahead), y1_3, some u1_pairs, y1_5, y1_6, none, some v15_due, none] _
      obtain ⟨due, e38⟩ : ∃ z, z = (none : (Option (Int × Int))) := ⟨_, rfl⟩
      rw [← e38] at r15_due
      have tk : _ = m_lside_7 row modulus ahead pairs due := tk.trans (by first | (rw [e38] <;> rfl) | rfl)
      refine b_cons (s_if x0_15.s (et_cmp (c_neD (hu_of64 hr)) (ev_v (sl_lside_pairs) (up x37.g ru1_pairs)) (ev_list (es_nil (α := (Int × Int))))) (fun h39 G16 H16 x40 l16 => ?_) (fun h39 G16 H16 x40 l16 => ?_))
      · have tk := tk_tt tk h39
        have h39_ := h39; try simp only [Bool.and_eq_true, Bool.or_eq_true, Bool.and_eq_false_iff, Bool.or_eq_false_iff, Bool.not_eq_true', Bool.not_eq_false', decide_eq_true_eq, decide_eq_false_iff_not, Classical.not_not] at h39_
        have x0_16 := x0_15.trans x40
        show tSs _ _ _ [some v_row, some v_modulus, some (.ref q_ahead), y1_3, some u1_pairs, y1_5, y1_6, none, some v15_due, none] _
        refine b_cons (s_unp rfl sc_lside.nd ss_lside_beyond ss_lside_many x0_16.s (ev_minA rfl (hu64 hr) ⟨gl_lside_min, T.b_min⟩ ((0 : Int), (0 : Int)) (by walk_at "ne") (ev_v (sl_lside_pairs) (up (x37.g.trans x40.g) ru1_pairs))) fun G17 H17 v17_beyond v17_many x41 l17 r17_beyond r17_many => ?_)
        have x0_17 := x0_16.trans x41
        show tSs _ _ _ [some v_row, some v_modulus, some (.ref q_ahead), y1_3, some u1_pairs, some v17_beyond, y1_6, none, some v15_due, some v17_many] _
        obtain ⟨beyond, e42⟩ : ∃ z, z = (dmin ((0 : Int), (0 : Int)) pairs).1 := ⟨_, rfl⟩
        rw [← e42] at r17_beyond
        have tk : _ = m_lside_8 row modulus ahead pairs beyond := tk.trans (by first | (rw [e42] <;> rfl) | rfl)
        obtain ⟨many, e43⟩ : ∃ z, z = (dmin ((0 : Int), (0 : Int)) pairs).2 := ⟨_, rfl⟩
        rw [← e43] at r17_many
        have tk : _ = m_lside_9 row modulus ahead pairs beyond many := tk.trans (by first | (rw [e43] <;> rfl) | rfl)
        refine b_cons (s_set sc_lside.nd ss_lside_due x0_17.s (ev_some (ev_tup (ev_bin b_sub (ev_v (sl_lside_beyond) r17_beyond) (ev_v (sl_lside_many) r17_many)) (ev_v (sl_lside_beyond) r17_beyond))) fun G18 H18 v18_due x44 l18 r18_due => ?_)
        have x0_18 := x0_17.trans x44
        show tSs _ _ _ [some v_row, some v_modulus, some (.ref q_ahead), y1_3, some u1_pairs, some v17_beyond, y1_6, none, some v18_due, some v17_many] _
        obtain ⟨due, e45⟩ : ∃ z, z = (some ((beyond - many), beyond)) := ⟨_, rfl⟩
        rw [← e45] at r18_due
        have tk : _ = m_lside_10 row modulus ahead pairs due := tk.trans (by first | (rw [e45] <;> rfl) | rfl)
        refine b_nil ?_
        show tSs _ _ _ [some v_row, some v_modulus, some (.ref q_ahead), y1_3, some u1_pairs, some v17_beyond, y1_6, none, some v18_due, some v17_many] _
        have fc47 := post_sums_ahead row modulus (by walk_at "pre")
        have fc48 := post_first_stretch row modulus (by walk_at "pre")
        refine b_cons (s_if x0_18.s (et_w (ew_or (et_cmp (c_neD (hu_of64 hr)) (ev_c2 C_sums_ahead (hr.mono (by decide)) gl_lside_sums_ahead (ev_copy ⟨gl_lside_list, T.b_list⟩ (ev_v (sl_lside_row) (up (x1.g.trans (sgC5.trans (x5.g.trans (sg7.trans (sgC14.trans (x37.g.trans (x40.g.trans (x41.g.trans x44.g)))))))) r_row))) (ev_v (sl_lside_modulus) (up (x1.g.trans (sgC5.trans (x5.g.trans (sg7.trans (sgC14.trans (x37.g.trans (x40.g.trans (x41.g.trans x44.g)))))))) r_modulus)) (by walk_at "pre")) (ev_v (sl_lside_ahead) (up (sgC14.trans (x37.g.trans (x40.g.trans (x41.g.trans x44.g)))) r7_ahead))) fun c46 => (ew_or1 (et_cmp (c_neD (hu_of64 hr)) (ev_c2 C_first_stretch (hr.mono (by decide)) gl_lside_first_stretch (ev_copy ⟨gl_lside_list, T.b_list⟩ (ev_v (sl_lside_row) (up (x1.g.trans (sgC5.trans (x5.g.trans (sg7.trans (sgC14.trans (x37.g.trans (x40.g.trans (x41.g.trans x44.g)))))))) r_row))) (ev_v (sl_lside_modulus) (up (x1.g.trans (sgC5.trans (x5.g.trans (sg7.trans (sgC14.trans (x37.g.trans (x40.g.trans (x41.g.trans x44.g)))))))) r_modulus)) (by walk_at "pre")) (ev_v (sl_lside_due) r18_due))))) (fun h49 G19 H19 x50 l19 => ?_) (fun h49 G19 H19 x50 l19 => ?_))
        · have tk := tk_tt tk h49
          have h49_ := h49; try simp only [Bool.and_eq_true, Bool.or_eq_true, Bool.and_eq_false_iff, Bool.or_eq_false_iff, Bool.not_eq_true', Bool.not_eq_false', decide_eq_true_eq, decide_eq_false_iff_not, Classical.not_not] at h49_
          have x0_19 := x0_18.trans x50
          show tSs _ _ _ [some v_row, some v_modulus, some (.ref q_ahead), y1_3, some u1_pairs, some v17_beyond, y1_6, none, some v18_due, some v17_many] _
          refine b_cons (s_ret x0_19.s ev_bl fun G_ H_ v52 x51 _ r_ => ?_)
          exact fin.rt _ _ _ (x0_19.trans x51) (rep_of tk r_) (fun z => nomatch z)
        · have tk := tk_ff tk h49
          have h49_ := h49; try simp only [Bool.and_eq_true, Bool.or_eq_true, Bool.and_eq_false_iff, Bool.or_eq_false_iff, Bool.not_eq_true', Bool.not_eq_false', decide_eq_true_eq, decide_eq_false_iff_not, Classical.not_not] at h49_
          have x0_19 := x0_18.trans x50
          show tSs _ _ _ [some v_row, some v_modulus, some (.ref q_ahead), y1_3, some u1_pairs, some v17_beyond, y1_6, none, some v18_due, some v17_many] _
          refine b_nil ?_
          show tSs _ _ _ [some v_row, some v_modulus, some (.ref q_ahead), y1_3, some u1_pairs, some v17_beyond, y1_6, none, some v18_due, some v17_many] _
          refine b_cons (s_ret x0_19.s (ev_cmp c_eq (ev_c2 C_how_many_stretches (hr.mono (by decide)) gl_lside_how_many_stretches (ev_copy ⟨gl_lside_list, T.b_list⟩ (ev_v (sl_lside_row) (up (x1.g.trans (sgC5.trans (x5.g.trans (sg7.trans (sgC14.trans (x37.g.trans (x40.g.trans (x41.g.trans (x44.g.trans x50.g))))))))) r_row))) (ev_v (sl_lside_modulus) (up (x1.g.trans (sgC5.trans (x5.g.trans (sg7.trans (sgC14.trans (x37.g.trans (x40.g.trans (x41.g.trans (x44.g.trans x50.g))))))))) r_modulus)) (by walk_at "pre")) (ev_len ⟨gl_lside_len, T.b_len⟩ (ev_v (sl_lside_pairs) (up (x37.g.trans (x40.g.trans (x41.g.trans (x44.g.trans x50.g)))) ru1_pairs)))) fun G_ H_ v54 x53 _ r_ => ?_)
          exact fin.rt _ _ _ (x0_19.trans x53) (rep_of tk r_) (fun z => nomatch z)
      · have tk := tk_ff tk h39
        have h39_ := h39; try simp only [Bool.and_eq_true, Bool.or_eq_true, Bool.and_eq_false_iff, Bool.or_eq_false_iff, Bool.not_eq_true', Bool.not_eq_false', decide_eq_true_eq, decide_eq_false_iff_not, Classical.not_not] at h39_
        have x0_16 := x0_15.trans x40
        show tSs _ _ _ [some v_row, some v_modulus, some (.ref q_ahead), y1_3, some u1_pairs, y1_5, y1_6, none, some v15_due, none] _
        refine b_nil ?_
        show tSs _ _ _ [some v_row, some v_modulus, some (.ref q_ahead), y1_3, some u1_pairs, y1_5, y1_6, none, some v15_due, none] _
        have fc56 := post_sums_ahead row modulus (by walk_at "pre")
        have fc57 := post_first_stretch row modulus (by walk_at "pre")
        refine b_cons (s_if x0_16.s (et_w (ew_or (et_cmp (c_neD (hu_of64 hr)) (ev_c2 C_sums_ahead (hr.mono (by decide)) gl_lside_sums_ahead (ev_copy ⟨gl_lside_list, T.b_list⟩ (ev_v (sl_lside_row) (up (x1.g.trans (sgC5.trans (x5.g.trans (sg7.trans (sgC14.trans (x37.g.trans x40.g)))))) r_row))) (ev_v (sl_lside_modulus) (up (x1.g.trans (sgC5.trans (x5.g.trans (sg7.trans (sgC14.trans (x37.g.trans x40.g)))))) r_modulus)) (by walk_at "pre")) (ev_v (sl_lside_ahead) (up (sgC14.trans (x37.g.trans x40.g)) r7_ahead))) fun c55 => (ew_or1 (et_cmp (c_neD (hu_of64 hr)) (ev_c2 C_first_stretch (hr.mono (by decide)) gl_lside_first_stretch (ev_copy ⟨gl_lside_list, T.b_list⟩ (ev_v (sl_lside_row) (up (x1.g.trans (sgC5.trans (x5.g.trans (sg7.trans (sgC14.trans (x37.g.trans x40.g)))))) r_row))) (ev_v (sl_lside_modulus) (up (x1.g.trans (sgC5.trans (x5.g.trans (sg7.trans (sgC14.trans (x37.g.trans x40.g)))))) r_modulus)) (by walk_at "pre")) (ev_v (sl_lside_due) (up x40.g r15_due)))))) (fun h58 G20 H20 x59 l20 => ?_) (fun h58 G20 H20 x59 l20 => ?_))
        · have tk := tk_tt tk h58
          have h58_ := h58; try simp only [Bool.and_eq_true, Bool.or_eq_true, Bool.and_eq_false_iff, Bool.or_eq_false_iff, Bool.not_eq_true', Bool.not_eq_false', decide_eq_true_eq, decide_eq_false_iff_not, Classical.not_not] at h58_
          have x0_20 := x0_16.trans x59
          show tSs _ _ _ [some v_row, some v_modulus, some (.ref q_ahead), y1_3, some u1_pairs, y1_5, y1_6, none, some v15_due, none] _
          refine b_cons (s_ret x0_20.s ev_bl fun G_ H_ v61 x60 _ r_ => ?_)
          exact fin.rt _ _ _ (x0_20.trans x60) (rep_of tk r_) (fun z => nomatch z)
        · have tk := tk_ff tk h58
          have h58_ := h58; try simp only [Bool.and_eq_true, Bool.or_eq_true, Bool.and_eq_false_iff, Bool.or_eq_false_iff, Bool.not_eq_true', Bool.not_eq_false', decide_eq_true_eq, decide_eq_false_iff_not, Classical.not_not] at h58_
          have x0_20 := x0_16.trans x59
          show tSs _ _ _ [some v_row, some v_modulus, some (.ref q_ahead), y1_3, some u1_pairs, y1_5, y1_6, none, some v15_due, none] _
          refine b_nil ?_
          show tSs _ _ _ [some v_row, some v_modulus, some (.ref q_ahead), y1_3, some u1_pairs, y1_5, y1_6, none, some v15_due, none] _
          refine b_cons (s_ret x0_20.s (ev_cmp c_eq (ev_c2 C_how_many_stretches (hr.mono (by decide)) gl_lside_how_many_stretches (ev_copy ⟨gl_lside_list, T.b_list⟩ (ev_v (sl_lside_row) (up (x1.g.trans (sgC5.trans (x5.g.trans (sg7.trans (sgC14.trans (x37.g.trans (x40.g.trans x59.g))))))) r_row))) (ev_v (sl_lside_modulus) (up (x1.g.trans (sgC5.trans (x5.g.trans (sg7.trans (sgC14.trans (x37.g.trans (x40.g.trans x59.g))))))) r_modulus)) (by walk_at "pre")) (ev_len ⟨gl_lside_len, T.b_len⟩ (ev_v (sl_lside_pairs) (up (x37.g.trans (x40.g.trans x59.g)) ru1_pairs)))) fun G_ H_ v63 x62 _ r_ => ?_)
          exact fin.rt _ _ _ (x0_20.trans x62) (rep_of tk r_) (fun z => nomatch z)
end

abbrev N_law : List Str := ["script", "row", "modulus", "table", "hits", "many", "number", "fewest", "due", "k", "numbers", "rest"]
theorem sc_law : FnScope N_law ["script"] (defScope s_law) := ⟨rfl, rfl, rfl, by decide +kernel, rfl, by decide +kernel, by decide +kernel⟩
theorem sl_law_due {P : Program} {w : World} {K : PySem.W.Frag} {mg : Str → Option Value} {base : Heap} {f : Addr} {cdv : Value} {A : Around} {outer : List Env} {s : Shared} {H : Hp} {E : XK} : Sl (cxOf (L2.CX P w) P w K mg base N_law "law" (defScope s_law) f cdv A outer s H E) 8 "due" := ⟨rfl, (by first | exact .inl rfl | exact .inr (.inl rfl)), nm_due⟩
theorem sl_law_fewest {P : Program} {w : World} {K : PySem.W.Frag} {mg : Str → Option Value} {base : Heap} {f : Addr} {cdv : Value} {A : Around} {outer : List Env} {s : Shared} {H : Hp} {E : XK} : Sl (cxOf (L2.CX P w) P w K mg base N_law "law" (defScope s_law) f cdv A outer s H E) 7 "fewest" := ⟨rfl, (by first | exact .inl rfl | exact .inr (.inl rfl)), nm_fewest⟩
theorem sl_law_hits {P : Program} {w : World} {K : PySem.W.Frag} {mg : Str → Option Value} {base : Heap} {f : Addr} {cdv : Value} {A : Around} {outer : List Env} {s : Shared} {H : Hp} {E : XK} : Sl (cxOf (L2.CX P w) P w K mg base N_law "law" (defScope s_law) f cdv A outer s H E) 4 "hits" := ⟨rfl, (by first | exact .inl rfl | exact .inr (.inl rfl)), nm_hits⟩
theorem sl_law_k {P : Program} {w : World} {K : PySem.W.Frag} {mg : Str → Option Value} {base : Heap} {f : Addr} {cdv : Value} {A : Around} {outer : List Env} {s : Shared} {H : Hp} {E : XK} : Sl (cxOf (L2.CX P w) P w K mg base N_law "law" (defScope s_law) f cdv A outer s H E) 9 "k" := ⟨rfl, (by first | exact .inl rfl | exact .inr (.inl rfl)), nm_k⟩
theorem sl_law_many {P : Program} {w : World} {K : PySem.W.Frag} {mg : Str → Option Value} {base : Heap} {f : Addr} {cdv : Value} {A : Around} {outer : List Env} {s : Shared} {H : Hp} {E : XK} : Sl (cxOf (L2.CX P w) P w K mg base N_law "law" (defScope s_law) f cdv A outer s H E) 5 "many" := ⟨rfl, (by first | exact .inl rfl | exact .inr (.inl rfl)), nm_many⟩
theorem sl_law_modulus {P : Program} {w : World} {K : PySem.W.Frag} {mg : Str → Option Value} {base : Heap} {f : Addr} {cdv : Value} {A : Around} {outer : List Env} {s : Shared} {H : Hp} {E : XK} : Sl (cxOf (L2.CX P w) P w K mg base N_law "law" (defScope s_law) f cdv A outer s H E) 2 "modulus" := ⟨rfl, (by first | exact .inl rfl | exact .inr (.inl rfl)), nm_modulus⟩
theorem sl_law_numbers {P : Program} {w : World} {K : PySem.W.Frag} {mg : Str → Option Value} {base : Heap} {f : Addr} {cdv : Value} {A : Around} {outer : List Env} {s : Shared} {H : Hp} {E : XK} : Sl (cxOf (L2.CX P w) P w K mg base N_law "law" (defScope s_law) f cdv A outer s H E) 10 "numbers" := ⟨rfl, (by first | exact .inl rfl | exact .inr (.inl rfl)), nm_numbers⟩
theorem sl_law_row {P : Program} {w : World} {K : PySem.W.Frag} {mg : Str → Option Value} {base : Heap} {f : Addr} {cdv : Value} {A : Around} {outer : List Env} {s : Shared} {H : Hp} {E : XK} : Sl (cxOf (L2.CX P w) P w K mg base N_law "law" (defScope s_law) f cdv A outer s H E) 1 "row" := ⟨rfl, (by first | exact .inl rfl | exact .inr (.inl rfl)), nm_row⟩
theorem sl_law_script {P : Program} {w : World} {K : PySem.W.Frag} {mg : Str → Option Value} {base : Heap} {f : Addr} {cdv : Value} {A : Around} {outer : List Env} {s : Shared} {H : Hp} {E : XK} : Sl (cxOf (L2.CX P w) P w K mg base N_law "law" (defScope s_law) f cdv A outer s H E) 0 "script" := ⟨rfl, (by first | exact .inl rfl | exact .inr (.inl rfl)), nm_script⟩
theorem ss_law_row {P : Program} {w : World} {K : PySem.W.Frag} {mg : Str → Option Value} {base : Heap} {f : Addr} {cdv : Value} {A : Around} {outer : List Env} {s : Shared} {H : Hp} {E : XK} : Ss (cxOf (L2.CX P w) P w K mg base N_law "law" (defScope s_law) f cdv A outer s H E) 1 "row" := ⟨rfl, (by first | exact .inl rfl | exact .inr rfl), .inl rfl⟩
theorem ss_law_modulus {P : Program} {w : World} {K : PySem.W.Frag} {mg : Str → Option Value} {base : Heap} {f : Addr} {cdv : Value} {A : Around} {outer : List Env} {s : Shared} {H : Hp} {E : XK} : Ss (cxOf (L2.CX P w) P w K mg base N_law "law" (defScope s_law) f cdv A outer s H E) 2 "modulus" := ⟨rfl, (by first | exact .inl rfl | exact .inr rfl), .inl rfl⟩
theorem ss_law_table {P : Program} {w : World} {K : PySem.W.Frag} {mg : Str → Option Value} {base : Heap} {f : Addr} {cdv : Value} {A : Around} {outer : List Env} {s : Shared} {H : Hp} {E : XK} : Ss (cxOf (L2.CX P w) P w K mg base N_law "law" (defScope s_law) f cdv A outer s H E) 3 "table" := ⟨rfl, (by first | exact .inl rfl | exact .inr rfl), .inl rfl⟩
theorem ss_law_hits {P : Program} {w : World} {K : PySem.W.Frag} {mg : Str → Option Value} {base : Heap} {f : Addr} {cdv : Value} {A : Around} {outer : List Env} {s : Shared} {H : Hp} {E : XK} : Ss (cxOf (L2.CX P w) P w K mg base N_law "law" (defScope s_law) f cdv A outer s H E) 4 "hits" := ⟨rfl, (by first | exact .inl rfl | exact .inr rfl), .inl rfl⟩
theorem ss_law_many {P : Program} {w : World} {K : PySem.W.Frag} {mg : Str → Option Value} {base : Heap} {f : Addr} {cdv : Value} {A : Around} {outer : List Env} {s : Shared} {H : Hp} {E : XK} : Ss (cxOf (L2.CX P w) P w K mg base N_law "law" (defScope s_law) f cdv A outer s H E) 5 "many" := ⟨rfl, (by first | exact .inl rfl | exact .inr rfl), .inl rfl⟩
theorem ss_law_fewest {P : Program} {w : World} {K : PySem.W.Frag} {mg : Str → Option Value} {base : Heap} {f : Addr} {cdv : Value} {A : Around} {outer : List Env} {s : Shared} {H : Hp} {E : XK} : Ss (cxOf (L2.CX P w) P w K mg base N_law "law" (defScope s_law) f cdv A outer s H E) 7 "fewest" := ⟨rfl, (by first | exact .inl rfl | exact .inr rfl), .inl rfl⟩
theorem ss_law_due {P : Program} {w : World} {K : PySem.W.Frag} {mg : Str → Option Value} {base : Heap} {f : Addr} {cdv : Value} {A : Around} {outer : List Env} {s : Shared} {H : Hp} {E : XK} : Ss (cxOf (L2.CX P w) P w K mg base N_law "law" (defScope s_law) f cdv A outer s H E) 8 "due" := ⟨rfl, (by first | exact .inl rfl | exact .inr rfl), .inl rfl⟩
theorem ss_law_k {P : Program} {w : World} {K : PySem.W.Frag} {mg : Str → Option Value} {base : Heap} {f : Addr} {cdv : Value} {A : Around} {outer : List Env} {s : Shared} {H : Hp} {E : XK} : Ss (cxOf (L2.CX P w) P w K mg base N_law "law" (defScope s_law) f cdv A outer s H E) 9 "k" := ⟨rfl, (by first | exact .inl rfl | exact .inr rfl), .inl rfl⟩
theorem ss_law_numbers {P : Program} {w : World} {K : PySem.W.Frag} {mg : Str → Option Value} {base : Heap} {f : Addr} {cdv : Value} {A : Around} {outer : List Env} {s : Shared} {H : Hp} {E : XK} : Ss (cxOf (L2.CX P w) P w K mg base N_law "law" (defScope s_law) f cdv A outer s H E) 10 "numbers" := ⟨rfl, (by first | exact .inl rfl | exact .inr rfl), .inl rfl⟩
theorem gl_law__law_cell_at {P : Program} {w : World} {K : PySem.W.Frag} {mg : Str → Option Value} {base : Heap} {f : Addr} {cdv : Value} {A : Around} {outer : List Env} {s : Shared} {H : Hp} {E : XK} : Gl (cxOf (L2.CX P w) P w K mg base N_law "law" (defScope s_law) f cdv A outer s H E) "_law_cell_at" := by rfl
theorem gl_law__law_counted {P : Program} {w : World} {K : PySem.W.Frag} {mg : Str → Option Value} {base : Heap} {f : Addr} {cdv : Value} {A : Around} {outer : List Env} {s : Shared} {H : Hp} {E : XK} : Gl (cxOf (L2.CX P w) P w K mg base N_law "law" (defScope s_law) f cdv A outer s H E) "_law_counted" := by rfl
theorem gl_law__law_first {P : Program} {w : World} {K : PySem.W.Frag} {mg : Str → Option Value} {base : Heap} {f : Addr} {cdv : Value} {A : Around} {outer : List Env} {s : Shared} {H : Hp} {E : XK} : Gl (cxOf (L2.CX P w) P w K mg base N_law "law" (defScope s_law) f cdv A outer s H E) "_law_first" := by rfl
theorem gl_law__law_numbers {P : Program} {w : World} {K : PySem.W.Frag} {mg : Str → Option Value} {base : Heap} {f : Addr} {cdv : Value} {A : Around} {outer : List Env} {s : Shared} {H : Hp} {E : XK} : Gl (cxOf (L2.CX P w) P w K mg base N_law "law" (defScope s_law) f cdv A outer s H E) "_law_numbers" := by rfl
theorem gl_law__law_row {P : Program} {w : World} {K : PySem.W.Frag} {mg : Str → Option Value} {base : Heap} {f : Addr} {cdv : Value} {A : Around} {outer : List Env} {s : Shared} {H : Hp} {E : XK} : Gl (cxOf (L2.CX P w) P w K mg base N_law "law" (defScope s_law) f cdv A outer s H E) "_law_row" := by rfl
theorem gl_law__law_side {P : Program} {w : World} {K : PySem.W.Frag} {mg : Str → Option Value} {base : Heap} {f : Addr} {cdv : Value} {A : Around} {outer : List Env} {s : Shared} {H : Hp} {E : XK} : Gl (cxOf (L2.CX P w) P w K mg base N_law "law" (defScope s_law) f cdv A outer s H E) "_law_side" := by rfl
theorem gl_law_come_to {P : Program} {w : World} {K : PySem.W.Frag} {mg : Str → Option Value} {base : Heap} {f : Addr} {cdv : Value} {A : Around} {outer : List Env} {s : Shared} {H : Hp} {E : XK} : Gl (cxOf (L2.CX P w) P w K mg base N_law "law" (defScope s_law) f cdv A outer s H E) "come_to" := by rfl
theorem gl_law_fewest_hit {P : Program} {w : World} {K : PySem.W.Frag} {mg : Str → Option Value} {base : Heap} {f : Addr} {cdv : Value} {A : Around} {outer : List Env} {s : Shared} {H : Hp} {E : XK} : Gl (cxOf (L2.CX P w) P w K mg base N_law "law" (defScope s_law) f cdv A outer s H E) "fewest_hit" := by rfl
theorem gl_law_hit_of {P : Program} {w : World} {K : PySem.W.Frag} {mg : Str → Option Value} {base : Heap} {f : Addr} {cdv : Value} {A : Around} {outer : List Env} {s : Shared} {H : Hp} {E : XK} : Gl (cxOf (L2.CX P w) P w K mg base N_law "law" (defScope s_law) f cdv A outer s H E) "hit_of" := by rfl
theorem gl_law_hits_by_places {P : Program} {w : World} {K : PySem.W.Frag} {mg : Str → Option Value} {base : Heap} {f : Addr} {cdv : Value} {A : Around} {outer : List Env} {s : Shared} {H : Hp} {E : XK} : Gl (cxOf (L2.CX P w) P w K mg base N_law "law" (defScope s_law) f cdv A outer s H E) "hits_by_places" := by rfl
theorem gl_law_how_many_hits {P : Program} {w : World} {K : PySem.W.Frag} {mg : Str → Option Value} {base : Heap} {f : Addr} {cdv : Value} {A : Around} {outer : List Env} {s : Shared} {H : Hp} {E : XK} : Gl (cxOf (L2.CX P w) P w K mg base N_law "law" (defScope s_law) f cdv A outer s H E) "how_many_hits" := by rfl
theorem gl_law_is_hit {P : Program} {w : World} {K : PySem.W.Frag} {mg : Str → Option Value} {base : Heap} {f : Addr} {cdv : Value} {A : Around} {outer : List Env} {s : Shared} {H : Hp} {E : XK} : Gl (cxOf (L2.CX P w) P w K mg base N_law "law" (defScope s_law) f cdv A outer s H E) "is_hit" := by rfl
theorem gl_law_len {P : Program} {w : World} {K : PySem.W.Frag} {mg : Str → Option Value} {base : Heap} {f : Addr} {cdv : Value} {A : Around} {outer : List Env} {s : Shared} {H : Hp} {E : XK} : Gl (cxOf (L2.CX P w) P w K mg base N_law "law" (defScope s_law) f cdv A outer s H E) "len" := by rfl
theorem gl_law_list {P : Program} {w : World} {K : PySem.W.Frag} {mg : Str → Option Value} {base : Heap} {f : Addr} {cdv : Value} {A : Around} {outer : List Env} {s : Shared} {H : Hp} {E : XK} : Gl (cxOf (L2.CX P w) P w K mg base N_law "law" (defScope s_law) f cdv A outer s H E) "list" := by rfl
theorem gl_law_range {P : Program} {w : World} {K : PySem.W.Frag} {mg : Str → Option Value} {base : Heap} {f : Addr} {cdv : Value} {A : Around} {outer : List Env} {s : Shared} {H : Hp} {E : XK} : Gl (cxOf (L2.CX P w) P w K mg base N_law "law" (defScope s_law) f cdv A outer s H E) "range" := by rfl
theorem gl_law_rests {P : Program} {w : World} {K : PySem.W.Frag} {mg : Str → Option Value} {base : Heap} {f : Addr} {cdv : Value} {A : Around} {outer : List Env} {s : Shared} {H : Hp} {E : XK} : Gl (cxOf (L2.CX P w) P w K mg base N_law "law" (defScope s_law) f cdv A outer s H E) "rests" := by rfl
theorem gl_law_sum {P : Program} {w : World} {K : PySem.W.Frag} {mg : Str → Option Value} {base : Heap} {f : Addr} {cdv : Value} {A : Around} {outer : List Env} {s : Shared} {H : Hp} {E : XK} : Gl (cxOf (L2.CX P w) P w K mg base N_law "law" (defScope s_law) f cdv A outer s H E) "sum" := by rfl
section
local macro_rules | `(tactic| walk_at "pre") => `(tactic| first | omega | exact ⟨rfl, rfl⟩ | exact ⟨by omega, by omega, by omega, by with_reducible assumption⟩ | fail)
local macro_rules | `(tactic| walk_at "ix") => `(tactic| first | omega | exact Grid.ix (by with_reducible assumption) (by first | omega | (have hz := mem_rng.mp (by with_reducible assumption); omega)) | exact Grid.ix2 (by with_reducible assumption) (by first | omega | (have hz := mem_rng.mp (by with_reducible assumption); omega)) (by first | omega | (have hz := mem_rng.mp (by with_reducible assumption); omega)) | (have hz := List.length_pos_iff.mpr (by with_reducible assumption); omega) | (have hz := mem_rng.mp (by with_reducible assumption); omega) | fail)
local macro_rules | `(tactic| walk_at "sc") => `(tactic| first | omega | (have hz := mem_rng.mp (by with_reducible assumption); omega) | fail)
local macro_rules | `(tactic| walk_at "nn") => `(tactic| first | with_reducible assumption | exact nn_of (by with_reducible assumption) | exact nn_and (by with_reducible assumption) | fail)
theorem cal_law {P : Program} {w : World} {K : PySem.W.Frag} {mg : Str → Option Value} {base : Heap} {f : Addr} {fd : FuncData} (T : Txt K mg) (F : Fun K "law" "law" s_law f fd) (hm : mg "law" = some (.ref f)) (hb : Binds K fd ["script"] []) (C_lrow : Cal P w K mg base 2 "_law_row" (Sp3 K false (fun (script : Scr) (most : Int) (greatest : Int) => most = 40 ∧ greatest = 25) m_lrow)) (C_lcnt : Cal P w K mg base 1 "_law_counted" (Sp2 K false (fun (row : (List Int)) (modulus : Int) => row.length ≤ 40 ∧ 1 ≤ modulus ∧ modulus ≤ 25) m_lcnt)) (C_hits_by_places : Cal P w K mg base 3 "hits_by_places" (Sp2 K true (fun (row : (List Int)) (modulus : Int) => row.length ≤ 1000 ∧ 1 ≤ modulus ∧ modulus ≤ 1000) m_hits_by_places)) (C_how_many_hits : Cal P w K mg base 4 "how_many_hits" (Sp2 K false (fun (row : (List Int)) (modulus : Int) => row.length ≤ 1000 ∧ 1 ≤ modulus ∧ modulus ≤ 1000) m_how_many_hits)) (C_rests : Cal P w K mg base 2 "rests" (Sp2 K true (fun (row : (List Int)) (modulus : Int) => 1 ≤ modulus) m_rests)) (C_lside : Cal P w K mg base 5 "_law_side" (Sp2 K false (fun (row : (List Int)) (modulus : Int) => row.length ≤ 40 ∧ 1 ≤ modulus ∧ modulus ≤ 25) m_lside)) (C_lfst : Cal P w K mg base 1 "_law_first" (Sp3 K false (fun (row : (List Int)) (modulus : Int) (many : Int) => row.length ≤ 40 ∧ 1 ≤ modulus ∧ modulus ≤ 25 ∧ 0 ≤ many) m_lfst)) (C_fewest_hit : Cal P w K mg base 3 "fewest_hit" (Sp2 K true (fun (row : (List Int)) (modulus : Int) => row.length ≤ 1000 ∧ 1 ≤ modulus ∧ modulus ≤ 1000) m_fewest_hit)) (C_is_hit : Cal P w K mg base 2 "is_hit" (Sp3 K false (fun (row : (List Int)) (modulus : Int) (places : (List Int)) => 1 ≤ modulus) m_is_hit)) (C_q_cell_at : Cal P w K mg base 1 "_law_cell_at" (Sp2 K false (fun (script : Scr) (k : Int) => 0 ≤ k) m_q_cell_at)) (C_numbers : Cal P w K mg base 1 "_law_numbers" (Sp2 K true (fun (cell : Int) (many : Int) => 1 ≤ many ∧ many ≤ 5) m_numbers)) (C_hit_of : Cal P w K mg base 3 "hit_of" (Sp3 K true (fun (row : (List Int)) (modulus : Int) (many : Int) => row.length ≤ 1000 ∧ 1 ≤ modulus ∧ modulus ≤ 1000 ∧ 1 ≤ many) m_hit_of)) (C_come_to : Cal P w K mg base 3 "come_to" (Sp3 K true (fun (row : (List Int)) (modulus : Int) (many : Int) => row.length ≤ 1000 ∧ 1 ≤ modulus ∧ modulus ≤ 63 ∧ 0 ≤ many) m_come_to)) : FnOk P w K mg base (L2.CX P w) 6 f fd ["script"] (Sp1 K false (fun (script : Scr) => script.ns.length ≤ 63) m_law) := by
  refine fn1F F hm hb sc_law rfl fun cdv A outer s H0 E hr G0 v_script script D s0 r_script hp fin => ?_
  have x0_0 : Ext G0 H0 G0 H0 := Ext.refl s0
  show tSs _ _ D [some v_script, none, none, none, none, none, none, none, none, none, none, none] H0
  have tk : m_law script = _ := rfl
  have fc1 := post_lrow script (40 : Int) (25 : Int) (by walk_at "pre")
  have fc1_ := fc1; obtain ⟨fc1_1, fc1_2⟩ := fc1_
  refine b_cons (s_unp rfl sc_law.nd ss_law_row ss_law_modulus x0_0.s (ev_c3 C_lrow (hr.mono (by decide)) gl_law__law_row (ev_v (sl_law_script) r_script) ev_int ev_int (by walk_at "pre")) fun G1 H1 v1_row v1_modulus x2 l1 r1_row r1_modulus => ?_)
  have x0_1 := x0_0.trans x2
  show tSs _ _ _ [some v_script, some v1_row, some v1_modulus, none, none, none, none, none, none, none, none, none] _
  obtain ⟨row, e3⟩ : ∃ z, z = (m_lrow script (40 : Int) (25 : Int)).1 := ⟨_, rfl⟩
  rw [← e3] at r1_row
  have tk : _ = m_law_1 script row := tk.trans (by first | (rw [e3] <;> rfl) | rfl)
  have g_e3 := congrArg List.length e3; try simp only [List.length_append, List.length_cons, List.length_nil, rng_len, List.length_map, List.length_reverse, psort_len, isort_len] at g_e3
  have f_e3 : row.length ≤ 40 := by rw [e3]; exact (post_lrow _ _ _ ⟨rfl, rfl⟩).1
  obtain ⟨modulus, e4⟩ : ∃ z, z = (m_lrow script (40 : Int) (25 : Int)).2 := ⟨_, rfl⟩
  rw [← e4] at r1_modulus
  have tk : _ = m_law_2 script row modulus := tk.trans (by first | (rw [e4] <;> rfl) | rfl)
  have f_e4 : 1 ≤ modulus ∧ modulus ≤ 25 := by rw [e4]; exact (post_lrow _ _ _ ⟨rfl, rfl⟩).2
  have fc5 := post_lcnt row modulus (by walk_at "pre")
  refine b_cons (s_set sc_law.nd ss_law_table x0_1.s (ev_c2 C_lcnt (hr.mono (by decide)) gl_law__law_counted (ev_v (sl_law_row) r1_row) (ev_v (sl_law_modulus) r1_modulus) (by walk_at "pre")) fun G2 H2 v2_table x6 l2 r2_table => ?_)
  have x0_2 := x0_1.trans x6
  show tSs _ _ _ [some v_script, some v1_row, some v1_modulus, some v2_table, none, none, none, none, none, none, none, none] _
  obtain ⟨table, e7⟩ : ∃ z, z = (m_lcnt row modulus) := ⟨_, rfl⟩
  rw [← e7] at r2_table
  have tk : _ = m_law_3 script row modulus table := tk.trans (by first | (rw [e7] <;> rfl) | rfl)
  have p_e7 := post_lcnt row modulus (by walk_at "pre"); rw [← e7] at p_e7; (try simp only [rep_len, rep_len2] at p_e7)
  have g_e7 := congrArg List.length e7; try simp only [List.length_append, List.length_cons, List.length_nil, rng_len, List.length_map, List.length_reverse, psort_len, isort_len] at g_e7
  refine b_cons (s_set sc_law.nd ss_law_hits x0_2.s (ev_lc (lc1A (fun (many : Int) => ((((table).getD (many).toNat [])).getD ((0 : Int)).toNat (0 : Int))) rfl sc_law.nd (ei_range2 ⟨gl_law_range, T.b_range⟩ ev_int (ev_bin b_add (ev_len ⟨gl_law_len, T.b_len⟩ (ev_v (sl_law_row) (up x6.g r1_row))) ev_int) ⟨⟨(by walk_at "sc"), (by walk_at "sc")⟩, (by walk_at "sc"), (by walk_at "sc"), (by walk_at "sc")⟩) [("many", 5)] (blkOk_by (N := N_law) (sc := defScope s_law) (by decide +kernel)) (fun _ _ _ _ _ => pg_name (i := 5) sc_law.nd rfl (.inl rfl)) (fun many v19 G9 H10 hx11 x8 r20 s13 s14 s15 s16 s17 => (ev_ix (0 : Int) (ev_ix [] (ev_v ((⟨rfl, (by first | exact .inr (.inl rfl) | exact .inr (.inr rfl) | exact .inl rfl), nm_table⟩ : Sl _ 3 _)) (up x8.g r2_table)) (ev_v ((⟨rfl, .inl rfl, nm_many⟩ : Sl _ 5 _)) r20) (by walk_at "sc") (by walk_at "ix")) ev_int (by walk_at "sc") (by walk_at "ix"))))) fun G4 H4 v4_hits x21 l4 r4_hits => ?_)
  have x0_4 := x0_2.trans x21
  show tSs _ _ _ [some v_script, some v1_row, some v1_modulus, some v2_table, some v4_hits, none, none, none, none, none, none, none] _
  obtain ⟨hits, e22⟩ : ∃ z, z = ((rng (1 : Int) (((row).length : Int) + (1 : Int))).map (fun (many : Int) => ((((table).getD (many).toNat [])).getD ((0 : Int)).toNat (0 : Int)))) := ⟨_, rfl⟩
  rw [← e22] at r4_hits
  have tk : _ = m_law_4 script row modulus table hits := tk.trans (by first | (rw [e22] <;> rfl) | rfl)
  have g_e22 := congrArg List.length e22; try simp only [List.length_append, List.length_cons, List.length_nil, rng_len, List.length_map, List.length_reverse, psort_len, isort_len] at g_e22
  have fc24 := post_hits_by_places row modulus (by walk_at "pre")
  refine b_cons (s_if x0_4.s (et_w (ew_or (et_cmp (c_neD (hu_of64 hr)) (ev_c2 C_hits_by_places (hr.mono (by decide)) gl_law_hits_by_places (ev_copy ⟨gl_law_list, T.b_list⟩ (ev_v (sl_law_row) (up (x6.g.trans x21.g) r1_row))) (ev_v (sl_law_modulus) (up (x6.g.trans x21.g) r1_modulus)) (by walk_at "pre")) (ev_v (sl_law_hits) r4_hits)) fun c23 => (ew_or1 (et_cmp c_ne (ev_c2 C_how_many_hits (hr.mono (by decide)) gl_law_how_many_hits (ev_copy ⟨gl_law_list, T.b_list⟩ (ev_v (sl_law_row) (up (x6.g.trans x21.g) r1_row))) (ev_v (sl_law_modulus) (up (x6.g.trans x21.g) r1_modulus)) (by walk_at "pre")) (ev_sum ⟨gl_law_sum, T.b_sum⟩ rfl (ev_v (sl_law_hits) r4_hits)))))) (fun h25 G5 H5 x26 l5 => ?_) (fun h25 G5 H5 x26 l5 => ?_))
  · have tk := tk_tt tk h25
    have h25_ := h25; try simp only [Bool.and_eq_true, Bool.or_eq_true, Bool.and_eq_false_iff, Bool.or_eq_false_iff, Bool.not_eq_true', Bool.not_eq_false', decide_eq_true_eq, decide_eq_false_iff_not, Classical.not_not] at h25_
    have x0_5 := x0_4.trans x26
    show tSs _ _ _ [some v_script, some v1_row, some v1_modulus, some v2_table, some v4_hits, none, none, none, none, none, none, none] _
    refine b_cons (s_ret x0_5.s ev_bl fun G_ H_ v28 x27 _ r_ => ?_)
    exact fin.rt _ _ _ (x0_5.trans x27) (rep_of tk r_) (fun z => nomatch z)
  · have tk := tk_ff tk h25
    have h25_ := h25; try simp only [Bool.and_eq_true, Bool.or_eq_true, Bool.and_eq_false_iff, Bool.or_eq_false_iff, Bool.not_eq_true', Bool.not_eq_false', decide_eq_true_eq, decide_eq_false_iff_not, Classical.not_not] at h25_
    have x0_5 := x0_4.trans x26
    show tSs _ _ _ [some v_script, some v1_row, some v1_modulus, some v2_table, some v4_hits, none, none, none, none, none, none, none] _
    refine b_nil ?_
    show tSs _ _ _ [some v_script, some v1_row, some v1_modulus, some v2_table, some v4_hits, none, none, none, none, none, none, none] _
    have fc43 := post_rests row modulus (by walk_at "pre")
    refine b_cons (s_if x0_5.s (et_w (ew_or (et_cmp (c_neD (hu_of64 hr)) (ev_c2 C_rests (hr.mono (by decide)) gl_law_rests (ev_copy ⟨gl_law_list, T.b_list⟩ (ev_v (sl_law_row) (up (x6.g.trans (x21.g.trans x26.g)) r1_row))) (ev_v (sl_law_modulus) (up (x6.g.trans (x21.g.trans x26.g)) r1_modulus)) (by walk_at "pre")) (ev_lc (lc1A (fun (number : Int) => (number % modulus)) rfl sc_law.nd (ei_list (ev_v (sl_law_row) (up (x6.g.trans (x21.g.trans x26.g)) r1_row))) [("number", 6)] (blkOk_by (N := N_law) (sc := defScope s_law) (by decide +kernel)) (fun _ _ _ _ _ => pg_name (i := 6) sc_law.nd rfl (.inl rfl)) (fun number v40 G30 H31 hx32 x29 r41 s34 s35 s36 s37 s38 => (ev_bin (b_mod (by walk_at "sc")) (ev_v ((⟨rfl, .inl rfl, nm_number⟩ : Sl _ 6 _)) r41) (ev_v ((⟨rfl, (by first | exact .inr (.inl rfl) | exact .inr (.inr rfl) | exact .inl rfl), nm_modulus⟩ : Sl _ 2 _)) (up (x6.g.trans (x21.g.trans (x26.g.trans x29.g))) r1_modulus))))))) fun c42 => (ew_or1 (et_not (et_val (ev_c2 C_lside (hr.mono (by decide)) gl_law__law_side (ev_v (sl_law_row) (up (x6.g.trans (x21.g.trans x26.g)) r1_row)) (ev_v (sl_law_modulus) (up (x6.g.trans (x21.g.trans x26.g)) r1_modulus)) (by walk_at "pre"))))))) (fun h44 G7 H7 x45 l7 => ?_) (fun h44 G7 H7 x45 l7 => ?_))
    · have tk := tk_tt tk h44
      have h44_ := h44; try simp only [Bool.and_eq_true, Bool.or_eq_true, Bool.and_eq_false_iff, Bool.or_eq_false_iff, Bool.not_eq_true', Bool.not_eq_false', decide_eq_true_eq, decide_eq_false_iff_not, Classical.not_not] at h44_
      have x0_7 := x0_5.trans x45
      show tSs _ _ _ [some v_script, some v1_row, some v1_modulus, some v2_table, some v4_hits, none, none, none, none, none, none, none] _
      refine b_cons (s_ret x0_7.s ev_bl fun G_ H_ v47 x46 _ r_ => ?_)
      exact fin.rt _ _ _ (x0_7.trans x46) (rep_of tk r_) (fun z => nomatch z)
    · have tk := tk_ff tk h44
      have h44_ := h44; try simp only [Bool.and_eq_true, Bool.or_eq_true, Bool.and_eq_false_iff, Bool.or_eq_false_iff, Bool.not_eq_true', Bool.not_eq_false', decide_eq_true_eq, decide_eq_false_iff_not, Classical.not_not] at h44_
      have x0_7 := x0_5.trans x45
      show tSs _ _ _ [some v_script, some v1_row, some v1_modulus, some v2_table, some v4_hits, none, none, none, none, none, none, none] _
      refine b_nil ?_
      show tSs _ _ _ [some v_script, some v1_row, some v1_modulus, some v2_table, some v4_hits, none, none, none, none, none, none, none] _
      have fc61 := cut_le (((rng (1 : Int) (((row).length : Int) + (1 : Int))).filter (fun (many : Int) => (decide (((hits).getD ((many - (1 : Int))).toNat (0 : Int)) > (0 : Int))))).map (fun (many : Int) => many)) none (some (1 : Int))
      refine b_cons (s_set sc_law.nd ss_law_fewest x0_7.s (ev_sl (ev_lc (lc1 (fun (many : Int) => many) (fun (many : Int) => (decide (((hits).getD ((many - (1 : Int))).toNat (0 : Int)) > (0 : Int)))) rfl sc_law.nd (ei_range2 ⟨gl_law_range, T.b_range⟩ ev_int (ev_bin b_add (ev_len ⟨gl_law_len, T.b_len⟩ (ev_v (sl_law_row) (up (x6.g.trans (x21.g.trans (x26.g.trans x45.g))) r1_row))) ev_int) ⟨⟨(by walk_at "sc"), (by walk_at "sc")⟩, (by walk_at "sc"), (by walk_at "sc"), (by walk_at "sc")⟩) [("many", 5)] (blkOk_by (N := N_law) (sc := defScope s_law) (by decide +kernel)) (fun _ _ _ _ _ => pg_name (i := 5) sc_law.nd rfl (.inl rfl)) (fun many v59 G49 H50 hx51 x48 r60 s53 s54 s55 s56 s57 => (ets_one (et_cmp c_gt (ev_ix (0 : Int) (ev_v ((⟨rfl, (by first | exact .inr (.inl rfl) | exact .inr (.inr rfl) | exact .inl rfl), nm_hits⟩ : Sl _ 4 _)) (up (x26.g.trans (x45.g.trans x48.g)) r4_hits)) (ev_bin b_sub (ev_v ((⟨rfl, .inl rfl, nm_many⟩ : Sl _ 5 _)) r60) ev_int) (by walk_at "sc") (by walk_at "ix")) ev_int))) (fun many v59 G49 H50 hx51 ht52 x48 r60 s53 s54 s55 s56 s57 => (ev_v ((⟨rfl, .inl rfl, nm_many⟩ : Sl _ 5 _)) r60)))) eo_none (eo_some ev_int)) fun G9 H9 v9_fewest x62 l9 r9_fewest => ?_)
      have x0_9 := x0_7.trans x62
      show tSs _ _ _ [some v_script, some v1_row, some v1_modulus, some v2_table, some v4_hits, none, none, some v9_fewest, none, none, none, none] _
      obtain ⟨fewest, e63⟩ : ∃ z, z = (cut (((rng (1 : Int) (((row).length : Int) + (1 : Int))).filter (fun (many : Int) => (decide (((hits).getD ((many - (1 : Int))).toNat (0 : Int)) > (0 : Int))))).map (fun (many : Int) => many)) none (some (1 : Int))) := ⟨_, rfl⟩
      rw [← e63] at r9_fewest
      have tk : _ = m_law_5 script row modulus table fewest := tk.trans (by first | (rw [e63] <;> rfl) | rfl)
      have g_e63 := congrArg List.length e63; try simp only [List.length_append, List.length_cons, List.length_nil, rng_len, List.length_map, List.length_reverse, psort_len, isort_len] at g_e63
      have f_e63 : 0 ≤ fewest.getD (0 : Int).toNat 0 := by rw [e63]; exact few0 _ _
      refine b_cons (s_set sc_law.nd ss_law_due x0_9.s (ev_none (α := (List Int))) fun G10 H10 v10_due x64 l10 r10_due => ?_)
      have x0_10 := x0_9.trans x64
      show tSs _ _ _ [some v_script, some v1_row, some v1_modulus, some v2_table, some v4_hits, none, none, some v9_fewest, some v10_due, none, none, none] _
      obtain ⟨due, e65⟩ : ∃ z, z = (none : (Option (List Int))) := ⟨_, rfl⟩
      rw [← e65] at r10_due
      have tk : _ = m_law_6 script row modulus table fewest due := tk.trans (by first | (rw [e65] <;> rfl) | rfl)
      refine b_cons (s_if x0_10.s (et_cmp (c_neD (hu_of64 hr)) (ev_v (sl_law_fewest) (up x64.g r9_fewest)) (ev_list (es_nil (α := Int)))) (fun h66 G11 H11 x67 l11 => ?_) (fun h66 G11 H11 x67 l11 => ?_))
      · have tk := tk_tt tk h66
        have h66_ := h66; try simp only [Bool.and_eq_true, Bool.or_eq_true, Bool.and_eq_false_iff, Bool.or_eq_false_iff, Bool.not_eq_true', Bool.not_eq_false', decide_eq_true_eq, decide_eq_false_iff_not, Classical.not_not] at h66_
        have x0_11 := x0_10.trans x67
        show tSs _ _ _ [some v_script, some v1_row, some v1_modulus, some v2_table, some v4_hits, none, none, some v9_fewest, some v10_due, none, none, none] _
        refine b_cons (s_set sc_law.nd ss_law_due x0_11.s (ev_c3 C_lfst (hr.mono (by decide)) gl_law__law_first (ev_v (sl_law_row) (up (x6.g.trans (x21.g.trans (x26.g.trans (x45.g.trans (x62.g.trans (x64.g.trans x67.g)))))) r1_row)) (ev_v (sl_law_modulus) (up (x6.g.trans (x21.g.trans (x26.g.trans (x45.g.trans (x62.g.trans (x64.g.trans x67.g)))))) r1_modulus)) (ev_ix (0 : Int) (ev_v (sl_law_fewest) (up (x64.g.trans x67.g) r9_fewest)) ev_int (by walk_at "sc") (by walk_at "ix")) (by walk_at "pre")) fun G12 H12 v12_due x68 l12 r12_due => ?_)
        have x0_12 := x0_11.trans x68
        show tSs _ _ _ [some v_script, some v1_row, some v1_modulus, some v2_table, some v4_hits, none, none, some v9_fewest, some v12_due, none, none, none] _
        obtain ⟨due, e69⟩ : ∃ z, z = (m_lfst row modulus ((fewest).getD ((0 : Int)).toNat (0 : Int))) := ⟨_, rfl⟩
        rw [← e69] at r12_due
        have tk : _ = m_law_7 script row modulus table due := tk.trans (by first | (rw [e69] <;> rfl) | rfl)
        refine b_nil ?_
        show tSs _ _ _ [some v_script, some v1_row, some v1_modulus, some v2_table, some v4_hits, none, none, some v9_fewest, some v12_due, none, none, none] _
        have fc70 := post_fewest_hit row modulus (by walk_at "pre")
        refine b_cons (s_if x0_12.s (et_cmp (c_neD (hu_of64 hr)) (ev_c2 C_fewest_hit (hr.mono (by decide)) gl_law_fewest_hit (ev_copy ⟨gl_law_list, T.b_list⟩ (ev_v (sl_law_row) (up (x6.g.trans (x21.g.trans (x26.g.trans (x45.g.trans (x62.g.trans (x64.g.trans (x67.g.trans x68.g))))))) r1_row))) (ev_v (sl_law_modulus) (up (x6.g.trans (x21.g.trans (x26.g.trans (x45.g.trans (x62.g.trans (x64.g.trans (x67.g.trans x68.g))))))) r1_modulus)) (by walk_at "pre")) (ev_v (sl_law_due) r12_due)) (fun h71 G13 H13 x72 l13 => ?_) (fun h71 G13 H13 x72 l13 => ?_))
        · have tk := tk_tt tk h71
          have h71_ := h71; try simp only [Bool.and_eq_true, Bool.or_eq_true, Bool.and_eq_false_iff, Bool.or_eq_false_iff, Bool.not_eq_true', Bool.not_eq_false', decide_eq_true_eq, decide_eq_false_iff_not, Classical.not_not] at h71_
          have x0_13 := x0_12.trans x72
          show tSs _ _ _ [some v_script, some v1_row, some v1_modulus, some v2_table, some v4_hits, none, none, some v9_fewest, some v12_due, none, none, none] _
          refine b_cons (s_ret x0_13.s ev_bl fun G_ H_ v74 x73 _ r_ => ?_)
          exact fin.rt _ _ _ (x0_13.trans x73) (rep_of tk r_) (fun z => nomatch z)
        · have tk := tk_ff tk h71
          have h71_ := h71; try simp only [Bool.and_eq_true, Bool.or_eq_true, Bool.and_eq_false_iff, Bool.or_eq_false_iff, Bool.not_eq_true', Bool.not_eq_false', decide_eq_true_eq, decide_eq_false_iff_not, Classical.not_not] at h71_
          have x0_13 := x0_12.trans x72
          show tSs _ _ _ [some v_script, some v1_row, some v1_modulus, some v2_table, some v4_hits, none, none, some v9_fewest, some v12_due, none, none, none] _
          refine b_nil ?_
          show tSs _ _ _ [some v_script, some v1_row, some v1_modulus, some v2_table, some v4_hits, none, none, some v9_fewest, some v12_due, none, none, none] _
          refine b_cons (s_if x0_13.s (et_w (ew_and (et_cmp c_notN (ev_v (sl_law_due) (up x72.g r12_due)) ev_unit) fun c75 => (ew_and1 (et_cmp c_isnB (ev_c3 C_is_hit (hr.mono (by decide)) gl_law_is_hit (ev_copy ⟨gl_law_list, T.b_list⟩ (ev_v (sl_law_row) (up (x6.g.trans (x21.g.trans (x26.g.trans (x45.g.trans (x62.g.trans (x64.g.trans (x67.g.trans (x68.g.trans x72.g)))))))) r1_row))) (ev_v (sl_law_modulus) (up (x6.g.trans (x21.g.trans (x26.g.trans (x45.g.trans (x62.g.trans (x64.g.trans (x67.g.trans (x68.g.trans x72.g)))))))) r1_modulus)) (ev_copy ⟨gl_law_list, T.b_list⟩ (ev_v (sl_law_due) (up x72.g (rep_get (x := due) [] (by walk_at "nn") r12_due)))) (by walk_at "pre")) ev_bl)))) (fun h76 G14 H14 x77 l14 => ?_) (fun h76 G14 H14 x77 l14 => ?_))
          · have tk := tk_tt tk h76
            have h76_ := h76; try simp only [Bool.and_eq_true, Bool.or_eq_true, Bool.and_eq_false_iff, Bool.or_eq_false_iff, Bool.not_eq_true', Bool.not_eq_false', decide_eq_true_eq, decide_eq_false_iff_not, Classical.not_not] at h76_
            have x0_14 := x0_13.trans x77
            show tSs _ _ _ [some v_script, some v1_row, some v1_modulus, some v2_table, some v4_hits, none, none, some v9_fewest, some v12_due, none, none, none] _
            have rn78 := (rep_get (x := due) [] (by walk_at "nn") r12_due)
            refine b_cons (s_ret x0_14.s ev_bl fun G_ H_ v80 x79 _ r_ => ?_)
            exact fin.rt _ _ _ (x0_14.trans x79) (rep_of tk r_) (fun z => nomatch z)
          · have tk := tk_ff tk h76
            have h76_ := h76; try simp only [Bool.and_eq_true, Bool.or_eq_true, Bool.and_eq_false_iff, Bool.or_eq_false_iff, Bool.not_eq_true', Bool.not_eq_false', decide_eq_true_eq, decide_eq_false_iff_not, Classical.not_not] at h76_
            have x0_14 := x0_13.trans x77
            show tSs _ _ _ [some v_script, some v1_row, some v1_modulus, some v2_table, some v4_hits, none, none, some v9_fewest, some v12_due, none, none, none] _
            refine b_nil ?_
            show tSs _ _ _ [some v_script, some v1_row, some v1_modulus, some v2_table, some v4_hits, none, none, some v9_fewest, some v12_due, none, none, none] _
            refine b_cons (s_for (T := (T1 K 9)) (passes_of rfl) rfl (pg_name (i := 9) sc_law.nd rfl ss_law_k.hx) acts1 x0_14.s (ei_range1 ⟨gl_law_range, T.b_range⟩ ev_int (by walk_at "sc") (by walk_at "sc")) (fun rest σ G H => lrun (m_law_8s script row modulus table) rest () = lrun (m_law_8s script row modulus table) (rng 0 (3 : Int)) () ∧ Ext G0 H0 G H ∧ ∃ (y1_5 y1_8 y1_9 y1_10 : Option V), σ = [some v_script, some v1_row, some v1_modulus, some v2_table, some v4_hits, y1_5, none, some v9_fewest, y1_8, y1_9, y1_10, none]) (fun _ _ x => ⟨rfl, x0_14.trans x, none, some v12_due, none, none, rfl⟩) ?_ ?_)
            · intro k rest σ1 G15 H15 G16 H16 σ2 hx1 sgA16 sh1 I_ x81 l16 hT
              obtain ⟨es1, x0_15, y1_5, y1_8, y1_9, y1_10, rfl⟩ := I_
              have x0_16 := x0_15.trans x81
              obtain ⟨t1, rt1, rfl⟩ := hT
              have mem1 := mem_of hx1.1
              have hlx1 := hx1.2; rw [sizeLine_eq] at hlx1
              have hlr1 := mem_len hx1.1
              have tk1 := tk
              have mem1_ := mem_rng.mp mem1
              have tk : m_law_8s script row modulus table k () = _ := rfl
              show tSs _ _ _ [some v_script, some v1_row, some v1_modulus, some v2_table, some v4_hits, y1_5, none, some v9_fewest, y1_8, some t1, y1_10, none] _
              have fc82 := post_numbers ((m_q_cell_at script ((11 : Int) + k)) + ((3 : Int) * k)) (2 : Int) (by walk_at "pre")
              refine b_cons (s_set sc_law.nd ss_law_numbers x0_16.s (ev_c2 C_numbers (hr.mono (by decide)) gl_law__law_numbers (ev_bin b_add (ev_c2 C_q_cell_at (hr.mono (by decide)) gl_law__law_cell_at (ev_v (sl_law_script) (up (x2.g.trans (x6.g.trans (x21.g.trans (x26.g.trans (x45.g.trans (x62.g.trans (x64.g.trans (x67.g.trans (x68.g.trans (x72.g.trans (x77.g.trans (sgA16.trans x81.g)))))))))))) r_script)) (ev_bin b_add ev_int (ev_v (sl_law_k) rt1)) (by walk_at "pre")) (ev_bin (b_mul (by walk_at "mu")) ev_int (ev_v (sl_law_k) rt1))) ev_int (by walk_at "pre")) fun G17 H17 v17_numbers x83 l17 r17_numbers => ?_)
              have x0_17 := x0_16.trans x83
              show tSs _ _ _ [some v_script, some v1_row, some v1_modulus, some v2_table, some v4_hits, y1_5, none, some v9_fewest, y1_8, some t1, some v17_numbers, none] _
              obtain ⟨numbers, e84⟩ : ∃ z, z = (m_numbers ((m_q_cell_at script ((11 : Int) + k)) + ((3 : Int) * k)) (2 : Int)) := ⟨_, rfl⟩
              rw [← e84] at r17_numbers
              have tk : _ = m_law_10 row modulus table numbers := tk.trans (by first | (rw [e84] <;> rfl) | rfl)
              have p_e84 := post_numbers ((m_q_cell_at script ((11 : Int) + k)) + ((3 : Int) * k)) (2 : Int) (by walk_at "pre"); rw [← e84] at p_e84; (try simp only [rep_len, rep_len2] at p_e84)
              have g_e84 := congrArg List.length e84; try simp only [List.length_append, List.length_cons, List.length_nil, rng_len, List.length_map, List.length_reverse, psort_len, isort_len] at g_e84
              refine b_cons (s_set sc_law.nd ss_law_many x0_17.s (ev_bin b_add ev_int (ev_bin (b_mod (by walk_at "sc")) (ev_ix (0 : Int) (ev_v (sl_law_numbers) r17_numbers) ev_int (by walk_at "sc") (by walk_at "ix")) (ev_bin b_add (ev_len ⟨gl_law_len, T.b_len⟩ (ev_v (sl_law_row) (up (x6.g.trans (x21.g.trans (x26.g.trans (x45.g.trans (x62.g.trans (x64.g.trans (x67.g.trans (x68.g.trans (x72.g.trans (x77.g.trans (sgA16.trans (x81.g.trans x83.g)))))))))))) r1_row))) ev_int))) fun G18 H18 v18_many x85 l18 r18_many => ?_)
              have x0_18 := x0_17.trans x85
              show tSs _ _ _ [some v_script, some v1_row, some v1_modulus, some v2_table, some v4_hits, some v18_many, none, some v9_fewest, y1_8, some t1, some v17_numbers, none] _
              obtain ⟨many, e86⟩ : ∃ z, z = ((1 : Int) + (((numbers).getD ((0 : Int)).toNat (0 : Int)) % (((row).length : Int) + (2 : Int)))) := ⟨_, rfl⟩
              rw [← e86] at r18_many
              have tk : _ = m_law_11 row modulus table numbers many := tk.trans (by first | (rw [e86] <;> rfl) | rfl)
              have f_e86 : 1 ≤ many := by rw [e86]; exact many_a _ _
              refine b_cons (s_if x0_18.s (et_cmp (c_neD (hu_of64 hr)) (ev_c3 C_hit_of (hr.mono (by decide)) gl_law_hit_of (ev_copy ⟨gl_law_list, T.b_list⟩ (ev_v (sl_law_row) (up (x6.g.trans (x21.g.trans (x26.g.trans (x45.g.trans (x62.g.trans (x64.g.trans (x67.g.trans (x68.g.trans (x72.g.trans (x77.g.trans (sgA16.trans (x81.g.trans (x83.g.trans x85.g))))))))))))) r1_row))) (ev_v (sl_law_modulus) (up (x6.g.trans (x21.g.trans (x26.g.trans (x45.g.trans (x62.g.trans (x64.g.trans (x67.g.trans (x68.g.trans (x72.g.trans (x77.g.trans (sgA16.trans (x81.g.trans (x83.g.trans x85.g))))))))))))) r1_modulus)) (ev_v (sl_law_many) r18_many) (by walk_at "pre")) (ev_c3 C_lfst (hr.mono (by decide)) gl_law__law_first (ev_v (sl_law_row) (up (x6.g.trans (x21.g.trans (x26.g.trans (x45.g.trans (x62.g.trans (x64.g.trans (x67.g.trans (x68.g.trans (x72.g.trans (x77.g.trans (sgA16.trans (x81.g.trans (x83.g.trans x85.g))))))))))))) r1_row)) (ev_v (sl_law_modulus) (up (x6.g.trans (x21.g.trans (x26.g.trans (x45.g.trans (x62.g.trans (x64.g.trans (x67.g.trans (x68.g.trans (x72.g.trans (x77.g.trans (sgA16.trans (x81.g.trans (x83.g.trans x85.g))))))))))))) r1_modulus)) (ev_v (sl_law_many) r18_many) (by walk_at "pre"))) (fun h87 G19 H19 x88 l19 => ?_) (fun h87 G19 H19 x88 l19 => ?_))
              · have tk := tk_tt tk h87
                have h87_ := h87; try simp only [Bool.and_eq_true, Bool.or_eq_true, Bool.and_eq_false_iff, Bool.or_eq_false_iff, Bool.not_eq_true', Bool.not_eq_false', decide_eq_true_eq, decide_eq_false_iff_not, Classical.not_not] at h87_
                have x0_19 := x0_18.trans x88
                show tSs _ _ _ [some v_script, some v1_row, some v1_modulus, some v2_table, some v4_hits, some v18_many, none, some v9_fewest, y1_8, some t1, some v17_numbers, none] _
                refine b_cons (s_ret x0_19.s ev_bl fun G_ H_ v90 x89 _ r_ => ?_)
                exact fin.rt _ _ _ (x0_19.trans x89) (rep_of (tk_outR tk1 (lrun_ret es1 tk)) r_) (fun z => nomatch z)
              · have tk := tk_ff tk h87
                have h87_ := h87; try simp only [Bool.and_eq_true, Bool.or_eq_true, Bool.and_eq_false_iff, Bool.or_eq_false_iff, Bool.not_eq_true', Bool.not_eq_false', decide_eq_true_eq, decide_eq_false_iff_not, Classical.not_not] at h87_
                have x0_19 := x0_18.trans x88
                show tSs _ _ _ [some v_script, some v1_row, some v1_modulus, some v2_table, some v4_hits, some v18_many, none, some v9_fewest, y1_8, some t1, some v17_numbers, none] _
                refine b_nil ?_
                show tSs _ _ _ [some v_script, some v1_row, some v1_modulus, some v2_table, some v4_hits, some v18_many, none, some v9_fewest, y1_8, some t1, some v17_numbers, none] _
                refine b_cons (s_set sc_law.nd ss_law_many x0_19.s (ev_bin (b_mod (by walk_at "sc")) (ev_ix (0 : Int) (ev_v (sl_law_numbers) (up (x85.g.trans x88.g) r17_numbers)) ev_int (by walk_at "sc") (by walk_at "ix")) (ev_bin b_add (ev_len ⟨gl_law_len, T.b_len⟩ (ev_v (sl_law_row) (up (x6.g.trans (x21.g.trans (x26.g.trans (x45.g.trans (x62.g.trans (x64.g.trans (x67.g.trans (x68.g.trans (x72.g.trans (x77.g.trans (sgA16.trans (x81.g.trans (x83.g.trans (x85.g.trans x88.g)))))))))))))) r1_row))) ev_int)) fun G20 H20 v20_many x91 l20 r20_many => ?_)
                have x0_20 := x0_19.trans x91
                show tSs _ _ _ [some v_script, some v1_row, some v1_modulus, some v2_table, some v4_hits, some v20_many, none, some v9_fewest, y1_8, some t1, some v17_numbers, none] _
                obtain ⟨many, e92⟩ : ∃ z, z = (((numbers).getD ((1 : Int)).toNat (0 : Int)) % (((row).length : Int) + (2 : Int))) := ⟨_, rfl⟩
                rw [← e92] at r20_many
                have tk : _ = m_law_12 row modulus table many := tk.trans (by first | (rw [e92] <;> rfl) | rfl)
                have f_e92 : 0 ≤ many := by rw [e92]; exact many_b _ _
                refine b_cons (s_set sc_law.nd ss_law_due x0_20.s (ev_some (ev_list (es_nil (α := Int)))) fun G21 H21 v21_due x93 l21 r21_due => ?_)
                have x0_21 := x0_20.trans x93
                show tSs _ _ _ [some v_script, some v1_row, some v1_modulus, some v2_table, some v4_hits, some v20_many, none, some v9_fewest, some v21_due, some t1, some v17_numbers, none] _
                refine b_cons (s_if x0_21.s (et_cmp c_le (ev_v (sl_law_many) (up x93.g r20_many)) (ev_len ⟨gl_law_len, T.b_len⟩ (ev_v (sl_law_row) (up (x6.g.trans (x21.g.trans (x26.g.trans (x45.g.trans (x62.g.trans (x64.g.trans (x67.g.trans (x68.g.trans (x72.g.trans (x77.g.trans (sgA16.trans (x81.g.trans (x83.g.trans (x85.g.trans (x88.g.trans (x91.g.trans x93.g)))))))))))))))) r1_row)))) (fun h94 G22 H22 x95 l22 => ?_) (fun h94 G22 H22 x95 l22 => ?_))
                · have tk := tk_tt tk h94
                  have h94_ := h94; try simp only [Bool.and_eq_true, Bool.or_eq_true, Bool.and_eq_false_iff, Bool.or_eq_false_iff, Bool.not_eq_true', Bool.not_eq_false', decide_eq_true_eq, decide_eq_false_iff_not, Classical.not_not] at h94_
                  have x0_22 := x0_21.trans x95
                  show tSs _ _ _ [some v_script, some v1_row, some v1_modulus, some v2_table, some v4_hits, some v20_many, none, some v9_fewest, some v21_due, some t1, some v17_numbers, none] _
                  refine b_cons (s_setLc sc_law.nd ss_law_due x0_22.s ((lc1 (fun (rest_ : Int) => rest_) (fun (rest_ : Int) => (decide (((((table).getD (many).toNat [])).getD (rest_).toNat (0 : Int)) > (0 : Int)))) rfl sc_law.nd (ei_range1 ⟨gl_law_range, T.b_range⟩ (ev_v (sl_law_modulus) (up (x6.g.trans (x21.g.trans (x26.g.trans (x45.g.trans (x62.g.trans (x64.g.trans (x67.g.trans (x68.g.trans (x72.g.trans (x77.g.trans (sgA16.trans (x81.g.trans (x83.g.trans (x85.g.trans (x88.g.trans (x91.g.trans (x93.g.trans x95.g))))))))))))))))) r1_modulus)) (by walk_at "sc") (by walk_at "sc")) [("rest", 11)] (blkOk_by (N := N_law) (sc := defScope s_law) (by decide +kernel)) (fun _ _ _ _ _ => pg_name (i := 11) sc_law.nd rfl (.inl rfl)) (fun rest_ v107 G97 H98 hx99 x96 r108 s101 s102 s103 s104 s105 => (ets_one (et_cmp c_gt (ev_ix (0 : Int) (ev_ix [] (ev_v ((⟨rfl, (by first | exact .inr (.inl rfl) | exact .inr (.inr rfl) | exact .inl rfl), nm_table⟩ : Sl _ 3 _)) (up (x21.g.trans (x26.g.trans (x45.g.trans (x62.g.trans (x64.g.trans (x67.g.trans (x68.g.trans (x72.g.trans (x77.g.trans (sgA16.trans (x81.g.trans (x83.g.trans (x85.g.trans (x88.g.trans (x91.g.trans (x93.g.trans (x95.g.trans x96.g))))))))))))))))) r2_table)) (ev_v ((⟨rfl, (by first | exact .inr (.inl rfl) | exact .inr (.inr rfl) | exact .inl rfl), nm_many⟩ : Sl _ 5 _)) (up (x93.g.trans (x95.g.trans x96.g)) r20_many)) (by walk_at "sc") (by walk_at "ix")) (ev_v ((⟨rfl, .inl rfl, nm_rest_⟩ : Sl _ 11 _)) r108) (by walk_at "sc") (by walk_at "ix")) ev_int))) (fun rest_ v107 G97 H98 hx99 ht100 x96 r108 s101 s102 s103 s104 s105 => (ev_v ((⟨rfl, .inl rfl, nm_rest_⟩ : Sl _ 11 _)) r108)))) fun G24 H24 v24_due x109 l24 r24_due_ n24 => ?_)
                  have r24_due : rep K G24 v24_due (some (((rng 0 modulus).filter (fun (rest_ : Int) => (decide (((((table).getD (many).toNat [])).getD (rest_).toNat (0 : Int)) > (0 : Int))))).map (fun (rest_ : Int) => rest_))) := r24_due_
                  have x0_24 := x0_22.trans x109
                  show tSs _ _ _ [some v_script, some v1_row, some v1_modulus, some v2_table, some v4_hits, some v20_many, none, some v9_fewest, some v24_due, some t1, some v17_numbers, none] _
                  obtain ⟨due, e110⟩ : ∃ z, z = (some (((rng 0 modulus).filter (fun (rest_ : Int) => (decide (((((table).getD (many).toNat [])).getD (rest_).toNat (0 : Int)) > (0 : Int))))).map (fun (rest_ : Int) => rest_))) := ⟨_, rfl⟩
                  rw [← e110] at r24_due
                  have tk : _ = m_law_13 row modulus due many := tk.trans (by first | (rw [e110] <;> rfl) | rfl)
                  refine b_nil ?_
                  show tSs _ _ _ [some v_script, some v1_row, some v1_modulus, some v2_table, some v4_hits, some v20_many, none, some v9_fewest, some v24_due, some t1, some v17_numbers, none] _
                  have fc111 := post_come_to row modulus many (by walk_at "pre")
                  refine b_cons (s_if x0_24.s (et_cmp (c_neD (hu_of64 hr)) (ev_some (ev_c3 C_come_to (hr.mono (by decide)) gl_law_come_to (ev_copy ⟨gl_law_list, T.b_list⟩ (ev_v (sl_law_row) (up (x6.g.trans (x21.g.trans (x26.g.trans (x45.g.trans (x62.g.trans (x64.g.trans (x67.g.trans (x68.g.trans (x72.g.trans (x77.g.trans (sgA16.trans (x81.g.trans (x83.g.trans (x85.g.trans (x88.g.trans (x91.g.trans (x93.g.trans (x95.g.trans x109.g)))))))))))))))))) r1_row))) (ev_v (sl_law_modulus) (up (x6.g.trans (x21.g.trans (x26.g.trans (x45.g.trans (x62.g.trans (x64.g.trans (x67.g.trans (x68.g.trans (x72.g.trans (x77.g.trans (sgA16.trans (x81.g.trans (x83.g.trans (x85.g.trans (x88.g.trans (x91.g.trans (x93.g.trans (x95.g.trans x109.g)))))))))))))))))) r1_modulus)) (ev_v (sl_law_many) (up (x93.g.trans (x95.g.trans x109.g)) r20_many)) (by walk_at "pre"))) (ev_v (sl_law_due) r24_due)) (fun h112 G25 H25 x113 l25 => ?_) (fun h112 G25 H25 x113 l25 => ?_))
                  · have tk := tk_tt tk h112
                    have h112_ := h112; try simp only [Bool.and_eq_true, Bool.or_eq_true, Bool.and_eq_false_iff, Bool.or_eq_false_iff, Bool.not_eq_true', Bool.not_eq_false', decide_eq_true_eq, decide_eq_false_iff_not, Classical.not_not] at h112_
                    have x0_25 := x0_24.trans x113
                    show tSs _ _ _ [some v_script, some v1_row, some v1_modulus, some v2_table, some v4_hits, some v20_many, none, some v9_fewest, some v24_due, some t1, some v17_numbers, none] _
                    refine b_cons (s_ret x0_25.s ev_bl fun G_ H_ v115 x114 _ r_ => ?_)
                    exact fin.rt _ _ _ (x0_25.trans x114) (rep_of (tk_outR tk1 (lrun_ret es1 tk)) r_) (fun z => nomatch z)
                  · have tk := tk_ff tk h112
                    have h112_ := h112; try simp only [Bool.and_eq_true, Bool.or_eq_true, Bool.and_eq_false_iff, Bool.or_eq_false_iff, Bool.not_eq_true', Bool.not_eq_false', decide_eq_true_eq, decide_eq_false_iff_not, Classical.not_not] at h112_
                    have x0_25 := x0_24.trans x113
                    show tSs _ _ _ [some v_script, some v1_row, some v1_modulus, some v2_table, some v4_hits, some v20_many, none, some v9_fewest, some v24_due, some t1, some v17_numbers, none] _
                    refine b_nil ?_
                    show tSs _ _ _ [some v_script, some v1_row, some v1_modulus, some v2_table, some v4_hits, some v20_many, none, some v9_fewest, some v24_due, some t1, some v17_numbers, none] _
                    refine b_nil ?_
                    exact ⟨_, x83.g.trans (x85.g.trans (x88.g.trans (x91.g.trans (x93.g.trans (x95.g.trans (x109.g.trans x113.g)))))), x0_25.s, lrun_nxt es1 tk, x0_25, some v20_many, some v24_due, some t1, some v17_numbers, rfl⟩
                · have tk := tk_ff tk h94
                  have h94_ := h94; try simp only [Bool.and_eq_true, Bool.or_eq_true, Bool.and_eq_false_iff, Bool.or_eq_false_iff, Bool.not_eq_true', Bool.not_eq_false', decide_eq_true_eq, decide_eq_false_iff_not, Classical.not_not] at h94_
                  have x0_22 := x0_21.trans x95
                  show tSs _ _ _ [some v_script, some v1_row, some v1_modulus, some v2_table, some v4_hits, some v20_many, none, some v9_fewest, some v21_due, some t1, some v17_numbers, none] _
                  refine b_nil ?_
                  show tSs _ _ _ [some v_script, some v1_row, some v1_modulus, some v2_table, some v4_hits, some v20_many, none, some v9_fewest, some v21_due, some t1, some v17_numbers, none] _
                  have fc116 := post_come_to row modulus many (by walk_at "pre")
                  refine b_cons (s_if x0_22.s (et_cmp (c_neD (hu_of64 hr)) (ev_some (ev_c3 C_come_to (hr.mono (by decide)) gl_law_come_to (ev_copy ⟨gl_law_list, T.b_list⟩ (ev_v (sl_law_row) (up (x6.g.trans (x21.g.trans (x26.g.trans (x45.g.trans (x62.g.trans (x64.g.trans (x67.g.trans (x68.g.trans (x72.g.trans (x77.g.trans (sgA16.trans (x81.g.trans (x83.g.trans (x85.g.trans (x88.g.trans (x91.g.trans (x93.g.trans x95.g))))))))))))))))) r1_row))) (ev_v (sl_law_modulus) (up (x6.g.trans (x21.g.trans (x26.g.trans (x45.g.trans (x62.g.trans (x64.g.trans (x67.g.trans (x68.g.trans (x72.g.trans (x77.g.trans (sgA16.trans (x81.g.trans (x83.g.trans (x85.g.trans (x88.g.trans (x91.g.trans (x93.g.trans x95.g))))))))))))))))) r1_modulus)) (ev_v (sl_law_many) (up (x93.g.trans x95.g) r20_many)) (by walk_at "pre"))) (ev_v (sl_law_due) (up x95.g r21_due))) (fun h117 G26 H26 x118 l26 => ?_) (fun h117 G26 H26 x118 l26 => ?_))
                  · have tk := tk_tt tk h117
                    have h117_ := h117; try simp only [Bool.and_eq_true, Bool.or_eq_true, Bool.and_eq_false_iff, Bool.or_eq_false_iff, Bool.not_eq_true', Bool.not_eq_false', decide_eq_true_eq, decide_eq_false_iff_not, Classical.not_not] at h117_
                    have x0_26 := x0_22.trans x118
                    show tSs _ _ _ [some v_script, some v1_row, some v1_modulus, some v2_table, some v4_hits, some v20_many, none, some v9_fewest, some v21_due, some t1, some v17_numbers, none] _
                    refine b_cons (s_ret x0_26.s ev_bl fun G_ H_ v120 x119 _ r_ => ?_)
                    exact fin.rt _ _ _ (x0_26.trans x119) (rep_of (tk_outR tk1 (lrun_ret es1 tk)) r_) (fun z => nomatch z)
                  · have tk := tk_ff tk h117
                    have h117_ := h117; try simp only [Bool.and_eq_true, Bool.or_eq_true, Bool.and_eq_false_iff, Bool.or_eq_false_iff, Bool.not_eq_true', Bool.not_eq_false', decide_eq_true_eq, decide_eq_false_iff_not, Classical.not_not] at h117_
                    have x0_26 := x0_22.trans x118
                    show tSs _ _ _ [some v_script, some v1_row, some v1_modulus, some v2_table, some v4_hits, some v20_many, none, some v9_fewest, some v21_due, some t1, some v17_numbers, none] _
                    refine b_nil ?_
                    show tSs _ _ _ [some v_script, some v1_row, some v1_modulus, some v2_table, some v4_hits, some v20_many, none, some v9_fewest, some v21_due, some t1, some v17_numbers, none] _
                    refine b_nil ?_
                    exact ⟨_, x83.g.trans (x85.g.trans (x88.g.trans (x91.g.trans (x93.g.trans (x95.g.trans x118.g))))), x0_26.s, lrun_nxt es1 tk, x0_26, some v20_many, some v21_due, some t1, some v17_numbers, rfl⟩
            · intro σ1 G27 H27 sgC27 sh1 I_
              obtain ⟨es1, x0_27, y1_5, y1_8, y1_9, y1_10, rfl⟩ := I_
              have tk := tk_outN (k := (m_law_9 script row modulus)) tk es1
              show tSs _ _ _ [some v_script, some v1_row, some v1_modulus, some v2_table, some v4_hits, y1_5, none, some v9_fewest, y1_8, y1_9, y1_10, none] _
              refine b_cons (s_ret x0_27.s (ev_cmp (c_eqD (hu_of64 hr)) (ev_tup (ev_v (sl_law_row) (up (x6.g.trans (x21.g.trans (x26.g.trans (x45.g.trans (x62.g.trans (x64.g.trans (x67.g.trans (x68.g.trans (x72.g.trans (x77.g.trans sgC27)))))))))) r1_row)) (ev_v (sl_law_modulus) (up (x6.g.trans (x21.g.trans (x26.g.trans (x45.g.trans (x62.g.trans (x64.g.trans (x67.g.trans (x68.g.trans (x72.g.trans (x77.g.trans sgC27)))))))))) r1_modulus))) (ev_c3 C_lrow (hr.mono (by decide)) gl_law__law_row (ev_v (sl_law_script) (up (x2.g.trans (x6.g.trans (x21.g.trans (x26.g.trans (x45.g.trans (x62.g.trans (x64.g.trans (x67.g.trans (x68.g.trans (x72.g.trans (x77.g.trans sgC27))))))))))) r_script)) ev_int ev_int (by walk_at "pre"))) fun G_ H_ v122 x121 _ r_ => ?_)
              exact fin.rt _ _ _ (x0_27.trans x121) (rep_of tk r_) (fun z => nomatch z)
      · have tk := tk_ff tk h66
        have h66_ := h66; try simp only [Bool.and_eq_true, Bool.or_eq_true, Bool.and_eq_false_iff, Bool.or_eq_false_iff, Bool.not_eq_true', Bool.not_eq_false', decide_eq_true_eq, decide_eq_false_iff_not, Classical.not_not] at h66_
        have x0_11 := x0_10.trans x67
        show tSs _ _ _ [some v_script, some v1_row, some v1_modulus, some v2_table, some v4_hits, none, none, some v9_fewest, some v10_due, none, none, none] _
        refine b_nil ?_
        show tSs _ _ _ [some v_script, some v1_row, some v1_modulus, some v2_table, some v4_hits, none, none, some v9_fewest, some v10_due, none, none, none] _
        have fc123 := post_fewest_hit row modulus (by walk_at "pre")
        refine b_cons (s_if x0_11.s (et_cmp (c_neD (hu_of64 hr)) (ev_c2 C_fewest_hit (hr.mono (by decide)) gl_law_fewest_hit (ev_copy ⟨gl_law_list, T.b_list⟩ (ev_v (sl_law_row) (up (x6.g.trans (x21.g.trans (x26.g.trans (x45.g.trans (x62.g.trans (x64.g.trans x67.g)))))) r1_row))) (ev_v (sl_law_modulus) (up (x6.g.trans (x21.g.trans (x26.g.trans (x45.g.trans (x62.g.trans (x64.g.trans x67.g)))))) r1_modulus)) (by walk_at "pre")) (ev_v (sl_law_due) (up x67.g r10_due))) (fun h124 G28 H28 x125 l28 => ?_) (fun h124 G28 H28 x125 l28 => ?_))
        · have tk := tk_tt tk h124
          have h124_ := h124; try simp only [Bool.and_eq_true, Bool.or_eq_true, Bool.and_eq_false_iff, Bool.or_eq_false_iff, Bool.not_eq_true', Bool.not_eq_false', decide_eq_true_eq, decide_eq_false_iff_not, Classical.not_not] at h124_
          have x0_28 := x0_11.trans x125
          show tSs _ _ _ [some v_script, some v1_row, some v1_modulus, some v2_table, some v4_hits, none, none, some v9_fewest, some v10_due, none, none, none] _
          refine b_cons (s_ret x0_28.s ev_bl fun G_ H_ v127 x126 _ r_ => ?_)
          exact fin.rt _ _ _ (x0_28.trans x126) (rep_of tk r_) (fun z => nomatch z)
        · have tk := tk_ff tk h124
          have h124_ := h124; try simp only [Bool.and_eq_true, Bool.or_eq_true, Bool.and_eq_false_iff, Bool.or_eq_false_iff, Bool.not_eq_true', Bool.not_eq_false', decide_eq_true_eq, decide_eq_false_iff_not, Classical.not_not] at h124_
          have x0_28 := x0_11.trans x125
          show tSs _ _ _ [some v_script, some v1_row, some v1_modulus, some v2_table, some v4_hits, none, none, some v9_fewest, some v10_due, none, none, none] _
          refine b_nil ?_
          show tSs _ _ _ [some v_script, some v1_row, some v1_modulus, some v2_table, some v4_hits, none, none, some v9_fewest, some v10_due, none, none, none] _
          refine b_cons (s_if x0_28.s (et_w (ew_and (et_cmp c_notN (ev_v (sl_law_due) (up (x67.g.trans x125.g) r10_due)) ev_unit) fun c128 => (ew_and1 (et_cmp c_isnB (ev_c3 C_is_hit (hr.mono (by decide)) gl_law_is_hit (ev_copy ⟨gl_law_list, T.b_list⟩ (ev_v (sl_law_row) (up (x6.g.trans (x21.g.trans (x26.g.trans (x45.g.trans (x62.g.trans (x64.g.trans (x67.g.trans x125.g))))))) r1_row))) (ev_v (sl_law_modulus) (up (x6.g.trans (x21.g.trans (x26.g.trans (x45.g.trans (x62.g.trans (x64.g.trans (x67.g.trans x125.g))))))) r1_modulus)) (ev_copy ⟨gl_law_list, T.b_list⟩ (ev_v (sl_law_due) (up (x67.g.trans x125.g) (rep_get (x := due) [] (by walk_at "nn") r10_due)))) (by walk_at "pre")) ev_bl)))) (fun h129 G29 H29 x130 l29 => ?_) (fun h129 G29 H29 x130 l29 => ?_))
          · have tk := tk_tt tk h129
            have h129_ := h129; try simp only [Bool.and_eq_true, Bool.or_eq_true, Bool.and_eq_false_iff, Bool.or_eq_false_iff, Bool.not_eq_true', Bool.not_eq_false', decide_eq_true_eq, decide_eq_false_iff_not, Classical.not_not] at h129_
            have x0_29 := x0_28.trans x130
            show tSs _ _ _ [some v_script, some v1_row, some v1_modulus, some v2_table, some v4_hits, none, none, some v9_fewest, some v10_due, none, none, none] _
            have rn131 := (rep_get (x := due) [] (by walk_at "nn") r10_due)
            refine b_cons (s_ret x0_29.s ev_bl fun G_ H_ v133 x132 _ r_ => ?_)
            exact fin.rt _ _ _ (x0_29.trans x132) (rep_of tk r_) (fun z => nomatch z)
          · have tk := tk_ff tk h129
            have h129_ := h129; try simp only [Bool.and_eq_true, Bool.or_eq_true, Bool.and_eq_false_iff, Bool.or_eq_false_iff, Bool.not_eq_true', Bool.not_eq_false', decide_eq_true_eq, decide_eq_false_iff_not, Classical.not_not] at h129_
            have x0_29 := x0_28.trans x130
            show tSs _ _ _ [some v_script, some v1_row, some v1_modulus, some v2_table, some v4_hits, none, none, some v9_fewest, some v10_due, none, none, none] _
            refine b_nil ?_
            show tSs _ _ _ [some v_script, some v1_row, some v1_modulus, some v2_table, some v4_hits, none, none, some v9_fewest, some v10_due, none, none, none] _
            refine b_cons (s_for (T := (T1 K 9)) (passes_of rfl) rfl (pg_name (i := 9) sc_law.nd rfl ss_law_k.hx) acts1 x0_29.s (ei_range1 ⟨gl_law_range, T.b_range⟩ ev_int (by walk_at "sc") (by walk_at "sc")) (fun rest σ G H => lrun (m_law_14s script row modulus table) rest () = lrun (m_law_14s script row modulus table) (rng 0 (3 : Int)) () ∧ Ext G0 H0 G H ∧ ∃ (y1_5 y1_8 y1_9 y1_10 : Option V), σ = [some v_script, some v1_row, some v1_modulus, some v2_table, some v4_hits, y1_5, none, some v9_fewest, y1_8, y1_9, y1_10, none]) (fun _ _ x => ⟨rfl, x0_29.trans x, none, some v10_due, none, none, rfl⟩) ?_ ?_)
            · intro k rest σ1 G30 H30 G31 H31 σ2 hx1 sgA31 sh1 I_ x134 l31 hT
              obtain ⟨es1, x0_30, y1_5, y1_8, y1_9, y1_10, rfl⟩ := I_
              have x0_31 := x0_30.trans x134
              obtain ⟨t1, rt1, rfl⟩ := hT
              have mem1 := mem_of hx1.1
              have hlx1 := hx1.2; rw [sizeLine_eq] at hlx1
              have hlr1 := mem_len hx1.1
              have tk1 := tk
              have mem1_ := mem_rng.mp mem1
              have tk : m_law_14s script row modulus table k () = _ := rfl
              show tSs _ _ _ [some v_script, some v1_row, some v1_modulus, some v2_table, some v4_hits, y1_5, none, some v9_fewest, y1_8, some t1, y1_10, none] _
              have fc135 := post_numbers ((m_q_cell_at script ((11 : Int) + k)) + ((3 : Int) * k)) (2 : Int) (by walk_at "pre")
              refine b_cons (s_set sc_law.nd ss_law_numbers x0_31.s (ev_c2 C_numbers (hr.mono (by decide)) gl_law__law_numbers (ev_bin b_add (ev_c2 C_q_cell_at (hr.mono (by decide)) gl_law__law_cell_at (ev_v (sl_law_script) (up (x2.g.trans (x6.g.trans (x21.g.trans (x26.g.trans (x45.g.trans (x62.g.trans (x64.g.trans (x67.g.trans (x125.g.trans (x130.g.trans (sgA31.trans x134.g))))))))))) r_script)) (ev_bin b_add ev_int (ev_v (sl_law_k) rt1)) (by walk_at "pre")) (ev_bin (b_mul (by walk_at "mu")) ev_int (ev_v (sl_law_k) rt1))) ev_int (by walk_at "pre")) fun G32 H32 v32_numbers x136 l32 r32_numbers => ?_)
              have x0_32 := x0_31.trans x136
              show tSs _ _ _ [some v_script, some v1_row, some v1_modulus, some v2_table, some v4_hits, y1_5, none, some v9_fewest, y1_8, some t1, some v32_numbers, none] _
              obtain ⟨numbers, e137⟩ : ∃ z, z = (m_numbers ((m_q_cell_at script ((11 : Int) + k)) + ((3 : Int) * k)) (2 : Int)) := ⟨_, rfl⟩
              rw [← e137] at r32_numbers
              have tk : _ = m_law_16 row modulus table numbers := tk.trans (by first | (rw [e137] <;> rfl) | rfl)
              have p_e137 := post_numbers ((m_q_cell_at script ((11 : Int) + k)) + ((3 : Int) * k)) (2 : Int) (by walk_at "pre"); rw [← e137] at p_e137; (try simp only [rep_len, rep_len2] at p_e137)
              have g_e137 := congrArg List.length e137; try simp only [List.length_append, List.length_cons, List.length_nil, rng_len, List.length_map, List.length_reverse, psort_len, isort_len] at g_e137
              refine b_cons (s_set sc_law.nd ss_law_many x0_32.s (ev_bin b_add ev_int (ev_bin (b_mod (by walk_at "sc")) (ev_ix (0 : Int) (ev_v (sl_law_numbers) r32_numbers) ev_int (by walk_at "sc") (by walk_at "ix")) (ev_bin b_add (ev_len ⟨gl_law_len, T.b_len⟩ (ev_v (sl_law_row) (up (x6.g.trans (x21.g.trans (x26.g.trans (x45.g.trans (x62.g.trans (x64.g.trans (x67.g.trans (x125.g.trans (x130.g.trans (sgA31.trans (x134.g.trans x136.g))))))))))) r1_row))) ev_int))) fun G33 H33 v33_many x138 l33 r33_many => ?_)
              have x0_33 := x0_32.trans x138
              show tSs _ _ _ [some v_script, some v1_row, some v1_modulus, some v2_table, some v4_hits, some v33_many, none, some v9_fewest, y1_8, some t1, some v32_numbers, none] _
              obtain ⟨many, e139⟩ : ∃ z, z = ((1 : Int) + (((numbers).getD ((0 : Int)).toNat (0 : Int)) % (((row).length : Int) + (2 : Int)))) := ⟨_, rfl⟩
              rw [← e139] at r33_many
              have tk : _ = m_law_17 row modulus table numbers many := tk.trans (by first | (rw [e139] <;> rfl) | rfl)
              have f_e139 : 1 ≤ many := by rw [e139]; exact many_a _ _
              refine b_cons (s_if x0_33.s (et_cmp (c_neD (hu_of64 hr)) (ev_c3 C_hit_of (hr.mono (by decide)) gl_law_hit_of (ev_copy ⟨gl_law_list, T.b_list⟩ (ev_v (sl_law_row) (up (x6.g.trans (x21.g.trans (x26.g.trans (x45.g.trans (x62.g.trans (x64.g.trans (x67.g.trans (x125.g.trans (x130.g.trans (sgA31.trans (x134.g.trans (x136.g.trans x138.g)))))))))))) r1_row))) (ev_v (sl_law_modulus) (up (x6.g.trans (x21.g.trans (x26.g.trans (x45.g.trans (x62.g.trans (x64.g.trans (x67.g.trans (x125.g.trans (x130.g.trans (sgA31.trans (x134.g.trans (x136.g.trans x138.g)))))))))))) r1_modulus)) (ev_v (sl_law_many) r33_many) (by walk_at "pre")) (ev_c3 C_lfst (hr.mono (by decide)) gl_law__law_first (ev_v (sl_law_row) (up (x6.g.trans (x21.g.trans (x26.g.trans (x45.g.trans (x62.g.trans (x64.g.trans (x67.g.trans (x125.g.trans (x130.g.trans (sgA31.trans (x134.g.trans (x136.g.trans x138.g)))))))))))) r1_row)) (ev_v (sl_law_modulus) (up (x6.g.trans (x21.g.trans (x26.g.trans (x45.g.trans (x62.g.trans (x64.g.trans (x67.g.trans (x125.g.trans (x130.g.trans (sgA31.trans (x134.g.trans (x136.g.trans x138.g)))))))))))) r1_modulus)) (ev_v (sl_law_many) r33_many) (by walk_at "pre"))) (fun h140 G34 H34 x141 l34 => ?_) (fun h140 G34 H34 x141 l34 => ?_))
              · have tk := tk_tt tk h140
                have h140_ := h140; try simp only [Bool.and_eq_true, Bool.or_eq_true, Bool.and_eq_false_iff, Bool.or_eq_false_iff, Bool.not_eq_true', Bool.not_eq_false', decide_eq_true_eq, decide_eq_false_iff_not, Classical.not_not] at h140_
                have x0_34 := x0_33.trans x141
                show tSs _ _ _ [some v_script, some v1_row, some v1_modulus, some v2_table, some v4_hits, some v33_many, none, some v9_fewest, y1_8, some t1, some v32_numbers, none] _
                refine b_cons (s_ret x0_34.s ev_bl fun G_ H_ v143 x142 _ r_ => ?_)
                exact fin.rt _ _ _ (x0_34.trans x142) (rep_of (tk_outR tk1 (lrun_ret es1 tk)) r_) (fun z => nomatch z)
              · have tk := tk_ff tk h140
                have h140_ := h140; try simp only [Bool.and_eq_true, Bool.or_eq_true, Bool.and_eq_false_iff, Bool.or_eq_false_iff, Bool.not_eq_true', Bool.not_eq_false', decide_eq_true_eq, decide_eq_false_iff_not, Classical.not_not] at h140_
                have x0_34 := x0_33.trans x141
                show tSs _ _ _ [some v_script, some v1_row, some v1_modulus, some v2_table, some v4_hits, some v33_many, none, some v9_fewest, y1_8, some t1, some v32_numbers, none] _
                refine b_nil ?_
                show tSs _ _ _ [some v_script, some v1_row, some v1_modulus, some v2_table, some v4_hits, some v33_many, none, some v9_fewest, y1_8, some t1, some v32_numbers, none] _
                refine b_cons (s_set sc_law.nd ss_law_many x0_34.s (ev_bin (b_mod (by walk_at "sc")) (ev_ix (0 : Int) (ev_v (sl_law_numbers) (up (x138.g.trans x141.g) r32_numbers)) ev_int (by walk_at "sc") (by walk_at "ix")) (ev_bin b_add (ev_len ⟨gl_law_len, T.b_len⟩ (ev_v (sl_law_row) (up (x6.g.trans (x21.g.trans (x26.g.trans (x45.g.trans (x62.g.trans (x64.g.trans (x67.g.trans (x125.g.trans (x130.g.trans (sgA31.trans (x134.g.trans (x136.g.trans (x138.g.trans x141.g))))))))))))) r1_row))) ev_int)) fun G35 H35 v35_many x144 l35 r35_many => ?_)
                have x0_35 := x0_34.trans x144
                show tSs _ _ _ [some v_script, some v1_row, some v1_modulus, some v2_table, some v4_hits, some v35_many, none, some v9_fewest, y1_8, some t1, some v32_numbers, none] _
                obtain ⟨many, e145⟩ : ∃ z, z = (((numbers).getD ((1 : Int)).toNat (0 : Int)) % (((row).length : Int) + (2 : Int))) := ⟨_, rfl⟩
                rw [← e145] at r35_many
                have tk : _ = m_law_18 row modulus table many := tk.trans (by first | (rw [e145] <;> rfl) | rfl)
                have f_e145 : 0 ≤ many := by rw [e145]; exact many_b _ _
                refine b_cons (s_set sc_law.nd ss_law_due x0_35.s (ev_some (ev_list (es_nil (α := Int)))) fun G36 H36 v36_due x146 l36 r36_due => ?_)
                have x0_36 := x0_35.trans x146
                show tSs _ _ _ [some v_script, some v1_row, some v1_modulus, some v2_table, some v4_hits, some v35_many, none, some v9_fewest, some v36_due, some t1, some v32_numbers, none] _
                refine b_cons (s_if x0_36.s (et_cmp c_le (ev_v (sl_law_many) (up x146.g r35_many)) (ev_len ⟨gl_law_len, T.b_len⟩ (ev_v (sl_law_row) (up (x6.g.trans (x21.g.trans (x26.g.trans (x45.g.trans (x62.g.trans (x64.g.trans (x67.g.trans (x125.g.trans (x130.g.trans (sgA31.trans (x134.g.trans (x136.g.trans (x138.g.trans (x141.g.trans (x144.g.trans x146.g))))))))))))))) r1_row)))) (fun h147 G37 H37 x148 l37 => ?_) (fun h147 G37 H37 x148 l37 => ?_))
                · have tk := tk_tt tk h147
                  have h147_ := h147; try simp only [Bool.and_eq_true, Bool.or_eq_true, Bool.and_eq_false_iff, Bool.or_eq_false_iff, Bool.not_eq_true', Bool.not_eq_false', decide_eq_true_eq, decide_eq_false_iff_not, Classical.not_not] at h147_
                  have x0_37 := x0_36.trans x148
                  show tSs _ _ _ [some v_script, some v1_row, some v1_modulus, some v2_table, some v4_hits, some v35_many, none, some v9_fewest, some v36_due, some t1, some v32_numbers, none] _
                  refine b_cons (s_setLc sc_law.nd ss_law_due x0_37.s ((lc1 (fun (rest_ : Int) => rest_) (fun (rest_ : Int) => (decide (((((table).getD (many).toNat [])).getD (rest_).toNat (0 : Int)) > (0 : Int)))) rfl sc_law.nd (ei_range1 ⟨gl_law_range, T.b_range⟩ (ev_v (sl_law_modulus) (up (x6.g.trans (x21.g.trans (x26.g.trans (x45.g.trans (x62.g.trans (x64.g.trans (x67.g.trans (x125.g.trans (x130.g.trans (sgA31.trans (x134.g.trans (x136.g.trans (x138.g.trans (x141.g.trans (x144.g.trans (x146.g.trans x148.g)))))))))))))))) r1_modulus)) (by walk_at "sc") (by walk_at "sc")) [("rest", 11)] (blkOk_by (N := N_law) (sc := defScope s_law) (by decide +kernel)) (fun _ _ _ _ _ => pg_name (i := 11) sc_law.nd rfl (.inl rfl)) (fun rest_ v160 G150 H151 hx152 x149 r161 s154 s155 s156 s157 s158 => (ets_one (et_cmp c_gt (ev_ix (0 : Int) (ev_ix [] (ev_v ((⟨rfl, (by first | exact .inr (.inl rfl) | exact .inr (.inr rfl) | exact .inl rfl), nm_table⟩ : Sl _ 3 _)) (up (x21.g.trans (x26.g.trans (x45.g.trans (x62.g.trans (x64.g.trans (x67.g.trans (x125.g.trans (x130.g.trans (sgA31.trans (x134.g.trans (x136.g.trans (x138.g.trans (x141.g.trans (x144.g.trans (x146.g.trans (x148.g.trans x149.g)))))))))))))))) r2_table)) (ev_v ((⟨rfl, (by first | exact .inr (.inl rfl) | exact .inr (.inr rfl) | exact .inl rfl), nm_many⟩ : Sl _ 5 _)) (up (x146.g.trans (x148.g.trans x149.g)) r35_many)) (by walk_at "sc") (by walk_at "ix")) (ev_v ((⟨rfl, .inl rfl, nm_rest_⟩ : Sl _ 11 _)) r161) (by walk_at "sc") (by walk_at "ix")) ev_int))) (fun rest_ v160 G150 H151 hx152 ht153 x149 r161 s154 s155 s156 s157 s158 => (ev_v ((⟨rfl, .inl rfl, nm_rest_⟩ : Sl _ 11 _)) r161)))) fun G39 H39 v39_due x162 l39 r39_due_ n39 => ?_)
                  have r39_due : rep K G39 v39_due (some (((rng 0 modulus).filter (fun (rest_ : Int) => (decide (((((table).getD (many).toNat [])).getD (rest_).toNat (0 : Int)) > (0 : Int))))).map (fun (rest_ : Int) => rest_))) := r39_due_
                  have x0_39 := x0_37.trans x162
                  show tSs _ _ _ [some v_script, some v1_row, some v1_modulus, some v2_table, some v4_hits, some v35_many, none, some v9_fewest, some v39_due, some t1, some v32_numbers, none] _
                  obtain ⟨due, e163⟩ : ∃ z, z = (some (((rng 0 modulus).filter (fun (rest_ : Int) => (decide (((((table).getD (many).toNat [])).getD (rest_).toNat (0 : Int)) > (0 : Int))))).map (fun (rest_ : Int) => rest_))) := ⟨_, rfl⟩
                  rw [← e163] at r39_due
                  have tk : _ = m_law_19 row modulus due many := tk.trans (by first | (rw [e163] <;> rfl) | rfl)
                  refine b_nil ?_
                  show tSs _ _ _ [some v_script, some v1_row, some v1_modulus, some v2_table, some v4_hits, some v35_many, none, some v9_fewest, some v39_due, some t1, some v32_numbers, none] _
                  have fc164 := post_come_to row modulus many (by walk_at "pre")
                  refine b_cons (s_if x0_39.s (et_cmp (c_neD (hu_of64 hr)) (ev_some (ev_c3 C_come_to (hr.mono (by decide)) gl_law_come_to (ev_copy ⟨gl_law_list, T.b_list⟩ (ev_v (sl_law_row) (up (x6.g.trans (x21.g.trans (x26.g.trans (x45.g.trans (x62.g.trans (x64.g.trans (x67.g.trans (x125.g.trans (x130.g.trans (sgA31.trans (x134.g.trans (x136.g.trans (x138.g.trans (x141.g.trans (x144.g.trans (x146.g.trans (x148.g.trans x162.g))))))))))))))))) r1_row))) (ev_v (sl_law_modulus) (up (x6.g.trans (x21.g.trans (x26.g.trans (x45.g.trans (x62.g.trans (x64.g.trans (x67.g.trans (x125.g.trans (x130.g.trans (sgA31.trans (x134.g.trans (x136.g.trans (x138.g.trans (x141.g.trans (x144.g.trans (x146.g.trans (x148.g.trans x162.g))))))))))))))))) r1_modulus)) (ev_v (sl_law_many) (up (x146.g.trans (x148.g.trans x162.g)) r35_many)) (by walk_at "pre"))) (ev_v (sl_law_due) r39_due)) (fun h165 G40 H40 x166 l40 => ?_) (fun h165 G40 H40 x166 l40 => ?_))
                  · have tk := tk_tt tk h165
                    have h165_ := h165; try simp only [Bool.and_eq_true, Bool.or_eq_true, Bool.and_eq_false_iff, Bool.or_eq_false_iff, Bool.not_eq_true', Bool.not_eq_false', decide_eq_true_eq, decide_eq_false_iff_not, Classical.not_not] at h165_
                    have x0_40 := x0_39.trans x166
                    show tSs _ _ _ [some v_script, some v1_row, some v1_modulus, some v2_table, some v4_hits, some v35_many, none, some v9_fewest, some v39_due, some t1, some v32_numbers, none] _
                    refine b_cons (s_ret x0_40.s ev_bl fun G_ H_ v168 x167 _ r_ => ?_)
                    exact fin.rt _ _ _ (x0_40.trans x167) (rep_of (tk_outR tk1 (lrun_ret es1 tk)) r_) (fun z => nomatch z)
                  · have tk := tk_ff tk h165
                    have h165_ := h165; try simp only [Bool.and_eq_true, Bool.or_eq_true, Bool.and_eq_false_iff, Bool.or_eq_false_iff, Bool.not_eq_true', Bool.not_eq_false', decide_eq_true_eq, decide_eq_false_iff_not, Classical.not_not] at h165_
                    have x0_40 := x0_39.trans x166
                    show tSs _ _ _ [some v_script, some v1_row, some v1_modulus, some v2_table, some v4_hits, some v35_many, none, some v9_fewest, some v39_due, some t1, some v32_numbers, none] _
                    refine b_nil ?_
                    show tSs _ _ _ [some v_script, some v1_row, some v1_modulus, some v2_table, some v4_hits, some v35_many, none, some v9_fewest, some v39_due, some t1, some v32_numbers, none] _
                    refine b_nil ?_
                    exact ⟨_, x136.g.trans (x138.g.trans (x141.g.trans (x144.g.trans (x146.g.trans (x148.g.trans (x162.g.trans x166.g)))))), x0_40.s, lrun_nxt es1 tk, x0_40, some v35_many, some v39_due, some t1, some v32_numbers, rfl⟩
                · have tk := tk_ff tk h147
                  have h147_ := h147; try simp only [Bool.and_eq_true, Bool.or_eq_true, Bool.and_eq_false_iff, Bool.or_eq_false_iff, Bool.not_eq_true', Bool.not_eq_false', decide_eq_true_eq, decide_eq_false_iff_not, Classical.not_not] at h147_
                  have x0_37 := x0_36.trans x148
                  show tSs _ _ _ [some v_script, some v1_row, some v1_modulus, some v2_table, some v4_hits, some v35_many, none, some v9_fewest, some v36_due, some t1, some v32_numbers, none] _
                  refine b_nil ?_
                  show tSs _ _ _ [some v_script, some v1_row, some v1_modulus, some v2_table, some v4_hits, some v35_many, none, some v9_fewest, some v36_due, some t1, some v32_numbers, none] _
                  have fc169 := post_come_to row modulus many (by walk_at "pre")
                  refine b_cons (s_if x0_37.s (et_cmp (c_neD (hu_of64 hr)) (ev_some (ev_c3 C_come_to (hr.mono (by decide)) gl_law_come_to (ev_copy ⟨gl_law_list, T.b_list⟩ (ev_v (sl_law_row) (up (x6.g.trans (x21.g.trans (x26.g.trans (x45.g.trans (x62.g.trans (x64.g.trans (x67.g.trans (x125.g.trans (x130.g.trans (sgA31.trans (x134.g.trans (x136.g.trans (x138.g.trans (x141.g.trans (x144.g.trans (x146.g.trans x148.g)))))))))))))))) r1_row))) (ev_v (sl_law_modulus) (up (x6.g.trans (x21.g.trans (x26.g.trans (x45.g.trans (x62.g.trans (x64.g.trans (x67.g.trans (x125.g.trans (x130.g.trans (sgA31.trans (x134.g.trans (x136.g.trans (x138.g.trans (x141.g.trans (x144.g.trans (x146.g.trans x148.g)))))))))))))))) r1_modulus)) (ev_v (sl_law_many) (up (x146.g.trans x148.g) r35_many)) (by walk_at "pre"))) (ev_v (sl_law_due) (up x148.g r36_due))) (fun h170 G41 H41 x171 l41 => ?_) (fun h170 G41 H41 x171 l41 => ?_))
                  · have tk := tk_tt tk h170
                    have h170_ := h170; try simp only [Bool.and_eq_true, Bool.or_eq_true, Bool.and_eq_false_iff, Bool.or_eq_false_iff, Bool.not_eq_true', Bool.not_eq_false', decide_eq_true_eq, decide_eq_false_iff_not, Classical.not_not] at h170_
                    have x0_41 := x0_37.trans x171
                    show tSs _ _ _ [some v_script, some v1_row, some v1_modulus, some v2_table, some v4_hits, some v35_many, none, some v9_fewest, some v36_due, some t1, some v32_numbers, none] _
                    refine b_cons (s_ret x0_41.s ev_bl fun G_ H_ v173 x172 _ r_ => ?_)
                    exact fin.rt _ _ _ (x0_41.trans x172) (rep_of (tk_outR tk1 (lrun_ret es1 tk)) r_) (fun z => nomatch z)
                  · have tk := tk_ff tk h170
                    have h170_ := h170; try simp only [Bool.and_eq_true, Bool.or_eq_true, Bool.and_eq_false_iff, Bool.or_eq_false_iff, Bool.not_eq_true', Bool.not_eq_false', decide_eq_true_eq, decide_eq_false_iff_not, Classical.not_not] at h170_
                    have x0_41 := x0_37.trans x171
                    show tSs _ _ _ [some v_script, some v1_row, some v1_modulus, some v2_table, some v4_hits, some v35_many, none, some v9_fewest, some v36_due, some t1, some v32_numbers, none] _
                    refine b_nil ?_
                    show tSs _ _ _ [some v_script, some v1_row, some v1_modulus, some v2_table, some v4_hits, some v35_many, none, some v9_fewest, some v36_due, some t1, some v32_numbers, none] _
                    refine b_nil ?_
                    exact ⟨_, x136.g.trans (x138.g.trans (x141.g.trans (x144.g.trans (x146.g.trans (x148.g.trans x171.g))))), x0_41.s, lrun_nxt es1 tk, x0_41, some v35_many, some v36_due, some t1, some v32_numbers, rfl⟩
            · intro σ1 G42 H42 sgC42 sh1 I_
              obtain ⟨es1, x0_42, y1_5, y1_8, y1_9, y1_10, rfl⟩ := I_
              have tk := tk_outN (k := (m_law_15 script row modulus)) tk es1
              show tSs _ _ _ [some v_script, some v1_row, some v1_modulus, some v2_table, some v4_hits, y1_5, none, some v9_fewest, y1_8, y1_9, y1_10, none] _
              refine b_cons (s_ret x0_42.s (ev_cmp (c_eqD (hu_of64 hr)) (ev_tup (ev_v (sl_law_row) (up (x6.g.trans (x21.g.trans (x26.g.trans (x45.g.trans (x62.g.trans (x64.g.trans (x67.g.trans (x125.g.trans (x130.g.trans sgC42))))))))) r1_row)) (ev_v (sl_law_modulus) (up (x6.g.trans (x21.g.trans (x26.g.trans (x45.g.trans (x62.g.trans (x64.g.trans (x67.g.trans (x125.g.trans (x130.g.trans sgC42))))))))) r1_modulus))) (ev_c3 C_lrow (hr.mono (by decide)) gl_law__law_row (ev_v (sl_law_script) (up (x2.g.trans (x6.g.trans (x21.g.trans (x26.g.trans (x45.g.trans (x62.g.trans (x64.g.trans (x67.g.trans (x125.g.trans (x130.g.trans sgC42)))))))))) r_script)) ev_int ev_int (by walk_at "pre"))) fun G_ H_ v175 x174 _ r_ => ?_)
              exact fin.rt _ _ _ (x0_42.trans x174) (rep_of tk r_) (fun z => nomatch z)
end

theorem all_mk {l : PySem.W.OpenLaw} {w : World} {K : PySem.W.Frag} {h : Heap} {mg : Str → Option Value} {fa f1 f2 f3 f4 f5 f6 f7 f8 f9 f10 f11 f12 f13 f14 f15 f16 f17 f18 f19 f20 f21 f22 : Addr} (X : K.In h) (G : h.Ns mainGlobals mg) (hfa : mg "law" = some (.ref fa))
    {od1 an1 od2 an2 od3 an3 od4 an4 od5 an5 od6 an6 od7 an7 od8 an8 od9 an9 od10 an10 od11 an11 od12 an12 od13 an13 od14 an14 od15 an15 od16 an16 od17 an17 od18 an18 od19 an19 od20 an20 od21 an21 od22 an22 : Option Addr} {sl1 sl2 sl3 sl4 sl5 sl6 sl7 sl8 sl9 sl10 sl11 sl12 sl13 sl14 sl15 sl16 sl17 sl18 sl19 sl20 sl21 sl22 : Array (Option Value)} {oc1 kV1 dc1 pm1 cd1 ct1 oc2 kV2 dc2 pm2 cd2 ct2 oc3 kV3 dc3 pm3 cd3 ct3 oc4 kV4 dc4 pm4 cd4 ct4 oc5 kV5 dc5 pm5 cd5 ct5 oc6 kV6 dc6 pm6 cd6 ct6 oc7 kV7 dc7 pm7 cd7 ct7 oc8 kV8 dc8 pm8 cd8 ct8 oc9 kV9 dc9 pm9 cd9 ct9 oc10 kV10 dc10 pm10 cd10 ct10 oc11 kV11 dc11 pm11 cd11 ct11 oc12 kV12 dc12 pm12 cd12 ct12 oc13 kV13 dc13 pm13 cd13 ct13 oc14 kV14 dc14 pm14 cd14 ct14 oc15 kV15 dc15 pm15 cd15 ct15 oc16 kV16 dc16 pm16 cd16 ct16 oc17 kV17 dc17 pm17 cd17 ct17 oc18 kV18 dc18 pm18 cd18 ct18 oc19 kV19 dc19 pm19 cd19 ct19 oc20 kV20 dc20 pm20 cd20 ct20 oc21 kV21 dc21 pm21 cd21 ct21 oc22 kV22 dc22 pm22 cd22 ct22 : Value}
    (a1 : PySem.W.nsIn K mainGlobals "need_modulus" = some (some (.ref f1))) (l1 : K.lookup f1 = some ⟨oc1, od1, .func (PySem.W.fnOf "need_modulus" "need_modulus" (defArgs s_need_modulus) (defBody s_need_modulus) (defScope s_need_modulus) .none kV1 dc1 pm1 an1 cd1 ct1), sl1⟩) (c1 : PySem.W.codeIn K cd1 "need_modulus" = true) (k1 : PySem.W.keepIn K (.ref f1) = true)
    (a2 : PySem.W.nsIn K mainGlobals "are_places" = some (some (.ref f2))) (l2 : K.lookup f2 = some ⟨oc2, od2, .func (PySem.W.fnOf "are_places" "are_places" (defArgs s_are_places) (defBody s_are_places) (defScope s_are_places) .none kV2 dc2 pm2 an2 cd2 ct2), sl2⟩) (c2 : PySem.W.codeIn K cd2 "are_places" = true) (k2 : PySem.W.keepIn K (.ref f2) = true)
    (a3 : PySem.W.nsIn K mainGlobals "rests" = some (some (.ref f3))) (l3 : K.lookup f3 = some ⟨oc3, od3, .func (PySem.W.fnOf "rests" "rests" (defArgs s_rests) (defBody s_rests) (defScope s_rests) .none kV3 dc3 pm3 an3 cd3 ct3), sl3⟩) (c3 : PySem.W.codeIn K cd3 "rests" = true) (k3 : PySem.W.keepIn K (.ref f3) = true)
    (a4 : PySem.W.nsIn K mainGlobals "is_hit" = some (some (.ref f4))) (l4 : K.lookup f4 = some ⟨oc4, od4, .func (PySem.W.fnOf "is_hit" "is_hit" (defArgs s_is_hit) (defBody s_is_hit) (defScope s_is_hit) .none kV4 dc4 pm4 an4 cd4 ct4), sl4⟩) (c4 : PySem.W.codeIn K cd4 "is_hit" = true) (k4 : PySem.W.keepIn K (.ref f4) = true)
    (a5 : PySem.W.nsIn K mainGlobals "need_count" = some (some (.ref f5))) (l5 : K.lookup f5 = some ⟨oc5, od5, .func (PySem.W.fnOf "need_count" "need_count" (defArgs s_need_count) (defBody s_need_count) (defScope s_need_count) .none kV5 dc5 pm5 an5 cd5 ct5), sl5⟩) (c5 : PySem.W.codeIn K cd5 "need_count" = true) (k5 : PySem.W.keepIn K (.ref f5) = true)
    (a6 : PySem.W.nsIn K mainGlobals "ways_on" = some (some (.ref f6))) (l6 : K.lookup f6 = some ⟨oc6, od6, .func (PySem.W.fnOf "ways_on" "ways_on" (defArgs s_ways_on) (defBody s_ways_on) (defScope s_ways_on) .none kV6 dc6 pm6 an6 cd6 ct6), sl6⟩) (c6 : PySem.W.codeIn K cd6 "ways_on" = true) (k6 : PySem.W.keepIn K (.ref f6) = true)
    (a7 : PySem.W.nsIn K mainGlobals "first_of" = some (some (.ref f7))) (l7 : K.lookup f7 = some ⟨oc7, od7, .func (PySem.W.fnOf "first_of" "first_of" (defArgs s_first_of) (defBody s_first_of) (defScope s_first_of) .none kV7 dc7 pm7 an7 cd7 ct7), sl7⟩) (c7 : PySem.W.codeIn K cd7 "first_of" = true) (k7 : PySem.W.keepIn K (.ref f7) = true)
    (a8 : PySem.W.nsIn K mainGlobals "fewest_hit" = some (some (.ref f8))) (l8 : K.lookup f8 = some ⟨oc8, od8, .func (PySem.W.fnOf "fewest_hit" "fewest_hit" (defArgs s_fewest_hit) (defBody s_fewest_hit) (defScope s_fewest_hit) .none kV8 dc8 pm8 an8 cd8 ct8), sl8⟩) (c8 : PySem.W.codeIn K cd8 "fewest_hit" = true) (k8 : PySem.W.keepIn K (.ref f8) = true)
    (a9 : PySem.W.nsIn K mainGlobals "hits_by_places" = some (some (.ref f9))) (l9 : K.lookup f9 = some ⟨oc9, od9, .func (PySem.W.fnOf "hits_by_places" "hits_by_places" (defArgs s_hits_by_places) (defBody s_hits_by_places) (defScope s_hits_by_places) .none kV9 dc9 pm9 an9 cd9 ct9), sl9⟩) (c9 : PySem.W.codeIn K cd9 "hits_by_places" = true) (k9 : PySem.W.keepIn K (.ref f9) = true)
    (a10 : PySem.W.nsIn K mainGlobals "how_many_hits" = some (some (.ref f10))) (l10 : K.lookup f10 = some ⟨oc10, od10, .func (PySem.W.fnOf "how_many_hits" "how_many_hits" (defArgs s_how_many_hits) (defBody s_how_many_hits) (defScope s_how_many_hits) .none kV10 dc10 pm10 an10 cd10 ct10), sl10⟩) (c10 : PySem.W.codeIn K cd10 "how_many_hits" = true) (k10 : PySem.W.keepIn K (.ref f10) = true)
    (a11 : PySem.W.nsIn K mainGlobals "hit_of" = some (some (.ref f11))) (l11 : K.lookup f11 = some ⟨oc11, od11, .func (PySem.W.fnOf "hit_of" "hit_of" (defArgs s_hit_of) (defBody s_hit_of) (defScope s_hit_of) .none kV11 dc11 pm11 an11 cd11 ct11), sl11⟩) (c11 : PySem.W.codeIn K cd11 "hit_of" = true) (k11 : PySem.W.keepIn K (.ref f11) = true)
    (a12 : PySem.W.nsIn K mainGlobals "come_to" = some (some (.ref f12))) (l12 : K.lookup f12 = some ⟨oc12, od12, .func (PySem.W.fnOf "come_to" "come_to" (defArgs s_come_to) (defBody s_come_to) (defScope s_come_to) .none kV12 dc12 pm12 an12 cd12 ct12), sl12⟩) (c12 : PySem.W.codeIn K cd12 "come_to" = true) (k12 : PySem.W.keepIn K (.ref f12) = true)
    (a13 : PySem.W.nsIn K mainGlobals "sums_ahead" = some (some (.ref f13))) (l13 : K.lookup f13 = some ⟨oc13, od13, .func (PySem.W.fnOf "sums_ahead" "sums_ahead" (defArgs s_sums_ahead) (defBody s_sums_ahead) (defScope s_sums_ahead) .none kV13 dc13 pm13 an13 cd13 ct13), sl13⟩) (c13 : PySem.W.codeIn K cd13 "sums_ahead" = true) (k13 : PySem.W.keepIn K (.ref f13) = true)
    (a14 : PySem.W.nsIn K mainGlobals "first_stretch" = some (some (.ref f14))) (l14 : K.lookup f14 = some ⟨oc14, od14, .func (PySem.W.fnOf "first_stretch" "first_stretch" (defArgs s_first_stretch) (defBody s_first_stretch) (defScope s_first_stretch) .none kV14 dc14 pm14 an14 cd14 ct14), sl14⟩) (c14 : PySem.W.codeIn K cd14 "first_stretch" = true) (k14 : PySem.W.keepIn K (.ref f14) = true)
    (a15 : PySem.W.nsIn K mainGlobals "how_many_stretches" = some (some (.ref f15))) (l15 : K.lookup f15 = some ⟨oc15, od15, .func (PySem.W.fnOf "how_many_stretches" "how_many_stretches" (defArgs s_how_many_stretches) (defBody s_how_many_stretches) (defScope s_how_many_stretches) .none kV15 dc15 pm15 an15 cd15 ct15), sl15⟩) (c15 : PySem.W.codeIn K cd15 "how_many_stretches" = true) (k15 : PySem.W.keepIn K (.ref f15) = true)
    (a16 : PySem.W.nsIn K mainGlobals "_law_cell_at" = some (some (.ref f16))) (l16 : K.lookup f16 = some ⟨oc16, od16, .func (PySem.W.fnOf "_law_cell_at" "_law_cell_at" (defArgs s__law_cell_at) (defBody s__law_cell_at) (defScope s__law_cell_at) .none kV16 dc16 pm16 an16 cd16 ct16), sl16⟩) (c16 : PySem.W.codeIn K cd16 "_law_cell_at" = true) (k16 : PySem.W.keepIn K (.ref f16) = true)
    (a17 : PySem.W.nsIn K mainGlobals "_law_numbers" = some (some (.ref f17))) (l17 : K.lookup f17 = some ⟨oc17, od17, .func (PySem.W.fnOf "_law_numbers" "_law_numbers" (defArgs s__law_numbers) (defBody s__law_numbers) (defScope s__law_numbers) .none kV17 dc17 pm17 an17 cd17 ct17), sl17⟩) (c17 : PySem.W.codeIn K cd17 "_law_numbers" = true) (k17 : PySem.W.keepIn K (.ref f17) = true)
    (a18 : PySem.W.nsIn K mainGlobals "_law_row" = some (some (.ref f18))) (l18 : K.lookup f18 = some ⟨oc18, od18, .func (PySem.W.fnOf "_law_row" "_law_row" (defArgs s__law_row) (defBody s__law_row) (defScope s__law_row) .none kV18 dc18 pm18 an18 cd18 ct18), sl18⟩) (c18 : PySem.W.codeIn K cd18 "_law_row" = true) (k18 : PySem.W.keepIn K (.ref f18) = true)
    (a19 : PySem.W.nsIn K mainGlobals "_law_counted" = some (some (.ref f19))) (l19 : K.lookup f19 = some ⟨oc19, od19, .func (PySem.W.fnOf "_law_counted" "_law_counted" (defArgs s__law_counted) (defBody s__law_counted) (defScope s__law_counted) .none kV19 dc19 pm19 an19 cd19 ct19), sl19⟩) (c19 : PySem.W.codeIn K cd19 "_law_counted" = true) (k19 : PySem.W.keepIn K (.ref f19) = true)
    (a20 : PySem.W.nsIn K mainGlobals "_law_first" = some (some (.ref f20))) (l20 : K.lookup f20 = some ⟨oc20, od20, .func (PySem.W.fnOf "_law_first" "_law_first" (defArgs s__law_first) (defBody s__law_first) (defScope s__law_first) .none kV20 dc20 pm20 an20 cd20 ct20), sl20⟩) (c20 : PySem.W.codeIn K cd20 "_law_first" = true) (k20 : PySem.W.keepIn K (.ref f20) = true)
    (a21 : PySem.W.nsIn K mainGlobals "_law_side" = some (some (.ref f21))) (l21 : K.lookup f21 = some ⟨oc21, od21, .func (PySem.W.fnOf "_law_side" "_law_side" (defArgs s__law_side) (defBody s__law_side) (defScope s__law_side) .none kV21 dc21 pm21 an21 cd21 ct21), sl21⟩) (c21 : PySem.W.codeIn K cd21 "_law_side" = true) (k21 : PySem.W.keepIn K (.ref f21) = true)
    (a22 : PySem.W.nsIn K mainGlobals "law" = some (some (.ref f22))) (l22 : K.lookup f22 = some ⟨oc22, od22, .func (PySem.W.fnOf "law" "law" (defArgs s_law) (defBody s_law) (defScope s_law) .none kV22 dc22 pm22 an22 cd22 ct22), sl22⟩) (c22 : PySem.W.codeIn K cd22 "law" = true) (k22 : PySem.W.keepIn K (.ref f22) = true)
    (z_abs : PySem.W.nsIn K mainGlobals "abs" = some none)
    (z_dict : PySem.W.nsIn K mainGlobals "dict" = some none)
    (z_enumerate : PySem.W.nsIn K mainGlobals "enumerate" = some none)
    (z_len : PySem.W.nsIn K mainGlobals "len" = some none)
    (z_list : PySem.W.nsIn K mainGlobals "list" = some none)
    (z_max : PySem.W.nsIn K mainGlobals "max" = some none)
    (z_min : PySem.W.nsIn K mainGlobals "min" = some none)
    (z_range : PySem.W.nsIn K mainGlobals "range" = some none)
    (z_reversed : PySem.W.nsIn K mainGlobals "reversed" = some none)
    (z_sorted : PySem.W.nsIn K mainGlobals "sorted" = some none)
    (z_sum : PySem.W.nsIn K mainGlobals "sum" = some none) :
    ∃ fd : FuncData, (∀ (s : Shared) (v : Value), BindsTo s fd ⟨[v], []⟩ [("script", v)]) ∧ ∀ base : Heap, K.In base → base.Ns mainGlobals mg → FnOk l.prog w K mg base (L2.CX l.prog w) 6 fa fd ["script"] (Sp1 K false (fun (script : Scr) => script.ns.length ≤ 63) m_law) := by
  have e := hfa.symm.trans (PySem.W.mg_of X G a22)
  cases e
  have T : Txt K mg := ⟨PySem.W.mg_none_of X G z_abs, PySem.W.mg_none_of X G z_dict, PySem.W.mg_none_of X G z_enumerate, PySem.W.mg_none_of X G z_len, PySem.W.mg_none_of X G z_list, PySem.W.mg_none_of X G z_max, PySem.W.mg_none_of X G z_min, PySem.W.mg_none_of X G z_range, PySem.W.mg_none_of X G z_reversed, PySem.W.mg_none_of X G z_sorted, PySem.W.mg_none_of X G z_sum⟩
  have F1 := fun_mk (st := s_need_modulus) l1 c1 k1
  have b1 := F1.binds (ps := ["modulus"]) fun _ _ _ _ _ _ us hl => match us, hl with | [_], _ => rfl
  have F2 := fun_mk (st := s_are_places) l2 c2 k2
  have b2 := F2.binds (ps := ["row", "places"]) fun _ _ _ _ _ _ us hl => match us, hl with | [_, _], _ => rfl
  have F3 := fun_mk (st := s_rests) l3 c3 k3
  have b3 := F3.binds (ps := ["row", "modulus"]) fun _ _ _ _ _ _ us hl => match us, hl with | [_, _], _ => rfl
  have F4 := fun_mk (st := s_is_hit) l4 c4 k4
  have b4 := F4.binds (ps := ["row", "modulus", "places"]) fun _ _ _ _ _ _ us hl => match us, hl with | [_, _, _], _ => rfl
  have F5 := fun_mk (st := s_need_count) l5 c5 k5
  have b5 := F5.binds (ps := ["many", "least"]) fun _ _ _ _ _ _ us hl => match us, hl with | [_, _], _ => rfl
  have F6 := fun_mk (st := s_ways_on) l6 c6 k6
  have b6 := F6.binds (ps := ["some", "modulus"]) fun _ _ _ _ _ _ us hl => match us, hl with | [_, _], _ => rfl
  have F7 := fun_mk (st := s_first_of) l7 c7 k7
  have b7 := F7.binds (ps := ["some", "modulus", "many", "found"]) fun _ _ _ _ _ _ us hl => match us, hl with | [_, _, _, _], _ => rfl
  have F8 := fun_mk (st := s_fewest_hit) l8 c8 k8
  have b8 := F8.binds (ps := ["row", "modulus"]) fun _ _ _ _ _ _ us hl => match us, hl with | [_, _], _ => rfl
  have F9 := fun_mk (st := s_hits_by_places) l9 c9 k9
  have b9 := F9.binds (ps := ["row", "modulus"]) fun _ _ _ _ _ _ us hl => match us, hl with | [_, _], _ => rfl
  have F10 := fun_mk (st := s_how_many_hits) l10 c10 k10
  have b10 := F10.binds (ps := ["row", "modulus"]) fun _ _ _ _ _ _ us hl => match us, hl with | [_, _], _ => rfl
  have F11 := fun_mk (st := s_hit_of) l11 c11 k11
  have b11 := F11.binds (ps := ["row", "modulus", "many"]) fun _ _ _ _ _ _ us hl => match us, hl with | [_, _, _], _ => rfl
  have F12 := fun_mk (st := s_come_to) l12 c12 k12
  have b12 := F12.binds (ps := ["row", "modulus", "many"]) fun _ _ _ _ _ _ us hl => match us, hl with | [_, _, _], _ => rfl
  have F13 := fun_mk (st := s_sums_ahead) l13 c13 k13
  have b13 := F13.binds (ps := ["row", "modulus"]) fun _ _ _ _ _ _ us hl => match us, hl with | [_, _], _ => rfl
  have F14 := fun_mk (st := s_first_stretch) l14 c14 k14
  have b14 := F14.binds (ps := ["row", "modulus"]) fun _ _ _ _ _ _ us hl => match us, hl with | [_, _], _ => rfl
  have F15 := fun_mk (st := s_how_many_stretches) l15 c15 k15
  have b15 := F15.binds (ps := ["row", "modulus"]) fun _ _ _ _ _ _ us hl => match us, hl with | [_, _], _ => rfl
  have F16 := fun_mk (st := s__law_cell_at) l16 c16 k16
  have b16 := F16.binds (ps := ["script", "k"]) fun _ _ _ _ _ _ us hl => match us, hl with | [_, _], _ => rfl
  have F17 := fun_mk (st := s__law_numbers) l17 c17 k17
  have b17 := F17.binds (ps := ["cell", "many"]) fun _ _ _ _ _ _ us hl => match us, hl with | [_, _], _ => rfl
  have F18 := fun_mk (st := s__law_row) l18 c18 k18
  have b18 := F18.binds (ps := ["script", "most", "greatest"]) fun _ _ _ _ _ _ us hl => match us, hl with | [_, _, _], _ => rfl
  have F19 := fun_mk (st := s__law_counted) l19 c19 k19
  have b19 := F19.binds (ps := ["row", "modulus"]) fun _ _ _ _ _ _ us hl => match us, hl with | [_, _], _ => rfl
  have F20 := fun_mk (st := s__law_first) l20 c20 k20
  have b20 := F20.binds (ps := ["row", "modulus", "many"]) fun _ _ _ _ _ _ us hl => match us, hl with | [_, _, _], _ => rfl
  have F21 := fun_mk (st := s__law_side) l21 c21 k21
  have b21 := F21.binds (ps := ["row", "modulus"]) fun _ _ _ _ _ _ us hl => match us, hl with | [_, _], _ => rfl
  have F22 := fun_mk (st := s_law) l22 c22 k22
  have b22 := F22.binds (ps := ["script"]) fun _ _ _ _ _ _ us hl => match us, hl with | [_], _ => rfl
  refine ⟨PySem.W.fnOf "law" "law" (defArgs s_law) (defBody s_law) (defScope s_law) .none kV22 dc22 pm22 an22 cd22 ct22, fun s v => .of_eq rfl, fun base _ _ => ?_⟩
  have C_need_modulus : Cal l.prog w K mg base 1 "need_modulus" (Sp1 K false (fun (modulus : Int) => 1 ≤ modulus) m_need_modulus) := cal_need_modulus T F1 (PySem.W.mg_of X G a1) b1 
  have C_are_places : Cal l.prog w K mg base 1 "are_places" (Sp2 K false (fun (row : (List Int)) (places : (List Int)) => True) m_are_places) := cal_are_places T F2 (PySem.W.mg_of X G a2) b2 
  have C_rests : Cal l.prog w K mg base 2 "rests" (Sp2 K true (fun (row : (List Int)) (modulus : Int) => 1 ≤ modulus) m_rests) := cal_rests T F3 (PySem.W.mg_of X G a3) b3 C_need_modulus
  have C_is_hit : Cal l.prog w K mg base 2 "is_hit" (Sp3 K false (fun (row : (List Int)) (modulus : Int) (places : (List Int)) => 1 ≤ modulus) m_is_hit) := cal_is_hit T F4 (PySem.W.mg_of X G a4) b4 C_need_modulus C_are_places
  have C_need_count : Cal l.prog w K mg base 1 "need_count" (Sp2 K false (fun (many : Int) (least : Int) => least ≤ many) m_need_count) := cal_need_count T F5 (PySem.W.mg_of X G a5) b5 
  have C_ways_on : Cal l.prog w K mg base 1 "ways_on" (Sp2 K true (fun (some_ : (List Int)) (modulus : Int) => some_.length ≤ 1000 ∧ 1 ≤ modulus ∧ modulus ≤ 1000) m_ways_on) := cal_ways_on T F6 (PySem.W.mg_of X G a6) b6 
  have C_first_of : Cal l.prog w K mg base 1 "first_of" (Sp4 K true (fun (some_ : (List Int)) (modulus : Int) (many : Int) (found : (List (List (Dct Int Int)))) => some_.length ≤ 1000 ∧ 1 ≤ modulus ∧ modulus ≤ 1000 ∧ 0 ≤ many ∧ found = m_ways_on some_ modulus) m_first_of) := cal_first_of T F7 (PySem.W.mg_of X G a7) b7 
  have C_fewest_hit : Cal l.prog w K mg base 3 "fewest_hit" (Sp2 K true (fun (row : (List Int)) (modulus : Int) => row.length ≤ 1000 ∧ 1 ≤ modulus ∧ modulus ≤ 1000) m_fewest_hit) := cal_fewest_hit T F8 (PySem.W.mg_of X G a8) b8 C_rests C_ways_on C_first_of
  have C_hits_by_places : Cal l.prog w K mg base 3 "hits_by_places" (Sp2 K true (fun (row : (List Int)) (modulus : Int) => row.length ≤ 1000 ∧ 1 ≤ modulus ∧ modulus ≤ 1000) m_hits_by_places) := cal_hits_by_places T F9 (PySem.W.mg_of X G a9) b9 C_rests C_ways_on
  have C_how_many_hits : Cal l.prog w K mg base 4 "how_many_hits" (Sp2 K false (fun (row : (List Int)) (modulus : Int) => row.length ≤ 1000 ∧ 1 ≤ modulus ∧ modulus ≤ 1000) m_how_many_hits) := cal_how_many_hits T F10 (PySem.W.mg_of X G a10) b10 C_hits_by_places
  have C_hit_of : Cal l.prog w K mg base 3 "hit_of" (Sp3 K true (fun (row : (List Int)) (modulus : Int) (many : Int) => row.length ≤ 1000 ∧ 1 ≤ modulus ∧ modulus ≤ 1000 ∧ 1 ≤ many) m_hit_of) := cal_hit_of T F11 (PySem.W.mg_of X G a11) b11 C_rests C_need_count C_ways_on C_first_of
  have C_come_to : Cal l.prog w K mg base 3 "come_to" (Sp3 K true (fun (row : (List Int)) (modulus : Int) (many : Int) => row.length ≤ 1000 ∧ 1 ≤ modulus ∧ modulus ≤ 63 ∧ 0 ≤ many) m_come_to) := cal_come_to T F12 (PySem.W.mg_of X G a12) b12 C_rests C_need_count C_ways_on
  have C_sums_ahead : Cal l.prog w K mg base 3 "sums_ahead" (Sp2 K true (fun (row : (List Int)) (modulus : Int) => 1 ≤ modulus ∧ row.length ≤ 1000) m_sums_ahead) := cal_sums_ahead T F13 (PySem.W.mg_of X G a13) b13 C_rests
  have C_first_stretch : Cal l.prog w K mg base 4 "first_stretch" (Sp2 K false (fun (row : (List Int)) (modulus : Int) => 1 ≤ modulus ∧ row.length ≤ 1000) m_first_stretch) := cal_first_stretch T F14 (PySem.W.mg_of X G a14) b14 C_sums_ahead
  have C_how_many_stretches : Cal l.prog w K mg base 4 "how_many_stretches" (Sp2 K false (fun (row : (List Int)) (modulus : Int) => 1 ≤ modulus ∧ row.length ≤ 1000) m_how_many_stretches) := cal_how_many_stretches T F15 (PySem.W.mg_of X G a15) b15 C_sums_ahead
  have C_q_cell_at : Cal l.prog w K mg base 1 "_law_cell_at" (Sp2 K false (fun (script : Scr) (k : Int) => 0 ≤ k) m_q_cell_at) := cal_q_cell_at T F16 (PySem.W.mg_of X G a16) b16 
  have C_numbers : Cal l.prog w K mg base 1 "_law_numbers" (Sp2 K true (fun (cell : Int) (many : Int) => 1 ≤ many ∧ many ≤ 5) m_numbers) := cal_numbers T F17 (PySem.W.mg_of X G a17) b17 
  have C_lrow : Cal l.prog w K mg base 2 "_law_row" (Sp3 K false (fun (script : Scr) (most : Int) (greatest : Int) => most = 40 ∧ greatest = 25) m_lrow) := cal_lrow T F18 (PySem.W.mg_of X G a18) b18 C_q_cell_at C_numbers
  have C_lcnt : Cal l.prog w K mg base 1 "_law_counted" (Sp2 K false (fun (row : (List Int)) (modulus : Int) => row.length ≤ 40 ∧ 1 ≤ modulus ∧ modulus ≤ 25) m_lcnt) := cal_lcnt T F19 (PySem.W.mg_of X G a19) b19 
  have C_lfst : Cal l.prog w K mg base 1 "_law_first" (Sp3 K false (fun (row : (List Int)) (modulus : Int) (many : Int) => row.length ≤ 40 ∧ 1 ≤ modulus ∧ modulus ≤ 25 ∧ 0 ≤ many) m_lfst) := cal_lfst T F20 (PySem.W.mg_of X G a20) b20 
  have C_lside : Cal l.prog w K mg base 5 "_law_side" (Sp2 K false (fun (row : (List Int)) (modulus : Int) => row.length ≤ 40 ∧ 1 ≤ modulus ∧ modulus ≤ 25) m_lside) := cal_lside T F21 (PySem.W.mg_of X G a21) b21 C_sums_ahead C_first_stretch C_how_many_stretches
  exact cal_law (P := l.prog) (w := w) (base := base) T F22 (PySem.W.mg_of X G a22) b22 C_lrow C_lcnt C_hits_by_places C_how_many_hits C_rests C_lside C_lfst C_fewest_hit C_is_hit C_q_cell_at C_numbers C_hit_of C_come_to
end Q
open PySem PySem.W PyProof.Rows
set_option maxHeartbeats 0 in
theorem PySem.Challenge.cw_restsums_k42_whole_hits_counted_holds : PySem.Challenge.rw_restsums_k42_whole_hits_counted.Holds := by
  w_on; o_law; k_head; (case hw => w_witness2)
  k_fill
  refine L2.walk_of (l := PySem.Challenge.rw_restsums_k42_whole_hits_counted) (n := 63) (k := 6) (x := "script") (CX := fun w => L2.CX (PySem.Challenge.rw_restsums_k42_whole_hits_counted).prog w) (sp := fun w => RL.Sp1 _ false (fun (script : RL.Scr) => script.ns.length ≤ 63) Q.m_law) rfl (by decide) rfl ⟨rfl, by decide, by decide⟩ (fun w h Y => PySem.W.kIn_of Y) ?F (fun _ H a ns hl _ hS => RL.law_sp Q.law_true hl hS) (fun _ _ _ _ _ h => RL.law_cx h)
  case F =>
    intro w mg fa h KX G hmg
    refine' Q.all_mk KX G hmg ?a1 ?l1 ?c1 ?k1 ?a2 ?l2 ?c2 ?k2 ?a3 ?l3 ?c3 ?k3 ?a4 ?l4 ?c4 ?k4 ?a5 ?l5 ?c5 ?k5 ?a6 ?l6 ?c6 ?k6 ?a7 ?l7 ?c7 ?k7 ?a8 ?l8 ?c8 ?k8 ?a9 ?l9 ?c9 ?k9 ?a10 ?l10 ?c10 ?k10 ?a11 ?l11 ?c11 ?k11 ?a12 ?l12 ?c12 ?k12 ?a13 ?l13 ?c13 ?k13 ?a14 ?l14 ?c14 ?k14 ?a15 ?l15 ?c15 ?k15 ?a16 ?l16 ?c16 ?k16 ?a17 ?l17 ?c17 ?k17 ?a18 ?l18 ?c18 ?k18 ?a19 ?l19 ?c19 ?k19 ?a20 ?l20 ?c20 ?k20 ?a21 ?l21 ?c21 ?k21 ?a22 ?l22 ?c22 ?k22 ?z_abs ?z_dict ?z_enumerate ?z_len ?z_list ?z_max ?z_min ?z_range ?z_reversed ?z_sorted ?z_sum
    (case a1 => k_is)
    (case l1 => k_is)
    (case c1 => k_is)
    (case k1 => k_is)
    (case a2 => k_is)
    (case l2 => k_is)
    (case c2 => k_is)
    (case k2 => k_is)
    (case a3 => k_is)
    (case l3 => k_is)
    (case c3 => k_is)
    (case k3 => k_is)
    (case a4 => k_is)
    (case l4 => k_is)
    (case c4 => k_is)
    (case k4 => k_is)
    (case a5 => k_is)
    (case l5 => k_is)
    (case c5 => k_is)
    (case k5 => k_is)
    (case a6 => k_is)
    (case l6 => k_is)
    (case c6 => k_is)
    (case k6 => k_is)
    (case a7 => k_is)
    (case l7 => k_is)
    (case c7 => k_is)
    (case k7 => k_is)
    (case a8 => k_is)
    (case l8 => k_is)
    (case c8 => k_is)
    (case k8 => k_is)
    (case a9 => k_is)
    (case l9 => k_is)
    (case c9 => k_is)
    (case k9 => k_is)
    (case a10 => k_is)
    (case l10 => k_is)
    (case c10 => k_is)
    (case k10 => k_is)
    (case a11 => k_is)
    (case l11 => k_is)
    (case c11 => k_is)
    (case k11 => k_is)
    (case a12 => k_is)
    (case l12 => k_is)
    (case c12 => k_is)
    (case k12 => k_is)
    (case a13 => k_is)
    (case l13 => k_is)
    (case c13 => k_is)
    (case k13 => k_is)
    (case a14 => k_is)
    (case l14 => k_is)
    (case c14 => k_is)
    (case k14 => k_is)
    (case a15 => k_is)
    (case l15 => k_is)
    (case c15 => k_is)
    (case k15 => k_is)
    (case a16 => k_is)
    (case l16 => k_is)
    (case c16 => k_is)
    (case k16 => k_is)
    (case a17 => k_is)
    (case l17 => k_is)
    (case c17 => k_is)
    (case k17 => k_is)
    (case a18 => k_is)
    (case l18 => k_is)
    (case c18 => k_is)
    (case k18 => k_is)
    (case a19 => k_is)
    (case l19 => k_is)
    (case c19 => k_is)
    (case k19 => k_is)
    (case a20 => k_is)
    (case l20 => k_is)
    (case c20 => k_is)
    (case k20 => k_is)
    (case a21 => k_is)
    (case l21 => k_is)
    (case c21 => k_is)
    (case k21 => k_is)
    (case a22 => k_is)
    (case l22 => k_is)
    (case c22 => k_is)
    (case k22 => k_is)
    (case z_abs => k_is)
    (case z_dict => k_is)
    (case z_enumerate => k_is)
    (case z_len => k_is)
    (case z_list => k_is)
    (case z_max => k_is)
    (case z_min => k_is)
    (case z_range => k_is)
    (case z_reversed => k_is)
    (case z_sorted => k_is)
    (case z_sum => k_is)
